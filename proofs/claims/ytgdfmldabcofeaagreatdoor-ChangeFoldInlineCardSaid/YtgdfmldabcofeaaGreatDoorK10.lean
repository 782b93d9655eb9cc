/-
  Part 11 of the proof that the law ChangeFoldInline returns true for every input.
-/
import Derived.Test.YtgdfmldabcofeaaGreatDoorK09
import Derived.WideLaws
set_option maxHeartbeats 64000000
set_option maxRecDepth 100000
namespace Go.Koi
open Go renaming maxLen->al
open Go.Proofs Tryz DT
def ue(g:AE)(i:List DT)(X:Prop)(ch:Bool)(T:Sg)(S':Sg):Prop:=∃h:Bool,(h=true↔ch=true\/X)/\S'=[Gn g i,.row true 1 [.d (.bool h)]]++T
def uw(n:Nat)(g:AE)(h:List DT)(ch:Bool)(v:V)(S':Sg):Prop:=v=.Cb []/\ue g h (cX n g h) ch [] S'
def MO(out:List (Int×DT))(vis:List Nat):Prop:=∃j∈vis,∃hj:j<out.length,out[j].2≠.leaf false
theorem MO.add{out:List (Int×DT)}{vis:List Nat}{i:Nat}{a:Int}{t:DT}(hi:i<out.length)(h:out[i]=(a,t)):MO out (vis++[i])↔MO out vis\/t≠.leaf false:=by
 constructor
 .rintro⟨j,hj,k,g⟩;rcases dl.1 hj with hj|hj
  .exact .inl ⟨j,hj,k,g⟩
  .simp at hj;subst hj;rw[h]at g;exact .inr g
 .rintro(⟨j,hj,k,g⟩|g)
  .exact⟨j,acm _ hj,k,g⟩
  .exact⟨i,ac5 _ (by simp),hi,by rw[h];exact g⟩
theorem MO.all{out:List (Int×DT)}{vis:List Nat}(h:∀i,i<out.length->i∈vis):MO out vis↔∃q∈out,q.2≠.leaf false:=by
 constructor
 .rintro⟨j,_,k,g⟩;exact⟨_,b9 k,g⟩
 .rintro⟨q,m,g⟩;obtain⟨j,hj,rfl⟩:=jp.1 m;exact⟨j,h j hj,hj,g⟩
theorem Vr{n:Nat}(hn:n<=12)(g:AE)(m:List DT)(u:m.length=g.AD.length)(H:∀t∈m,FE n t)(J:FE n (tr g.fam))(L:Valid g.fam)(k:Fits g)(ch:Bool):
  BP prog 58 [.ptr 0 1 0 0,.ptr 1 1 0 0] [Gn g m,.row true 1 [.d (.bool ch)]] (uw n g m ch):=by
 refine BP.AK func58 (by kernel_rfl) rfl (by simp) λwf M=>?_;rw[ntmps58];refine AW.ZH 2 7 ?_ ⟨rfl,rfl,rfl,?_⟩ ⟨rfl,rfl,rfl,?_⟩ λK B=>?_
 .simp
 .simp
 .simp
 refine Gt.op ?_ ?_
 .simp
 simp;refine Gt.LO (Zl hn g m u H J L k) [0] rfl ?_ ?_ ?_
 .simp[Gn]
 .rintro v E ⟨out,_,_,rfl,rfl⟩;simp
 rintro v E ⟨out,w,F,rfl,rfl⟩;have z:=F;simp[Gn];refine Gt.range (es:=Bg (D.int .i64) vT out) rfl ?_ λo=>?_
 .simp
 refine B (Bg (D.int .i64) vT out) (λo vis tm S=>tm 1=.ptr 1 1 0 0/\tm 7=.d (.raw (.pointer (some ⟨o,0,none⟩)))/\ue g m (MO out vis) ch [mI out] S) o _ _ ?_ ⟨?_,?_,?_⟩
 .simp[FP];exact⟨ch,by simp[MO],rfl⟩
 .rintro o vis tm S ⟨_,q,C,_,rfl⟩;exact⟨rfl,q⟩
 .rintro o vis tm S i hi ⟨s,q,C,j,rfl⟩ N;have G:i<out.length:=by simpa[Bg]using hi
  obtain⟨a,t,h⟩:∃a t,out[i]=(a,t):=⟨_,_,rfl⟩;have P:(Bg (D.int .i64) vT out)[i]=(.int .i64 a,vT t):=by simp[Bg,h]
  have Q:(Cq t).root=0↔t=.leaf false:=Jr (w (a,t) (by rw[<-h];exact b9 G)).HD;have A:=MO.add (vis:=vis) G h;unfold Gn mI;simp[P,vT];refine xJ ?_;simp;refine B6 ?_;simp[q];refine xJ ?_;simp;refine B6 ?_;refine HA λK B=>?_;refine xJ ?_;simp[s];cases C with
  |true=>
   refine xJ ?_;simp;refine B6 (B _ _ ?_);refine⟨_,_,ip 3 (by simp) (by simp) (by simp),by simp[clean,s],by simp[clean,q],?_⟩;exact⟨true,by rw[A,<-or_assoc,<-j];simp,by simp[Gn]⟩
  |false=>
   refine xJ ?_;simp;refine B6 (B _ _ ?_);refine⟨_,_,ip 3 (by simp) (by simp) (by simp),by simp[clean,s],by simp[clean,q],?_⟩;exact⟨((Cq t).root !=0),by rw[A,<-or_assoc,<-j];simp[Q],by simp[Gn]⟩
 .rintro o vis tm S ⟨s,q,C,j,rfl⟩ R;refine xJ ?_;simp;refine B6 ⟨by simp,?_⟩;refine⟨_,_,a8 2 rfl (by simp) (by simp) (by simp[Gn]),by simp,.Cb [],_,⟨rfl,C,by rw[j,MO.all (λi hi=>R i (by simpa[Bg]using hi)),z],rfl⟩,.inr ⟨by simp,rfl⟩⟩
theorem SH{a:Act}{t:Nat}{v:Value}(h:t<a.tmps.size):(a.put (some t) v).eval (.tmp t)=v:=by
 simp[Act.put,Act.eval,h]
theorem SU{a:Act}{t:Option Nat}{v:Value}:(a.put t v).tmps.size=a.tmps.size:=by cases t<;>simp[Act.put]
theorem Sw{a:Act}{t:Option Nat}{v:Value}:(a.put t v).defers=a.defers:=by cases t<;>rfl
theorem fZ:gY prog 141:=by
 refine⟨by kernel_rfl,λcap w=>?_⟩;refine callsD_of_wpS func141 rfl λu j q=>?_;rw[ntmps141];have g:recoverD (u::j)=none:=by simp[recoverD,q]
 refine wpS_seq (wpS_region ?_);rw[show List.range _=[0,1]from rfl];have hb:∀k z j args,builtin .recover k z j args=pure .recover:=λ_ _ _ _=>rfl;simp[wpOpsS,Region.wanted,execOp,resolve,g,Exit.thenS,Oper.upon,invoke,hb];generalize ha:({tmps:=cap++Array.replicate (17 - cap.size) undef,defers:=[]}:Act)=a;have A:17<=a.tmps.size:=by rw[<-ha];simp;omega
 have m:a.defers=[]:=by rw[<-ha]
 rw[SH (by omega)];generalize o:(a.put (some 4) Value.nilIface).put (some 1) Value.nilIface=h;have s:17<=h.tmps.size:=by rw[<-o,SU,SU];exact A
 have i:h.defers=[]:=by rw[<-o,Sw,Sw,m]
 have h1:h.eval (.tmp 1)=.nilIface:=by rw[<-o,SH (by rw[SU];omega)]
 refine wpS_seq (wpS_region ?_);rw[show List.range _=[0,1]from rfl];have B:=run_neq_nil_nil (P:=prog) (w:=w) 20 (by kernel_rfl);have C:(h.put (some 5) Value.nilIface).eval (.tmp 5)=.nilIface:=SH (by omega);have E:∀v,(h.put (some 5) Value.nilIface).eval (.const v)=v:=λv=>rfl;simp[wpOpsS,Region.wanted,execOp,Exit.thenS,Oper.upon,h1,C,E,B,eqGuard];refine wpS_cond (t:=false) (SH (by rw[SU];omega)) ?_;simp;refine wpS_of_wp (wp_skip ?_);refine⟨by rw[Sw,Sw,i],.returning,?_,_,Ga (vs:=[]) rfl,⟨_,rfl⟩,rfl,rfl⟩;rw[<-q]
def o8:Token:=⟨.empty,0,.empty,[],.empty,⟨[],0⟩⟩
structure qd(g:AE):Prop where
 kN:g.conds.length<=12
 fam:Valid g.fam/\FE g.conds.length (tr g.fam)
 tok:∀t∈g.Ae,Valid t.cond/\FE g.conds.length (tr t.cond)
 prod:∀p∈g.AD,Valid p.cond/\FE g.conds.length (tr p.cond)
 sym:∀p∈g.AD,∀s∈p.right,s.token=true->0<=s.index/\s.index<g.Ae.length
 uS:g.AD.length<=65536
 fits:Fits g
noncomputable def Lr(g:AE)(t:DT)(s:Symbol):DT:=if s.token then JH t (tr (g.Ae.getD s.index.toNat o8).cond)else t
noncomputable def pT(g:AE)(p:AO)(l:List Symbol):DT:=l.foldl (Lr g) (JH (tr g.fam) (tr p.cond))
noncomputable def U4(g:AE):List DT:=g.AD.map λp=>pT g p p.right
theorem MY{n:Nat}(hn:n<=12){a b:AN}{s t:DT}(ha:Cq s=a)(hb:Cq t=b)(hs:FE n s)(g:FE n t):Gr and a b=(Cq (JH s t),0)/\FE n (JH s t):=by
 obtain⟨h1,_,h⟩:=E0 HI hn hs g;exact⟨by rw[<-ha,<-hb];exact h,h1⟩
theorem gO{g:AE}(h:qd g){p:AO}(k:p∈g.AD){t:DT}(i:FE g.conds.length t){s:Symbol}(hs:s∈p.right):FE g.conds.length (Lr g t s):=by
 unfold Lr;split
 .next m=>
  obtain⟨h0,h1⟩:=h.sym p k s hs m;have j:s.index.toNat<g.Ae.length:=by omega
  have e:g.Ae.getD s.index.toNat o8=g.Ae[s.index.toNat]:=by simp[List.getD,j]
  rw[e];exact(E0 HI h.kN i (h.tok _ (b9 j)).2).1
 .exact i
theorem mw{g:AE}(h:qd g){p:AO}(j:p∈g.AD):∀l:List Symbol,(∀s∈l,s∈p.right)->FE g.conds.length (pT g p l):=by
 intro l;have key:∀(l:List Symbol) (t:DT),FE g.conds.length t->(∀s∈l,s∈p.right)->FE g.conds.length (l.foldl (Lr g) t):=by
  intro l;induction l with
  |nil=>intro t i _;exact i
  |cons s l m=>intro t i k;exact m _ (gO h j i (k s (by simp))) λx o=>k x (by simp[o])
 exact key l _ (E0 HI h.kN h.fam.2 (h.prod p j).2).1
theorem ma(g:AE)(p:AO){l:List Symbol}{i:Nat}(hi:i<l.length):pT g p (l.take (i+1))=Lr g (pT g p (l.take i)) l[i]:=by
 unfold pT;rw[pe hi,E2];rfl
theorem qJ{g:AE}(h:qd g):∀t∈U4 g,FE g.conds.length t:=λt i=>by
 obtain⟨p,j,rfl⟩:=eo.1 i;exact mw h j _ λ_ k=>k
noncomputable def mb(g:AE)(i:Nat):List DT:=(U4 g).take i
@[simp] theorem rY(g:AE):mb g 0=[]:=rfl
theorem dR(g:AE){i:Nat}(hi:i<g.AD.length):mb g (i+1)=mb g i++[pT g g.AD[i] g.AD[i].right]:=by
 have h:i<(U4 g).length:=by simpa[U4]using hi
 unfold mb;rw[pe h];simp[U4]
theorem Xw{g:AE}{i:Nat}(hi:i<=g.AD.length):(mb g i).length=i:=by simp[mb,U4];omega
theorem mW(g:AE):mb g g.AD.length=U4 g:=by unfold mb;exact s9 (by simp[U4])
def Sc(g:AE):Prop:=cX g.conds.length g (U4 g)
def u9(g:AE)(e:Int)(ch:Bool)(v:V)(S':Sg):Prop:=v=.d (AF e)/\∃h:Bool,(h=true↔ch=true\/(e=0/\Sc g))/\S'=[.row true 1 [.d (.bool h)]]
noncomputable def kF(g:AE)(ch:Bool)(i:Nat):Sg:=
 [.row true 1 [.d (.bool ch)],.row true 9 [.d (AA g)],.row true 1 [.d (.int .i64 0)],.row (i !=0) 2 ((mb g i).map λt=>.d (AB (Cq t))),.row true 10 [.agg ((BN (AA g)).map V.d++[.row 3 i])]]
theorem VD(g:AE)(e:Int)(Y:Pure prog 140 [AA g] (AF e))(vz:e=0->qd g)(ch:Bool):
  BP prog 57 [.d (AA g),.fn (.func 58) [] [.ptr 0 1 0 0]] [.row true 1 [.d (.bool ch)]] (u9 g e ch):=by
 refine BP.mF func57 rfl rfl (by simp) fZ λwf wfs=>?_;rw[ntmps57];apply yV;simp;apply yS;apply yJ;simp;refine B9 (Y) rfl (by simp[xN]) (yJ ?_);simp;apply yW;simp;apply AR;simp;refine⟨λvh=>?_,λhe=>?_⟩
 .apply yW;simp;apply Af;refine⟨_,_,am,?_,_,_,⟨rfl,ch,by simp[show e≠0 from by simpa using vh],rfl⟩,.inl ⟨.int .i64 e,_,?_,rfl,a8 1 (by simp) (by simp) (by simp) (by simp)⟩⟩
  .simp
  .simp
 .have m:=vz he;apply CT;refine⟨_,⟨_,_,17,[.ptr 2 1 0 0],_,rfl,rfl,rfl,by simp,by simp,by simp,rfl,by simp,rfl,rfl,rfl⟩,?_⟩;apply yS;apply xO;simp;apply xO;simp;refine sv (AJ.gF 19 9 2 (xs:=[]) rfl rfl) ?_;simp;apply yJ;simp;refine xS (yW ?_);simp;apply Bx;refine zL g.AD.length (λi tm S=>tm 1=.fn (.func 58) [] [.ptr 0 1 0 0]/\tm 2=.ptr 1 1 0 0/\tm 4=.ptr 2 1 0 0/\tm 6=.ptr 4 1 0 0/\tm 22=.d (Co g.AD)/\tm 23=.d (.int .i64 g.AD.length)/\tm 24=.d (.int .i64 i)/\S=kF g ch i) (by simp[kF]) ?_;rintro i tm S hi ⟨t1,t2,t4,t6,t22,t23,t24,rfl⟩;unfold kF;apply yW;simp[t23,t24];apply xC;simp;refine⟨λJ=>?_,λvw=>?_⟩
  .have o:=b9 J;have L:=(m.prod _ o);obtain⟨wM,wx⟩:=MY m.kN (Ep m.fam.1) (Ep L.1) m.fam.2 L.2;have Z:=dR g J;have M:=mw m o;have N:=m.sym _ o;have P:g.AD[i].right.length<=al:=ke (Tc m.fits o) (by decide);generalize hp:g.AD[i]=p at *;apply xK;apply xB;apply yW;simp[t22,t24,J,hp];apply yS;apply yJ;simp[t2];refine B9 (Mw g.fam p.cond) rfl (by simp[xN]) (yJ ?_);simp[wM];refine B9 (HC (Cq (JH (tr g.fam) (tr p.cond)))) rfl (by simp[xN]) (yJ ?_);simp;refine xS (yW ?_);simp;apply Bx;refine DV p.right.length (λj h S=>h 1=.fn (.func 58) [] [.ptr 0 1 0 0]/\h 2=.ptr 1 1 0 0/\h 4=.ptr 2 1 0 0/\h 6=.ptr 4 1 0 0/\h 22=.d (Co g.AD)/\h 23=.d (.int .i64 g.AD.length)/\h 24=.d (.int .i64 i)/\h 8=.ptr 5 1 0 0/\h 9=.ptr 6 1 0 0/\h 37=.d (Az p.right)/\h 38=.d (.int .i64 p.right.length)/\h 39=.d (.int .i64 j)/\S=kF g ch i++[.row true 13 [.d (AH p)],.row true 2 [.d (AB (Cq (pT g p (p.right.take j))))]]) (i0:=0) (cq _) (by simp[kF,t1,t2,t4,t6,t22,t23,t24,AH,pT]) ?_;rintro j h S hj ⟨s1,U,s4,u,w,z,C,s8,K,E,F,q,rfl⟩;unfold kF;apply yW;simp[F,q];apply xC;simp;refine⟨λG=>?_,λhge2=>?_⟩
   .have we:=ma g p G;have Q:=M (p.right.take j) (λs hs=>W0 hs);have ye:=N _ (b9 G);rw[we];generalize hP:pT g p (p.right.take j)=A at *;generalize hy:p.right[j]=y at *;apply xK;apply xB;apply yW;simp[E,q,G,hy];apply yW;simp;apply AR;simp;refine⟨λW=>?_,λW=>?_⟩
    .obtain⟨y0,y1⟩:=ye W;obtain⟨k,hk⟩:∃k:Nat,y.index=k:=⟨y.index.toNat,by omega⟩;have vZ:k<g.Ae.length:=by omega
     have R:=m.tok _ (b9 vZ);obtain⟨yU,hb4⟩:=MY m.kN (rfl:Cq A=Cq A) (Ep R.1) Q R.2;have vn:Lr g A y=JH A (tr g.Ae[k].cond):=by
      unfold Lr;rw[ap W,hk];simp[List.getD,vZ]
     rw[vn];generalize hB:JH A (tr g.Ae[k].cond)=B at *;refine yE [0,2,4,6,8,10,12,14,16,18,20,22,25] (by kernel_rfl) ?_;simp;apply yA 1;simp[K,U,hk,vZ];refine B5 (Mw (Cq A) g.Ae[k].cond) rfl (by simp[xN]) ?_;simp[yU];apply yA 1;simp;refine B5 (HC (Cq B)) rfl (by simp[xN]) ?_;simp;apply xX 4095 (by kernel_rfl);simp[K];apply xM;apply yV;simp[q];refine⟨G,_,_,ip 7 (by simp) (by simp) (by simp),?_⟩;simp[clean,s1,U,s4,u,w,z,C,s8,K,E,F,AL G P]
    .apply CT;apply yV;simp[q];have vn:Lr g A y=A:=by unfold Lr;rw[ao];simpa using W
     rw[vn];refine⟨G,_,_,ip 7 (by simp) (by simp) (by simp),?_⟩;simp[clean,s1,U,s4,u,w,z,C,s8,K,E,F,AL G P]
   .have wP:j=p.right.length:=by omega
    subst wP;rw[ne];generalize hA:pT g p p.right=A at *;have hi65:i<65536:=tv J m.uS;have X:=Xw (g:=g) (i:=i) (by omega);apply C7;refine yE [0,2,4,6,8,10,12,15,16,18,21] (by kernel_rfl) ?_;simp;have T:i+1<=1073741824:=by omega
    apply yA 1;simp[u,K,al];apply xX 5 (by kernel_rfl);simp[Ac,u,K,X,T,al];apply yA 1;simp;apply xX 125 (by kernel_rfl);simp[Ac,u];apply xM;apply yV;simp[C];refine⟨J,_,_,ip 5 (by simp) (by simp) (by simp),?_⟩;simp[clean,s1,U,s4,u,w,z,AL J (ke m.uS (by decide)),Z]
  .have vP:i=g.AD.length:=by omega
   subst vP;have X:=Xw (g:=g) (i:=g.AD.length) (br _);rw[mW]at X⊢;have zG:=qJ m;apply C7;refine ed (c9 3 (xs:=(U4 g).map λt=>AB (Cq t)) rfl (Cy _ _ _)) ?_;refine ed (AJ.NJ 4 [.d (D4 g (U4 g))] rfl ?_) ?_
   .simp[D4,X]
   simp;refine ed (rx [0,1,2,4] (S0:=[.row true 1 [.d (.bool ch)],.row true 9 [.d (AA g)],.row true 1 [.d (.int .i64 0)],Gn g (U4 g)]) ?_ ?_ ?_) ?_
   .simp[Gn]
   .simp
   .rfl
   generalize xu:pick _ _=H;have u1:H 1=.fn (.func 58) [] [.ptr 0 1 0 0]:=by rw[<-xu];simp[pick,t1];try decide
   have u4:H 4=.ptr 2 1 0 0:=by rw[<-xu];simp[pick,t4];try decide
   have u6:H 6=.ptr 3 1 0 0:=by rw[<-xu];simp[pick,t6];try decide
   unfold Gn;apply yS;apply yJ;simp[u1,u6];refine AV.LO (Vr m.kN g (U4 g) (by simp[U4]) zG m.fam.2 m.fam.1 m.fits ch) [3,0] rfl ?_ ?_ ?_
   .simp[Gn]
   .rintro v S0' ⟨rfl,c',_,rfl⟩;simp
   rintro v S0' ⟨rfl,c',hc',rfl⟩;simp[Gn];apply B6;apply yW;simp[u4];apply Af;subst he;refine⟨_,_,am,?_,_,_,⟨rfl,c',by simpa[Sc]using hc',rfl⟩,.inl ⟨.int .i64 0,_,?_,rfl,a8 1 (by simp) (by simp) (by simp) (by simp)⟩⟩
   .simp[u4]
   .simp[u4]
open Classical in
noncomputable def pE(g:AE)(e:Int):Int:=if e≠0 then e else if Sc g then 60 else 0
def uV(g:AE)(e:Int)(v:V)(S':Sg):Prop:=S'=[]/\v=.d (AF (pE g e))
theorem Zx(g:AE)(e:Int)(k:Pure prog 140 [AA g] (AF e))(s:e=0->qd g):BP prog 21 [.d (AA g)] [] (uV g e):=by
 refine zR func21 14 rfl λwf t=>?_;apply yW;simp;apply yW;simp;(repeat apply xS);apply yT;apply yJ;simp;refine AV.LO (VD g e k s false) [1] rfl ?_ ?_ ?_
 .simp
 .rintro v m ⟨rfl,q,_,rfl⟩;simp
 rintro v m ⟨rfl,q,j,rfl⟩;simp;apply yJ;simp;cases q with
 |true=>
  obtain⟨u,o⟩:e=0/\Sc g:=by simpa using j
  subst u;have i:pE g 0=60:=by simp[pE,o]
  refine xS (yW ?_);simp;apply AR;simp;apply yW;simp;apply Af;refine⟨_,_,am,by simp,_,_,⟨rfl,i6 (λx=>V.d (AF x)) i.symm⟩,.inl ⟨.int .i64 60,_,by simp,rfl,a8 0 rfl (by simp) (by simp) (by simp)⟩⟩
 |false=>
  have i:pE g e=e:=by
   have:¬(e=0/\Sc g):=by simpa using j
   unfold pE;by_cases h:e=0
   .rw[ao (by simp[h]),ao (λw=>this ⟨h,w⟩),h]
   .rw[ap h]
  refine xS (yW ?_);simp;apply AR;simp;apply xK;apply yW;simp;apply Af;refine⟨_,_,am,by simp,_,_,⟨rfl,i6 (λx=>V.d (AF x)) i.symm⟩,.inl ⟨.int .i64 e,_,by simp,rfl,a8 0 rfl (by simp) (by simp) (by simp)⟩⟩
open Go.Proofs DT
def Hf(g:AE)(N:Int->Bool)(r:Int->Nat):Prop:=
 (∀p∈g.AD,Bq p.right=false->(∀s∈p.right,N s.index=true)->N p.left=true)/\∀p∈g.AD,∀j (hj:j<p.right.length),p.right[j].token=false->Bq (Da p.right j)=false->(∀s∈Da p.right j,N s.index=true)->r p.left<r p.right[j].index
def Nz(N:Int->Bool)(m:List (Int×DT)):Prop:=∀x,DW m x≠.leaf false->N x=true
theorem NU{N:Int->Bool}{m:List (Int×DT)}(i:Nz N m):∀(l:List Symbol) {t:DT},JM m t l≠.leaf false->∀s∈l,s.token=false->N s.index=true
 |[],_,_=>λs g=>by simp at g
 |a::l,t,h=>by
  have e:JM m t (a::l)=JM m (stepT m t a) l:=rfl;rw[e]at h;intro s g j;rcases fi.1 g with rfl|g
  .refine yP λhn=>h ?_;have h0:DW m s.index=.leaf false:=yP λo=>hn (i _ o);have:stepT m t s=.leaf false:=by
    unfold stepT;split
    .rw[h0];exact pq t
    .next k=>simp[j,true_and,ne_eq,Decidable.not_not]at k;exact k
   rw[this];exact ep m l
  .exact NU i l h s g j
theorem KJ{l:List Symbol}(h:Bq l=false):∀s∈l,s.token=false:=λs g=>by
 have:=p6.1 h s g;simpa using this
theorem Vp{g:AE}{N:Int->Bool}{r:Int->Nat}(m:Hf g N r){s:List (Int×DT)×Bool}(hs:Nz N s.1){p:AO×DT}(o:p.1∈g.AD):Nz N (Fv true s p).1:=by
 unfold Fv;split
 .exact hs
 .next hn=>
  have i:Bq p.1.right=false:=by simpa using hn
  unfold KI;split
  .exact hs
  .next q=>
   split
   .exact hs
   .intro x h;simp[JE]at h;split at h
    .next e=>
     subst e;exact m.1 _ o i λj k=>NU hs _ q j k (KJ i j k)
    .exact hs x h
theorem Nq{g:AE}{N:Int->Bool}{r:Int->Nat}(i:Hf g N r):∀(l:List (AO×DT)) {s:List (Int×DT)×Bool},(∀p∈l,p.1∈g.AD)->Nz N s.1->Nz N (Dy true l s).1
 |[],_,_,h=>h
 |p::l,s,j,h=>Nq i l (s:=Fv true s p) (λq k=>j q (by simp[k])) (Vp i h (j p (by simp)))
theorem Qs{g:AE}{N:Int->Bool}{r:Int->Nat}(i:Hf g N r){l:List (AO×DT)}(j:∀p∈l,p.1∈g.AD):∀(f:Nat) {m:List (Int×DT)},Nz N m->Nz N (QP true l f m)
 |0,_,h=>h
 |f+1,m,h=>by
  have h1:=Nq i l (s:=(m,false)) j h;unfold QP;split
  .exact Qs i j f h1
  .exact h1
theorem iX{g:AE}{N:Int->Bool}{r:Int->Nat}(h:Hf g N r)(n:Nat)(i:List DT):Nz N (ph n true g i):=
 Qs h (λ_ j=>(adO j).1) _ λx k=>absurd (OW x) k
theorem Jt.lt{g:AE}{N:Int->Bool}{r:Int->Nat}(o:Hf g N r){n:Nat}{m:List DT}{i j:Nat}{c:Int->Bool}{a b:Int}(h:Jt g m (ph n true g m) i j c a b):r a<r b:=by
 obtain⟨z,u,_,h1,v,rfl,w,rfl,k⟩:=h;unfold gz at k;split at k
 .simp[DT.Ca]at k
 .next hn=>
  have q:=by simpa using hn
  exact o.2 _ (b9 h1) u v w q λs t=>NU (iX o n m) _ (λe=>by rw[e]at k;simp[DT.Ca]at k) s t (KJ q s t)
theorem Hf.none{g:AE}{N:Int->Bool}{r:Int->Nat}(i:Hf g N r):¬Sc g:=by
 rintro⟨j,_,c,_,k⟩;have:∀y,U2 (Jt g (U4 g) (ph g.conds.length true g (U4 g)) g.AD.length 0 c) (j:Int) y->r j<r y:=λy m=>by
  induction m with
  |one h=>exact Jt.lt i h
  |more _ _ h o=>exact Nat.lt_trans o (Jt.lt i h)
 exact absurd (this _ k) (QQ _)
theorem VA.kW{g:AE}(h:VA g):Hf g (λ_=>false) (λ_=>0):=by
 refine⟨λp m _ o=>?_,λp m j hj t _ o=>?_⟩
 .cases k:p.right with
  |nil=>exact absurd k (h p m).1
  |cons s l=>exact absurd (o s (by simp[k])) (by simp)
 .have i:(Da p.right j).length=p.right.length - 1:=by simp[Da];omega
  cases k:Da p.right j with
  |nil=>
   rw[k]at i;simp at i;have v:p.right.length=1:=by omega
   obtain⟨s,u⟩:=List.length_eq_one_iff.1 v;have w:=(h p m).2 s u;have q:j=0:=by omega
   subst q;have e:p.right[0]=s:=by simp[u]
   rw[e,w]at t;cases t
  |cons s l=>exact absurd (o s (by rw[k];simp)) (by simp)
@[simp] theorem tL(a:Array UInt8):ByteArray.size ⟨a⟩=a.size:=rfl
theorem Kn(s:ByteArray):s=⟨#[]⟩↔s.size=0:=by
 obtain⟨a⟩:=s;simp
def Ku(p:AO):Bool:=decide (16<p.right.length)||decide (16<p.layout.length)
theorem Zn(p:AO):Pure prog 220 [AH p] (.bool (Ku p)):=by
 refine zP func220 11 rfl λwf=>?_;apply yW;simp;apply yW;simp[AH];apply zT;simp[Ku];rw[eg];simp;split<;>omega
def C3(g:AE):Bool:=decide (64<g.conds.length)||decide (256<g.Ae.length)||decide (4096<g.AU.length)||decide (2000<g.A2.length)||decide (2000<g.AD.length)||decide (2000<g.levels.length)||g.AD.any Ku
theorem gR(g:AE):Pure prog 187 [AA g] (.bool (C3 g)):=by
 refine zP func187 33 rfl λwf=>?_;apply yW;simp;refine xS (yW ?_);simp[AA];apply AR;simp;refine⟨λh=>?_,λh=>?_⟩
 .apply yW;simp;refine Af ⟨_,_,am,?_⟩;have:C3 g=true:=by unfold C3;simp;left;omega
  simp[this]
 .intro v j;apply xK;refine xS (yW ?_);simp;apply AR;simp;refine⟨λi=>?_,λi=>?_⟩
  .apply yW;simp;refine Af ⟨_,_,am,?_⟩;have:C3 g=true:=by unfold C3;simp;left;split at i<;>split at i<;>omega
   simp[this]
  .apply xK;(repeat apply xS);apply yT;apply yJ;simp;refine AV.Xj (MA g.AD Ku 220 [] [] λx _=>(Zn x).call (by simp[Ba,CF])) rfl (by simp;try rfl) (yJ ?_);simp;apply zT;have k:¬(64<g.conds.length)/\¬(256<g.Ae.length)/\¬(4096<g.AU.length)/\¬(2000<g.A2.length)/\¬(2000<g.AD.length)/\¬(2000<g.levels.length):=by
    split at i<;>split at i<;>omega
   obtain⟨m,o,q,s,t,u⟩:=k;simp[C3,m,o,q,s,t,u]
def UR(c:Nat):Bool:=decide (97<=c/\c<=122)||decide (65<=c/\c<=90)||decide (c=95)
def SQ(s:ByteArray)(i:Nat):Bool:=UR (s.get! i).toNat||(decide (i≠0)&&decide (48<=(s.get! i).toNat/\(s.get! i).toNat<=57))
def isIdent(s:ByteArray):Bool:=decide (s.size≠0)&&(List.range s.size).all (SQ s)
abbrev ac6:=@Bool.and_eq_false_iff
abbrev acr:=@List.all_eq_false
theorem QW{s:ByteArray}{i:Nat}(hi:i<s.size)(h:SQ s i=false):isIdent s=false:=by
 unfold isIdent;rw[ac6];right;rw[acr];exact⟨i,by simpa using hi,by simp[h]⟩
theorem T8{s:ByteArray}(h:∀i,i<s.size->SQ s i=true):isIdent s=decide (s.size≠0):=by
 unfold isIdent;have:(List.range s.size).all (SQ s)=true:=by rw[cl];intro i hi;exact h i (by simpa using hi)
 rw[this,ad0]
theorem Gd(s:ByteArray):Pure prog 222 [.str s] (.bool (isIdent s)):=by
 refine eJ func222 rfl rfl (by simp) λwf=>?_;have o:s.size<=al:=by simpa[Bs,DZ]using wf
 rw[ntmps222];apply yW;simp;refine xS (yW ?_);simp;apply Bx;refine zL s.size (λi tm S=>tm 0=.d (.str s)/\tm 7=.d (.int .i64 s.size)/\tm 8=.d (.int .i64 i)/\(∀k,k<i->SQ s k=true)/\S=[]) (by simp) ?_;rintro i tm S hi ⟨t0,t7,t8,m,rfl⟩;apply yW;simp[t7,t8];apply xC;simp;refine⟨λg=>?_,λv=>?_⟩
 .have h0:(0:Int)<=(i:Int):=by omega
  apply xK;apply xB;apply yW;simp[t8];(repeat apply xS);apply yV;simp[t0,g];generalize q:(s.get! i).toNat=c;(repeat apply xS);refine HA λK h=>?_;(repeat((refine Cd ?_ ?_);(focus(simp;try(first|omega|(simp +contextual;done)|grind);done));simp));refine B6 (h _ _ ?_);(repeat apply xS);refine HA λK h=>?_;(repeat((refine Cd ?_ ?_);(focus(simp;try(first|omega|(simp +contextual;done)|grind);done));simp));refine B6 (h _ _ ?_);(repeat apply xS);refine k6 (t:=!SQ s i) ?_ (λhb=>?_) (λhb=>?_)
  .simp;rw[eg];simp[SQ,UR,q];omega
  .have j:SQ s i=false:=by simpa using hb
   apply yW;simp;refine Af ⟨_,_,am,?_⟩;(try simp);rw[QW g j]
  .have j:SQ s i=true:=by simpa using hb
   apply CT;apply yV;simp[t8];refine⟨g,_,_,am,?_⟩;simp[t0,t7,AL g o];intro k u;by_cases e:k=i
   .subst e;exact j
   .exact m k (by omega)
 .apply C7;apply yW;simp[t0];apply zT;(try simp);rw[T8 λk u=>m k (by omega)];rw[eg];simp[Kn]
def E1(L:List ByteArray):O:=.map (Bg D.str (λx=>.d (.bool x)) (L.map λs=>(s,true)))
theorem Xk(a b:ByteArray):De (.str a) (.str b)=decide (a=b):=by rw[eg];simp[De]
section
variable {β:Type} {ev:β->V}
@[simp] theorem qz(l:List (ByteArray×β))(k:ByteArray):DF (Bg D.str ev l) (.str k)=(look l k).map ev:=F2 Xk l k
@[simp] theorem qY(l:List (ByteArray×Bool))(k:ByteArray)(x:Bool):Ek (Bg D.str (λx=>.d (.bool x)) l) (.str k) (.d (.bool x))=Bg D.str (λx=>.d (.bool x)) (C9 l k x):=EZ (ev:=λx=>V.d (.bool x)) Xk l k x
@[simp] theorem jh(l:List (ByteArray×β)):Bj (.one .str) (Bg D.str ev l)=True:=eq_true (E9 (by intro a;simp[B7,CN]) l)
end
def Fi(L:List ByteArray)(s:ByteArray):Bool:=L.any λx=>decide (x=s)
@[simp] theorem sU{α β:Type}(ρ:Nat->Nat)(ek:α->D)(g:β->D)(l:List (α×β)):(Bg ek (λx=>V.d (g x)) l).map (λp=>(p.1,Bc ρ p.2))=Bg ek (λx=>V.d (g x)) l:=by
 unfold Bg;rw[kv];rfl
def QV(l:List ByteArray)(i:Nat):List ByteArray:=⟨#[]⟩::l.take i
theorem MP(l:List ByteArray):QV l 0=[⟨#[]⟩]:=rfl
theorem Lq{l:List ByteArray}{i:Nat}(hi:i<l.length):QV l (i+1)=QV l i++[l[i]]:=by
 unfold QV;rw[pe hi];rfl
def XS(L:List ByteArray):Sg:=[E1 L,.row true 1 [.map 0]]
theorem Mf:AG prog 221 [] [] (.fn (.func 249) [] [.ptr 1 1 0 0]) (XS [⟨#[]⟩]):=by
 refine zC func221 5 rfl λwf _=>?_;apply yW;simp;apply yW;simp;apply yW;simp;apply Af;refine⟨_,rc (S':=XS [⟨#[]⟩]) rfl,?_⟩;simp[Au]
abbrev zw:=@decide_eq_false
abbrev adH:=@Bool.false_or
theorem Z9(L:List ByteArray)(s:ByteArray):(look (L.map λs=>(s,true)) s)=if Fi L s then some true else none:=by
 induction L with
 |nil=>rfl
 |cons x L g=>
  rw[eP,Cx,g];by_cases h:x=s
  .simp[Fi,h]
  .have i:decide (x=s)=false:=zw h;unfold Fi;rw[adj,i,adH];simp[h]
theorem Kd(L:List ByteArray)(s:ByteArray):AG prog 249 [.d (.str s),.ptr 1 1 0 0] (XS L) (.d (.bool (!Fi L s))) (XS (if Fi L s then L else L++[s])):=by
 have g:=Z9 L s;refine zC func249 9 rfl λwf _=>?_;unfold XS E1;cases h:Fi L s with
 |true=>
  rw[h]at g;simp at g;apply yW;simp;refine xS (yW ?_);simp[g];apply AR;simp;apply yW;simp;apply Af;refine⟨_,am,?_⟩;simp[Au]
 |false=>
  rw[h]at g;have i:C9 (L.map λs=>(s,true)) s true=(L++[s]).map λs=>(s,true):=by rw[L3 _ (by simpa using g)];simp
  apply yW;simp;refine xS (yW ?_);simp[g];apply AR;simp;apply xK;apply yW;simp[i];apply yW;simp;apply Af;refine⟨_,am,?_⟩;simp[Au]
theorem fq(x:Ap)(n:Int):AG prog 251 [.d (Aa x),.ptr 0 1 0 0] [.row true 1 [.d (.int .i64 n)]] (.d (.bool (decide (n<=x.var)))) [.row true 1 [.d (.int .i64 n)]]:=by
 refine zC func251 8 rfl λwf _=>?_;apply yW;simp;apply yW;simp[Aa];apply Af;refine⟨_,a8 1 (by simp) (by simp) (by simp) (by simp),?_⟩;simp[Au,clean]
noncomputable def C5(d:AN)(n:Int):Bool:=decide (Hn d=0)&&!d.nodes.any λx=>decide (n<=x.var)
theorem Lz(d:AN)(n:Int):Pure prog 223 [AB d,AF n] (.bool (C5 d n)):=by
 refine zP func223 13 rfl λwf=>?_;apply yW;simp;refine xS (yS ?_);apply yJ;simp;refine B9 (TP d) rfl (by simp[xN]) (yJ ?_);simp;apply AR;simp;refine⟨λh=>?_,λh=>?_⟩
 .apply yW;simp;refine Af ⟨_,_,am,?_⟩;simp[C5,h]
 .apply xK;(repeat apply xS);apply yT;apply yJ;simp[AB];refine xF (Ke d.nodes (λx=>decide (n<=x.var)) 251 [.ptr 0 1 0 0] [.row true 1 [.d (.int .i64 n)]] λx _=>fq x n) [1] rfl ?_;simp;apply yJ;simp;apply zT;simp[C5,h]
theorem Ye(b:Bool)(n:Int):C5 ⟨[],if b then 1 else 0⟩ n=true:=by
 have h:Hn (Cq (.leaf b))=0:=by
  unfold Hn;rw[ao (by simp[Gi]),ap ⟨.leaf b,trivial,rfl⟩]
 rw[Gi]at h;simp[C5,h]
theorem Bl.below{N:List Ap}{n:Nat}(m:∀b∈N,b.var<n):∀{t:DT} {k:Int},Bl N t k->t.Below n:=by
 intro t;induction t with
 |leaf b=>intro _ _;trivial
 |node v l h g i=>
  intro k o;obtain⟨j,_,lo,hi,h1,q,s⟩:=o;exact⟨by simpa using m _ (lw h1),g q,i s⟩
theorem HR{d:AN}{n:Nat}(h:C5 d n=true):Valid d/\FE n (tr d):=by
 unfold C5 at h;simp[Int.not_le]at h;have g:=NS h.1;refine⟨g,Lu d,?_⟩;have i:=GO (tr d);rw[Ep g]at i;exact i.below λb hb=>by simpa using h.2 b hb
def DQ:List ByteArray->List ByteArray->Bool
 |_,[]=>true
 |L,s::l=>!Fi L s&&DQ (L++[s]) l
theorem de(L:List ByteArray)(s:ByteArray):Fi L s=true↔s∈L:=by
 simp[Fi]
def Ia(g:AE):Bool:=DQ [⟨#[]⟩] g.A2&&decide (0<=g.start)&&decide (g.start<g.A2.length)
theorem HG:∀{l L:List ByteArray} {i:Nat} (hi:i<l.length),(∀k (h:k<i),Fi (L++l.take k) (l[k]'(by omega))=false)->Fi (L++l.take i) l[i]=true->DQ L l=false
 |s::l,L,0,hi,_,h=>by simp at h;simp[DQ,h]
 |s::l,L,i+1,hi,h0,h=>by
  have:DQ (L++[s]) l=false:=HG (i:=i) (by simpa using hi) (λk g=>by simpa using h0 (k+1) (by omega)) (by simpa using h);simp[DQ,this]
theorem GF:∀{l L:List ByteArray},(∀k (h:k<l.length),Fi (L++l.take k) l[k]=false)->DQ L l=true
 |[],_,_=>rfl
 |s::l,L,h=>by
  have h1:Fi L s=false:=by have:=h 0 (by simp);rw[List.take_zero,xl]at this;exact this
  have g:DQ (L++[s]) l=true:=GF λk i=>by
   have:=h (k+1) (by simpa using i);rw[List.take_succ_cons]at this;rw[yl];exact this
  simp[DQ,h1,g]
theorem Tq(g:AE):Pure prog 190 [AA g] (AF (if Ia g then 0 else 50)):=by
 refine eJ func190 rfl rfl (by simp) λwf=>?_;have u:g.A2.length<=al:=by simp[Bs,DZ,AA]at wf;exact wf.2.2.2.2.1.1
 rw[ntmps190];apply yW;simp;apply yS;apply yJ;simp;refine xF (Mf) [] rfl ?_;simp;apply yJ;simp;refine xS (yW ?_);simp[AA];apply Bx;refine zL g.A2.length (λi tm S=>tm 1=.ptr 0 1 0 0/\tm 3=.fn (.func 249) [] [.ptr 2 1 0 0]/\tm 8=.d (By g.A2)/\tm 9=.d (.int .i64 g.A2.length)/\tm 10=.d (.int .i64 i)/\(∀k (h:k<i) (E:k<g.A2.length),Fi (QV g.A2 k) g.A2[k]=false)/\S=[.row true 9 [.d (AA g)],E1 (QV g.A2 i),.row true 1 [.map 1]]) (by simp[XS,E1,AA,MP]) ?_;rintro i tm S hi ⟨t1,t3,t8,t9,t10,q,rfl⟩;apply yW;simp[t9,t10];apply xC;simp;refine⟨λm=>?_,λF=>?_⟩
 .have v:=Kd (QV g.A2 i) g.A2[i];have w:=Lq m;have z:=λh=>HG (L:=[⟨#[]⟩]) (l:=g.A2) m (λk o=>q k o (by omega)) h;generalize s:Fi (QV g.A2 i) g.A2[i]=hb at *;unfold E1;apply xK;apply xB;apply yW;simp[t8,t10,m];apply yS;apply yJ;simp[t3];refine xF (v) [1,2] rfl ?_;simp[XS,E1];apply yJ;simp;(repeat apply xS);refine k6 (t:=hb) ?_ (λhb=>?_) (λhb=>?_)
  .simp
  .subst hb;apply yW;simp;refine Af ⟨_,_,am,?_⟩;have:=z s;simp[Ia,this]
  .subst hb;simp;apply CT;apply yV;simp[t10];refine⟨m,_,_,am,?_⟩;simp[t1,t3,t8,t9,AL m u,w];intro k o A;by_cases e:k=i
   .subst e;exact s
   .exact q k (by omega) A
 .have B:i=g.A2.length:=by omega
  subst B;have j:=GF (L:=[⟨#[]⟩]) (l:=g.A2) λk o=>q k o o;unfold E1;apply C7;(repeat apply xS);refine HA λK C=>?_;(repeat((refine Cd ?_ ?_);(focus(simp[t1,AA];try(first|omega|(simp +contextual[t1,AA];done)|grind);done));simp[t1,AA]));refine B6 (C _ _ ?_);(repeat apply xS);refine k6 (t:=!(decide (0<=g.start)&&decide (g.start<g.A2.length))) ?_ (λhb=>?_) (λhb=>?_)
  .simp;rw[eg];simp
  .apply yW;simp;refine Af ⟨_,_,am,?_⟩;simp at hb;simp[Ia,j];omega
  .apply xK;apply yW;simp;apply zT;simp at hb;simp[Ia,j,hb]
noncomputable def Ey(s:ByteArray):Bool:=isIdent s&&!decide (s=⟨#[116,114,117,101]⟩)&&!decide (s=⟨#[102,97,108,115,101]⟩)
noncomputable def Fb(g:AE):Bool:=g.conds.all Ey&&DQ [⟨#[]⟩] g.conds&&C5 g.fam g.conds.length&&!decide (g.fam.root=0)
theorem TD(g:AE):Pure prog 188 [AA g] (AF (if Fb g then 0 else 54)):=by
 refine eJ func188 rfl rfl (by simp) λwf=>?_;have B:g.conds.length<=al:=by simp[Bs,DZ,AA]at wf;exact wf.1.1
 rw[ntmps188];apply yW;simp;apply yS;apply yJ;simp;refine xF (Mf) [] rfl ?_;simp;apply yJ;simp;refine xS (yW ?_);simp[AA];apply Bx;refine zL g.conds.length (λi tm S=>tm 1=.ptr 0 1 0 0/\tm 3=.fn (.func 249) [] [.ptr 2 1 0 0]/\tm 8=.d (By g.conds)/\tm 9=.d (.int .i64 g.conds.length)/\tm 10=.d (.int .i64 i)/\(∀k (h:k<i) (K:k<g.conds.length),Ey g.conds[k]=true/\Fi (QV g.conds k) g.conds[k]=false)/\S=[.row true 9 [.d (AA g)],E1 (QV g.conds i),.row true 1 [.map 1]]) (by simp[XS,E1,AA,MP]) ?_;rintro i tm S hi ⟨t1,t3,t8,t9,t10,w,rfl⟩;apply yW;simp[t9,t10];apply xC;simp;refine⟨λv=>?_,λM=>?_⟩
 .have C:=Kd (QV g.conds i) g.conds[i];have E:=Lq v;have F:=λh=>HG (L:=[⟨#[]⟩]) (l:=g.conds) v (λk q=>(w k q (by omega)).2) h;have u:Ey g.conds[i]=false->Fb g=false:=λh=>by
   have:g.conds.all Ey=false:=by
    rw[acr];exact⟨_,b9 v,by simp[h]⟩
   simp[Fb,this]
  generalize z:Fi (QV g.conds i) g.conds[i]=hb at *;unfold E1;apply xK;apply xB;(repeat apply xS);apply yV;simp[t8,t10,v];by_cases j:g.conds[i]=⟨#[116,114,117,101]⟩<;>by_cases m:g.conds[i]=⟨#[102,97,108,115,101]⟩<;>cases o:isIdent g.conds[i]
  .
   apply yS;apply yJ;simp;refine B9 (Gd g.conds[i]) rfl (by simp[xN]) (yJ ?_);simp[j,al,t3];((refine FJ rfl (by simp;try rfl) ?_);simp);apply yJ;simp;apply AR;simp;apply yW;simp;refine Af ⟨_,_,am,?_⟩;simp[u (by simp[Ey,j])]
  .
   apply yS;apply yJ;simp;refine B9 (Gd g.conds[i]) rfl (by simp[xN]) (yJ ?_);simp[j,al,t3];((refine FJ rfl (by simp;try rfl) ?_);simp);apply yJ;simp;apply AR;simp;apply yW;simp;refine Af ⟨_,_,am,?_⟩;simp[u (by simp[Ey,j])]
  .
   apply yS;apply yJ;simp;refine B9 (Gd g.conds[i]) rfl (by simp[xN]) (yJ ?_);simp[j,al,t3];((refine FJ rfl (by simp;try rfl) ?_);simp);apply yJ;simp;apply AR;simp;apply yW;simp;refine Af ⟨_,_,am,?_⟩;simp[u (by simp[Ey,j])]
  .
   apply yS;apply yJ;simp;refine B9 (Gd g.conds[i]) rfl (by simp[xN]) (yJ ?_);simp[j,al,t3];((refine FJ rfl (by simp;try rfl) ?_);simp);apply yJ;simp;apply AR;simp;apply yW;simp;refine Af ⟨_,_,am,?_⟩;simp[u (by simp[Ey,j])]
  .
   apply yS;apply yJ;simp;refine B9 (Gd g.conds[i]) rfl (by simp[xN]) (yJ ?_);simp[m,al,t3];((refine FJ rfl (by simp;try rfl) ?_);simp);apply yJ;simp;apply AR;simp;apply yW;simp;refine Af ⟨_,_,am,?_⟩;simp[u (by simp[Ey,m])]
  .
   apply yS;apply yJ;simp;refine B9 (Gd g.conds[i]) rfl (by simp[xN]) (yJ ?_);simp[m,al,t3];((refine FJ rfl (by simp;try rfl) ?_);simp);apply yJ;simp;apply AR;simp;apply yW;simp;refine Af ⟨_,_,am,?_⟩;simp[u (by simp[Ey,m])]
  .
   apply yS;apply yJ;simp;refine B9 (Gd g.conds[i]) rfl (by simp[xN]) (yJ ?_);simp[o,j,m,al,t3];((refine FJ rfl (by simp;try rfl) ?_);simp);apply yJ;simp;apply AR;simp;apply yW;simp;refine Af ⟨_,_,am,?_⟩;simp[u (by simp[Ey,o,j,m])]
  .apply yS;apply yJ;simp;refine B9 (Gd g.conds[i]) rfl (by simp[xN]) (yJ ?_);simp[o,j,m,al,t3];refine AV.QC (C) [1,2] rfl rfl (by simp[XS,E1];try rfl) (yJ ?_);simp[XS,E1];(repeat apply xS);refine k6 (t:=hb) ?_ (λhb=>?_) (λhb=>?_)
   .simp
   .subst hb;apply yW;simp;refine Af ⟨_,_,am,?_⟩;have:=F z;simp[Fb,this]
   .subst hb;simp;apply CT;apply yV;simp[t10];refine⟨v,_,_,am,?_⟩;simp[t1,t3,t8,t9,AL v B,E];intro k q G;by_cases e:k=i
    .subst e;exact⟨by simp[Ey,o,j,m],z⟩
    .exact w k (by omega) G
 .have H:i=g.conds.length:=by omega
  subst H;have s:=GF (L:=[⟨#[]⟩]) (l:=g.conds) λk q=>(w k q q).2;have A:g.conds.all Ey=true:=by
   rw[cl];intro x J;obtain⟨k,q,rfl⟩:=jp.1 J;exact(w k q q).1
  unfold E1;apply C7;refine xS (yS ?_);(repeat((refine Cd ?_ ?_);(focus(simp[t1,AA];try(first|omega|(simp +contextual[t1,AA];done)|grind);done));simp[t1,AA]));refine B9 (Lz g.fam g.conds.length) rfl (by simp[AB]) ?_;simp;(repeat((refine Cd ?_ ?_);(focus(simp[t1];try(first|omega|(simp +contextual[t1,AA];done)|grind);done));simp[t1]));apply B6;(repeat apply xS);refine k6 (t:=!C5 g.fam g.conds.length||g.fam.root==0) ?_ (λhb=>?_) (λhb=>?_)
  .simp
  .apply yW;simp;refine Af ⟨_,_,am,?_⟩;simp at hb;simp[Fb,s,A];grind
  .simp at hb;apply xK;apply yW;simp;apply zT;simp[Fb,s,A,hb]
end Go.Koi
