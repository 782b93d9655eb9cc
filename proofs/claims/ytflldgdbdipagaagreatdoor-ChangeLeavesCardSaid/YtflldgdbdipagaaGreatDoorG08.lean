/-
  Part 9 of the proof that the law ChangeLeaves returns true for every input.
-/
import Derived.Test.YtflldgdbdipagaaGreatDoorG07
import Derived.WideLaws
set_option maxHeartbeats 64000000
set_option maxRecDepth 100000
open List renaming length->Z,range->kv
open Go.Value renaming nilIface->ae8
open Bool renaming true->J,false->am
open Go renaming maxLen->ao
namespace Go.Koi
open Go.Proofs Tryz DT
def yR(g:AD)(i:List DT)(X:Prop)(ch:Bool)(T:Sg)(S':Sg):Prop:=∃h:Bool,(h=J↔ch=J\/X)/\S'=[Gy g i,.row J 1 [.d (.bool h)]]++T
def y6(n:Nat)(g:AD)(h:List DT)(ch:Bool)(v:V)(S':Sg):Prop:=v=.CA []/\yR g h (gp n g h) ch [] S'
def MO(out:List (Int×DT))(vis:List Nat):Prop:=∃j∈vis,∃hj:j<Z out,out[j].2≠.leaf am
theorem MO.add{out:List (Int×DT)}{vis:List Nat}{i:Nat}{a:Int}{t:DT}(hi:i<Z out)(h:out[i]=(a,t)):MO out (vis++[i])↔MO out vis\/t≠.leaf false:=by
 constructor
 .rintro⟨j,hj,k,g⟩;rcases gc.1 hj with hj|hj
  .exact .inl ⟨j,hj,k,g⟩
  .simp at hj;subst hj;rw[h]at g;exact .inr g
 .rintro(⟨j,hj,k,g⟩|g)
  .exact⟨j,acn _ hj,k,g⟩
  .exact⟨i,acX _ (by simp),hi,by rw[h];exact g⟩
theorem MO.all{out:List (Int×DT)}{vis:List Nat}(h:∀i,i<Z out->i∈vis):MO out vis↔∃q∈out,q.2≠.leaf false:=by
 constructor
 .rintro⟨j,_,k,g⟩;exact⟨_,cF k,g⟩
 .rintro⟨q,m,g⟩;obtain⟨j,hj,rfl⟩:=oi.1 m;exact⟨j,h j hj,hj,g⟩
theorem W5{n:Nat}(hn:n<=12)(g:AD)(o:List DT)(w:Z o=Z g.AE)(G:∀t∈o,FV n t)(z:FV n (tr g.fam))(N:Valid g.fam)(k:Fits g)(ch:Bool):
  BL prog 65 [.ptr 0 1 0 0,.ptr 1 1 0 0] [Gy g o,.row J 1 [.d (.bool ch)]] (y6 n g o ch):=by
 refine Ks func65 (by kernel_rfl) rfl (by simp) λwf P=>?_;rw[ntmps65];refine AW.SD 2 7 ?_ ⟨rfl,rfl,rfl,?_⟩ ⟨rfl,rfl,rfl,?_⟩ λK E=>?_
 .simp
 .simp
 .simp
 refine GW.op ?_ ?_
 .simp
 simp;refine GW.Ih (bQ hn g o w G z N k) [0] rfl ?_ ?_ ?_
 .simp[Gy]
 .rintro v H ⟨out,_,_,rfl,rfl⟩;simp
 rintro v H ⟨out,A,L,rfl,rfl⟩;have B:=L;simp[Gy];refine GW.range (es:=BT (D.int .i64) vT out) rfl ?_ λq=>?_
 .simp
 refine E (BT (D.int .i64) vT out) (λq vis tm S=>tm 1=.ptr 1 1 0 0/\tm 7=.d (.raw (.pointer (some ⟨q,0,none⟩)))/\yR g o (MO out vis) ch [mI out] S) q _ _ ?_ ⟨?_,?_,?_⟩
 .simp[ER];exact⟨ch,by simp[MO],rfl⟩
 .rintro q vis tm S ⟨_,s,F,_,rfl⟩;exact⟨rfl,s⟩
 .rintro q vis tm S i hi ⟨u,s,F,j,rfl⟩ Q;have M:i<Z out:=by simpa[BT]using hi
  obtain⟨a,t,h⟩:∃a t,out[i]=(a,t):=⟨_,_,rfl⟩;have R:(BT (D.int .i64) vT out)[i]=(.int .i64 a,vT t):=by simp[BT,h]
  have m:(Ch t).root=0↔t=.leaf false:=J5 (A (a,t) (by rw[<-h];exact cF M)).G9;have C:=MO.add (vis:=vis) M h;unfold Gy mI;simp[R,vT];refine xJ ?_;simp;refine CO ?_;simp[s];refine xJ ?_;simp;refine CO ?_;refine H9 λK E=>?_;refine xJ ?_;simp[u];cases F with
  |true=>
   refine xJ ?_;simp;refine CO (E _ _ ?_);refine⟨_,_,ne 3 (by simp),by simp[clean,u],by simp[clean,s],?_⟩;exact⟨J,by rw[C,<-or_assoc,<-j];simp,by simp[Gy]⟩
  |false=>
   refine xJ ?_;simp;refine CO (E _ _ ?_);refine⟨_,_,ne 3 (by simp),by simp[clean,u],by simp[clean,s],?_⟩;exact⟨((Ch t).root !=0),by rw[C,<-or_assoc,<-j];simp[m],by simp[Gy]⟩
 .rintro q vis tm S ⟨u,s,F,j,rfl⟩ T;refine xJ ?_;simp;refine CO ⟨by simp,?_⟩;refine⟨_,_,ea 2 rfl (by simp) (by simp) (by simp[Gy]),by simp,.CA [],_,⟨rfl,F,by rw[j,MO.all (λi hi=>T i (by simpa[BT]using hi)),B],rfl⟩,.inr ⟨by simp,rfl⟩⟩
theorem SN{a:Act}{t:Nat}{v:Value}(h:t<a.tmps.size):(a.put (some t) v).eval (.tmp t)=v:=by
 simp[Act.put,Act.eval,h]
theorem Sj{a:Act}{t:Option Nat}{v:Value}:(a.put t v).tmps.size=a.tmps.size:=by cases t<;>simp[Act.put]
theorem Sw{a:Act}{t:Option Nat}{v:Value}:(a.put t v).defers=a.defers:=by cases t<;>rfl
theorem dN:fz prog 152:=by
 refine⟨by kernel_rfl,λcap w=>?_⟩;refine callsD_of_wpS func152 rfl λu k q=>?_;rw[ntmps152];have h:recoverD (u::k)=none:=by simp[recoverD,q]
 refine wpS_seq (wpS_region ?_);rw[show kv _=[0,1]from rfl];have hb:∀m z k args,builtin .recover m z k args=pure .recover:=λ_ _ _ _=>rfl;simp[wpOpsS,Region.wanted,execOp,resolve,h,Exit.thenS,Oper.upon,invoke,hb];generalize ha:({tmps:=cap++Array.replicate (17 - cap.size) undef,defers:=[]}:Act)=a;have A:17<=a.tmps.size:=by rw[<-ha];simp;omega
 have o:a.defers=[]:=by rw[<-ha]
 rw[SN (by omega)];generalize g:(a.put (some 4) ae8).put (some 1) ae8=i;have s:17<=i.tmps.size:=by rw[<-g,Sj,Sj];exact A
 have j:i.defers=[]:=by rw[<-g,Sw,Sw,o]
 have h1:i.eval (.tmp 1)=.nilIface:=by rw[<-g,SN (by rw[Sj];omega)]
 refine wpS_seq (wpS_region ?_);rw[show kv _=[0,1]from rfl];have B:=run_neq_nil_nil (P:=prog) (w:=w) 20 (by kernel_rfl);have C:(i.put (some 5) ae8).eval (.tmp 5)=.nilIface:=SN (by omega);have E:∀v,(i.put (some 5) ae8).eval (.const v)=v:=λv=>rfl;simp[wpOpsS,Region.wanted,execOp,Exit.thenS,Oper.upon,h1,C,E,B,eqGuard];refine wpS_cond (t:=false) (SN (by rw[Sj];omega)) ?_;simp;refine wpS_of_wp (wp_skip ?_);refine⟨by rw[Sw,Sw,j],.returning,?_,_,IN (vs:=[]) rfl,⟨_,rfl⟩,rfl,rfl⟩;rw[<-q]
def sk:Token:=⟨.empty,0,.empty,[],.empty,⟨[],0⟩⟩
structure uM(g:AD):Prop where
 nw:Z g.conds<=12
 fam:Valid g.fam/\FV (Z g.conds) (tr g.fam)
 tok:∀t∈g.AU,Valid t.cond/\FV (Z g.conds) (tr t.cond)
 prod:∀p∈g.AE,Valid p.cond/\FV (Z g.conds) (tr p.cond)
 sym:∀p∈g.AE,∀s∈p.right,s.token=J->0<=s.index/\s.index<Z g.AU
 ya:Z g.AE<=65536
 fits:Fits g
noncomputable def L4(g:AD)(t:DT)(s:Symbol):DT:=if s.token then Ij t (tr (g.AU.getD s.index.toNat sk).cond)else t
noncomputable def pT(g:AD)(p:AM)(l:List Symbol):DT:=l.foldl (L4 g) (Ij (tr g.fam) (tr p.cond))
noncomputable def Vv(g:AD):List DT:=g.AE.map λp=>pT g p p.right
theorem KV{n:Nat}(hn:n<=12){a b:AO}{s t:DT}(ha:Ch s=a)(hb:Ch t=b)(g:FV n s)(h:FV n t):Dn and a b=(Ch (Ij s t),0)/\FV n (Ij s t):=by
 obtain⟨h1,_,i⟩:=Eo GZ hn g h;exact⟨by rw[<-ha,<-hb];exact i,h1⟩
theorem jS{g:AD}(h:uM g){p:AM}(k:p∈g.AE){t:DT}(i:FV (Z g.conds) t){s:Symbol}(m:s∈p.right):FV (Z g.conds) (L4 g t s):=by
 unfold L4;split
 .next o=>
  obtain⟨h0,h1⟩:=h.sym p k s m o;have j:s.index.toNat<Z g.AU:=by omega
  have e:g.AU.getD s.index.toNat sk=g.AU[s.index.toNat]:=by simp[List.getD,j]
  rw[e];exact(Eo GZ h.nw i (h.tok _ (cF j)).2).1
 .exact i
theorem pc{g:AD}(h:uM g){p:AM}(j:p∈g.AE):∀l:List Symbol,(∀s∈l,s∈p.right)->FV (Z g.conds) (pT g p l):=by
 intro l;have key:∀(l:List Symbol) (t:DT),FV (Z g.conds) t->(∀s∈l,s∈p.right)->FV (Z g.conds) (l.foldl (L4 g) t):=by
  intro l;induction l with
  |nil=>intro t i _;exact i
  |cons s l m=>intro t i k;exact m _ (jS h j i (k s (by simp))) λx o=>k x (by simp[o])
 exact key l _ (Eo GZ h.nw h.fam.2 (h.prod p j).2).1
theorem oR(g:AD)(p:AM){l:List Symbol}{i:Nat}(hi:i<Z l):pT g p (l.take (i+1))=L4 g (pT g p (l.take i)) l[i]:=by
 unfold pT;rw[vj hi,abX];rfl
theorem sK{g:AD}(h:uM g):∀t∈Vv g,FV (Z g.conds) t:=λt i=>by
 obtain⟨p,j,rfl⟩:=fd.1 i;exact pc h j _ λ_ k=>k
noncomputable def lW(g:AD)(i:Nat):List DT:=(Vv g).take i
@[simp] theorem vP(g:AD):lW g 0=[]:=rfl
theorem kG(g:AD){i:Nat}(hi:i<Z g.AE):lW g (i+1)=lW g i++[pT g g.AE[i] g.AE[i].right]:=by
 have h:i<Z (Vv g):=by simpa[Vv]using hi
 unfold lW;rw[vj h];simp[Vv]
theorem X1{g:AD}{i:Nat}(hi:i<=Z g.AE):Z (lW g i)=i:=by simp[lW,Vv];omega
theorem nH(g:AD):lW g (Z g.AE)=Vv g:=by unfold lW;exact vq (by simp[Vv])
def So(g:AD):Prop:=gp (Z g.conds) g (Vv g)
def yl(g:AD)(e:Int)(ch:Bool)(v:V)(S':Sg):Prop:=v=.d (AF e)/\∃h:Bool,(h=J↔ch=J\/(e=0/\So g))/\S'=[.row J 1 [.d (.bool h)]]
noncomputable def mP(g:AD)(ch:Bool)(i:Nat):Sg:=
 [.row J 1 [.d (.bool ch)],.row J 9 [.d (AA g)],.row J 1 [.d (.int .i64 0)],.row (i !=0) 2 ((lW g i).map λt=>.d (AB (Ch t))),.row J 10 [.agg ((BE (AA g)).map V.d++[.row 3 i])]]
theorem Wo(g:AD)(e:Int)(hgc:Pure prog 151 [AA g] (AF e))(zo:e=0->uM g)(ch:Bool):
  BL prog 64 [.d (AA g),.fn (.func 65) [] [.ptr 0 1 0 0]] [.row J 1 [.d (.bool ch)]] (yl g e ch):=by
 refine BL.oG func64 rfl rfl (by simp) dN λwf wfs=>?_;rw[ntmps64];apply yV;simp;apply yS;apply yJ;simp;refine Bz (hgc) rfl (by simp[xN]) (yJ ?_);simp;apply yW;simp;apply AQ;simp;refine⟨λy9=>?_,λhe=>?_⟩
 .apply yW;simp;apply Am;refine⟨_,_,ap,?_,_,_,⟨rfl,ch,by simp[show e≠0 from by simpa using y9],rfl⟩,.inl ⟨.int .i64 e,_,?_,rfl,k6 1 (by simp)⟩⟩
  .simp
  .simp
 .have m:=zo he;apply B8;refine⟨_,⟨_,_,17,[.ptr 2 1 0 0],_,rfl,rfl,rfl,by simp,by simp,by simp,rfl,by simp,rfl,rfl,rfl⟩,?_⟩;apply yS;apply xO;simp;apply xO;simp;refine z0 (AJ.jE 19 9 2 (xs:=[]) rfl rfl) ?_;simp;apply yJ;simp;refine xS (yW ?_);simp;apply Bp;refine zL (Z g.AE) (λi tm S=>tm 1=.fn (.func 65) [] [.ptr 0 1 0 0]/\tm 2=.ptr 1 1 0 0/\tm 4=.ptr 2 1 0 0/\tm 6=.ptr 4 1 0 0/\tm 22=.d (Cd g.AE)/\tm 23=.d (AF (Z g.AE))/\tm 24=.d (AF i)/\S=mP g ch i) (by simp[mP]) ?_;rintro i tm S hi ⟨t1,t2,t4,t6,t22,t23,t24,rfl⟩;unfold mP;apply yW;simp[t23,t24];apply xC;simp;refine⟨λM=>?_,λzf=>?_⟩
  .have o:=cF M;have P:=(m.prod _ o);obtain⟨zO,zB⟩:=KV m.nw (EB m.fam.1) (EB P.1) m.fam.2 P.2;have hpt:=kG g M;have Q:=pc m o;have R:=m.sym _ o;have T:Z g.AE[i].right<=ao:=oq (UY m.fits o) (by decide);generalize hp:g.AE[i]=p at *;apply xK;apply xB;apply yW;simp[t22,t24,M,hp];apply yS;apply yJ;simp[t2];refine Bz (Nj g.fam p.cond) rfl (by simp[xN]) (yJ ?_);simp[zO];refine Bz (HR (Ch (Ij (tr g.fam) (tr p.cond)))) rfl (by simp[xN]) (yJ ?_);simp;refine xS (yW ?_);simp;apply Bp;refine FH (Z p.right) (λj h S=>h 1=.fn (.func 65) [] [.ptr 0 1 0 0]/\h 2=.ptr 1 1 0 0/\h 4=.ptr 2 1 0 0/\h 6=.ptr 4 1 0 0/\h 22=.d (Cd g.AE)/\h 23=.d (AF (Z g.AE))/\h 24=.d (AF i)/\h 8=.ptr 5 1 0 0/\h 9=.ptr 6 1 0 0/\h 37=.d (As p.right)/\h 38=.d (AF (Z p.right))/\h 39=.d (AF j)/\S=mP g ch i++[.row J 13 [.d (AG p)],.row J 2 [.d (AB (Ch (pT g p (p.right.take j))))]]) (i0:=0) (ed _) (by simp[mP,t1,t2,t4,t6,t22,t23,t24,AG,pT]) ?_;rintro j h S hj ⟨s1,s2,s4,w,z,C,E,s8,N,F,G,q,rfl⟩;unfold mP;apply yW;simp[G,q];apply xC;simp;refine⟨λH=>?_,λhge2=>?_⟩
   .have zp:=oR g p H;have U:=Q (p.right.take j) (λs hs=>abr hs);have hsy:=R _ (cF H);rw[zp];generalize hP:pT g p (p.right.take j)=A at *;generalize hy:p.right[j]=y at *;apply xK;apply xB;apply yW;simp[F,q,H,hy];apply yW;simp;apply AQ;simp;refine⟨λht=>?_,λht=>?_⟩
    .obtain⟨y0,y1⟩:=hsy ht;obtain⟨k,hk⟩:∃k:Nat,y.index=k:=⟨y.index.toNat,by omega⟩;have zA:k<Z g.AU:=by omega
     have W:=m.tok _ (cF zA);obtain⟨X,hb4⟩:=KV m.nw (rfl:Ch A=Ch A) (EB W.1) U W.2;have zb:L4 g A y=Ij A (tr g.AU[k].cond):=by
      unfold L4;rw[b8 ht,hk];simp[List.getD,zA]
     rw[zb];generalize hB:Ij A (tr g.AU[k].cond)=B at *;refine yE (A3 12 [25]) (by kernel_rfl) ?_;simp;apply yA 1;simp[N,s2,hk,zA];refine Bs (Nj (Ch A) g.AU[k].cond) rfl (by simp[xN]) ?_;simp[X];apply yA 1;simp;refine Bs (HR (Ch B)) rfl (by simp[xN]) ?_;simp;apply xX 4095 (by kernel_rfl);simp[N];apply xM;apply yV;simp[q];refine⟨H,_,_,ne 7 (by simp),?_⟩;simp[clean,s1,s2,s4,w,z,C,E,s8,N,F,G,AL H T]
    .apply B8;apply yV;simp[q];have zb:L4 g A y=A:=by unfold L4;rw[a9];simpa using ht
     rw[zb];refine⟨H,_,_,ne 7 (by simp),?_⟩;simp[clean,s1,s2,s4,w,z,C,E,s8,N,F,G,AL H T]
   .have hjl:j=Z p.right:=by omega
    subst hjl;rw[s9];generalize hA:pT g p p.right=A at *;have hi65:i<65536:=EQ M m.ya;have u:=X1 (g:=g) (i:=i) (by omega);apply Co;refine yE (A3 7 [15,16,18,21]) (by kernel_rfl) ?_;simp;have Y:i+1<=1073741824:=by omega
    apply yA 1;simp[w,N,ao];apply xX 5 (by kernel_rfl);simp[Aa,w,N,u,Y,ao];apply yA 1;simp;apply xX 125 (by kernel_rfl);simp[Aa,w];apply xM;apply yV;simp[E];refine⟨M,_,_,ne 5 (by simp),?_⟩;simp[clean,s1,s2,s4,w,z,C,AL M (oq m.ya (by decide)),hpt]
  .have zs:i=Z g.AE:=by omega
   subst zs;have u:=X1 (g:=g) (i:=Z g.AE) (ci _);rw[nH]at u⊢;have hps:=sK m;apply Co;refine io (fc 3 (xs:=(Vv g).map λt=>AB (Ch t)) rfl (Ck _ _ _)) ?_;refine io (AJ.TD 4 [.d (D0 g (Vv g))] rfl ?_) ?_
   .simp[D0,u]
   simp;refine io (C4 [0,1,2,4] (S0:=[.row J 1 [.d (.bool ch)],.row J 9 [.d (AA g)],.row J 1 [.d (.int .i64 0)],Gy g (Vv g)]) ?_ ?_ ?_) ?_
   .simp[Gy]
   .simp
   .rfl
   generalize K:pick _ _=L;have u1:L 1=.fn (.func 65) [] [.ptr 0 1 0 0]:=by rw[<-K];simp[pick,t1];try decide
   have u4:L 4=.ptr 2 1 0 0:=by rw[<-K];simp[pick,t4];try decide
   have u6:L 6=.ptr 3 1 0 0:=by rw[<-K];simp[pick,t6];try decide
   unfold Gy;apply yS;apply yJ;simp[u1,u6];refine AY.Ih (W5 m.nw g (Vv g) (by simp[Vv]) hps m.fam.2 m.fam.1 m.fits ch) [3,0] rfl ?_ ?_ ?_
   .simp[Gy]
   .rintro v S0' ⟨rfl,c',_,rfl⟩;simp
   rintro v S0' ⟨rfl,c',hc',rfl⟩;simp[Gy];apply CO;apply yW;simp[u4];apply Am;subst he;refine⟨_,_,ap,?_,_,_,⟨rfl,c',by simpa[So]using hc',rfl⟩,.inl ⟨.int .i64 0,_,?_,rfl,k6 1 (by simp)⟩⟩
   .simp[u4]
   .simp[u4]
open Classical in
noncomputable def rh(g:AD)(e:Int):Int:=if e≠0 then e else if So g then 60 else 0
def yU(g:AD)(e:Int)(v:V)(S':Sg):Prop:=S'=[]/\v=.d (AF (rh g e))
theorem Z1(g:AD)(e:Int)(k:Pure prog 151 [AA g] (AF e))(s:e=0->uM g):BL prog 22 [.d (AA g)] [] (yU g e):=by
 refine zR func22 14 rfl λwf t=>?_;apply yW;simp;apply yW;simp;(repeat apply xS);apply yT;apply yJ;simp;refine AY.Ih (Wo g e k s am) [1] rfl ?_ ?_ ?_
 .simp
 .rintro v m ⟨rfl,q,_,rfl⟩;simp
 rintro v m ⟨rfl,q,j,rfl⟩;simp;apply yJ;simp;cases q with
 |true=>
  obtain⟨u,o⟩:e=0/\So g:=by simpa using j
  subst u;have i:rh g 0=60:=by simp[rh,o]
  refine xS (yW ?_);simp;apply AQ;simp;apply yW;simp;apply Am;refine⟨_,_,ap,by simp,_,_,⟨rfl,mn (λx=>V.d (AF x)) i.symm⟩,.inl ⟨.int .i64 60,_,by simp,rfl,fi 0 rfl (by simp)⟩⟩
 |false=>
  have i:rh g e=e:=by
   have:¬(e=0/\So g):=by simpa using j
   unfold rh;by_cases h:e=0
   .rw[a9 (by simp[h]),a9 (λw=>this ⟨h,w⟩),h]
   .rw[b8 h]
  refine xS (yW ?_);simp;apply AQ;simp;apply xK;apply yW;simp;apply Am;refine⟨_,_,ap,by simp,_,_,⟨rfl,mn (λx=>V.d (AF x)) i.symm⟩,.inl ⟨.int .i64 e,_,by simp,rfl,fi 0 rfl (by simp)⟩⟩
open Go.Proofs DT
def M5(g:AD)(N:Int->Bool)(r:Int->Nat):Prop:=
 (∀p∈g.AE,DL p.right=am->(∀s∈p.right,N s.index=J)->N p.left=J)/\∀p∈g.AE,∀j (hj:j<Z p.right),p.right[j].token=am->DL (Dq p.right j)=am->(∀s∈Dq p.right j,N s.index=J)->r p.left<r p.right[j].index
def N7(N:Int->Bool)(m:List (Int×DT)):Prop:=∀x,DP m x≠.leaf am->N x=J
theorem NW{N:Int->Bool}{m:List (Int×DT)}(i:N7 N m):∀(l:List Symbol) {t:DT},IA m t l≠.leaf am->∀s∈l,s.token=am->N s.index=J
 |[],_,_=>λs g=>by simp at g
 |a::l,t,h=>by
  have e:IA m t (a::l)=IA m (stepT m t a) l:=rfl;rw[e]at h;intro s g j;rcases ge.1 g with rfl|g
  .refine abk λhn=>h ?_;have h0:DP m s.index=.leaf false:=abk λo=>hn (i _ o);have:stepT m t s=.leaf false:=by
    unfold stepT;split
    .rw[h0];exact qY t
    .next k=>simp[j,true_and,ne_eq,Decidable.not_not]at k;exact k
   rw[this];exact db m l
  .exact NW i l h s g j
theorem Ni{l:List Symbol}(h:DL l=am):∀s∈l,s.token=false:=λs g=>by
 have:=E2.1 h s g;simpa using this
theorem WI{g:AD}{N:Int->Bool}{r:Int->Nat}(o:M5 g N r){s:List (Int×DT)×Bool}(h:N7 N s.1){p:AM×DT}(q:p.1∈g.AE):N7 N (GB J s p).1:=by
 unfold GB;split
 .exact h
 .next hn=>
  have k:DL p.1.right=false:=by simpa using hn
  unfold KB;split
  .exact h
  .next t=>
   split
   .exact h
   .intro x j;simp[JP]at j;split at j
    .next e=>
     subst e;exact o.1 _ q k λm i=>NW h _ t m i (Ni k m i)
    .exact h x j
theorem OM{g:AD}{N:Int->Bool}{r:Int->Nat}(i:M5 g N r):∀(l:List (AM×DT)) {s:List (Int×DT)×Bool},(∀p∈l,p.1∈g.AE)->N7 N s.1->N7 N (D3 J l s).1
 |[],_,_,h=>h
 |p::l,s,j,h=>OM i l (s:=GB J s p) (λq k=>j q (by simp[k])) (WI i h (j p (by simp)))
theorem RO{g:AD}{N:Int->Bool}{r:Int->Nat}(i:M5 g N r){l:List (AM×DT)}(j:∀p∈l,p.1∈g.AE):∀(f:Nat) {m:List (Int×DT)},N7 N m->N7 N (Qt J l f m)
 |0,_,h=>h
 |f+1,m,h=>by
  have h1:=OM i l (s:=(m,am)) j h;unfold Qt;split
  .exact RO i j f h1
  .exact h1
theorem dg{g:AD}{N:Int->Bool}{r:Int->Nat}(h:M5 g N r)(n:Nat)(i:List DT):N7 N (sI n J g i):=
 RO h (λ_ j=>(adN j).1) _ λx k=>absurd (Ow x) k
theorem Jw.lt{g:AD}{N:Int->Bool}{r:Int->Nat}(o:M5 g N r){n:Nat}{m:List DT}{i j:Nat}{c:Int->Bool}{a b:Int}(h:Jw g m (sI n J g m) i j c a b):r a<r b:=by
 obtain⟨z,u,_,h1,v,rfl,w,rfl,k⟩:=h;unfold dX at k;split at k
 .simp[DT.B9]at k
 .next hn=>
  have q:=by simpa using hn
  exact o.2 _ (cF h1) u v w q λs t=>NW (dg o n m) _ (λe=>by rw[e]at k;simp[DT.B9]at k) s t (Ni q s t)
theorem M5.none{g:AD}{N:Int->Bool}{r:Int->Nat}(i:M5 g N r):¬So g:=by
 rintro⟨j,_,c,_,k⟩;have:∀y,Vx (Jw g (Vv g) (sI (Z g.conds) J g (Vv g)) (Z g.AE) 0 c) (j:Int) y->r j<r y:=λy m=>by
  induction m with
  |one h=>exact Jw.lt i h
  |more _ _ h o=>exact Nat.lt_trans o (Jw.lt i h)
 exact absurd (this _ k) (adf _)
theorem XY.wj{g:AD}(h:XY g):M5 g (λ_=>am) (λ_=>0):=by
 refine⟨λp o _ q=>?_,λp o j hj u _ q=>?_⟩
 .cases k:p.right with
  |nil=>exact absurd k (h p o).1
  |cons s l=>exact absurd (q s (by simp[k])) (by simp)
 .have i:Z (Dq p.right j)=Z p.right - 1:=by simp[Dq];omega
  cases k:Dq p.right j with
  |nil=>
   rw[k]at i;simp at i;have v:Z p.right=1:=by omega
   obtain⟨s,m⟩:=List.length_eq_one_iff.1 v;have w:=(h p o).2 s m;have t:j=0:=by omega
   subst t;have e:p.right[0]=s:=by simp[m]
   rw[e,w]at u;cases u
  |cons s l=>exact absurd (q s (by rw[k];simp)) (by simp)
@[simp] theorem wD(a:Array UInt8):ByteArray.size ⟨a⟩=a.size:=rfl
theorem LD(s:ByteArray):s=⟨#[]⟩↔s.size=0:=by
 obtain⟨a⟩:=s;simp
def MZ(p:AM):Bool:=decide (16<Z p.right)||decide (16<Z p.layout)
theorem Y0(p:AM):Pure prog 246 [AG p] (.bool (MZ p)):=by
 refine zP func246 11 rfl λwf=>?_;apply yW;simp;apply yW;simp[AG];apply zT;simp[MZ];rw[gI];simp;split<;>omega
def Cz(g:AD):Bool:=decide (64<Z g.conds)||decide (256<Z g.AU)||decide (4096<Z g.AT)||decide (2000<Z g.Ay)||decide (2000<Z g.AE)||decide (2000<Z g.levels)||g.AE.any MZ
theorem dc(g:AD):Pure prog 203 [AA g] (.bool (Cz g)):=by
 refine zP func203 33 rfl λwf=>?_;apply yW;simp;refine xS (yW ?_);simp[AA];apply AQ;simp;refine⟨λh=>?_,λh=>?_⟩
 .apply yW;simp;refine Am ⟨_,_,ap,?_⟩;have:Cz g=true:=by unfold Cz;simp;left;omega
  simp[this]
 .intro v j;apply xK;refine xS (yW ?_);simp;apply AQ;simp;refine⟨λi=>?_,λi=>?_⟩
  .apply yW;simp;refine Am ⟨_,_,ap,?_⟩;have:Cz g=true:=by unfold Cz;simp;left;split at i<;>split at i<;>omega
   simp[this]
  .apply xK;(repeat apply xS);apply yT;apply yJ;simp;refine AY.Uw (MF g.AE MZ 246 [] [] λx _=>(Y0 x).call (by simp[BC,CZ])) rfl (by simp;try rfl) (yJ ?_);simp;apply zT;have k:¬(64<Z g.conds)/\¬(256<Z g.AU)/\¬(4096<Z g.AT)/\¬(2000<Z g.Ay)/\¬(2000<Z g.AE)/\¬(2000<Z g.levels):=by
    split at i<;>split at i<;>omega
   obtain⟨m,o,q,s,t,u⟩:=k;simp[Cz,m,o,q,s,t,u]
def Vl(c:Nat):Bool:=decide (97<=c/\c<=122)||decide (65<=c/\c<=90)||decide (c=95)
def SK(s:ByteArray)(i:Nat):Bool:=Vl (s.get! i).toNat||(decide (i≠0)&&decide (48<=(s.get! i).toNat/\(s.get! i).toNat<=57))
def isIdent(s:ByteArray):Bool:=decide (s.size≠0)&&(kv s.size).all (SK s)
abbrev ady:=@Bool.and_eq_false_iff
abbrev acs:=@List.all_eq_false
theorem Qs{s:ByteArray}{i:Nat}(hi:i<s.size)(h:SK s i=am):isIdent s=false:=by
 unfold isIdent;rw[ady];right;rw[acs];exact⟨i,by simpa using hi,by simp[h]⟩
theorem VD{s:ByteArray}(h:∀i,i<s.size->SK s i=J):isIdent s=decide (s.size≠0):=by
 unfold isIdent;have:(kv s.size).all (SK s)=true:=by rw[de];intro i hi;exact h i (by simpa using hi)
 rw[this,Bool.and_true]
theorem Gp(s:ByteArray):Pure prog 248 [.str s] (.bool (isIdent s)):=by
 refine ip func248 rfl rfl (by simp) λwf=>?_;have o:s.size<=ao:=by simpa[Bq,Da]using wf
 rw[ntmps248];apply yW;simp;refine xS (yW ?_);simp;apply Bp;refine zL s.size (λi tm S=>tm 0=.d (.str s)/\tm 7=.d (AF s.size)/\tm 8=.d (AF i)/\(∀k,k<i->SK s k=J)/\S=[]) (by simp) ?_;rintro i tm S hi ⟨t0,t7,t8,m,rfl⟩;apply yW;simp[t7,t8];apply xC;simp;refine⟨λg=>?_,λv=>?_⟩
 .have h0:(0:Int)<=(i:Int):=by omega
  apply xK;apply xB;apply yW;simp[t8];(repeat apply xS);apply yV;simp[t0,g];generalize q:(s.get! i).toNat=c;(repeat apply xS);refine H9 λK h=>?_;(repeat((refine Cg ?_ ?_);(focus(simp;try(first|omega|(simp +contextual;done)|grind);done));simp));refine CO (h _ _ ?_);(repeat apply xS);refine H9 λK h=>?_;(repeat((refine Cg ?_ ?_);(focus(simp;try(first|omega|(simp +contextual;done)|grind);done));simp));refine CO (h _ _ ?_);(repeat apply xS);refine qr (t:=!SK s i) ?_ (λhb=>?_) (λhb=>?_)
  .simp;rw[gI];simp[SK,Vl,q];omega
  .have j:SK s i=false:=by simpa using hb
   apply yW;simp;refine Am ⟨_,_,ap,?_⟩;(try simp);rw[Qs g j]
  .have j:SK s i=true:=by simpa using hb
   apply B8;apply yV;simp[t8];refine⟨g,_,_,ap,?_⟩;simp[t0,t7,AL g o];intro k u;by_cases e:k=i
   .subst e;exact j
   .exact m k (by omega)
 .apply Co;apply yW;simp[t0];apply zT;(try simp);rw[VD λk u=>m k (by omega)];rw[gI];simp[LD]
def E8(L:List ByteArray):O:=.map (BT D.str (λx=>.d (.bool x)) (L.map λs=>(s,J)))
theorem YN(a b:ByteArray):DY (.str a) (.str b)=decide (a=b):=by rw[gI];simp[DY]
section
variable {β:Type} {ev:β->V}
@[simp] theorem uG(l:List (ByteArray×β))(k:ByteArray):Cq (BT D.str ev l) (.str k)=(look l k).map ev:=Fe YN l k
@[simp] theorem tU(l:List (ByteArray×Bool))(k:ByteArray)(x:Bool):Ej (BT D.str (λx=>.d (.bool x)) l) (.str k) (.d (.bool x))=BT D.str (λx=>.d (.bool x)) (Cu l k x):=EA (ev:=λx=>V.d (.bool x)) YN l k x
@[simp] theorem pH(l:List (ByteArray×β)):BW (.one .str) (BT D.str ev l)=True:=eq_true (FJ (by intro a;simp[B1,B3]) l)
end
def Fm(L:List ByteArray)(s:ByteArray):Bool:=L.any λx=>decide (x=s)
@[simp] theorem ub{α β:Type}(ρ:Nat->Nat)(ek:α->D)(g:β->D)(l:List (α×β)):(BT ek (λx=>V.d (g x)) l).map (λp=>(p.1,BU ρ p.2))=BT ek (λx=>V.d (g x)) l:=by
 unfold BT;rw[md];rfl
def Q4(l:List ByteArray)(i:Nat):List ByteArray:=⟨#[]⟩::l.take i
theorem MJ(l:List ByteArray):Q4 l 0=[⟨#[]⟩]:=rfl
theorem MN{l:List ByteArray}{i:Nat}(hi:i<Z l):Q4 l (i+1)=Q4 l i++[l[i]]:=by
 unfold Q4;rw[vj hi];rfl
def YX(L:List ByteArray):Sg:=[E8 L,.row J 1 [.map 0]]
theorem L6:AH prog 247 [] [] (.fn (.func 272) [] [.ptr 1 1 0 0]) (YX [⟨#[]⟩]):=by
 refine zC func247 5 rfl λwf _=>?_;apply yW;simp;apply yW;simp;apply yW;simp;apply Am;refine⟨_,rr (S':=YX [⟨#[]⟩]) rfl,?_⟩;simp[At]
abbrev ab3:=@decide_eq_false
abbrev adi:=@Bool.false_or
theorem Y8(L:List ByteArray)(s:ByteArray):(look (L.map λs=>(s,J)) s)=if Fm L s then some J else none:=by
 induction L with
 |nil=>rfl
 |cons x L g=>
  rw[ii,Cl,g];by_cases h:x=s
  .simp[Fm,h]
  .have i:decide (x=s)=false:=ab3 h;unfold Fm;rw[ad1,i,adi];simp[h]
theorem Kx(L:List ByteArray)(s:ByteArray):AH prog 272 [.d (.str s),.ptr 1 1 0 0] (YX L) (.d (.bool (!Fm L s))) (YX (if Fm L s then L else L++[s])):=by
 have g:=Y8 L s;refine zC func272 9 rfl λwf _=>?_;unfold YX E8;cases i:Fm L s with
 |true=>
  rw[i]at g;simp at g;apply yW;simp;refine xS (yW ?_);simp[g];apply AQ;simp;apply yW;simp;apply Am;refine⟨_,ap,?_⟩;simp[At]
 |false=>
  rw[i]at g;have h:Cu (L.map λs=>(s,J)) s J=(L++[s]).map λs=>(s,J):=by rw[L5 _ (by simpa using g)];simp
  apply yW;simp;refine xS (yW ?_);simp[g];apply AQ;simp;apply xK;apply yW;simp[h];apply yW;simp;apply Am;refine⟨_,ap,?_⟩;simp[At]
theorem jR(x:Al)(n:Int):AH prog 274 [.d (AZ x),.ptr 0 1 0 0] [.row J 1 [.d (.int .i64 n)]] (.d (.bool (decide (n<=x.var)))) [.row J 1 [.d (.int .i64 n)]]:=by
 refine zC func274 8 rfl λwf _=>?_;apply yW;simp;apply yW;simp[AZ];apply Am;refine⟨_,k6 1 (by simp),?_⟩;simp[At,clean]
noncomputable def Cp(d:AO)(n:Int):Bool:=decide (HL d=0)&&!d.nodes.any λx=>decide (n<=x.var)
theorem Mb(d:AO)(n:Int):Pure prog 249 [AB d,AF n] (.bool (Cp d n)):=by
 refine zP func249 13 rfl λwf=>?_;apply yW;simp;refine xS (yS ?_);apply yJ;simp;refine Bz (Mc d) rfl (by simp[xN]) (yJ ?_);simp;apply AQ;simp;refine⟨λh=>?_,λh=>?_⟩
 .apply yW;simp;refine Am ⟨_,_,ap,?_⟩;simp[Cp,h]
 .apply xK;(repeat apply xS);apply yT;apply yJ;simp[AB];refine xF (K9 d.nodes (λx=>decide (n<=x.var)) 274 [.ptr 0 1 0 0] [.row J 1 [.d (.int .i64 n)]] λx _=>jR x n) [1] rfl ?_;simp;apply yJ;simp;apply zT;simp[Cp,h]
theorem BZ.below{N:List Al}{n:Nat}(m:∀b∈N,b.var<n):∀{t:DT} {k:Int},BZ N t k->t.Below n:=by
 intro t;induction t with
 |leaf b=>intro _ _;trivial
 |node v l h g i=>
  intro k o;obtain⟨j,_,lo,hi,h1,q,s⟩:=o;exact⟨by simpa using m _ (pu h1),g q,i s⟩
theorem FL{d:AO}{n:Nat}(h:Cp d n=J):Valid d/\FV n (tr d):=by
 unfold Cp at h;simp[Int.not_le]at h;have g:=NQ h.1;refine⟨g,Ko d,?_⟩;have i:=Fw (tr d);rw[EB g]at i;exact i.below λb hb=>by simpa using h.2 b hb
def DI:List ByteArray->List ByteArray->Bool
 |_,[]=>J
 |L,s::l=>!Fm L s&&DI (L++[s]) l
theorem dS(L:List ByteArray)(s:ByteArray):Fm L s=J↔s∈L:=by
 simp[Fm]
def IF(g:AD):Bool:=DI [⟨#[]⟩] g.Ay&&decide (0<=g.start)&&decide (g.start<Z g.Ay)
theorem HS:∀{l L:List ByteArray} {i:Nat} (hi:i<Z l),(∀k (h:k<i),Fm (L++l.take k) (l[k]'(by omega))=am)->Fm (L++l.take i) l[i]=J->DI L l=am
 |s::l,L,0,hi,_,h=>by simp at h;simp[DI,h]
 |s::l,L,i+1,hi,h0,h=>by
  have:DI (L++[s]) l=false:=HS (i:=i) (by simpa using hi) (λk g=>by simpa using h0 (k+1) (by omega)) (by simpa using h);simp[DI,this]
abbrev ac8:=@List.take_succ_cons
theorem Ga:∀{l L:List ByteArray},(∀k (h:k<Z l),Fm (L++l.take k) l[k]=am)->DI L l=J
 |[],_,_=>rfl
 |s::l,L,h=>by
  have h1:Fm L s=false:=by have:=h 0 (by simp);rw[List.take_zero,NE]at this;exact this
  have g:DI (L++[s]) l=true:=Ga λk i=>by
   have:=h (k+1) (by simpa using i);rw[ac8]at this;rw[abC];exact this
  simp[DI,h1,g]
theorem Us(g:AD):Pure prog 206 [AA g] (AF (if IF g then 0 else 50)):=by
 refine ip func206 rfl rfl (by simp) λwf=>?_;have z:Z g.Ay<=ao:=by simp[Bq,Da,AA]at wf;exact wf.2.2.2.2.1.1
 rw[ntmps206];apply yW;simp;apply yS;apply yJ;simp;refine xF (L6) [] rfl ?_;simp;apply yJ;simp;refine xS (yW ?_);simp[AA];apply Bp;refine zL (Z g.Ay) (λi tm S=>tm 1=.ptr 0 1 0 0/\tm 3=.fn (.func 272) [] [.ptr 2 1 0 0]/\tm 8=.d (Bv g.Ay)/\tm 9=.d (AF (Z g.Ay))/\tm 10=.d (AF i)/\(∀k (h:k<i) (E:k<Z g.Ay),Fm (Q4 g.Ay k) g.Ay[k]=am)/\S=[.row J 9 [.d (AA g)],E8 (Q4 g.Ay i),.row J 1 [.map 1]]) (by simp[YX,E8,AA,MJ]) ?_;rintro i tm S hi ⟨t1,t3,t8,t9,t10,q,rfl⟩;apply yW;simp[t9,t10];apply xC;simp;refine⟨λm=>?_,λF=>?_⟩
 .have s:=Kx (Q4 g.Ay i) g.Ay[i];have u:=MN m;have A:=λh=>HS (L:=[⟨#[]⟩]) (l:=g.Ay) m (λk o=>q k o (by omega)) h;generalize w:Fm (Q4 g.Ay i) g.Ay[i]=hb at *;unfold E8;apply xK;apply xB;apply yW;simp[t8,t10,m];apply yS;apply yJ;simp[t3];refine xF (s) [1,2] rfl ?_;simp[YX,E8];apply yJ;simp;(repeat apply xS);refine qr (t:=hb) ?_ (λhb=>?_) (λhb=>?_)
  .simp
  .subst hb;apply yW;simp;refine Am ⟨_,_,ap,?_⟩;have:=A w;simp[IF,this]
  .subst hb;simp;apply B8;apply yV;simp[t10];refine⟨m,_,_,ap,?_⟩;simp[t1,t3,t8,t9,AL m z,u];intro k o v;by_cases e:k=i
   .subst e;exact w
   .exact q k (by omega) v
 .have B:i=Z g.Ay:=by omega
  subst B;have j:=Ga (L:=[⟨#[]⟩]) (l:=g.Ay) λk o=>q k o o;unfold E8;apply Co;(repeat apply xS);refine H9 λK C=>?_;(repeat((refine Cg ?_ ?_);(focus(simp[t1,AA];try(first|omega|(simp +contextual[t1,AA];done)|grind);done));simp[t1,AA]));refine CO (C _ _ ?_);(repeat apply xS);refine qr (t:=!(decide (0<=g.start)&&decide (g.start<Z g.Ay))) ?_ (λhb=>?_) (λhb=>?_)
  .simp;rw[gI];simp
  .apply yW;simp;refine Am ⟨_,_,ap,?_⟩;simp at hb;simp[IF,j];omega
  .apply xK;apply yW;simp;apply zT;simp at hb;simp[IF,j,hb]
noncomputable def E9(s:ByteArray):Bool:=isIdent s&&!decide (s=⟨#[116,114,117,101]⟩)&&!decide (s=⟨#[102,97,108,115,101]⟩)
noncomputable def Fu(g:AD):Bool:=g.conds.all E9&&DI [⟨#[]⟩] g.conds&&Cp g.fam (Z g.conds)&&!decide (g.fam.root=0)
theorem VQ(g:AD):Pure prog 204 [AA g] (AF (if Fu g then 0 else 54)):=by
 refine ip func204 rfl rfl (by simp) λwf=>?_;have F:Z g.conds<=ao:=by simp[Bq,Da,AA]at wf;exact wf.1.1
 rw[ntmps204];apply yW;simp;apply yS;apply yJ;simp;refine xF (L6) [] rfl ?_;simp;apply yJ;simp;refine xS (yW ?_);simp[AA];apply Bp;refine zL (Z g.conds) (λi tm S=>tm 1=.ptr 0 1 0 0/\tm 3=.fn (.func 272) [] [.ptr 2 1 0 0]/\tm 8=.d (Bv g.conds)/\tm 9=.d (AF (Z g.conds))/\tm 10=.d (AF i)/\(∀k (h:k<i) (M:k<Z g.conds),E9 g.conds[k]=J/\Fm (Q4 g.conds k) g.conds[k]=am)/\S=[.row J 9 [.d (AA g)],E8 (Q4 g.conds i),.row J 1 [.map 1]]) (by simp[YX,E8,AA,MJ]) ?_;rintro i tm S hi ⟨t1,t3,t8,t9,t10,z,rfl⟩;apply yW;simp[t9,t10];apply xC;simp;refine⟨λv=>?_,λN=>?_⟩
 .have A:=Kx (Q4 g.conds i) g.conds[i];have B:=MN v;have G:=λh=>HS (L:=[⟨#[]⟩]) (l:=g.conds) v (λk s=>(z k s (by omega)).2) h;have q:E9 g.conds[i]=am->Fu g=false:=λh=>by
   have:g.conds.all E9=false:=by
    rw[acs];exact⟨_,cF v,by simp[h]⟩
   simp[Fu,this]
  generalize E:Fm (Q4 g.conds i) g.conds[i]=hb at *;unfold E8;apply xK;apply xB;(repeat apply xS);apply yV;simp[t8,t10,v];by_cases j:g.conds[i]=⟨#[116,114,117,101]⟩<;>by_cases m:g.conds[i]=⟨#[102,97,108,115,101]⟩<;>cases o:isIdent g.conds[i]
  .
   apply yS;apply yJ;simp;refine Bz (Gp g.conds[i]) rfl (by simp[xN]) (yJ ?_);simp[j,ao,t3];((refine FD rfl (by simp;try rfl) ?_);simp);apply yJ;simp;apply AQ;simp;apply yW;simp;refine Am ⟨_,_,ap,?_⟩;simp[q (by simp[E9,j])]
  .
   apply yS;apply yJ;simp;refine Bz (Gp g.conds[i]) rfl (by simp[xN]) (yJ ?_);simp[j,ao,t3];((refine FD rfl (by simp;try rfl) ?_);simp);apply yJ;simp;apply AQ;simp;apply yW;simp;refine Am ⟨_,_,ap,?_⟩;simp[q (by simp[E9,j])]
  .
   apply yS;apply yJ;simp;refine Bz (Gp g.conds[i]) rfl (by simp[xN]) (yJ ?_);simp[j,ao,t3];((refine FD rfl (by simp;try rfl) ?_);simp);apply yJ;simp;apply AQ;simp;apply yW;simp;refine Am ⟨_,_,ap,?_⟩;simp[q (by simp[E9,j])]
  .
   apply yS;apply yJ;simp;refine Bz (Gp g.conds[i]) rfl (by simp[xN]) (yJ ?_);simp[j,ao,t3];((refine FD rfl (by simp;try rfl) ?_);simp);apply yJ;simp;apply AQ;simp;apply yW;simp;refine Am ⟨_,_,ap,?_⟩;simp[q (by simp[E9,j])]
  .
   apply yS;apply yJ;simp;refine Bz (Gp g.conds[i]) rfl (by simp[xN]) (yJ ?_);simp[m,ao,t3];((refine FD rfl (by simp;try rfl) ?_);simp);apply yJ;simp;apply AQ;simp;apply yW;simp;refine Am ⟨_,_,ap,?_⟩;simp[q (by simp[E9,m])]
  .
   apply yS;apply yJ;simp;refine Bz (Gp g.conds[i]) rfl (by simp[xN]) (yJ ?_);simp[m,ao,t3];((refine FD rfl (by simp;try rfl) ?_);simp);apply yJ;simp;apply AQ;simp;apply yW;simp;refine Am ⟨_,_,ap,?_⟩;simp[q (by simp[E9,m])]
  .
   apply yS;apply yJ;simp;refine Bz (Gp g.conds[i]) rfl (by simp[xN]) (yJ ?_);simp[o,j,m,ao,t3];((refine FD rfl (by simp;try rfl) ?_);simp);apply yJ;simp;apply AQ;simp;apply yW;simp;refine Am ⟨_,_,ap,?_⟩;simp[q (by simp[E9,o,j,m])]
  .apply yS;apply yJ;simp;refine Bz (Gp g.conds[i]) rfl (by simp[xN]) (yJ ?_);simp[o,j,m,ao,t3];refine AY.LQ (A) [1,2] rfl rfl (by simp[YX,E8];try rfl) (yJ ?_);simp[YX,E8];(repeat apply xS);refine qr (t:=hb) ?_ (λhb=>?_) (λhb=>?_)
   .simp
   .subst hb;apply yW;simp;refine Am ⟨_,_,ap,?_⟩;have:=G E;simp[Fu,this]
   .subst hb;simp;apply B8;apply yV;simp[t10];refine⟨v,_,_,ap,?_⟩;simp[t1,t3,t8,t9,AL v F,B];intro k s C;by_cases e:k=i
    .subst e;exact⟨by simp[E9,o,j,m],E⟩
    .exact z k (by omega) C
 .have H:i=Z g.conds:=by omega
  subst H;have u:=Ga (L:=[⟨#[]⟩]) (l:=g.conds) λk s=>(z k s s).2;have w:g.conds.all E9=true:=by
   rw[de];intro x K;obtain⟨k,s,rfl⟩:=oi.1 K;exact(z k s s).1
  unfold E8;apply Co;refine xS (yS ?_);(repeat((refine Cg ?_ ?_);(focus(simp[t1,AA];try(first|omega|(simp +contextual[t1,AA];done)|grind);done));simp[t1,AA]));refine Bz (Mb g.fam (Z g.conds)) rfl (by simp[AB]) ?_;simp;(repeat((refine Cg ?_ ?_);(focus(simp[t1];try(first|omega|(simp +contextual[t1,AA];done)|grind);done));simp[t1]));apply CO;(repeat apply xS);refine qr (t:=!Cp g.fam (Z g.conds)||g.fam.root==0) ?_ (λhb=>?_) (λhb=>?_)
  .simp
  .apply yW;simp;refine Am ⟨_,_,ap,?_⟩;simp at hb;simp[Fu,u,w];grind
  .simp at hb;apply xK;apply yW;simp;apply zT;simp[Fu,u,w,hb]
end Go.Koi
