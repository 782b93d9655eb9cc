/-
  Part 10 of the proof that the law ChangeRestricts returns true for every input.
-/
import Derived.Test.YtbpjppgjnkklnaaGreatDoorG08
import Derived.WideLaws
set_option maxHeartbeats 64000000
set_option maxRecDepth 100000
open List renaming length->Z,range->i6
open Go.Value renaming nilIface->ae9
open Bool renaming true->J,false->ap
namespace Go.Koi
open Go renaming maxLen->a8
open Go.Proofs Tryz DT
def yq(g:AE)(i:List DT)(X:Prop)(j:Bool)(T:Sg)(S':Sg):Prop:=∃h:Bool,(h=J↔j=J\/X)/\S'=[Gj g i,.row J 1 [.d (.bool h)]]++T
def zX(n:Nat)(g:AE)(h:List DT)(i:Bool)(v:V)(S':Sg):Prop:=v=.CX []/\yq g h (gz n g h) i [] S'
def Ly(out:List (Int×DT))(vis:List Nat):Prop:=∃j∈vis,∃hj:j<Z out,out[j].2≠.leaf ap
theorem Ly.add{out:List (Int×DT)}{vis:List Nat}{i:Nat}{a:Int}{t:DT}(hi:i<Z out)(h:out[i]=(a,t)):Ly out (vis++[i])↔Ly out vis\/t≠.leaf false:=by
 constructor
 .rintro⟨j,hj,k,g⟩;rcases fi.1 hj with hj|hj
  .exact .inl ⟨j,hj,k,g⟩
  .simp at hj;subst hj;rw[h]at g;exact .inr g
 .rintro(⟨j,hj,k,g⟩|g)
  .exact⟨j,acj _ hj,k,g⟩
  .exact⟨i,acR _ (by simp),hi,by rw[h];exact g⟩
theorem Ly.all{out:List (Int×DT)}{vis:List Nat}(h:∀i,i<Z out->i∈vis):Ly out vis↔∃q∈out,q.2≠.leaf false:=by
 constructor
 .rintro⟨j,_,k,g⟩;exact⟨_,cL k,g⟩
 .rintro⟨q,m,g⟩;obtain⟨j,hj,rfl⟩:=lm.1 m;exact⟨j,h j hj,hj,g⟩
theorem Vv{n:Nat}(U:n<=12)(g:AE)(o:List DT)(A:Z o=Z g.AD)(P:∀t∈o,FE n t)(B:FE n (tr g.fam))(C:Valid g.fam)(k:Fits g)(L:Bool):
  BH prog 59 [.ptr 0 1 0 0,.ptr 1 1 0 0] [Gj g o,.row J 1 [.d (.bool L)]] (zX n g o L):=by
 refine BH.Aw func59 (by kernel_rfl) rfl (by simp) λwf W=>?_;rw[ntmps59];refine AW.RV 2 7 ?_ ⟨rfl,rfl,rfl,?_⟩ ⟨rfl,rfl,rfl,?_⟩ λK M=>?_
 .simp
 .simp
 .simp
 refine GF.op ?_ ?_
 .simp
 simp;refine GF.Jq (Zw U g o A P B C k) [0] rfl ?_ ?_ ?_
 .simp[Gj]
 .rintro v Q ⟨out,_,_,rfl,rfl⟩;simp
 rintro v Q ⟨out,E,R,rfl,rfl⟩;have F:=R;simp[Gj];refine GF.range (es:=BV (D.int .i64) vT out) rfl ?_ λq=>?_
 .simp
 refine M (BV (D.int .i64) vT out) (λq vis tm S=>tm 1=.ptr 1 1 0 0/\tm 7=.d (.raw (.pointer (some ⟨q,0,none⟩)))/\yq g o (Ly out vis) L [mI out] S) q _ _ ?_ ⟨?_,?_,?_⟩
 .simp[Fk];exact⟨L,by simp[Ly],rfl⟩
 .rintro q vis tm S ⟨_,u,N,_,rfl⟩;exact⟨rfl,u⟩
 .rintro q vis tm S i hi ⟨w,u,N,j,rfl⟩ X;have G:i<Z out:=by simpa[BV]using hi
  obtain⟨a,t,h⟩:∃a t,out[i]=(a,t):=⟨_,_,rfl⟩;have T:(BV (D.int .i64) vT out)[i]=(.int .i64 a,vT t):=by simp[BV,h]
  have m:(Ce t).root=0↔t=.leaf false:=Jf (E (a,t) (by rw[<-h];exact cL G)).HF;have H:=Ly.add (vis:=vis) G h;unfold Gj mI;simp[T,vT];refine xJ ?_;simp;refine BY ?_;simp[u];refine xJ ?_;simp;refine BY ?_;refine FG λK M=>?_;refine xJ ?_;simp[w];cases N with
  |true=>
   refine xJ ?_;simp;refine BY (M _ _ ?_);refine⟨_,_,l6 3 (by simp),by simp[clean,w],by simp[clean,u],?_⟩;exact⟨J,by rw[H,<-or_assoc,<-j];simp,by simp[Gj]⟩
  |false=>
   refine xJ ?_;simp;refine BY (M _ _ ?_);refine⟨_,_,l6 3 (by simp),by simp[clean,w],by simp[clean,u],?_⟩;exact⟨((Ce t).root !=0),by rw[H,<-or_assoc,<-j];simp[m],by simp[Gj]⟩
 .rintro q vis tm S ⟨w,u,N,j,rfl⟩ Y;refine xJ ?_;simp;refine BY ⟨by simp,?_⟩;refine⟨_,_,fd 2 rfl (by simp) (by simp) (by simp[Gj]),by simp,.CX [],_,⟨rfl,N,by rw[j,Ly.all (λi hi=>Y i (by simpa[BV]using hi)),F],rfl⟩,.inr ⟨by simp,rfl⟩⟩
theorem TH{a:Act}{t:Nat}{v:Value}(h:t<a.tmps.size):(a.put (some t) v).eval (.tmp t)=v:=by
 simp[Act.put,Act.eval,h]
theorem Sk{a:Act}{t:Option Nat}{v:Value}:(a.put t v).tmps.size=a.tmps.size:=by cases t<;>simp[Act.put]
theorem TO{a:Act}{t:Option Nat}{v:Value}:(a.put t v).defers=a.defers:=by cases t<;>rfl
theorem gR:fW prog 154:=by
 refine⟨by kernel_rfl,λcap w=>?_⟩;refine callsD_of_wpS func154 rfl λA k q=>?_;rw[ntmps154];have h:recoverD (A::k)=none:=by simp[recoverD,q]
 refine wpS_seq (wpS_region ?_);rw[show i6 _=[0,1]from rfl];have hb:∀m B k args,builtin .recover m B k args=pure .recover:=λ_ _ _ _=>rfl;simp[wpOpsS,Region.wanted,execOp,resolve,h,Exit.thenS,Oper.upon,invoke,hb];generalize ha:({tmps:=cap++Array.replicate (17 - cap.size) undef,defers:=[]}:Act)=a;have C:17<=a.tmps.size:=by rw[<-ha];simp;omega
 have o:a.defers=[]:=by rw[<-ha]
 rw[TH (by omega)];generalize g:(a.put (some 4) ae9).put (some 1) ae9=i;have u:17<=i.tmps.size:=by rw[<-g,Sk,Sk];exact C
 have j:i.defers=[]:=by rw[<-g,TO,TO,o]
 have E:i.eval (.tmp 1)=.nilIface:=by rw[<-g,TH (by rw[Sk];omega)]
 refine wpS_seq (wpS_region ?_);rw[show i6 _=[0,1]from rfl];have F:=run_neq_nil_nil (P:=prog) (w:=w) 20 (by kernel_rfl);have G:(i.put (some 5) ae9).eval (.tmp 5)=.nilIface:=TH (by omega);have H:∀v,(i.put (some 5) ae9).eval (.const v)=v:=λv=>rfl;simp[wpOpsS,Region.wanted,execOp,Exit.thenS,Oper.upon,E,G,H,F,eqGuard];refine wpS_cond (t:=false) (TH (by rw[Sk];omega)) ?_;simp;refine wpS_of_wp (wp_skip ?_);refine⟨by rw[TO,TO,j],.returning,?_,_,GW (vs:=[]) rfl,⟨_,rfl⟩,rfl,rfl⟩;rw[<-q]
def qi:Token:=⟨.empty,0,.empty,[],.empty,⟨[],0⟩⟩
structure ta(g:AE):Prop where
 n12:Z g.conds<=12
 fam:Valid g.fam/\FE (Z g.conds) (tr g.fam)
 tok:∀t∈g.AT,Valid t.cond/\FE (Z g.conds) (tr t.cond)
 prod:∀p∈g.AD,Valid p.cond/\FE (Z g.conds) (tr p.cond)
 sym:∀p∈g.AD,∀s∈p.right,s.token=J->0<=s.index/\s.index<Z g.AT
 yO:Z g.AD<=65536
 fits:Fits g
noncomputable def MU(g:AE)(t:DT)(s:Symbol):DT:=if s.token then I7 t (tr (g.AT.getD s.index.toNat qi).cond)else t
noncomputable def pT(g:AE)(p:AO)(l:List Symbol):DT:=l.foldl (MU g) (I7 (tr g.fam) (tr p.cond))
noncomputable def VN(g:AE):List DT:=g.AD.map λp=>pT g p p.right
theorem KA{n:Nat}(g:n<=12){a b:AL}{s t:DT}(ha:Ce s=a)(hb:Ce t=b)(h:FE n s)(i:FE n t):Dl and a b=(Ce (I7 s t),0)/\FE n (I7 s t):=by
 obtain⟨j,_,k⟩:=Ex G5 g h i;exact⟨by rw[<-ha,<-hb];exact k,j⟩
theorem ik{g:AE}(h:ta g){p:AO}(k:p∈g.AD){t:DT}(i:FE (Z g.conds) t){s:Symbol}(m:s∈p.right):FE (Z g.conds) (MU g t s):=by
 unfold MU;split
 .next o=>
  obtain⟨h0,q⟩:=h.sym p k s m o;have j:s.index.toNat<Z g.AT:=by omega
  have e:g.AT.getD s.index.toNat qi=g.AT[s.index.toNat]:=by simp[List.getD,j]
  rw[e];exact(Ex G5 h.n12 i (h.tok _ (cL j)).2).1
 .exact i
theorem qB{g:AE}(h:ta g){p:AO}(j:p∈g.AD):∀l:List Symbol,(∀s∈l,s∈p.right)->FE (Z g.conds) (pT g p l):=by
 intro l;have key:∀(l:List Symbol) (t:DT),FE (Z g.conds) t->(∀s∈l,s∈p.right)->FE (Z g.conds) (l.foldl (MU g) t):=by
  intro l;induction l with
  |nil=>intro t i _;exact i
  |cons s l m=>intro t i k;exact m _ (ik h j i (k s (by simp))) λx o=>k x (by simp[o])
 exact key l _ (Ex G5 h.n12 h.fam.2 (h.prod p j).2).1
theorem mP(g:AE)(p:AO){l:List Symbol}{i:Nat}(hi:i<Z l):pT g p (l.take (i+1))=MU g (pT g p (l.take i)) l[i]:=by
 unfold pT;rw[pt hi,abU];rfl
theorem qm{g:AE}(h:ta g):∀t∈VN g,FE (Z g.conds) t:=λt i=>by
 obtain⟨p,j,rfl⟩:=g7.1 i;exact qB h j _ λ_ k=>k
noncomputable def k8(g:AE)(i:Nat):List DT:=(VN g).take i
@[simp] theorem vM(g:AE):k8 g 0=[]:=rfl
theorem jm(g:AE){i:Nat}(hi:i<Z g.AD):k8 g (i+1)=k8 g i++[pT g g.AD[i] g.AD[i].right]:=by
 have h:i<Z (VN g):=by simpa[VN]using hi
 unfold k8;rw[pt h];simp[VN]
theorem Yc{g:AE}{i:Nat}(hi:i<=Z g.AD):Z (k8 g i)=i:=by simp[k8,VN];omega
theorem nh(g:AE):k8 g (Z g.AD)=VN g:=by unfold k8;exact PP (by simp[VN])
def Rw(g:AE):Prop:=gz (Z g.conds) g (VN g)
def yw(g:AE)(e:Int)(i:Bool)(v:V)(S':Sg):Prop:=v=.d (encI e)/\∃h:Bool,(h=J↔i=J\/(e=0/\Rw g))/\S'=[.row J 1 [.d (.bool h)]]
noncomputable def lI(g:AE)(h:Bool)(i:Nat):Sg:=
 [.row J 1 [.d (.bool h)],.row J 9 [.d (AA g)],.row J 1 [.d (.int .i64 0)],.row (i !=0) 2 ((k8 g i).map λt=>.d (AB (Ce t))),.row J 10 [.agg ((BE (AA g)).map V.d++[.row 3 i])]]
theorem VQ(g:AE)(e:Int)(hgc:Pure prog 32 [AA g] (encI e))(zx:e=0->ta g)(C:Bool):
  BH prog 58 [.d (AA g),.fn (.func 59) [] [.ptr 0 1 0 0]] [.row J 1 [.d (.bool C)]] (yw g e C):=by
 refine BH.mG func58 rfl rfl (by simp) gR λwf wfs=>?_;rw[ntmps58];apply yV;simp;apply yS;apply yJ;simp;refine Bq (hgc) rfl (by simp[xN]) (yJ ?_);simp;apply yW;simp;apply AP;simp;refine⟨λzi=>?_,λhe=>?_⟩
 .apply yW;simp;apply Aj;refine⟨_,_,a9,?_,_,_,⟨rfl,C,by simp[show e≠0 from by simpa using zi],rfl⟩,.inl ⟨.int .i64 e,_,?_,rfl,j1 1 (by simp)⟩⟩
  .simp
  .simp
 .have o:=zx he;apply CF;refine⟨_,⟨_,_,17,[.ptr 2 1 0 0],_,rfl,rfl,rfl,by simp,by simp,by simp,rfl,by simp,rfl,rfl,rfl⟩,?_⟩;apply yS;apply xO;simp;apply xO;simp;refine vb (AI.dM 19 9 2 (xs:=[]) rfl rfl) ?_;simp;apply yJ;simp;refine xS (yW ?_);simp;apply Bo;refine zL (Z g.AD) (λi tm S=>tm 1=.fn (.func 59) [] [.ptr 0 1 0 0]/\tm 2=.ptr 1 1 0 0/\tm 4=.ptr 2 1 0 0/\tm 6=.ptr 4 1 0 0/\tm 22=.d (CJ g.AD)/\tm 23=.d (encI (Z g.AD))/\tm 24=.d (encI i)/\S=lI g C i) (by simp[lI]) ?_;rintro i tm S hi ⟨t1,t2,t4,t6,t22,t23,t24,rfl⟩;unfold lI;apply yW;simp[t23,t24];apply xC;simp;refine⟨λQ=>?_,λzu=>?_⟩
  .have q:=cL Q;have T:=(o.prod _ q);obtain⟨U,hb2⟩:=KA o.n12 (EE o.fam.1) (EE T.1) o.fam.2 T.2;have hpt:=jm g Q;have W:=qB o q;have X:=o.sym _ q;have Y:Z g.AD[i].right<=a8:=ms (Ug o.fits q) (by decide);generalize hp:g.AD[i]=p at *;apply xK;apply xB;apply yW;simp[t22,t24,Q,hp];apply yS;apply yJ;simp[t2];refine Bq (NL g.fam p.cond) rfl (by simp[xN]) (yJ ?_);simp[U];refine Bq (HD (Ce (I7 (tr g.fam) (tr p.cond)))) rfl (by simp[xN]) (yJ ?_);simp;refine xS (yW ?_);simp;apply Bo;refine FO (Z p.right) (λj h S=>h 1=.fn (.func 59) [] [.ptr 0 1 0 0]/\h 2=.ptr 1 1 0 0/\h 4=.ptr 2 1 0 0/\h 6=.ptr 4 1 0 0/\h 22=.d (CJ g.AD)/\h 23=.d (encI (Z g.AD))/\h 24=.d (encI i)/\h 8=.ptr 5 1 0 0/\h 9=.ptr 6 1 0 0/\h 37=.d (Ax p.right)/\h 38=.d (encI (Z p.right))/\h 39=.d (encI j)/\S=lI g C i++[.row J 13 [.d (AF p)],.row J 2 [.d (AB (Ce (pT g p (p.right.take j))))]]) (i0:=0) (er _) (by simp[lI,t1,t2,t4,t6,t22,t23,t24,AF,pT]) ?_;rintro j h S hj ⟨s1,s2,s4,E,F,G,H,s8,R,K,L,u,rfl⟩;unfold lI;apply yW;simp[L,u];apply xC;simp;refine⟨λm=>?_,λhge2=>?_⟩
   .have htk:=mP g p m;have hPok:=W (p.right.take j) (λs hs=>ab2 hs);have hsy:=X _ (cL m);rw[htk];generalize hP:pT g p (p.right.take j)=A at *;generalize hy:p.right[j]=y at *;apply xK;apply xB;apply yW;simp[K,u,m,hy];apply yW;simp;apply AP;simp;refine⟨λht=>?_,λht=>?_⟩
    .obtain⟨y0,y1⟩:=hsy ht;obtain⟨k,hk⟩:∃k:Nat,y.index=k:=⟨y.index.toNat,by omega⟩;have M:k<Z g.AT:=by omega
     have hft:=o.tok _ (cL M);obtain⟨hb3,hb4⟩:=KA o.n12 (rfl:Ce A=Ce A) (EE hft.1) hPok hft.2;have zn:MU g A y=I7 A (tr g.AT[k].cond):=by
      unfold MU;rw[ca ht,hk];simp[List.getD,M]
     rw[zn];generalize hB:I7 A (tr g.AT[k].cond)=B at *;refine yE (A7 12 [25]) (by kernel_rfl) ?_;simp;apply yA 1;simp[R,s2,hk,M];refine B6 (NL (Ce A) g.AT[k].cond) rfl (by simp[xN]) ?_;simp[hb3];apply yA 1;simp;refine B6 (HD (Ce B)) rfl (by simp[xN]) ?_;simp;apply xX 4095 (by kernel_rfl);simp[R];apply xM;apply yV;simp[u];refine⟨m,_,_,l6 7 (by simp),?_⟩;simp[clean,s1,s2,s4,E,F,G,H,s8,R,K,L,AK m Y]
    .apply CF;apply yV;simp[u];have zn:MU g A y=A:=by unfold MU;rw[bv];simpa using ht
     rw[zn];refine⟨m,_,_,l6 7 (by simp),?_⟩;simp[clean,s1,s2,s4,E,F,G,H,s8,R,K,L,AK m Y]
   .have hjl:j=Z p.right:=by omega
    subst hjl;rw[ns];generalize hA:pT g p p.right=A at *;have hi65:i<65536:=su Q o.yO;have w:=Yc (g:=g) (i:=i) (by omega);apply Ci;refine yE (A7 7 [15,16,18,21]) (by kernel_rfl) ?_;simp;have hi30:i+1<=1073741824:=by omega
    apply yA 1;simp[E,R,a8];apply xX 5 (by kernel_rfl);simp[AY,E,R,w,hi30,a8];apply yA 1;simp;apply xX 125 (by kernel_rfl);simp[AY,E];apply xM;apply yV;simp[H];refine⟨Q,_,_,l6 5 (by simp),?_⟩;simp[clean,s1,s2,s4,E,F,G,AK Q (ms o.yO (by decide)),hpt]
  .have hil:i=Z g.AD:=by omega
   subst hil;have w:=Yc (g:=g) (i:=Z g.AD) (c9 _);rw[nh]at w⊢;have hps:=qm o;apply Ci;refine gs (gl 3 (xs:=(VN g).map λt=>AB (Ce t)) rfl (Cp _ _ _)) ?_;refine gs (AI.SQ 4 [.d (D4 g (VN g))] rfl ?_) ?_
   .simp[D4,w]
   simp;refine gs (vk [0,1,2,4] (S0:=[.row J 1 [.d (.bool C)],.row J 9 [.d (AA g)],.row J 1 [.d (.int .i64 0)],Gj g (VN g)]) ?_ ?_ ?_) ?_
   .simp[Gj]
   .simp
   .rfl
   generalize N:pick _ _=P;have u1:P 1=.fn (.func 59) [] [.ptr 0 1 0 0]:=by rw[<-N];simp[pick,t1];try decide
   have u4:P 4=.ptr 2 1 0 0:=by rw[<-N];simp[pick,t4];try decide
   have u6:P 6=.ptr 3 1 0 0:=by rw[<-N];simp[pick,t6];try decide
   unfold Gj;apply yS;apply yJ;simp[u1,u6];refine AS.Jq (Vv o.n12 g (VN g) (by simp[VN]) hps o.fam.2 o.fam.1 o.fits C) [3,0] rfl ?_ ?_ ?_
   .simp[Gj]
   .rintro v S0' ⟨rfl,c',_,rfl⟩;simp
   rintro v S0' ⟨rfl,c',hc',rfl⟩;simp[Gj];apply BY;apply yW;simp[u4];apply Aj;subst he;refine⟨_,_,a9,?_,_,_,⟨rfl,c',by simpa[Rw]using hc',rfl⟩,.inl ⟨.int .i64 0,_,?_,rfl,j1 1 (by simp)⟩⟩
   .simp[u4]
   .simp[u4]
open Classical in
noncomputable def pB(g:AE)(e:Int):Int:=if e≠0 then e else if Rw g then 60 else 0
def yj(g:AE)(e:Int)(v:V)(S':Sg):Prop:=S'=[]/\v=.d (encI (pB g e))
theorem ZS(g:AE)(e:Int)(k:Pure prog 32 [AA g] (encI e))(u:e=0->ta g):BH prog 22 [.d (AA g)] [] (yj g e):=by
 refine zR func22 14 rfl λwf w=>?_;apply yW;simp;apply yW;simp;(repeat apply xS);apply yT;apply yJ;simp;refine AS.Jq (VQ g e k u ap) [1] rfl ?_ ?_ ?_
 .simp
 .rintro v m ⟨rfl,q,_,rfl⟩;simp
 rintro v m ⟨rfl,q,j,rfl⟩;simp;apply yJ;simp;cases q with
 |true=>
  obtain⟨A,o⟩:e=0/\Rw g:=by simpa using j
  subst A;have i:pB g 0=60:=by simp[pB,o]
  refine xS (yW ?_);simp;apply AP;simp;apply yW;simp;apply Aj;refine⟨_,_,a9,by simp,_,_,⟨rfl,l5 (λx=>V.d (encI x)) i.symm⟩,.inl ⟨.int .i64 60,_,by simp,rfl,gc 0 rfl (by simp)⟩⟩
 |false=>
  have i:pB g e=e:=by
   have:¬(e=0/\Rw g):=by simpa using j
   unfold pB;by_cases h:e=0
   .rw[bv (by simp[h]),bv (λB=>this ⟨h,B⟩),h]
   .rw[ca h]
  refine xS (yW ?_);simp;apply AP;simp;apply xK;apply yW;simp;apply Aj;refine⟨_,_,a9,by simp,_,_,⟨rfl,l5 (λx=>V.d (encI x)) i.symm⟩,.inl ⟨.int .i64 e,_,by simp,rfl,gc 0 rfl (by simp)⟩⟩
open Go.Proofs DT
def Kl(g:AE)(N:Int->Bool)(r:Int->Nat):Prop:=
 (∀p∈g.AD,DO p.right=ap->(∀s∈p.right,N s.index=J)->N p.left=J)/\∀p∈g.AD,∀j (hj:j<Z p.right),p.right[j].token=ap->DO (Dr p.right j)=ap->(∀s∈Dr p.right j,N s.index=J)->r p.left<r p.right[j].index
def Nf(N:Int->Bool)(m:List (Int×DT)):Prop:=∀x,DR m x≠.leaf ap->N x=J
theorem NC{N:Int->Bool}{m:List (Int×DT)}(i:Nf N m):∀(l:List Symbol) {t:DT},Ik m t l≠.leaf ap->∀s∈l,s.token=ap->N s.index=J
 |[],_,_=>λs g=>by simp at g
 |a::l,t,h=>by
  have e:Ik m t (a::l)=Ik m (stepT m t a) l:=rfl;rw[e]at h;intro s g j;rcases ke.1 g with rfl|g
  .refine abi λo=>h ?_;have h0:DR m s.index=.leaf false:=abi λq=>o (i _ q);have:stepT m t s=.leaf false:=by
    unfold stepT;split
    .rw[h0];exact sH t
    .next k=>simp[j,true_and,ne_eq,Decidable.not_not]at k;exact k
   rw[this];exact iw m l
  .exact NC i l h s g j
theorem NF{l:List Symbol}(h:DO l=ap):∀s∈l,s.token=false:=λs g=>by
 have:=tg.1 h s g;simpa using this
theorem XE{g:AE}{N:Int->Bool}{r:Int->Nat}(o:Kl g N r){s:List (Int×DT)×Bool}(h:Nf N s.1){p:AO×DT}(q:p.1∈g.AD):Nf N (F4 J s p).1:=by
 unfold F4;split
 .exact h
 .next u=>
  have i:DO p.1.right=false:=by simpa using u
  unfold Ja;split
  .exact h
  .next v=>
   split
   .exact h
   .intro x k;simp[Ii]at k;split at k
    .next e=>
     subst e;exact o.1 _ q i λm j=>NC h _ v m j (NF i m j)
    .exact h x k
theorem N5{g:AE}{N:Int->Bool}{r:Int->Nat}(i:Kl g N r):∀(l:List (AO×DT)) {s:List (Int×DT)×Bool},(∀p∈l,p.1∈g.AD)->Nf N s.1->Nf N (D3 J l s).1
 |[],_,_,h=>h
 |p::l,s,j,h=>N5 i l (s:=F4 J s p) (λq k=>j q (by simp[k])) (XE i h (j p (by simp)))
theorem Qz{g:AE}{N:Int->Bool}{r:Int->Nat}(i:Kl g N r){l:List (AO×DT)}(j:∀p∈l,p.1∈g.AD):∀(f:Nat) {m:List (Int×DT)},Nf N m->Nf N (Qb J l f m)
 |0,_,h=>h
 |f+1,m,h=>by
  have k:=N5 i l (s:=(m,ap)) j h;unfold Qb;split
  .exact Qz i j f k
  .exact k
theorem jS{g:AE}{N:Int->Bool}{r:Int->Nat}(h:Kl g N r)(n:Nat)(i:List DT):Nf N (sL n J g i):=
 Qz h (λ_ j=>(adK j).1) _ λx k=>absurd (Of x) k
theorem Jz.lt{g:AE}{N:Int->Bool}{r:Int->Nat}(q:Kl g N r){n:Nat}{o:List DT}{i j:Nat}{c:Int->Bool}{a b:Int}(h:Jz g o (sL n J g o) i j c a b):r a<r b:=by
 obtain⟨E,v,_,w,A,rfl,B,rfl,k⟩:=h;unfold fK at k;split at k
 .simp[DT.CG]at k
 .next C=>
  have m:=by simpa using C
  exact q.2 _ (cL w) v A B m λs u=>NC (jS q n o) _ (λe=>by rw[e]at k;simp[DT.CG]at k) s u (NF m s u)
theorem Kl.none{g:AE}{N:Int->Bool}{r:Int->Nat}(i:Kl g N r):¬Rw g:=by
 rintro⟨j,_,c,_,k⟩;have:∀y,VM (Jz g (VN g) (sL (Z g.conds) J g (VN g)) (Z g.AD) 0 c) (j:Int) y->r j<r y:=λy m=>by
  induction m with
  |one h=>exact Jz.lt i h
  |more _ _ h o=>exact Nat.lt_trans o (Jz.lt i h)
 exact absurd (this _ k) (ada _)
theorem XC.sJ{g:AE}(h:XC g):Kl g (λ_=>ap) (λ_=>0):=by
 refine⟨λp o _ q=>?_,λp o j hj v _ q=>?_⟩
 .cases k:p.right with
  |nil=>exact absurd k (h p o).1
  |cons s l=>exact absurd (q s (by simp[k])) (by simp)
 .have i:Z (Dr p.right j)=Z p.right - 1:=by simp[Dr];omega
  cases k:Dr p.right j with
  |nil=>
   rw[k]at i;simp at i;have w:Z p.right=1:=by omega
   obtain⟨s,m⟩:=List.length_eq_one_iff.1 w;have A:=(h p o).2 s m;have u:j=0:=by omega
   subst u;have e:p.right[0]=s:=by simp[m]
   rw[e,A]at v;cases v
  |cons s l=>exact absurd (q s (by rw[k];simp)) (by simp)
@[simp] theorem wA(a:Array UInt8):ByteArray.size ⟨a⟩=a.size:=rfl
theorem Kt(s:ByteArray):s=⟨#[]⟩↔s.size=0:=by
 obtain⟨a⟩:=s;simp
def MB(p:AO):Bool:=decide (16<Z p.right)||decide (16<Z p.layout)
theorem Y8(p:AO):Pure prog 186 [AF p] (.bool (MB p)):=by
 refine zP func186 11 rfl λwf=>?_;apply yW;simp;apply yW;simp[AF];apply zT;simp[MB];rw[gI];simp;split<;>omega
def Cq(g:AE):Bool:=decide (64<Z g.conds)||decide (256<Z g.AT)||decide (4096<Z g.AR)||decide (2000<Z g.A0)||decide (2000<Z g.AD)||decide (2000<Z g.levels)||g.AD.any MB
theorem fG(g:AE):Pure prog 117 [AA g] (.bool (Cq g)):=by
 refine zP func117 33 rfl λwf=>?_;apply yW;simp;refine xS (yW ?_);simp[AA];apply AP;simp;refine⟨λh=>?_,λh=>?_⟩
 .apply yW;simp;refine Aj ⟨_,_,a9,?_⟩;have:Cq g=true:=by unfold Cq;simp;left;omega
  simp[this]
 .intro A j;apply xK;refine xS (yW ?_);simp;apply AP;simp;refine⟨λi=>?_,λi=>?_⟩
  .apply yW;simp;refine Aj ⟨_,_,a9,?_⟩;have:Cq g=true:=by unfold Cq;simp;left;split at i<;>split at i<;>omega
   simp[this]
  .apply xK;(repeat apply xS);apply yT;apply yJ;simp;refine AS.Tb (Lm g.AD MB 186 [] [] λx _=>(Y8 x).call (by simp[BO,B4])) rfl (by simp;try rfl) (yJ ?_);simp;apply zT;have k:¬(64<Z g.conds)/\¬(256<Z g.AT)/\¬(4096<Z g.AR)/\¬(2000<Z g.A0)/\¬(2000<Z g.AD)/\¬(2000<Z g.levels):=by
    split at i<;>split at i<;>omega
   obtain⟨m,o,q,u,v,w⟩:=k;simp[Cq,m,o,q,u,v,w]
def Te(c:Nat):Bool:=decide (97<=c/\c<=122)||decide (65<=c/\c<=90)||decide (c=95)
def S9(s:ByteArray)(i:Nat):Bool:=Te (s.get! i).toNat||(decide (i≠0)&&decide (48<=(s.get! i).toNat/\(s.get! i).toNat<=57))
def isIdent(s:ByteArray):Bool:=decide (s.size≠0)&&(i6 s.size).all (S9 s)
abbrev ads:=@Bool.and_eq_false_iff
abbrev ab7:=@List.all_eq_false
theorem Qg{s:ByteArray}{i:Nat}(hi:i<s.size)(h:S9 s i=ap):isIdent s=false:=by
 unfold isIdent;rw[ads];right;rw[ab7];exact⟨i,by simpa using hi,by simp[h]⟩
theorem Ta{s:ByteArray}(h:∀i,i<s.size->S9 s i=J):isIdent s=decide (s.size≠0):=by
 unfold isIdent;have:(i6 s.size).all (S9 s)=true:=by rw[ed];intro i hi;exact h i (by simpa using hi)
 rw[this,adB]
theorem Ge(s:ByteArray):Pure prog 188 [.str s] (.bool (isIdent s)):=by
 refine hW func188 rfl rfl (by simp) λwf=>?_;have o:s.size<=a8:=by simpa[Bm,DY]using wf
 rw[ntmps188];apply yW;simp;refine xS (yW ?_);simp;apply Bo;refine zL s.size (λi tm S=>tm 0=.d (.str s)/\tm 7=.d (encI s.size)/\tm 8=.d (encI i)/\(∀k,k<i->S9 s k=J)/\S=[]) (by simp) ?_;rintro i tm S hi ⟨t0,t7,t8,m,rfl⟩;apply yW;simp[t7,t8];apply xC;simp;refine⟨λh=>?_,λv=>?_⟩
 .have h0:(0:Int)<=(i:Int):=by omega
  apply xK;apply xB;apply yW;simp[t8];(repeat apply xS);apply yV;simp[t0,h];generalize q:(s.get! i).toNat=c;(repeat apply xS);refine FG λK j=>?_;(repeat((refine Cc ?_ ?_);(focus(simp;try(first|omega|(simp +contextual;done)|grind);done));simp));refine BY (j _ _ ?_);(repeat apply xS);refine FG λK j=>?_;(repeat((refine Cc ?_ ?_);(focus(simp;try(first|omega|(simp +contextual;done)|grind);done));simp));refine BY (j _ _ ?_);(repeat apply xS);refine m8 (t:=!S9 s i) ?_ (λhb=>?_) (λhb=>?_)
  .simp;rw[gI];simp[S9,Te,q];omega
  .have g:S9 s i=false:=by simpa using hb
   apply yW;simp;refine Aj ⟨_,_,a9,?_⟩;(try simp);rw[Qg h g]
  .have g:S9 s i=true:=by simpa using hb
   apply CF;apply yV;simp[t8];refine⟨h,_,_,a9,?_⟩;simp[t0,t7,AK h o];intro k u;by_cases e:k=i
   .subst e;exact g
   .exact m k (by omega)
 .apply Ci;apply yW;simp[t0];apply zT;(try simp);rw[Ta λk u=>m k (by omega)];rw[gI];simp[Kt]
def FD(L:List ByteArray):O:=.map (BV D.str (λx=>.d (.bool x)) (L.map λs=>(s,J)))
theorem YH(a b:ByteArray):DZ (.str a) (.str b)=decide (a=b):=by rw[gI];simp[DZ]
section
variable {β:Type} {ev:β->V}
@[simp] theorem tw(l:List (ByteArray×β))(k:ByteArray):Cz (BV D.str ev l) (.str k)=(look l k).map ev:=FR YH l k
@[simp] theorem tp(l:List (ByteArray×Bool))(k:ByteArray)(x:Bool):Ep (BV D.str (λx=>.d (.bool x)) l) (.str k) (.d (.bool x))=BV D.str (λx=>.d (.bool x)) (Cx l k x):=EA (ev:=λx=>V.d (.bool x)) YH l k x
@[simp] theorem oP(l:List (ByteArray×β)):Bh (.one .str) (BV D.str ev l)=True:=eq_true (FH (by intro a;simp[Bz,CC]) l)
end
def Fm(L:List ByteArray)(s:ByteArray):Bool:=L.any λx=>decide (x=s)
@[simp] theorem vA{α β:Type}(ρ:Nat->Nat)(ek:α->D)(g:β->D)(l:List (α×β)):(BV ek (λx=>V.d (g x)) l).map (λp=>(p.1,BW ρ p.2))=BV ek (λx=>V.d (g x)) l:=by
 unfold BV;rw[m0];rfl
def Qj(l:List ByteArray)(i:Nat):List ByteArray:=⟨#[]⟩::l.take i
theorem Lj(l:List ByteArray):Qj l 0=[⟨#[]⟩]:=rfl
theorem Lw{l:List ByteArray}{i:Nat}(hi:i<Z l):Qj l (i+1)=Qj l i++[l[i]]:=by
 unfold Qj;rw[pt hi];rfl
def Xj(L:List ByteArray):Sg:=[FD L,.row J 1 [.map 0]]
theorem Le:AG prog 187 [] [] (.fn (.func 241) [] [.ptr 1 1 0 0]) (Xj [⟨#[]⟩]):=by
 refine zC func187 5 rfl λwf _=>?_;apply yW;simp;apply yW;simp;apply yW;simp;apply Aj;refine⟨_,rc (S':=Xj [⟨#[]⟩]) rfl,?_⟩;simp[Aq]
abbrev WP:=@decide_eq_false
abbrev acX:=@Bool.false_or
theorem Za(L:List ByteArray)(s:ByteArray):(look (L.map λs=>(s,J)) s)=if Fm L s then some J else none:=by
 induction L with
 |nil=>rfl
 |cons x L g=>
  rw[ii,Cn,g];by_cases h:x=s
  .simp[Fm,h]
  .have i:decide (x=s)=false:=WP h;unfold Fm;rw[adW,i,acX];simp[h]
theorem KS(L:List ByteArray)(s:ByteArray):AG prog 241 [.d (.str s),.ptr 1 1 0 0] (Xj L) (.d (.bool (!Fm L s))) (Xj (if Fm L s then L else L++[s])):=by
 have g:=Za L s;refine zC func241 9 rfl λwf _=>?_;unfold Xj FD;cases i:Fm L s with
 |true=>
  rw[i]at g;simp at g;apply yW;simp;refine xS (yW ?_);simp[g];apply AP;simp;apply yW;simp;apply Aj;refine⟨_,a9,?_⟩;simp[Aq]
 |false=>
  rw[i]at g;have h:Cx (L.map λs=>(s,J)) s J=(L++[s]).map λs=>(s,J):=by rw[Lt _ (by simpa using g)];simp
  apply yW;simp;refine xS (yW ?_);simp[g];apply AP;simp;apply xK;apply yW;simp[h];apply yW;simp;apply Aj;refine⟨_,a9,?_⟩;simp[Aq]
theorem dK(x:Ai)(n:Int):AG prog 243 [.d (AU x),.ptr 0 1 0 0] [.row J 1 [.d (.int .i64 n)]] (.d (.bool (decide (n<=x.var)))) [.row J 1 [.d (.int .i64 n)]]:=by
 refine zC func243 8 rfl λwf _=>?_;apply yW;simp;apply yW;simp[AU];apply Aj;refine⟨_,j1 1 (by simp),?_⟩;simp[Aq,clean]
noncomputable def B1(d:AL)(n:Int):Bool:=decide (F7 d=0)&&!d.nodes.any λx=>decide (n<=x.var)
theorem MF(d:AL)(n:Int):Pure prog 189 [AB d,encI n] (.bool (B1 d n)):=by
 refine zP func189 13 rfl λwf=>?_;apply yW;simp;refine xS (yS ?_);apply yJ;simp;refine Bq (L5 d) rfl (by simp[xN]) (yJ ?_);simp;apply AP;simp;refine⟨λh=>?_,λh=>?_⟩
 .apply yW;simp;refine Aj ⟨_,_,a9,?_⟩;simp[B1,h]
 .apply xK;(repeat apply xS);apply yT;apply yJ;simp[AB];refine xF (Ka d.nodes (λx=>decide (n<=x.var)) 243 [.ptr 0 1 0 0] [.row J 1 [.d (.int .i64 n)]] λx _=>dK x n) [1] rfl ?_;simp;apply yJ;simp;apply zT;simp[B1,h]
theorem Bf.below{N:List Ai}{n:Nat}(m:∀b∈N,b.var<n):∀{t:DT} {k:Int},Bf N t k->t.Below n:=by
 intro t;induction t with
 |leaf b=>intro _ _;trivial
 |node v l h g i=>
  intro k o;obtain⟨j,_,lo,hi,q,u,w⟩:=o;exact⟨by simpa using m _ (oj q),g u,i w⟩
theorem FM{d:AL}{n:Nat}(h:B1 d n=J):Valid d/\FE n (tr d):=by
 unfold B1 at h;simp[Int.not_le]at h;have g:=NM h.1;refine⟨g,KT d,?_⟩;have i:=Fp (tr d);rw[EE g]at i;exact i.below λb hb=>by simpa using h.2 b hb
def DH:List ByteArray->List ByteArray->Bool
 |_,[]=>J
 |L,s::l=>!Fm L s&&DH (L++[s]) l
theorem iy(L:List ByteArray)(s:ByteArray):Fm L s=J↔s∈L:=by
 simp[Fm]
def Hp(g:AE):Bool:=DH [⟨#[]⟩] g.A0&&decide (0<=g.start)&&decide (g.start<Z g.A0)
theorem HA:∀{l L:List ByteArray} {i:Nat} (hi:i<Z l),(∀k (h:k<i),Fm (L++l.take k) (l[k]'(by omega))=ap)->Fm (L++l.take i) l[i]=J->DH L l=ap
 |s::l,L,0,hi,_,h=>by simp at h;simp[DH,h]
 |s::l,L,i+1,hi,h0,h=>by
  have:DH (L++[s]) l=false:=HA (i:=i) (by simpa using hi) (λk g=>by simpa using h0 (k+1) (by omega)) (by simpa using h);simp[DH,this]
theorem GN:∀{l L:List ByteArray},(∀k (h:k<Z l),Fm (L++l.take k) l[k]=ap)->DH L l=J
 |[],_,_=>rfl
 |s::l,L,h=>by
  have g:Fm L s=false:=by have:=h 0 (by simp);rw[List.take_zero,acd]at this;exact this
  have i:DH (L++[s]) l=true:=GN λk j=>by
   have:=h (k+1) (by simpa using j);rw[List.take_succ_cons]at this;rw[acm];exact this
  simp[DH,g,i]
theorem T1(g:AE):Pure prog 120 [AA g] (encI (if Hp g then 0 else 50)):=by
 refine hW func120 rfl rfl (by simp) λwf=>?_;have E:Z g.A0<=a8:=by simp[Bm,DY,AA]at wf;exact wf.2.2.2.2.1.1
 rw[ntmps120];apply yW;simp;apply yS;apply yJ;simp;refine xF (Le) [] rfl ?_;simp;apply yJ;simp;refine xS (yW ?_);simp[AA];apply Bo;refine zL (Z g.A0) (λi tm S=>tm 1=.ptr 0 1 0 0/\tm 3=.fn (.func 241) [] [.ptr 2 1 0 0]/\tm 8=.d (By g.A0)/\tm 9=.d (encI (Z g.A0))/\tm 10=.d (encI i)/\(∀k (h:k<i) (G:k<Z g.A0),Fm (Qj g.A0 k) g.A0[k]=ap)/\S=[.row J 9 [.d (AA g)],FD (Qj g.A0 i),.row J 1 [.map 1]]) (by simp[Xj,FD,AA,Lj]) ?_;rintro i tm S hi ⟨t1,t3,t8,t9,t10,u,rfl⟩;apply yW;simp[t9,t10];apply xC;simp;refine⟨λm=>?_,λH=>?_⟩
 .have v:=KS (Qj g.A0 i) g.A0[i];have w:=Lw m;have o:=λh=>HA (L:=[⟨#[]⟩]) (l:=g.A0) m (λk q=>u k q (by omega)) h;generalize C:Fm (Qj g.A0 i) g.A0[i]=hb at *;unfold FD;apply xK;apply xB;apply yW;simp[t8,t10,m];apply yS;apply yJ;simp[t3];refine xF (v) [1,2] rfl ?_;simp[Xj,FD];apply yJ;simp;(repeat apply xS);refine m8 (t:=hb) ?_ (λhb=>?_) (λhb=>?_)
  .simp
  .subst hb;apply yW;simp;refine Aj ⟨_,_,a9,?_⟩;have:=o C;simp[Hp,this]
  .subst hb;simp;apply CF;apply yV;simp[t10];refine⟨m,_,_,a9,?_⟩;simp[t1,t3,t8,t9,AK m E,w];intro k q A;by_cases e:k=i
   .subst e;exact C
   .exact u k (by omega) A
 .have B:i=Z g.A0:=by omega
  subst B;have j:=GN (L:=[⟨#[]⟩]) (l:=g.A0) λk q=>u k q q;unfold FD;apply Ci;(repeat apply xS);refine FG λK F=>?_;(repeat((refine Cc ?_ ?_);(focus(simp[t1,AA];try(first|omega|(simp +contextual[t1,AA];done)|grind);done));simp[t1,AA]));refine BY (F _ _ ?_);(repeat apply xS);refine m8 (t:=!(decide (0<=g.start)&&decide (g.start<Z g.A0))) ?_ (λhb=>?_) (λhb=>?_)
  .simp;rw[gI];simp
  .apply yW;simp;refine Aj ⟨_,_,a9,?_⟩;simp at hb;simp[Hp,j];omega
  .apply xK;apply yW;simp;apply zT;simp at hb;simp[Hp,j,hb]
noncomputable def FF(s:ByteArray):Bool:=isIdent s&&!decide (s=⟨#[116,114,117,101]⟩)&&!decide (s=⟨#[102,97,108,115,101]⟩)
noncomputable def En(g:AE):Bool:=g.conds.all FF&&DH [⟨#[]⟩] g.conds&&B1 g.fam (Z g.conds)&&!decide (g.fam.root=0)
theorem Uc(g:AE):Pure prog 118 [AA g] (encI (if En g then 0 else 54)):=by
 refine hW func118 rfl rfl (by simp) λwf=>?_;have M:Z g.conds<=a8:=by simp[Bm,DY,AA]at wf;exact wf.1.1
 rw[ntmps118];apply yW;simp;apply yS;apply yJ;simp;refine xF (Le) [] rfl ?_;simp;apply yJ;simp;refine xS (yW ?_);simp[AA];apply Bo;refine zL (Z g.conds) (λi tm S=>tm 1=.ptr 0 1 0 0/\tm 3=.fn (.func 241) [] [.ptr 2 1 0 0]/\tm 8=.d (By g.conds)/\tm 9=.d (encI (Z g.conds))/\tm 10=.d (encI i)/\(∀k (h:k<i) (P:k<Z g.conds),FF g.conds[k]=J/\Fm (Qj g.conds k) g.conds[k]=ap)/\S=[.row J 9 [.d (AA g)],FD (Qj g.conds i),.row J 1 [.map 1]]) (by simp[Xj,FD,AA,Lj]) ?_;rintro i tm S hi ⟨t1,t3,t8,t9,t10,C,rfl⟩;apply yW;simp[t9,t10];apply xC;simp;refine⟨λw=>?_,λQ=>?_⟩
 .have E:=KS (Qj g.conds i) g.conds[i];have F:=Lw w;have A:=λh=>HA (L:=[⟨#[]⟩]) (l:=g.conds) w (λk u=>(C k u (by omega)).2) h;have q:FF g.conds[i]=ap->En g=false:=λh=>by
   have:g.conds.all FF=false:=by
    rw[ab7];exact⟨_,cL w,by simp[h]⟩
   simp[En,this]
  generalize K:Fm (Qj g.conds i) g.conds[i]=hb at *;unfold FD;apply xK;apply xB;(repeat apply xS);apply yV;simp[t8,t10,w];by_cases j:g.conds[i]=⟨#[116,114,117,101]⟩<;>by_cases m:g.conds[i]=⟨#[102,97,108,115,101]⟩<;>cases o:isIdent g.conds[i]
  .
   apply yS;apply yJ;simp;refine Bq (Ge g.conds[i]) rfl (by simp[xN]) (yJ ?_);simp[j,a8,t3];((refine FI rfl (by simp;try rfl) ?_);simp);apply yJ;simp;apply AP;simp;apply yW;simp;refine Aj ⟨_,_,a9,?_⟩;simp[q (by simp[FF,j])]
  .
   apply yS;apply yJ;simp;refine Bq (Ge g.conds[i]) rfl (by simp[xN]) (yJ ?_);simp[j,a8,t3];((refine FI rfl (by simp;try rfl) ?_);simp);apply yJ;simp;apply AP;simp;apply yW;simp;refine Aj ⟨_,_,a9,?_⟩;simp[q (by simp[FF,j])]
  .
   apply yS;apply yJ;simp;refine Bq (Ge g.conds[i]) rfl (by simp[xN]) (yJ ?_);simp[j,a8,t3];((refine FI rfl (by simp;try rfl) ?_);simp);apply yJ;simp;apply AP;simp;apply yW;simp;refine Aj ⟨_,_,a9,?_⟩;simp[q (by simp[FF,j])]
  .
   apply yS;apply yJ;simp;refine Bq (Ge g.conds[i]) rfl (by simp[xN]) (yJ ?_);simp[j,a8,t3];((refine FI rfl (by simp;try rfl) ?_);simp);apply yJ;simp;apply AP;simp;apply yW;simp;refine Aj ⟨_,_,a9,?_⟩;simp[q (by simp[FF,j])]
  .
   apply yS;apply yJ;simp;refine Bq (Ge g.conds[i]) rfl (by simp[xN]) (yJ ?_);simp[m,a8,t3];((refine FI rfl (by simp;try rfl) ?_);simp);apply yJ;simp;apply AP;simp;apply yW;simp;refine Aj ⟨_,_,a9,?_⟩;simp[q (by simp[FF,m])]
  .
   apply yS;apply yJ;simp;refine Bq (Ge g.conds[i]) rfl (by simp[xN]) (yJ ?_);simp[m,a8,t3];((refine FI rfl (by simp;try rfl) ?_);simp);apply yJ;simp;apply AP;simp;apply yW;simp;refine Aj ⟨_,_,a9,?_⟩;simp[q (by simp[FF,m])]
  .
   apply yS;apply yJ;simp;refine Bq (Ge g.conds[i]) rfl (by simp[xN]) (yJ ?_);simp[o,j,m,a8,t3];((refine FI rfl (by simp;try rfl) ?_);simp);apply yJ;simp;apply AP;simp;apply yW;simp;refine Aj ⟨_,_,a9,?_⟩;simp[q (by simp[FF,o,j,m])]
  .apply yS;apply yJ;simp;refine Bq (Ge g.conds[i]) rfl (by simp[xN]) (yJ ?_);simp[o,j,m,a8,t3];refine AS.PJ (E) [1,2] rfl rfl (by simp[Xj,FD];try rfl) (yJ ?_);simp[Xj,FD];(repeat apply xS);refine m8 (t:=hb) ?_ (λhb=>?_) (λhb=>?_)
   .simp
   .subst hb;apply yW;simp;refine Aj ⟨_,_,a9,?_⟩;have:=A K;simp[En,this]
   .subst hb;simp;apply CF;apply yV;simp[t10];refine⟨w,_,_,a9,?_⟩;simp[t1,t3,t8,t9,AK w M,F];intro k u G;by_cases e:k=i
    .subst e;exact⟨by simp[FF,o,j,m],K⟩
    .exact C k (by omega) G
 .have H:i=Z g.conds:=by omega
  subst H;have v:=GN (L:=[⟨#[]⟩]) (l:=g.conds) λk u=>(C k u u).2;have B:g.conds.all FF=true:=by
   rw[ed];intro x N;obtain⟨k,u,rfl⟩:=lm.1 N;exact(C k u u).1
  unfold FD;apply Ci;refine xS (yS ?_);(repeat((refine Cc ?_ ?_);(focus(simp[t1,AA];try(first|omega|(simp +contextual[t1,AA];done)|grind);done));simp[t1,AA]));refine Bq (MF g.fam (Z g.conds)) rfl (by simp[AB]) ?_;simp;(repeat((refine Cc ?_ ?_);(focus(simp[t1];try(first|omega|(simp +contextual[t1,AA];done)|grind);done));simp[t1]));apply BY;(repeat apply xS);refine m8 (t:=!B1 g.fam (Z g.conds)||g.fam.root==0) ?_ (λhb=>?_) (λhb=>?_)
  .simp
  .apply yW;simp;refine Aj ⟨_,_,a9,?_⟩;simp at hb;simp[En,v,B];grind
  .simp at hb;apply xK;apply yW;simp;apply zT;simp[En,v,B,hb]
end Go.Koi
