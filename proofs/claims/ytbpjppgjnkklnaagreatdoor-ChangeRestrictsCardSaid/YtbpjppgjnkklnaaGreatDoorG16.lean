/-
  Part 17 of the proof that the law ChangeRestricts returns true for every input.
-/
import Derived.Test.YtbpjppgjnkklnaaGreatDoorG15
import Derived.Shelf.SlSortCmp.WholeK
set_option maxHeartbeats 64000000
set_option maxRecDepth 100000
open List renaming length->Z,replicate->lw
open Go.IntKind renaming wrap->b8,i64->zz
open Bool renaming true->J
open Go.Koi.D renaming int->br
open Go.Proofs.Tryz
namespace Go.Koi
open Go.Proofs DT
namespace TF
def ends:TF->Nat->List Int
 |nil,_=>[]
 |leaf _ _ _ x,i=>((i+1:Nat):Int)::x.ends (i+1)
 |node _ k x,i=>((i+1+Z k.flat:Nat):Int)::(k.ends (i+1)++x.ends (i+1+Z k.flat))
def pos:TF->Nat->List Int
 |nil,_=>[]
 |leaf _ _ _ x,i=>(i:Int)::x.pos (i+1)
 |node _ k x,i=>(i:Int)::x.pos (i+1+Z k.flat)
theorem C3(u:TF)(i:Nat):Z (u.ends i)=Z u.flat:=by
 induction u generalizing i with
 |nil=>rfl
 |leaf k s r x g=>simp[ends,flat,g]
 |node p k x h g=>simp[ends,flat,g,h]
theorem wP(u:TF)(i:Nat):Z (u.pos i)=Z u.roots:=by
 induction u generalizing i with
 |nil=>rfl
 |leaf k s r x g=>simp[pos,roots,g]
 |node p k x h g=>simp[pos,roots,g]
theorem uf(u:TF):Z u.roots<=Z u.flat:=by
 induction u with
 |nil=>exact c9 _
 |leaf k s r x g=>simp[roots,flat,g]
 |node p k x h g=>simp[roots,flat];omega
theorem jc(u:TF)(i:Nat):∀x∈u.ends i,(i:Int)<x/\x<=i+Z u.flat:=by
 induction u generalizing i with
 |nil=>simp[ends]
 |leaf k s r x h=>
  intro y g;simp[ends]at g;simp[flat];rcases g with rfl|g
  .omega
  .have:=h (i+1) y g;omega
 |node p k x j h=>
  intro y g;simp[ends]at g;simp[flat];rcases g with rfl|g|g
  .omega
  .have:=j (i+1) y g;omega
  .have:=h (i+1+Z k.flat) y g;omega
end TF
theorem KM{α:Type}{A L R:List α}{i:Nat}(h:A.drop i=L++R)(j:Nat)(hj:j<Z L):A[i+j]?=some L[j]:=by
 rw[<-List.getElem?_drop,h,io hj,ej hj]
theorem Lx{α:Type}{A L R:List α}{i:Nat}{x:α}(h:A.drop i=x::L++R):A.drop (i+1)=L++R:=by
 rw[<-aca,h];rfl
theorem YW{α:Type}{A L M R:List α}{i:Nat}(h:A.drop i=(L++M)++R):A.drop (i+Z L)=M++R:=by
 rw[<-aca,h,acm,List.drop_left]
theorem lB(u:TF)(A R:List Int)(i:Nat)(h:A.drop i=u.ends i++R):Gm A ((i+Z u.flat:Nat):Int) i (u.pos i):=by
 induction u generalizing i R with
 |nil=>exact .nil (by simp[TF.flat])
 |leaf k s r x g=>
  have j:=Lx (x:=((i+1:Nat):Int)) h;have:=g R (i+1) j;have e:i+Z (TF.leaf k s r x).flat=i+1+Z x.flat:=by simp[TF.flat];omega
  rw[e];refine .cons (by omega) (by omega) ?_ (by omega) this;have m:=KM h 0 (by simp[TF.ends]);simpa[TF.ends]using m
 |node p k x q g=>
  have j:=Lx (x:=((i+1+Z k.flat:Nat):Int)) (L:=k.ends (i+1)++x.ends (i+1+Z k.flat)) h;have o:=YW j;rw[TF.C3]at o;have:=g R (i+1+Z k.flat) o;have e:i+Z (TF.node p k x).flat=i+1+Z k.flat+Z x.flat:=by simp[TF.flat];omega
  rw[e];refine .cons (by omega) (by omega) ?_ (by omega) this;have m:=KM h 0 (by simp[TF.ends]);simpa[TF.ends]using m
abbrev RG:=List (Nat×List Symbol)
def F1(g:AE)(n:BD):List Symbol:=if n.prod<0 then []else EM g n.prod.toNat
def QT:RG->RG
 |(_,[])::K=>QT K
 |(s,x::g)::K=>(s,x::g)::K
 |[]=>[]
def TD(e:Int):RG->List Int->List Int
 |(s,[])::K,E=>TD e K (E.set s e)
 |(_,_::_)::_,E=>E
 |[],E=>E
def Jy(g:AE)(n:BD)(i:Nat):RG->RG
 |[]=>[(i,F1 g n)]
 |(s,h)::K=>(i,F1 g n)::(s,h.tail)::K
def HX(g:AE)(p k:Int):Symbol:=if p<0 then⟨J,k⟩else⟨false,Co g p.toNat⟩
def LI(g:AE)(n:BD):Prop:=(n.prod= -1/\0<=n.token/\n.token<Z g.AT)\/(0<=n.prod/\n.prod<Z g.AD/\n.token= -1/\n.text=ByteArray.empty/\n.rem=[])
def xz(g:AE)(A:List Int):RG->List TF->Nat->Prop
 |[],[],_=>True
 |(s,h)::K,x::j,i=>x.fit g h/\A[s]?=some ((i+Z x.flat:Nat):Int)/\xz g A K j (i+Z x.flat)
 |_,_,_=>False
def N9:List TF->Nat->List Int
 |[],_=>[]
 |x::g,i=>x.ends i++N9 g (i+Z x.flat)
structure EI(g:AE)(A:List Int)(N:List BD)(i:Nat)(K:RG)(E:List Int)(xs:List TF):Prop where
 st:xz g A K xs i
 nd:N.drop i=(xs.map TF.flat).flatten
 ad:A.drop i=N9 xs i
 el:Z E=Z A
 ok:∀j,j<i->j∉K.map (·.1)->E[j]?=A[j]?
def nK:RG->Prop
 |(_,[])::_=>False
 |_=>True
theorem EI.pop{g:AE}{A:List Int}{N:List BD}{i:Nat}:∀{K:RG} {E:List Int} {xs:List TF},EI g A N i K E xs->∃m,EI g A N i (QT K) (TD i K E) m/\nK (QT K)
 |[],E,xs,h=>⟨xs,h,trivial⟩
 |(s,y::H)::K,E,xs,h=>⟨xs,h,trivial⟩
 |(s,[])::K,E,xs,h=>by
  match xs,h with
  |[],h=>exact h.st.elim
  |x::xs,⟨⟨q,o,u⟩,v,w,B,C⟩=>
   have F:x=.nil:=by cases x with|nil=>rfl|leaf k s r x=>obtain⟨_,_,_,h,_⟩:=q;cases h|node p k x=>obtain⟨_,_,_,_,h,_⟩:=q;cases h
   subst F;simp[TF.flat]at o u;refine EI.pop (K:=K) (E:=E.set s i) (xs:=xs) ⟨u,by simpa[TF.flat]using v,by simpa[N9,TF.ends,TF.flat]using w,by simp[B],λj hj G=>?_⟩;by_cases e:s=j
   .subst e;rw[o];have:s<Z A:=(gq.1 o).1;rw[abm (by omega)]
   .rw[pv e];exact C j hj (by simp;exact⟨λh=>e h.symm,by simpa using G⟩)
theorem On{g:AE}{k:Int}{s:ByteArray}{r:List ByteArray}(h:0<=k)(i:k<Z g.AT):LI g ⟨-1,k,s,r⟩:=.inl ⟨rfl,h,i⟩
theorem M8{g:AE}{p:Nat}(h:p<Z g.AD):LI g (Gs p):=.inr ⟨by simp[Gs],by simp[Gs];omega,rfl,rfl,rfl⟩
theorem EI.step{g:AE}(W:B3 g=0){A:List Int}{N:List BD}{i:Nat}{K:RG}{E:List Int}{xs:List TF}(h:EI g A N i K E xs)(G:nK K)(_:Z N=Z A)(X:K≠[])(hi:i<Z N):
  LI g N[i]/\(∃s o Y,K=(s,HX g N[i].prod N[i].token::o)::Y)/\∃H,EI g A N (i+1) (Jy g N[i] i K) E H:=by
 match K,xs,h,G with
 |[],_,_,_=>exact absurd rfl X
 |(s,[])::K,_,_,G=>exact G.elim
 |(s,y::o)::K,[],h,_=>exact h.st.elim
 |(s,y::o)::K,x::xs,⟨⟨M,S,B⟩,C,F,T,U⟩,_=>
  cases x with
  |nil=>simp[TF.fit]at M
  |leaf k u r x=>
   obtain⟨k1,k2,ts,k3,k4⟩:=M;cases k3;have P:N[i]=⟨-1,k,u,r⟩:=by
    have:=KM (L:=(TF.leaf k u r x).flat) (R:=(xs.map TF.flat).flatten) (by simpa using C) 0 (by simp[TF.flat]);simpa[TF.flat,hi]using this
   have ha:A[i]?=some ((i+1:Nat):Int):=by
    have:=KM (L:=(TF.leaf k u r x).ends i) (R:=N9 xs (i+Z (TF.leaf k u r x).flat)) F 0 (by simp[TF.ends]);simpa[TF.ends]using this
   rw[P];have v:Z (TF.leaf k u r x).flat=Z x.flat+1:=by simp[TF.flat]
   refine⟨On k1 k2,⟨s,o,K,by simp[HX]⟩,.nil::x::xs,⟨⟨?_,?_,?_,?_,?_⟩,?_,?_,T,λj hj m=>?_⟩⟩
   .simp[F1,TF.fit]
   .simpa[TF.flat]using ha
   .simpa using k4
   .rw[S,v];congr 1;simp[TF.flat];omega
   .rw[v]at B;simp[TF.flat];rw[show i+1+0+Z x.flat=i+(Z x.flat+1) by omega];exact B
   .rw[<-aca,C];simp[TF.flat]
   .rw[<-aca,F];simp[N9,TF.ends,List.drop_succ_cons,TF.flat];rw[show i+(Z x.flat+1)=i+1+Z x.flat by omega]
   .simp[Jy]at m;exact U j (by omega) (by simp;exact⟨m.2.1,by simpa using m.2.2⟩)
  |node p k x=>
   obtain⟨q,k1,k2,ts,k3,k4⟩:=M;cases k3;have hp:p<Z g.AD:=(gq.1 k1).1;have P:N[i]=Gs p:=by
    have:=KM (L:=(TF.node p k x).flat) (R:=(xs.map TF.flat).flatten) (by simpa using C) 0 (by simp[TF.flat]);simpa[TF.flat,hi]using this
   have ha:A[i]?=some ((i+1+Z k.flat:Nat):Int):=by
    have:=KM (L:=(TF.node p k x).ends i) (R:=N9 xs (i+Z (TF.node p k x).flat)) F 0 (by simp[TF.ends]);simpa[TF.ends]using this
   have Q:((Co g p:Nat):Int)=q.left:=by
    have:=Gy W (oj k1);unfold Co;rw[k1];simp[];omega
   rw[P];have v:Z (TF.node p k x).flat=Z k.flat+Z x.flat+1:=by simp[TF.flat]
   have w:¬((p:Int)<0):=by omega
   refine⟨M8 hp,⟨s,o,K,by simp[HX,Gs,w,Q]⟩,k::x::xs,⟨⟨?_,?_,?_,?_,?_⟩,?_,?_,T,λj hj m=>?_⟩⟩
   .simp[F1,Gs,w,EM,k1];exact k2
   .exact ha
   .simpa using k4
   .rw[S,v];congr 1;omega
   .rw[v]at B;rw[show i+1+Z k.flat+Z x.flat=i+(Z k.flat+Z x.flat+1) by omega];exact B
   .rw[<-aca,C];simp[TF.flat]
   .rw[<-aca,F];simp[N9,TF.ends,List.drop_succ_cons,TF.flat];rw[show i+(Z k.flat+Z x.flat+1)=i+1+Z k.flat+Z x.flat by omega]
   .simp[Jy]at m;exact U j (by omega) (by simp;exact⟨m.2.1,by simpa using m.2.2⟩)
theorem EI.first{g:AE}(_:B3 g=0){u:TF}{l:Int}(i:u.fit g [⟨false,l⟩]):
  ∃(h0:0<Z u.flat),LI g u.flat[0]/\∃m,EI g (u.ends 0) u.flat 1 (Jy g u.flat[0] 0 []) (lw (Z u.flat) 0) m:=by
 cases u with
 |nil=>simp[TF.fit]at i
 |leaf k E r x=>obtain⟨_,_,v,h,_⟩:=i;cases h
 |node p k x=>
  obtain⟨q,k1,k2,v,k3,k4⟩:=i;cases k3;have w:x=.nil:=by cases x with|nil=>rfl|leaf k s r x=>obtain⟨_,_,_,h,_⟩:=k4;cases h|node p k x=>obtain⟨_,_,_,_,h,_⟩:=k4;cases h
  subst w;have A:p<Z g.AD:=(gq.1 k1).1;have o:¬((p:Int)<0):=by omega
  refine⟨by simp[TF.flat],by simpa[TF.flat]using M8 A,[k],⟨⟨?_,?_,trivial⟩,by simp[TF.flat],by simp[TF.ends,N9],by simp[TF.C3],λj hj B=>?_⟩⟩
  .simp[TF.flat,F1,Gs,o,EM,k1];exact k2
  .simp[TF.ends]
  .exact absurd (by
    have:j=0:=by omega
    subst this;simp[Jy]) B
theorem EI.last{g:AE}{A:List Int}{N:List BD}{i:Nat}{K:RG}{E:List Int}{xs:List TF}(h:EI g A N i K E xs)(m:nK K)(w:Z N=Z A)(hi:i=Z N):K=[]/\E=A:=by
 have q:K=[]:=by
  match K,xs,h,m with
  |[],_,_,_=>rfl
  |(s,[])::K,_,_,m=>exact m.elim
  |(s,y::u)::K,[],h,_=>exact h.st.elim
  |(s,y::u)::K,x::xs,⟨⟨v,B,C⟩,o,_,_,_⟩,_=>
   rw[adl (by omega)]at o;cases x with
   |nil=>simp[TF.fit]at v
   |leaf k F r x=>simp[TF.flat]at o
   |node p k x=>simp[TF.flat]at o
 subst q;refine⟨rfl,acx λj=>?_⟩;by_cases hj:j<i
 .exact h.ok j hj (by simp)
 .rw[pu (by have:=h.el;omega),pu (by omega)]
open Go.Proofs Tryz DT
theorem mT(g:AE)(u:B3 g=0)(p k:Int)(v:p<Z g.AD):Pure prog 252 [AA g,encI p,encI k] (AH (HX g p k)):=by
 refine zP func252 18 rfl λwf=>?_;apply yW;simp;refine xS (yW ?_);simp;by_cases h:p<0
 .have e:HX g p k=⟨J,k⟩:=ca h;rw[e];apply AP;simp[h];apply yW;simp;refine Aj ⟨_,_,a9,?_⟩;simp[AH]
 .have e:HX g p k=⟨false,Co g p.toNat⟩:=bv h;rw[e];obtain⟨n,rfl⟩:∃n:Nat,p=n:=⟨p.toNat,by omega⟩;have i:n<Z g.AD:=by omega
  have m:((Co g n:Nat):Int)=g.AD[n].left:=by
   have:=Gy u (cL i);unfold Co;rw[ej i];simp[];omega
  obtain⟨q,o⟩:=ce (g.AD[n]);rw[o]at m;have j:=AF.eq_1 q;apply AP;simp[h];apply xK;apply yW;simp[AA,i,o,j];apply zT;simp[AH,m]
def kc(x:Nat×List Symbol):D:=.agg [encI x.1,.sl (x.2.map AH)]
def bU(x:Nat×List Symbol):V:=.d (kc x)
def JS(K:RG):List V:=K.reverse.map bU
theorem GC(x:Nat×List Symbol)(K:RG):JS (x::K)=JS K++[bU x]:=by simp[JS]
theorem Gf(K:RG):Z (JS K)=Z K:=by simp[JS]
theorem mj(K:RG):∀y,y∈JS K->Z (Ae y)=2/\(Ap y=J\/Bp y=J):=λy g=>by
 simp only[JS,g7]at g;obtain⟨x,_,rfl⟩:=g;simp[bU,kc]
theorem WB{k:Nat}{K:RG}{B:List V}(h:JS K=B):Au k B=true:=by
 subst h;unfold JS;generalize K.reverse=L;induction L with
 |nil=>rfl
 |cons x L g=>simp[Au,AJ,bU,g]
theorem Sn{f:Nat->Nat}:∀{xs:List V},(∀x∈xs,∃d,x=V.d d)->CN f xs=xs
 |[],_=>rfl
 |x::xs,h=>by
  obtain⟨d,rfl⟩:=h x (by simp);simp[CN,BW,Sn (f:=f) (xs:=xs) λy g=>h y (by simp[g])]
theorem KN{k:Nat}:∀{xs:List V},(∀x∈xs,∃d,x=V.d d)->Au k xs=J
 |[],_=>rfl
 |x::xs,h=>by
  obtain⟨d,rfl⟩:=h x (by simp);simp[Au,AJ,KN (k:=k) (xs:=xs) λy g=>h y (by simp[g])]
theorem gg{g:AE}{A:List Int}:∀{K:RG} {k:List TF} {i:Nat},xz g A K k i->∀x∈K,x.1<Z A
 |[],_,_,_=>by simp
 |(s,m)::K,[],_,h=>h.elim
 |(s,m)::K,x::k,i,⟨_,o,q⟩=>by
  intro y j;rcases ke.1 j with rfl|j
  .exact(gq.1 o).1
  .exact gg q y j
def OH(sz:Nat)(h:D)(g:AE):Sg:=[.row J sz [.d h],.row J 9 [.d (AA g)]]
def OY(g:AE)(F:FuncId)(n:Nat):List V:=(BE (AA g)).map V.d++[.d (encI n),.fn (.func F) [] [.ptr 0 1 0 0,.ptr 1 1 0 0]]
def MW(sz:Nat)(h:D)(g:AE)(F:FuncId)(N:List BD)(E:List Int)(w:Bool)(K:RG):Sg:=OH sz h g++[.row J 11 [.agg (OY g F (Z N))],.row J 1 (E.map λx=>.d (encI x)),.row w 2 (JS K)]
theorem vo(g:AE)(hG:B3 g=0)(sz:Nat)(U:D)(F:FuncId)(N:List BD)(u:TF)(l:Int)(hu:N=u.flat)(hf:u.fit g [⟨false,l⟩])(hlen:Z u.flat<=2000000)
  (hsl:∀(i:Nat) (hi:i<Z N),LI g N[i]->AG prog F [.d (encI i),.ptr 0 1 0 0,.ptr 1 1 0 0] [.row J sz [.d U],.row J 9 [.d (AA g)]] (.d (.CX [encI N[i].prod,encI N[i].token,.bool J])) [.row J sz [.d U],.row J 9 [.d (AA g)]]):
  AG prog 203 [.agg (OY g F (Z N))] (OH sz U g) (.d (BZ (u.ends 0))) (OH sz U g):=by
 obtain⟨h0,hok0,xs0,hx0⟩:=EI.first hG hf
 have hNA:Z N=Z (u.ends 0):=by rw[hu,TF.C3]
 have hn0:0<Z N:=by rw[hu];exact h0
 have hn1:Z N<=2000000:=by rw[hu];exact hlen
 obtain⟨A,hA⟩:=ce (u.ends 0);obtain⟨n,o⟩:=ce (Z N);rw[hA]at hx0 hNA⊢;rw[o]at hn0 hn1;have hc1:¬(n=0):=by omega
 have hc3:¬(2000000<n):=by omega
 have zt:¬((2000000:Int)<n):=by omega
 have hmk:(n:Int)<=1073741824:=by omega
 have hmx:n<=maxLen:=by unfold maxLen;omega
 refine AG.Gp func203 (by kernel_rfl) rfl (by simp) λwf _=>?_;rw[ntmps203];unfold OY OH;rw[o];refine xW λK j=>?_;simp;apply j;refine xS (E5 λK j=>?_);(repeat((first|refine FI rfl ?_ ?_;(·simp[hc1])|refine Pe rfl ?_ ?_;(·simp[hc1])|refine Cc ?_ ?_;(·simp));simp[zt]));refine BY (j _ _ ?_);(try simp only[B5,A2,reduceIte]);refine AP ?_;simp[hc1];refine CF ?_;(try simp only[B5]);(repeat refine xS ?_);refine xV λK j=>?_;simp[hmk];refine j _ _ ?_;(try simp only[xQ,reduceIte]);refine xW λK j=>?_;simp;apply j;refine gs (oa 4 2 (xs:=[]) (by simp)) ?_;refine xS (xW λK j=>?_);simp;apply j;refine Bo ?_;refine FO n (λi tm S=>tm 1=.ptr 2 1 0 0/\tm 3=.row 3 n/\tm 24=.d (encI n)/\tm 25=.d (encI i)/\∃v E w,tm 4=.row 4 (Z v)/\S=MW sz U g F N E w v/\(i=0/\v=[]/\E=lw n 0\/0<i/\∃xs,EI g A N i v E xs)/\nK v/\Z v<=i/\Z E=n/\(v≠[]->w=J)) (i0:=0) (er _) (by simp;exact⟨[],rfl,lw n 0,.inl ⟨by simp[MW,OH,OY,JS,o,AA],⟨rfl,rfl⟩,trivial,rfl,by simp,rfl⟩⟩) ?_;rintro i tm S hi ⟨t1,t3,t24,t25,v,E,w,t4,rfl,hI,htp,hKl,hEl,hw⟩;unfold MW OH OY;rw[o];refine xW λK j=>?_;simp[t24,t25];apply j;refine xC ?_;simp;refine⟨λzg=>?_,λzu=>?_⟩
 .have hit:i<Z N:=by omega
  have zk:LI g N[i]/\((i=0/\v=[])\/0<i/\∃s Y K',v=(s,HX g N[i].prod N[i].token::Y)::K')/\∃xs2,EI g A N (i+1) (Jy g N[i] i v) E xs2:=by
   rcases hI with⟨rfl,rfl,rfl⟩|⟨h1,xs,h2⟩
   .have e1:N[0]=u.flat[0]:=by simp only[hu]
    rw[e1];refine⟨hok0,.inl ⟨rfl,rfl⟩,xs0,?_⟩;have e2:Z u.flat=n:=by rw[<-hu];exact o
    rw[hu,<-e2];exact hx0
   .by_cases j:v=[]
    .subst j;exfalso;have h3:=h2.st;match xs,h3 with
     |[],_=>
      have:=h2.nd;simp at this;omega
    .obtain⟨a1,a2,a3⟩:=h2.step hG htp (by omega) j hit;exact⟨a1,.inr ⟨h1,a2⟩,a3⟩
  obtain⟨zx,hsy,xs2,hE2⟩:=zk;obtain⟨xs3,hE3,htp3⟩:=hE2.pop;have hsl:=hsl i hit zx;obtain⟨nd,hnd⟩:=ce (N[i]);rw[hnd]at zx hsy hE2 hE3 htp3 hsl;refine xK ?_;refine xB ?_;refine xW λK j=>?_;simp[t25];apply j;refine E5 λK j=>?_;refine xJ ?_;simp[t1];refine AS.E0 (hsl) [0,1] rfl (by simp;try rfl) ?_;simp;refine xJ ?_;simp;refine BY (j _ _ ?_);have hpr:nd.prod<Z g.AD:=by
   rcases zx with h|h
   .have:=h.1;omega
   .exact h.2.1
  have hsb:=mT g hG nd.prod nd.token hpr;obtain⟨sy,hsye⟩:=ce (HX g nd.prod nd.token);rw[hsye]at hsy hsb;have hse:=AH.eq_1 sy;refine m7 (R:=λtm S=>tm 1=.ptr 2 1 0 0/\tm 3=.row 3 n/\tm 4=.row 4 (Z v)/\tm 5=.d (encI i)/\tm 6=.d (encI nd.prod)/\tm 7=.d (encI nd.token)/\tm 24=.d (encI n)/\tm 25=.d (encI i)/\S=MW sz U g F N E w v) ?_ ?_
  .rcases hsy with⟨rfl,rfl⟩|⟨hi0,s,Y,K',rfl⟩
   .skip;refine E5 λK j=>?_;refine xH ?_;simp;refine BY (j _ _ ?_);refine AP ?_;simp;refine CF ?_;simp[t1,t3,t4,t24,t25,MW,OH,OY,o,AA]
   .have hk1:¬((Z K':Int)+1=0):=by omega
    refine E5 λK j=>?_;refine xH ?_;simp[t4,hi0,Gf];refine BY (j _ _ ?_);refine AP ?_;simp[hk1];refine CF ?_;simp[t1,t3,t4,t24,t25,MW,OH,OY,o,AA]
  rintro tm S ⟨t1,t3,t4,t5,t6,t7,t24,t25,rfl⟩;unfold MW OH OY;rw[o];(repeat refine xS ?_);refine FG λK j=>?_;refine xJ ?_;simp[t1,t6,t7];refine Bq (hsb) rfl (by simp[AA]) ?_;simp[AA];refine xJ ?_;simp;refine BY (j _ _ ?_);(try simp only[xQ,reduceIte]);obtain⟨W,hK1⟩:∃W:RG,W=(match v with|[]=>[]|(s,Y)::K=>(s,Y.tail)::K):=⟨_,rfl⟩;have hK1l:Z W=Z v:=by rw[hK1];cases v<;>rfl
  have hsK:Jy g nd i v=(i,F1 g nd)::W:=by rw[hK1];cases v<;>rfl
  refine AW.Jp (R:=λtm S=>tm 1=.ptr 2 1 0 0/\tm 3=.row 3 n/\tm 4=.row 4 (Z W)/\tm 5=.d (encI i)/\tm 6=.d (encI nd.prod)/\tm 24=.d (encI n)/\tm 25=.d (encI i)/\S=MW sz U g F N E w W++[.row J 2 [.d (AH sy)]]) ?_ ?_
  .rcases hsy with⟨rfl,rfl⟩|⟨hi0,s,Y,K',rfl⟩
   .have hK2:W=[]:=hK1;subst hK2;have hwm:b8 .i64 (-1)= -1:=by decide
    refine xW λK j=>?_;simp[t4,Gf];apply j;refine xW λK j=>?_;simp;apply j;refine AP ?_;simp[hwm];refine CF ?_;refine⟨_,_,a9,?_⟩;simp[t1,t3,t4,t5,t6,t24,t25,MW,OH,OY,o,AA,hse]
   .subst hK1;have hwt:w=true:=hw (by simp);subst hwt;rw[GC];obtain⟨B,hB⟩:=ce (JS K');have hBl:Z B=Z K':=by rw[<-hB,Gf]
    simp only[gr,<-hBl]at t4⊢;rw[hB];obtain⟨m,M⟩:=ce (Z B);have hm2:m<=2000000:=by simp only[gr]at hKl;omega
    have hw1:b8 .i64 (m:Int)=m:=by rw[c8];omega
    simp only[bU,kc]at *;refine xW λK j=>?_;simp[t4,hw1,M];apply j;refine xW λK j=>?_;simp;apply j;refine AP ?_;simp;refine xS ?_;refine xD (A7 9 []) (by kernel_rfl) λK j=>?_;simp;have G:(m:Int)<m+1:=by omega
    (repeat(refine xG ?_ ?_;(·simp[M,hse,G]);simp[t4,M,hse]));refine xM (j _ _ ?_);(try simp only[xQ,reduceIte]);refine AP ?_;simp;refine CF ?_;(try simp only[xQ,reduceIte]);refine FG λK j=>?_;(repeat(refine Cc ?_ ?_;(·simp[M,G]);simp[t4,M]));refine Cc ?_ ?_
    .simp;exact⟨by omega,by cases Y<;>simp⟩
    simp;refine xJ ?_;simp[M,G];refine BY (j _ _ ?_);refine⟨_,_,j2 4 (xs:=((s,Y)::K').reverse.map kc) rfl ?_,?_⟩
    .rw[CH,<-hB];simp[JS,bU,kc,BO,B4,nc];exact PP (by simp)
    simp[t1,t3,t4,t5,t6,t24,t25,MW,OH,OY,o,AA,hse,JS,bU,M]
  rintro tm S ⟨t1,t3,t4,t5,t6,t24,t25,rfl⟩;unfold MW OH OY;rw[o];refine xW λK j=>?_;simp;apply j;refine AW.Jp (R:=λtm S=>tm 1=.ptr 2 1 0 0/\tm 3=.row 3 n/\tm 4=.row 4 (Z W)/\tm 5=.d (encI i)/\tm 11=.d (.sl ((F1 g nd).map AH))/\tm 24=.d (encI n)/\tm 25=.d (encI i)/\S=MW sz U g F N E w W++[.row J 2 [.d (AH sy)]]) ?_ ?_
  .by_cases hp0:nd.prod<0
   .have hp1:¬(0<=nd.prod):=by omega
    have hr0:F1 g nd=[]:=ca hp0;refine xW λK j=>?_;simp[t6];apply j;refine AP ?_;simp[hp1];refine CF ?_;refine⟨_,_,AI.wJ 11 (d:=.sl []) (by simp[BO,B4]),?_⟩;simp[t1,t3,t4,t5,t24,t25,MW,OH,OY,o,AA,hr0]
   .have hp1:0<=nd.prod:=by omega
    obtain⟨p,hp⟩:∃p:Nat,nd.prod=p:=⟨nd.prod.toNat,by omega⟩;have hpl:p<Z g.AD:=by omega
    obtain⟨q,hq⟩:=ce (g.AD[p]);have hr0:F1 g nd=q.right:=by
     unfold F1;rw[bv hp0,hp,ne];unfold EM;rw[ej hpl,hq]
    have hqe:=AF.eq_1 q;rw[hp]at t6;refine xW λK j=>?_;simp[t6];apply j;refine AP ?_;simp;refine xV λK j=>?_;simp[t1,t6,hpl,hq,hqe];apply j;refine⟨_,_,a9,?_⟩;simp[t1,t3,t4,t5,t24,t25,MW,OH,OY,o,AA,hr0]
  rintro tm S ⟨t1,t3,t4,t5,t11,t24,t25,rfl⟩;unfold MW OH OY;rw[o];obtain⟨C,hC⟩:=ce (JS W);have hCl:Z C=Z W:=by rw[<-hC,Gf]
  have hb1:Z W+1<=2 ^ 30:=by omega
  have hb2:Z C+1<=2 ^ 30:=by omega
  have hb3:1<=maxLen:=by simp[maxLen]
  rw[hC];(repeat refine xS ?_);refine FG λK j=>?_;(repeat(refine Cc ?_ ?_;(·simp[hb1,hb3,hCl,Ac]);simp[t4,t5,t11]));refine Cc ?_ ?_
  .simp[hb1,hCl,Ac];rw[<-hC];exact mj W
  simp;refine xJ ?_;simp;refine BY (j _ _ ?_);(try simp only[xQ,reduceIte]);obtain⟨K3,hK3⟩:∃K3:RG,K3=(i,F1 g nd)::W:=⟨_,rfl⟩;have hKE:QT K3=QT (Jy g nd i v)/\TD (i+1) K3 E=TD (i+1) (Jy g nd i v) E:=by rw[hsK,hK3];exact⟨rfl,rfl⟩
  obtain⟨K4,hK4⟩:∃K4,K4=QT (Jy g nd i v):=⟨_,rfl⟩;obtain⟨E4,hE4⟩:∃E4,E4=TD (i+1) (Jy g nd i v) E:=⟨_,rfl⟩;rw[<-hK4,show((i+1:Nat):Int)=(i:Int)+1 by omega]at hE3;rw[<-hK4]at htp3;have hK3lt:∀x∈K3,x.1<n:=by
   have:=gg hE2.st;rw[<-hNA,o,hsK,<-hK3]at this;exact this
  have hK3l:Z K3<=i+1:=by rw[hK3];simp;omega
  have hi1:(i:Int)+1<=2000000:=by omega
  have hwi:b8 .i64 ((i:Int)+1)=((i+1:Nat):Int):=by rw[c8];omega
  refine Bo ?_;refine aes (λm tm S=>tm 1=.ptr 2 1 0 0/\tm 3=.row 3 n/\tm 5=.d (encI i)/\tm 24=.d (encI n)/\tm 25=.d (encI i)/\∃k T,m=Z k/\tm 4=.row 4 (Z k)/\S=MW sz U g F N T J k++[.row J 2 [.d (AH sy)]]/\QT k=K4/\TD (i+1) k T=E4/\Z T=n/\(∀x∈k,x.1<n)/\Z k<=i+1)
   ⟨Z K3,_,_,a9,by simp[t1],by simp[t3],by simp[t5],by simp[t24],by simp[t25],K3,E,rfl,by simp[hK3],by simp[MW,OH,OY,o,AA,hK3,GC,hC,bU,kc],by rw[hKE.1,hK4],by rw[hKE.2,hE4],hEl,hK3lt,hK3l⟩ ?_
  rintro m tm S ⟨t1,t3,t5,t24,t25,k,T,rfl,t4,rfl,H,L,hq3,hq4,P⟩;unfold MW OH OY;rw[o];match k,H,L,hq4,P,t4 with
  |[],H,L,hq4,P,t4=>
   refine xS (E5 λK j=>?_);refine xH ?_;simp[t4,Gf];refine BY (j _ _ ?_);(try simp only[xQ,reduceIte]);refine AP ?_;simp;refine Ci ?_;(try simp only[xQ,reduceIte]);refine xV λK j=>?_;simp[t25,hwi];apply j;simp only[QT,TD]at H L;rw[<-hE4,<-L]at hE3;subst H;exact⟨zg,_,_,fd 5 (S':=MW sz U g F N T J []) (by simp[MW,OH,OY,o,AA]) (by simp) (by simp) (by simp[JS]),by simp[clean,t1],by simp[clean,t3],by simp[clean,t24],by simp[clean],[],by simp[clean,t4],T,.inr ⟨by simp[MW,OH,OY,o,AA],⟨xs3,hE3⟩,trivial,by simp,hq3⟩⟩
  |(s,y::Y)::k,H,L,hq4,P,t4=>
   have hL:=Gf k;have hk0:(0:Int)<(Z k:Int)+1:=by omega
   have Q:b8 .i64 (Z k:Int)=Z k:=by simp only[gr]at P;rw[c8];omega
   have hk2:(Z k:Int)<(Z k:Int)+1:=by omega
   have hk3:¬((Z Y:Int)+1=0):=by omega
   rw[GC];obtain⟨B,hB⟩:=ce (JS k);rw[hB]at hL⊢;simp only[bU,kc,ii];obtain⟨m,M⟩:=ce (Z k);simp only[gr,M]at t4 hL hk0 Q hk2;refine xS (E5 λK j=>?_);refine xH ?_;simp[t4,hL,hk0,Q,hk2];refine BY (j _ _ ?_);(try simp only[xQ,reduceIte]);refine AP ?_;simp[hk3];refine Ci ?_;(try simp only[xQ,reduceIte]);refine xV λK j=>?_;simp[t25,hwi];apply j;have hS1:∀X,MW sz U g F N T J ((s,y::Y)::k)++[X]=[.row J sz [.d U],.row J 9 [.d (AA g)],.row J 11 [.agg (OY g F (Z N))],.row J 1 (T.map λx=>.d (.int .i64 x)),.row J 2 (B++[.d (.agg [.int .i64 s,.sl (AH y::Y.map AH)])]),X]:=λX=>by
    simp[MW,OH,GC,hB,bU,kc]
   simp only[QT,TD]at H L;rw[<-hE4,<-L]at hE3;subst H;exact⟨zg,_,_,fd 5 (S':=MW sz U g F N T J ((s,y::Y)::k)) (by simp[MW,OH,OY,o,AA,GC,hB,bU,kc]) (by simp) (by simp) (by simp;exact WB hB),by simp[clean,t1],by simp[clean,t3],by simp[clean,t24],by simp[clean],(s,y::Y)::k,by simp[clean,t4,M],T,.inr ⟨by simp[MW,OH,OY,o,AA],⟨xs3,hE3⟩,trivial,by simpa using P,hq3⟩⟩
  |(s,[])::k,H,L,hq4,P,t4=>
   have hL:=Gf k;have hk0:(0:Int)<(Z k:Int)+1:=by omega
   have Q:b8 .i64 (Z k:Int)=Z k:=by simp only[gr]at P;rw[c8];omega
   have hk2:(Z k:Int)<(Z k:Int)+1:=by omega
   have hsn:s<n:=hq4 (s,[]) (by simp);have hsE:s<Z T:=by omega
   rw[GC];obtain⟨B,hB⟩:=ce (JS k);rw[hB]at hL⊢;simp only[bU,kc,W2];obtain⟨m,M⟩:=ce (Z k);simp only[gr,M]at t4 hL hk0 Q hk2;refine xS (E5 λK j=>?_);refine xH ?_;simp[t4,hL,hk0,Q,hk2];refine BY (j _ _ ?_);(try simp only[xQ,reduceIte]);refine AP ?_;simp;refine CF ?_;(try simp only[xQ,reduceIte]);refine Bo ?_;refine xW λK j=>?_;simp[t3,t4,t5,hL,Q,hk2,hsn,hq3,hwi];apply j;refine FG λK j=>?_;(repeat(refine Cc ?_ ?_;(·simp[hL]);simp[t4,Q]));refine AS.Ma 4 (m+1) 2 (B++[.d (.agg [.int .i64 s,.sl []])]) 0 m rfl (by simp[hL];omega) ?_;simp[<-hL];refine xJ ?_;simp;refine BY (j _ _ ?_);have hE5:(T.map λx=>V.d (br zz x)).set s (V.d (br zz (↑i+1)))=(T.set s ((i:Int)+1)).map λx=>V.d (br zz x):=by rw[g9]
   simp only[QT,TD]at H L;refine⟨Z k,by simp[M],_,_,vk [0,1,2,3,6,5] (S0:=MW sz U g F N (T.set s ((i:Int)+1)) J k++[.row J 2 [.d (AH sy)]]) ?_ ?_ ?_,?_,?_,?_,?_,?_,k,rfl,?_,T.set s ((i:Int)+1),?_,H,L,by simp[hq3],?_,?_⟩
   .have hd1:∀x∈(T.map λx=>V.d (br zz x)).set s (V.d (br zz (↑i+1))),∃d,x=V.d d:=by
     rw[hE5];intro x hx;obtain⟨y,_,rfl⟩:=g7.1 hx;exact⟨_,rfl⟩
    have hd2:∀x∈B,∃d,x=V.d d:=by rw[<-hB];intro x hx;obtain⟨y,_,rfl⟩:=g7.1 hx;exact⟨_,rfl⟩
    simp[MW,OH,OY,o,AA,hB];exact⟨⟨(Sn hd1).symm,(Sn hd2).symm⟩,KN hd1,KN hd2⟩
   .simp
   .rfl
   .simp[pick,t1];try decide
   .simp[pick,t3];try decide
   .simp[pick,t5]
   .simp[pick,t24]
   .simp[pick,t25]
   .simp[pick,M,hL];try decide
   .simp[MW,OH,OY,o,AA]
   .intro x ss' hx;exact hq4 (x,ss') (by simp[hx])
   .simp only[gr]at P;omega
 .have e:i=n:=by omega
  subst e;obtain⟨xs,hx⟩:∃xs,EI g A N i v E xs:=by
   rcases hI with⟨h1,_,_⟩|⟨_,h⟩
   .omega
   .exact h
  obtain⟨rfl,rfl⟩:=hx.last htp hNA o.symm;refine Ci ?_;refine xS (xW λK j=>?_);simp[t4,Gf];apply j;refine AP ?_;simp;refine CF ?_;(try simp only[xQ,reduceIte]);(repeat refine xS ?_);refine xV λK j=>?_;simp[t3];refine j _ _ ?_;(try simp only[xQ,reduceIte]);(refine Aj ?_;(try simp only[xQ,reduceIte]);refine⟨_,_,_,gl 3 (xs:=E.map encI) rfl (by simp),by simp,by simp[BO,B4,hNA,<-o],fd 2 (by simp[AA]) (by simp) (by simp) (by simp)⟩)
open Go.Proofs
structure Wd where
 fr:Int
 to:Int
 pq:Int
 first:Bool
 tok:Int
def Cb(x:Wd):D:=.agg [encI x.fr,encI x.to,encI x.pq,Cu x.first,D.sl [br .i64 x.tok]]
@[simp] theorem lS(x:Wd):Ae (.d (Cb x))=[.d (encI x.fr),.d (encI x.to),.d (encI x.pq),.d (Cu x.first),.d (D.sl [br .i64 x.tok])]:=rfl
@[simp] theorem n9(x:Wd):Ap (.d (Cb x))=true:=rfl
@[simp] theorem sX(x:Wd):Bp (.d (Cb x))=false:=rfl
@[simp] theorem lD(x:Wd):BE (Cb x)=[encI x.fr,encI x.to,encI x.pq,Cu x.first,D.sl [br .i64 x.tok]]:=rfl
@[simp] theorem qv(x:Wd):CL.oneD (Cb x)=true:=rfl
@[simp] theorem uv(x:Wd):DY (Cb x)=Bm [encI x.fr,encI x.to,encI x.pq,Cu x.first,D.sl [br .i64 x.tok]]:=rfl
@[simp] theorem pG(S:Sg)(x:Wd):DS S (.d (Cb x))=some [encI x.fr,encI x.to,encI x.pq,Cu x.first,D.sl [br .i64 x.tok]]:=rfl
structure XN where
 prod:Int
 tok:Int
 fr:Int
 to:Int
 deriving DecidableEq
def Ei(x:XN):D:=.agg [encI x.prod,encI x.tok,encI x.fr,encI x.to]
@[simp] theorem ko(x:XN):Ae (.d (Ei x))=[.d (encI x.prod),.d (encI x.tok),.d (encI x.fr),.d (encI x.to)]:=rfl
@[simp] theorem my(x:XN):Ap (.d (Ei x))=true:=rfl
@[simp] theorem tQ(x:XN):Bp (.d (Ei x))=false:=rfl
@[simp] theorem mc(x:XN):BE (Ei x)=[encI x.prod,encI x.tok,encI x.fr,encI x.to]:=rfl
@[simp] theorem rb(x:XN):CL.oneD (Ei x)=true:=rfl
@[simp] theorem uz(x:XN):DY (Ei x)=Bm [encI x.prod,encI x.tok,encI x.fr,encI x.to]:=rfl
@[simp] theorem sU(x y:XN):CT [br .i64 x.prod,br .i64 x.tok,br .i64 x.fr,br .i64 x.to] [br .i64 y.prod,br .i64 y.tok,br .i64 y.fr,br .i64 y.to]=decide (x=y):=by
 cases x;cases y;rw[gI];simp[CT,DZ]
@[simp] theorem pg(S:Sg)(x:XN):DS S (.d (Ei x))=some [encI x.prod,encI x.tok,encI x.fr,encI x.to]:=rfl
@[simp] def CE(l:List XN):D:=.sl (l.map Ei)
@[simp] def D5(l:List Wd):D:=.sl (l.map Cb)
structure PT where
 ws:List Wd
 rs:List Wd
 e:Int
def C7(x:PT):D:=.agg [D5 x.ws,D5 x.rs,encI x.e,br .i64 (-1)]
@[simp] theorem nX(x:PT):Ae (.d (C7 x))=[.d (D5 x.ws),.d (D5 x.rs),.d (encI x.e),.d (br .i64 (-1))]:=rfl
@[simp] theorem nP(x:PT):Ap (.d (C7 x))=true:=rfl
@[simp] theorem qR(x:PT):Bp (.d (C7 x))=false:=rfl
@[simp] theorem mL(x:PT):BE (C7 x)=[D5 x.ws,D5 x.rs,encI x.e,br .i64 (-1)]:=rfl
@[simp] theorem tE(x:PT):CL.oneD (C7 x)=true:=rfl
@[simp] theorem uo(x:PT):DY (C7 x)=Bm [D5 x.ws,D5 x.rs,encI x.e,br .i64 (-1)]:=rfl
@[simp] theorem pN(S:Sg)(x:PT):DS S (.d (C7 x))=some [D5 x.ws,D5 x.rs,encI x.e,br .i64 (-1)]:=rfl
open Go.Proofs Go.Sort Go.Lib Go.Shelf
abbrev WA:=Wd×Option Addr×Nat×Nat
instance:Inhabited Wd:=⟨⟨0,0,0,false,0⟩⟩
def EZ(x:WA):List Value:=[.int .i64 x.1.fr,.int .i64 x.1.to,.int .i64 x.1.pq,.bool x.1.first,.slice x.2.1 x.2.2.1 x.2.2.2]
def Wu(x y:WA):Int:=Lib.compareInt x.1.fr y.1.fr
theorem wK(x y:WA):ltOf Wu x y=decide (x.1.fr<y.1.fr):=by
 unfold ltOf Wu Lib.compareInt;by_cases g:x.1.fr<y.1.fr
 .simp[g]
 .by_cases h:y.1.fr<x.1.fr<;>simp[g,h]
theorem xh:SWO (ltOf Wu) where
 irrefl x:=by rw[wK];simp
 trans x y z i j:=by rw[wK]at *;simp at *;omega
 ntrans x y z i j:=by rw[wK]at *;simp at *;omega
theorem mA{I:Nat->Prop}{w:World}{x:Wd}{v:Value}(h:CD I w (Cb x) v):∃y:WA,y.1=x/\v=.agg (EZ y).toArray:=by
 unfold Cb at h;cases h with
 |agg ds g u h E=>
  have A:g.size=5:=by simpa using u
  have h0:=h 0 (by simp);have j:=h 1 (by simp);have m:=h 2 (by simp);have o:=h 3 (by simp);have q:=h 4 (by simp);simp only[wv,Kf]at h0 j m o q;have e:g=#[g[0],g[1],g[2],g[3],g[4]]:=by
   apply adR
   .simp[A]
   .intro i a b;match i,b with
    |0,_=>rfl
    |1,_=>rfl
    |2,_=>rfl
    |3,_=>rfl
    |4,_=>rfl
  rw[e];generalize g[0]=F at h0;generalize g[1]=G at j;generalize g[2]=H at m;generalize g[3]=K at o;generalize g[4]=B at q;cases h0;cases j;cases m;cases o;have C:∃a n k,B=.slice a n k:=by cases q<;>exact⟨_,_,_,rfl⟩
  obtain⟨a,n,k,rfl⟩:=C;exact⟨(x,a,n,k),rfl,rfl⟩
section
variable {P:Program} {ρ:Ren}
theorem ZI(L:SlLaysF0.n6 P ρ)(aE:∀w,(isAgg (ρ.t 24)).run P w=.ok J w)(zE:∀w,(Go.sizeOf (ρ.t 24)).run P w=.ok 5 w)(g:FuncId)(eg:∀args w,(callFunc g args).run P w=.ok (.enter g args) w)
  (hcmp:∀(x y:WA) (W:World),Calls P g #[.agg (EZ x).toArray,.agg (EZ y).toArray] W λe w'=>e=.returned (.int .i64 (Wu x y))/\∃q os',w'=grow (W.drewN q) os') (hf:Mu P (ρ.f 6)=J) (ws:List Wd) (hmx:Z ws<=2 ^ 30):
  BH P (ρ.f 6) [.row 0 (Z ws),.fn (.func g) [] []] [.row J 5 (ws.map λx=>.d (Cb x))] λv S'=>v=.CX []/\∃B:List Wd,B.Perm ws/\B.Pairwise (λa b=>a.fr<=b.fr)/\S'=[.row J 5 (B.map λx=>.d (Cb x))]:=by
 refine⟨hf,λG w u R zp zl=>?_⟩;have zq:=R.Da 0 _ rfl;simp only[OK]at zq;cases U:G.BG 0 with
 |some a=>rw[U]at zq;exact absurd zq.1 (by simp)
 |none=>
 rw[U]at zq;obtain⟨c,T,hb,Q,F,S,hrow⟩:=zq;simp only[y3]at F S;obtain⟨CP,C⟩:=ce (G.CP 0);obtain⟨off,K⟩:=ce ((G.cap 0).2);obtain⟨cap,X⟩:=ce ((G.cap 0).1);rw[C]at hb;rw[K]at Q hrow;rw[X]at Q F;have hbl:CP<w.heap.size:=(abg.1 hb).1;have hown:Own G [.row J 5 (ws.map λx=>V.d (Cb x))] CP:=⟨0,_,rfl,by simp[Ba,U],C.symm⟩;obtain⟨n,hn⟩:=ce (Z ws);simp only[hn]at F S zl;have zt:u.size=2:=by simpa using zp
 have a0:=zl 0 (by simp) (by omega);have a1:=zl 1 (by simp) (by omega);have e0:u[0]=.slice (some ⟨CP,off,none⟩) n cap:=by
  simp only[wv]at a0;generalize u[0]=x at a0;cases a0 with
  |row r m v ho hr h=>
   have:=(h n (by simp[lenOf,hn])).2 rfl;rw[this];simp[Gh.BU,U,C,K,X]
 have e1:u[1]=.func (.func g) #[] #[]:=by
  simp only[Kf,wv]at a1;generalize u[1]=x at a1;cases a1 with
  |fn _ _ _ xs ys h1 h2 h3 h4=>
   have z1:xs=#[]:=ace (by simpa using h1);have z2:ys=#[]:=ace (by simpa using h2);rw[z1,z2]
 have ec:u=#[.slice (some ⟨CP,off,none⟩) n cap,.func (.func g) #[] #[]]:=by
  apply adR
  .simp[zt]
  .intro i a b;match i,b with
   |0,_=>exact e0
   |1,_=>exact e1
 rw[ec];have hel:∀i (h:i<n),∃y:WA,y.1=ws[i]/\CD G.I w (Cb y.1) (.agg (EZ y).toArray)/\∀j,j<5->c[off+(i * 5+j)]?=(EZ y)[j]?:=λi h=>by
  obtain⟨v,g1,_,_,g4⟩:=hrow i (by simp[hn,h]);simp only[m6]at g1;cases g1 with
  |d _ _ hd=>
   obtain⟨y,y1,y2⟩:=mA hd;refine⟨y,y1,by rw[y1,<-y2];exact hd,λj hj=>?_⟩;rw[g4 j hj,y2];simp[Value.cells]
 obtain⟨f,hf2⟩:∃f:Nat->WA,∀i (h:i<n),(f i).1=ws[i]/\CD G.I w (Cb (f i).1) (.agg (EZ (f i)).toArray)/\∀j,j<5->c[off+(i * 5+j)]?=(EZ (f i))[j]?:=by
  classical
  refine⟨λi=>if h:i<n then(hel i h).choose else default,λi h=>?_⟩;simp only[NE h];exact(hel i h).choose_spec
 obtain⟨d,hd⟩:∃d:Array WA,d=((List.range n).map f).toArray:=⟨_,rfl⟩;have N:d.size=n:=by rw[hd];simp
 have hdg:∀i,i<n->d[i]! =f i:=λi h=>by rw[hd];simp[h]
 have Y:∀y:WA,Z (EZ y)=5:=λ_=>rfl;have hH:HoldsK EZ 5 w CP off d:=by
  intro t ht;have ht':t<n * 5:=by rw[<-N];simpa using ht
  have hi:t / 5<n:=by omega
  rw[get_flatK _ _ _ t (by rw[N];exact ht'),hdg _ hi];have h3:=(hf2 _ hi).2.2 (t % 5) (i7 _ (by omega));rw[show t / 5 * 5+t % 5=t by omega]at h3;have zg:t % 5<Z (EZ (f (t / 5))):=by rw[Y];exact i7 _ (by omega)
  rw[ej zg]at h3;refine⟨?_,?_⟩
  .rw[getElem!_pos (EZ (f (t / 5))) (t % 5) zg];simp[World.cell?,hb,h3]
  .simp[World.frozen?,hb]
 have hcon:=AnyQ.slices_SortFunc L 5 aE zE EZ Y (λx v U=>by simp[EZ]at U;rcases U with rfl|rfl|rfl|rfl|rfl<;>rfl) Wu xh g #[] CP off cap d w eg (λ_ _ _ _ x y=>hcmp x y _) hH hbl (by rw[N];omega);rw[N]at hcon;refine hcon.mono ?_;rintro e w' ⟨rfl,A,m,os,hp,hs,hw⟩;obtain⟨p1,_,p3⟩:=hp;have H:A.size=n:=by rw[p1,N]
 have px1:A.extract 0 n=A:=by rw[<-H];simp
 have px2:d.extract 0 n=d:=by rw[<-N];simp
 rw[px1,px2]at p3;have hdl:d.toList.map (·.1)=ws:=by
  rw[hd];apply xv (by simp[hn]);intro i h1 h2;simp only[m6,acI];exact(hf2 i (by omega)).1
 obtain⟨B,M⟩:∃B,B=A.toList.map (·.1):=⟨_,rfl⟩;have hl':Z B=n:=by rw[M];simp[H]
 have zj:∀y∈A.toList,CD G.I w (Cb y.1) (.agg (EZ y).toArray):=λy hy=>by
  have:=(p3.mem_iff).1 hy;rw[hd]at this;obtain⟨i,hi,rfl⟩:=g7.1 this;exact(hf2 i (by simpa using hi)).2.1
 have hhe:∀k,k<w.heap.size->w'.heap[k]?=if k=CP then some (.cells (Go.Sort.putCells id off (flatK EZ 5 A) c) T (0,0))else w.heap[k]?:=λk E=>by
  rw[hw];simp only[sortWorldK,putRowK,putRow,mapBlock,grow];rw[abE (by simpa using E),Array.getElem?_modify];by_cases e:k=CP
  .subst e;rw[ca rfl,ca rfl];show(w.heap[k]?).map _=_
   rw[hb];rfl
  .rw[bv (λh=>e h.symm),bv e];rfl
 have hsz':w.heap.size<=w'.heap.size:=by rw[hw];simp[sortWorldK,putRowK,putRow,mapBlock,grow]
 have hos:w'.os=w.os:=by rw[hw];rfl
 have hout:w'.output=w.output:=by rw[hw];rfl
 have nIb:¬G.I CP:=R.nI _ hown;have hkI:∀k,G.I k->w'.heap[k]?=w.heap[k]?:=λk E=>by rw[hhe k (R.JH k E),bv (λ(e:k=CP)=>nIb (e▸E))]
 have oS:∀k (l:List V),Own G [.row J 5 l] k↔k=CP:=λk l=>by
  constructor
  .rintro⟨r,o,h1,_,h3⟩;match r,h1 with
   |0,_=>rw[h3,C]
  .rintro rfl;exact⟨0,_,rfl,by simp[Ba,U],C.symm⟩
 have L':BA G [.row J 5 (ws.map λx=>V.d (Cb x))] w G [.row J 5 (B.map λx=>V.d (Cb x))] w':=
  ⟨λ_ h=>h,hkI,by simp,λr hr n' hn'=>by
   match r,hr with
   |0,_=>
    refine⟨n,by simp[lenOf,hn],?_,λ_=>⟨rfl,rfl,rfl,.inl (by simp[C1])⟩⟩;simp[lenOf,hl']at hn';omega,λr hr h=>by
   match r,hr with
   |0,_=>simp[isMap]at h⟩
 refine⟨.tuple #[],G,.CX [],_,⟨rfl,B,?_,?_,rfl⟩,rfl,.CX _ _ rfl (λi h=>by simp at h),⟨R.Gl.later L',λr o h=>?_,λr r' o o' h h' _ _ _=>?_,λk E=>?_,λk E=>su (R.JH k E) hsz',λk E=>?_⟩,⟨hsz',λ_ h=>h,λk E zw=>?_,λk E=>.inl ?_,λk E=>.inl E,hos,hout⟩,L'⟩
 .rw[M,<-hdl];exact p3.map _
 .rw[M,acW,abQ];intro i j hi hj hij;have:=hs i j (er _) hij (by simp[H]at hj;omega);rw[wK]at this;simp only[Pi]at this;have e1:A[i]! =A.toList[i]:=by simp at hi;simp[hi]
  have e2:A[j]! =A.toList[j]:=by simp at hj;simp[hj]
  rw[e1,e2]at this;omega
 .match r,h with
  |0,h=>
   simp only[abX,j3]at h;subst h;simp only[OK,U];refine⟨_,T,by rw[C,hhe CP hbl,ca rfl],by rw[X,K];simpa[Go.Sort.putCells]using Q,by rw[X];simp[hl'];exact F,by simp[hl'];exact S,λi hi=>?_⟩;have hin:i<n:=by simpa[hl']using hi
   have hid:i<Z A.toList:=by simp[H];exact hin
   have hm:=zj _ (cL hid);have eg':(B.map λx=>V.d (Cb x))[i]=.d (Cb (A.toList[i]).1):=by simp[M]
   rw[eg'];refine⟨.agg (EZ A.toList[i]).toArray,.d _ _ (hm.mono (λ_ h=>h) hkI),by simp[Value.cells,Y],λx hx=>?_,λj hj=>?_⟩
   .simp only[Value.cells,adu]at hx;simp[EZ]at hx;rcases hx with rfl|rfl|rfl|rfl|rfl<;>rfl
   .rw[K];have hcs:off+n * 5<=c.size:=by
     have:=At 5 F;omega
    have zg:off+(i * 5+j)<c.size:=by omega
    have ht:i * 5+j<A.size * 5:=by rw[H];omega
    have hjl:j<Z (EZ A.toList[i]):=by rw[Y];exact hj
    simp only[Go.Sort.putCells,Array.getElem?_mapIdx,ll zg,acn,size_flatK];rw[ca (by omega),show off+(i * 5+j) - off=i * 5+j by omega];show some (id (flatK EZ 5 A)[i * 5+j]!)=_
    rw[get_flatK _ _ _ _ ht,show(i * 5+j) / 5=i by omega,show(i * 5+j) % 5=j by omega];have e1:A[i]! =A.toList[i]:=by simp at hid;simp[hid]
    rw[e1,getElem!_pos (EZ A.toList[i]) j hjl];have e2:(Value.agg (EZ A.toList[i]).toArray).cells[j]?=some (EZ A.toList[i])[j]:=by
     show(EZ A.toList[i]).toArray[j]?=_
     rw[acN,ej hjl]
    rw[e2];rfl
 .match r,r',h,h' with
  |0,0,_,_=>rfl
 .rw[oS]at E;subst E;exact nIb
 .rw[oS]at E;subst E;omega
 .rw[hhe k E,bv (λe=>zw ((oS k _).2 e))]
 .rw[oS]at E⊢;exact E
end
end Go.Koi
