/-
  Part 16 of the proof that the law ChangeFoldInline returns true for every input.
-/
import Derived.Test.YtgdfmldabcofeaaGreatDoorK14
set_option maxHeartbeats 64000000
set_option maxRecDepth 100000
namespace Go.Koi
open Go renaming maxLen->al
open Go.Proofs DT
def C1(x:AX):AX:=U5 7 x.number x.at_ 0 ⟨#[]⟩
noncomputable def D9(g:AE)(x:AX):AO:={FV with name:=(A3 g x).name++⟨#[95]⟩++x.name,left:=(A3 g x).left,right:=(A3 g x).right,cond:=(A3 g x).cond}
noncomputable def CC(g:AE)(x:AX):AE:=
 {g with A2:=g.A2++[x.name],AD:=((g.AD++[Er g x]).set x.number.toNat {A3 g x with right:=DE g x,cond:=⟨[],0⟩})++[D9 g x]}
def G9(g:AE)(x:AX):List Rewrite:=[⟨x.number,x.at_,(g.AD.length:Nat),Be ((g.AD.length+1:Nat):Int)::BF 0 (A3 g x).right.length⟩]
structure BR(g:AE)(x:AX)(j a b:Nat):Prop where
 c0:C2 g=0
 h0:NY (A6 g x)=0
 hj:x.number=j
 ha:x.at_=a
 hb:x.to=b
 jl:j<g.AD.length
 ab:a<b
 bl:b<=(A3 g x).right.length
 bd:Ct g x.number=false
theorem BR.Hy{g:AE}{x:AX}{j a b:Nat}(F:BR g x j a b):A3 g x=g.AD[j]'F.jl:=by simp[A3,F.hj,List.getD,F.jl]
theorem BR.mem{g:AE}{x:AX}{j a b:Nat}(F:BR g x j a b):A3 g x∈g.AD:=by rw[F.Hy];exact b9 F.jl
theorem BR.DE{g:AE}{x:AX}{j a b:Nat}(F:BR g x j a b):DE g x=(A3 g x).right.take a++⟨false,(g.A2.length:Nat)⟩::(A3 g x).right.drop b:=by
 simp[Koi.DE,F.ha,F.hb]
theorem BR.part{g:AE}{x:AX}{j a b:Nat}(F:BR g x j a b):(Er g x).right=((A3 g x).right.drop a).take (b - a):=by
 simp[Er,F.ha,F.hb,List.drop_take]
theorem BR.cut{g:AE}{x:AX}{j a b:Nat}(F:BR g x j a b):(A3 g x).right.take a++((Er g x).right++(A3 g x).right.drop b)=(A3 g x).right:=by
 rw[F.part];have e:(A3 g x).right.drop b=((A3 g x).right.drop a).drop (b - a):=by rw[co];congr 1;have:=F.ab;omega
 rw[e,wN,wN]
theorem BR.AD{g:AE}{x:AX}{j a b:Nat}(F:BR g x j a b):(A6 g x).AD=(g.AD++[Er g x]).set j {A3 g x with right:=Koi.DE g x}:=by simp[A6,F.hj]
theorem BR.len{g:AE}{x:AX}{j a b:Nat}(F:BR g x j a b):(A6 g x).AD.length=g.AD.length+1:=by rw[F.AD];simp
theorem BR.at{g:AE}{x:AX}{j a b:Nat}(F:BR g x j a b)(i:Nat):(A6 g x).AD[i]?=if i=j then some {A3 g x with right:=Koi.DE g x}else if i=g.AD.length then some (Er g x)else g.AD[i]?:=by
 have hj:=F.jl;rw[F.AD,yy];by_cases e:i=j
 .subst e;simp;omega
 .rw[ao (λh=>e h.symm),ao e,acI];by_cases k:i<g.AD.length
  .rw[ap k,ao (by omega)]
  .rw[ao k];by_cases m:i=g.AD.length
   .subst m;simp
   .rw[ao m,np (by simp;omega),np (by omega)]
theorem BR.eH{g:AE}{x:AX}{j a b:Nat}(F:BR g x j a b):A3 (A6 g x) (C1 x)={A3 g x with right:=Koi.DE g x}:=by
 have:=F.at j;rw[ap rfl]at this;unfold A3;rw[io,show(C1 x).number.toNat=j by simp[C1,U5,F.hj],this];rfl
theorem BR.VS{g:AE}{x:AX}{j a b:Nat}(F:BR g x j a b):Bu (A6 g x) (g.AD.length:Nat)=Er g x:=by
 have:=F.at g.AD.length;have hj:=F.jl;rw[ao (by omega),ap rfl]at this;unfold Bu;rw[io,ii,this];rfl
abbrev adl:=@Nat.min_eq_left
theorem BR.sq{g:AE}{x:AX}{j a b:Nat}(F:BR g x j a b):I2 (A6 g x) (C1 x)=⟨false,(g.A2.length:Nat)⟩:=by
 have h1:=F.ab;have h:=F.bl;unfold I2;rw[F.eH];show(Koi.DE g x).getD (C1 x).at_.toNat ⟨false,0⟩=_
 rw[show(C1 x).at_.toNat=a by simp[C1,U5,F.ha],F.DE,io,ls (by rw[up];omega)];simp[adl (show a<=(A3 g x).right.length by omega)]
theorem BR.Ci{g:AE}{x:AX}{j a b:Nat}(F:BR g x j a b):Ci (A6 g x) (C1 x)=true:=by
 have h1:=F.ab;have o:=F.bl;have q:=F.jl;have h:=F.len;have i:D1 (A6 g x) (C1 x)=true:=by
  have:(C1 x).number=j:=by simp[C1,U5,F.hj]
  simp[D1,this,h];omega
 have k:(C1 x).at_=a:=by simp[C1,U5,F.ha]
 have m:(A3 (A6 g x) (C1 x)).right[a]?=some ⟨false,(g.A2.length:Nat)⟩:=by
  rw[F.eH];show(Koi.DE g x)[a]?=_
  rw[F.DE,ls (by rw[up];omega)];simp[adl (show a<=(A3 g x).right.length by omega)]
 simp[Koi.Ci,i,k,m]
theorem PN{g:AE}:∀{o:List Level} {u:List Int},ED g u o=true->∀l∈o,∀p∈l.AD,0<=p/\p<g.AD.length
 |[],_,_=>λl s=>by simp at s
 |l::o,u,h=>by
  unfold ED at h;split at h
  .cases i:CB g.AD.length u l.AD with
   |none=>rw[i]at h;cases h
   |some v=>
    rw[i]at h;intro t k p j;rcases fi.1 k with rfl|k
    .have:∀(m u v:List Int),CB g.AD.length u m=some v->∀p∈m,0<=p/\p<g.AD.length:=by
      intro m;induction m with
      |nil=>intro u v _ p j;simp at j
      |cons q m w=>
       intro u v i p j;unfold CB at i;split at i
       .cases i
       .next hn=>
        simp only[q7]at hn;rcases fi.1 j with rfl|j
        .omega
        .exact w _ _ i p j
     exact this _ _ _ i p j
    .exact PN h t k p j
  .cases h
theorem fx{g:AE}{f:Filter}(h:D5 g f=true)(k:f.kind=1\/f.kind=2):f.parent<g.AD.length/\f.child<g.AD.length:=by
 simp[D5]at h;have h1:=h.1;unfold Ee at h1;rw[ap k]at h1;simp at h1;have i:=h1.2;unfold JP at i;simp at i;obtain⟨⟨⟨q,s⟩,t⟩,j⟩:=i;split at j
 .next p c m o=>
  have:=(df.1 m).1;have:=(df.1 o).1;omega
 .cases j
theorem iB{g:AE}{f:Filter}(h:D5 g f=true)(i:f.kind=3\/f.kind=4):f.left<g.A2.length:=by
 simp[D5]at h;have h1:=h.1;unfold Ee at h1;rw[ao (by omega),ap i]at h1;simp at h1;exact h1.1.2
theorem FC{g:AE}(h:C2 g=0){p:AO}(i:p∈g.AD):0<=p.left/\p.left<g.A2.length:=by
 obtain⟨_,_,_,_,j,_⟩:=Ck h;have h1:=(EK j p i).1;simp[EG]at h1;have k:=h1.1;simpa[F4]using k
theorem I5{g:AE}(h:C2 g=0){p:AO}(i:p∈g.AD){s:Symbol}(hs:s∈p.right)(j:s.token=false):0<=s.index/\s.index<g.A2.length:=by
 obtain⟨_,_,_,_,k,_⟩:=Ck h;have h1:=(EK k p i).1;simp[EG]at h1;have m:=h1.2 s hs;simpa[F4,j]using m
theorem BR.Bv{g:AE}{x:AX}{j a b:Nat}(F:BR g x j a b):Bv (A6 g x) (C1 x)=[((g.AD.length:Nat):Int)]:=by
 have hj:=F.jl;unfold Koi.Bv nQ;rw[F.sq,F.len,RC];have m:(A6 g x).AD.getD g.AD.length FV=Er g x:=by have:=F.VS;simpa[Bu]using this
 rw[m,ap (show(Er g x).left=((g.A2.length:Nat):Int)from rfl)];have:Gc (A6 g x) ((g.A2.length:Nat):Int) g.AD.length=[]:=by
  unfold Gc;rw[List.map_eq_nil_iff,acX];intro i hi;have h:i<g.AD.length:=by simpa using hi
  simp only[cF];intro e;rw[io,F.at i]at e;by_cases k:i=j
  .rw[ap k]at e;have:=FC F.c0 F.mem;simp at e;omega
  .rw[ao k,ao (by omega),ci h]at e;have:=FC F.c0 (b9 h);simp at e;omega
 rw[this];rfl
theorem BR.Ly{g:AE}{x:AX}{j a b:Nat}(F:BR g x j a b):Ly (A6 g x) (C1 x)=false:=by
 have hj:=F.jl;have h1:=F.ab;have G:=F.bl;obtain⟨_,_,_,_,_,i,m⟩:=Ck F.c0;have o:(A6 g x).AD.getD j FV={A3 g x with right:=Koi.DE g x}:=by rw[io,F.at j,ap rfl];rfl
 have q:(A6 g x).AD.getD g.AD.length FV=Er g x:=by have:=F.VS;simpa[Bu]using this
 have t:Ct (A6 g x) (C1 x).number=false:=by
  have:=F.bd;have u:(C1 x).number=j:=by simp[C1,U5,F.hj]
  rw[F.hj]at this;rw[u];unfold Ct at this⊢;rw[ii]at this⊢;rw[o];have v:g.AD.getD j FV=A3 g x:=by rw[F.Hy];simp[List.getD,hj]
  rw[v]at this;exact this
 have w:Ct (A6 g x) ((g.AD.length:Nat):Int)=false:=by
  unfold Ct;rw[ii,q];have l1:(A6 g x).levels.any (λl=>l.AD.contains ((g.AD.length:Nat):Int))=false:=by
   rw[p6];intro l z h;have A:((g.AD.length:Nat):Int)∈l.AD:=by simpa using h
   have:=PN i l z _ A;omega
  have l2:((A6 g x).AU.any λf=>(decide (f.kind=1)||decide (f.kind=2))&&(decide (f.parent=((g.AD.length:Nat):Int))||decide (f.child=((g.AD.length:Nat):Int))))=false:=by
   rw[p6];intro f k h;simp at h;have:=fx (cl.1 m f k) h.1;omega
  rw[l1,l2];rfl
 have B:Gp (A6 g x) (C1 x)=false:=by
  unfold Gp;have:=F.Bv;unfold Koi.Bv at this;rw[this,F.sq];have l2:((A6 g x).AU.any λf=>(decide (f.kind=3)||decide (f.kind=4))&&decide (f.left=(⟨false,(g.A2.length:Nat)⟩:Symbol).index))=false:=by
   rw[p6];intro f k h;simp at h;have:=iB (cl.1 m f k) h.1;omega
  rw[l2];simp[w]
 have C:(Bu (A6 g x) ((g.AD.length:Nat):Int)).right.isEmpty=false:=by
  rw[F.VS,F.part];cases E:List.take (b - a) (List.drop a (A3 g x).right)with
  |nil=>
   have:=i6 List.length E;simp at this;omega
  |cons s l=>rfl
 unfold Koi.Ly;rw[t,B,F.Bv];simp[C]
theorem BR.NC{g:AE}{x:AX}{j a b:Nat}(F:BR g x j a b):NC (A6 g x) (C1 x) ((g.AD.length:Nat):Int)=(A3 g x).right:=by
 have h1:=F.ab;have i:=F.bl;unfold Koi.NC;rw[F.eH,F.VS,show(C1 x).at_.toNat=a by simp[C1,U5,F.ha]];show(Koi.DE g x).take a++((Er g x).right++(Koi.DE g x).drop (a+1))=_
 have h:((A3 g x).right.take a).length=a:=by simp;omega
 rw[F.DE,List.take_left' h,List.drop_append,h,ace (by omega),show a+1 - a=1 by omega];exact F.cut
theorem BR.and{g:AE}{x:AX}{j a b:Nat}(F:BR g x j a b)(hn:g.conds.length<=12):Gr Bool.and (A3 g x).cond (A3 g x).cond=((A3 g x).cond,0):=by
 obtain⟨h,i⟩:=HR (KS F.c0 F.mem);have h1:=(MY hn (Ep h) (Ep h) i i).1;have k:JH (tr (A3 g x).cond) (tr (A3 g x).cond)=tr (A3 g x).cond:=Ol (Lu _) λc=>by simp
 rw[k,Ep h]at h1;exact h1
theorem BR.O8{g:AE}{x:AX}{j a b:Nat}(F:BR g x j a b)(hn:g.conds.length<=12):O8 (A6 g x) (C1 x)=CC g x:=by
 have hj:=F.jl;unfold Koi.O8 CC;rw[F.Bv,F.eH,show(C1 x).number=x.number from rfl];have h:IH (A6 g x) (C1 x) ((g.AD.length:Nat):Int)=D9 g x:=by
  unfold IH D9;rw[F.NC,F.eH,F.VS];have:=F.and hn;simp[Er,this]
 have i:(A6 g x).AD=(g.AD++[Er g x]).set x.number.toNat {A3 g x with right:=Koi.DE g x}:=rfl;rw[List.map_singleton,h,i,F.hj,ii,Ks _ _ (by simp;omega),List.set_set];rfl
theorem BR.IU{g:AE}{x:AX}{j a b:Nat}(F:BR g x j a b):IU (A6 g x) (C1 x) (A6 g x).AD.length (Koi.Bv (A6 g x) (C1 x))=G9 g x:=by
 rw[F.Bv,F.len];simp[Koi.IU,Se,F.NC];rfl
theorem LW{g:AE}:∀(l:List AO) (L:List ByteArray),C6 g L l=0↔(∀p∈l,EG g p=true/\F6 g p=true/\p.name∉L)/\(l.map (·.name)).Nodup
 |[],L=>by simp[C6]
 |p::l,L=>by
  unfold C6;have u:Fi L p.name=true↔p.name∈L:=de L p.name;rw[eP,NE];by_cases c1:EG g p=false
  .rw[ap c1];refine⟨λh=>absurd h (by decide),λh=>?_⟩;have:=(h.1 p (by simp)).1;rw[c1]at this;cases this
  .rw[ao c1];by_cases j:Fi L p.name=true\/F6 g p=false
   .rw[ap j];refine⟨λh=>absurd h (by decide),λh=>?_⟩;have h1:=(h.1 p (by simp)).2;rcases j with j|j
    .exact absurd (u.1 j) h1.2
    .rw[j]at h1;exact absurd h1.1 (by decide)
   .rw[ao j,LW l];simp only[q7]at j;constructor
    .rintro⟨h1,m⟩;refine⟨λq k=>?_,λi=>?_,m⟩
     .rcases fi.1 k with rfl|k
      .exact⟨by simpa using c1,by simpa using j.2,λi=>j.1 (u.2 i)⟩
      .obtain⟨o,s,t⟩:=h1 q k;exact⟨o,s,λi=>t (by simp[i])⟩
     .obtain⟨q,k,e⟩:=eo.1 i;exact(h1 q k).2.2 (by simp[e])
    .rintro⟨h1,m,v⟩;refine⟨λq k=>?_,v⟩;obtain⟨o,s,t⟩:=h1 q (by simp[k]);refine⟨o,s,λi=>?_⟩;rcases dl.1 i with i|i
     .exact t i
     .simp at i;exact m (eo.2 ⟨q,k,i⟩)
theorem UH{g g':AE}(u:g'.conds=g.conds)(hn:g'.A2=g.A2)(s:g'.Ae=g.Ae)(t:∀(i:Nat) p,g.AD[i]?=some p->∃m,g'.AD[i]?=some m/\m.left=p.left/\m.right=p.right){f:Filter}(h:D5 g f=true):D5 g' f=true:=by
 simp[D5]at h⊢;refine⟨?_,h.2⟩;have h1:=h.1;unfold Ee at h1⊢;rw[u,hn];have j:∀k l,Gv g' k l=Gv g k l:=λk l=>by unfold Gv FO;rw[s]
 have v:∀i k,GN g' i k=GN g i k:=λi k=>by unfold GN;rw[s]
 simp only[j,v];split at h1
 .next c=>
  rw[ap c];simp only[bi]at h1⊢;refine⟨h1.1,?_⟩;have o:=h1.2;unfold JP at o⊢;simp only[bi]at o⊢;refine⟨o.1,?_⟩;have q:=o.2;split at q
  .next p c w z=>
   obtain⟨m,f1,_,f2⟩:=t _ _ w;obtain⟨A,f3,f4,_⟩:=t _ _ z;rw[f1,f3];simp only[f2,f4];exact q
  .cases q
 .next c=>
  rw[ao c];exact h1
theorem BR.NR{g:AE}{x:AX}{j a b:Nat}(F:BR g x j a b):(CC g x).AD=((A6 g x).AD.set j {A3 g x with right:=Koi.DE g x,cond:=⟨[],0⟩})++[D9 g x]:=by
 rw[F.AD,List.set_set];simp[CC,F.hj]
abbrev adv:=@ByteArray.size_append
theorem BR.nF{g:AE}{x:AX}{j a b:Nat}(F:BR g x j a b)(E:∀p∈g.AD,2<=p.name.size/\p.name.size<=7)(N:x.name.size=5)(wF:g.AD.length<=1000):C2 (CC g x)=0:=by
 have hj:=F.jl;have P:=(Du.1 F.h0).1;obtain⟨k1,k2,k3,k4,k5,Q,L⟩:=Ck P;obtain⟨n1,n2⟩:=(LW _ _).1 k5;have B:=F.NR;have m:=F.at j;rw[ap rfl]at m;have q:=lw m;have w:=F.len;have ye:∀p,EG (CC g x) p=EG (A6 g x) p:=λp=>rfl;have vz:∀p,F6 (CC g x) p=F6 (A6 g x) p:=λp=>rfl;obtain⟨o1,R,S⟩:=n1 _ q;have T:=EK (Ck F.c0).2.2.2.2.1 _ F.mem;have U:EG (CC g x) (D9 g x)=true:=by
  have h1:=T.1;simp[EG]at h1⊢;refine⟨?_,λs G=>?_⟩
  .have hl:=FC F.c0 F.mem;have u:(D9 g x).left=(A3 g x).left:=rfl;have o:(CC g x).A2.length=g.A2.length+1:=by simp[CC]
   simp[F4,u,o];omega
  .have:=h1.2 s G;unfold F4 at this⊢;split
   .next v=>rw[ap v]at this;exact this
   .next v=>
    rw[ao v]at this;simp[CC]at this⊢;omega
 have W:F6 (CC g x) (D9 g x)=true:=by
  have h1:=KS F.c0 F.mem;have z:C5 (D9 g x).cond (CC g x).conds.length=true:=h1;have X:Hx (D9 g x)=true:=by
   have u:(D9 g x).layout=[]:=rfl;have o:(D9 g x).scope=⟨false,0,0,0,0⟩:=rfl;have Y:(D9 g x).bracket=false:=rfl;simp[Hx,u,o,Y,Db]
  have H:(D9 g x).D6=0:=rfl;simp[F6,z,X,H]
 have Z:∀p∈(A6 g x).AD,p.name.size<=7:=λp k=>by
  rw[F.AD]at k;rcases y3 k with k|rfl
  .rcases dl.1 k with k|k
   .exact(E p k).2
   .simp at k;subst k;show x.name.size<=7
    omega
  .show(A3 g x).name.size<=7
   exact(E _ F.mem).2
 have A:7<(D9 g x).name.size:=by
  have z:=(E _ F.mem).1;have u:(D9 g x).name=(A3 g x).name++⟨#[95]⟩++x.name:=rfl;have o:(⟨#[95]⟩:ByteArray).size=1:=rfl;rw[u,adv,adv,o];omega
 have xh:C6 (CC g x) [⟨#[]⟩] (CC g x).AD=0:=by
  rw[LW,B];refine⟨λp k=>?_,?_⟩
  .rcases dl.1 k with k|k
   .rcases y3 k with k|rfl
    .exact n1 p k
    .refine⟨o1,?_,S⟩;have z:C5 ⟨[],0⟩ (CC g x).conds.length=true:=Ye false _;have C:=R;simp[F6]at C;simp[F6];exact⟨⟨⟨z,C.1.1.2⟩,C.1.2⟩,C.2⟩
   .simp at k;subst k;refine⟨U,W,λM=>?_⟩;simp at M;rw[M]at A;simp at A
  .rw[su,eQ];have e:((A6 g x).AD.map (·.name)).set j (A3 g x).name=(A6 g x).AD.map (·.name):=by
    apply un (by simp);intro i h1 z;rw[ada];split
    .next e=>
     subst e;have:=(df.1 m).2;simp[this]
    .rfl
   show(((A6 g x).AD.map (·.name)).set j (A3 g x).name++[(D9 g x).name]).Nodup
   rw[e,rt];refine⟨n2,by simp,λs G t v o=>?_⟩;simp at v;obtain⟨p,k,rfl⟩:=eo.1 G;have:=Z p k;rw[o,v]at this;omega
 have zY:(CC g x).AD.length=g.AD.length+2:=by rw[B];simp[w]
 have hL:C3 (CC g x)=false:=by
  have k1':=k1;simp only[C3,pw,y4]at k1⊢;obtain⟨⟨⟨⟨⟨⟨a1,a2⟩,a3⟩,a4⟩,a5⟩,a6⟩,J⟩:=k1;refine⟨⟨⟨⟨⟨⟨a1,a2⟩,a3⟩,a4⟩,by omega⟩,a6⟩,?_⟩;rw[p6]at J⊢;intro p k;rw[B]at k;have H:=DH F.c0 _ F.mem;rcases dl.1 k with k|k
  .rcases y3 k with k|rfl
   .exact J p k
   .have h:=J _ q;exact h
  .simp at k;subst k;have:(A3 g x).right.length<=16:=H;have u:(D9 g x).right=(A3 g x).right:=rfl;have o:(D9 g x).layout=[]:=rfl;simp[Ku,u,o,this]
 have K:EA (CC g x)=true:=by
  simp[EA]at L⊢;intro f K;refine UH (g:=A6 g x) (g':=CC g x) rfl rfl rfl (λi p e=>?_) (L f K);have hi:=(df.1 e).1;rw[B,ej (by simpa using hi),yy];by_cases o:j=i
  .subst o;rw[m]at e;cases e;rw[ap rfl,ap hi];exact⟨_,rfl,rfl,rfl⟩
  .rw[ao o];exact⟨p,e,rfl,rfl⟩
 have hv:ED (CC g x) [] (CC g x).levels=true:=FH (g:=A6 g x) (g':=CC g x) rfl (by omega) Q;simp[C2,hL,Dh,show Fb (CC g x)=true from k2,show Ex (CC g x)=true from k3,show Ia (CC g x)=true from k4,xh,hv,K,F7]
def um(N:Int->Bool)(r:Int->Nat)(left:Int)(right:List Symbol):Prop:=
 (Bq right=false->(∀s∈right,N s.index=true)->N left=true)/\∀l1 s l2,right=l1++s::l2->s.token=false->Bq (l1++l2)=false->(∀s∈l1++l2,N s.index=true)->r left<r s.index
theorem Hf.iff{g:AE}{N:Int->Bool}{r:Int->Nat}:Hf g N r↔∀p∈g.AD,um N r p.left p.right:=by
 constructor
 .intro h p i;refine⟨h.1 p i,λl1 s l2 e k ha m=>?_⟩;have hj:l1.length<p.right.length:=by rw[e];simp
  have o:p.right[l1.length]=s:=by simp[e]
  have q:Da p.right l1.length=l1++l2:=by simp[Da,e]
  have:=h.2 p i l1.length hj (by rw[o];exact k) (by rw[q];exact ha) (by rw[q];exact m);rw[o]at this;exact this
 .intro h;refine⟨λp i=>(h p i).1,λp i j hj k ha m=>?_⟩;exact(h p i).2 (p.right.take j) p.right[j] (p.right.drop (j+1)) (by rw[<-sw hj,wN]) k ha m
theorem D3(l k:List Symbol):Bq (l++k)=(Bq l||Bq k):=by simp[Bq]
theorem Pj{l:List Symbol}(h:Bq l=false){s:Symbol}(hs:s∈l):s.token=false:=KJ h s hs
theorem BR.back_mem{g:AE}{x:AX}{j a b:Nat}(F:BR g x j a b){p:AO}(h:p∈(CC g x).AD):
  (∃q∈g.AD,p.left=q.left/\p.right=q.right)\/(p.left=((g.A2.length:Nat):Int)/\p.right=(Er g x).right)\/(p.left=(A3 g x).left/\p.right=Koi.DE g x):=by
 rw[F.NR,F.AD,List.set_set]at h;rcases dl.1 h with h|h
 .rcases y3 h with h|rfl
  .rcases dl.1 h with h|h
   .exact .inl ⟨p,h,rfl,rfl⟩
   .simp at h;subst h;exact .inr (.inl ⟨rfl,rfl⟩)
  .exact .inr (.inr ⟨rfl,rfl⟩)
 .simp at h;subst h;exact .inl ⟨_,F.mem,rfl,rfl⟩
theorem BR.kW{g:AE}{x:AX}{j a b:Nat}(F:BR g x j a b){N:Int->Bool}{r:Int->Nat}(h:Hf g N r):∃K S,Hf (CC g x) K S:=by
 classical
 obtain⟨n1,wS⟩:∃n1:Int,n1=((g.A2.length:Nat):Int):=⟨_,rfl⟩;obtain⟨A,hA⟩:∃A,A=(A3 g x).right.take a:=⟨_,rfl⟩;obtain⟨B,hB⟩:∃B,B=(A3 g x).right.drop b:=⟨_,rfl⟩;obtain⟨M,hM⟩:∃M,M=(Er g x).right:=⟨_,rfl⟩;have J:(A3 g x).right=A++(M++B):=by rw[hA,hB,hM];exact F.cut.symm
 have hfr:Koi.DE g x=A++⟨false,n1⟩::B:=by rw[F.DE,hA,hB,wS]
 have T:=Hf.iff.1 h _ F.mem;rw[J]at T;have u:∀s∈A++(M++B),s.token=false->s.index≠n1:=λs i z e=>by
  have:=I5 F.c0 F.mem (s:=s) (by rw[J];exact i) z;omega
 have wu:(A3 g x).left≠n1:=by have:=FC F.c0 F.mem;omega
 let E:Bool:=decide (Bq M=false/\∀s∈M,N s.index=true);let G:Bool:=decide (Bq (A++B)=false/\∀s∈A++B,N s.index=true);let K:Int->Bool:=λn=>if n=n1 then E else N n;let S:Int->Nat:=λn=>if n=n1 then(if G then 2 * r (A3 g x).left+3 else 1)else 2 * r n+2;have hN:∀n,n≠n1->K n=N n:=λn hn=>by show(if n=n1 then E else N n)=_;rw[ao hn]
 have U:K n1=E:=by show(if n1=n1 then E else N n1)=_;rw[ap rfl]
 have Q:∀n,n≠n1->S n=2 * r n+2:=λn hn=>by show(if n=n1 then _ else 2 * r n+2)=_;rw[ao hn]
 have L:S n1=if G then 2 * r (A3 g x).left+3 else 1:=by show(if n1=n1 then _ else _)=_;rw[ap rfl]
 have k:∀{l:List Symbol},(∀s∈l,s.token=false->s.index≠n1)->Bq l=false->((∀s∈l,K s.index=true)↔∀s∈l,N s.index=true):=λ{l} R ha=>by
  constructor
  .intro hh s i;rw[<-hN _ (R s i (Pj ha i))];exact hh s i
  .intro hh s i;rw[hN _ (R s i (Pj ha i))];exact hh s i
 refine⟨K,S,Hf.iff.2 λp hp=>?_⟩;rcases F.back_mem hp with⟨q,hq,W,X⟩|⟨W,X⟩|⟨W,X⟩
 .rw[W,X];have hQ:=Hf.iff.1 h q hq;have y9:q.left≠n1:=by have:=FC F.c0 hq;omega
  have zJ:∀s∈q.right,s.token=false->s.index≠n1:=λs i z e=>by
   have:=I5 F.c0 hq i z;omega
  refine⟨λha i=>?_,λl1 s l2 e z ha i=>?_⟩
  .rw[hN _ y9];exact hQ.1 ha ((k zJ ha).1 i)
  .have R:∀H∈l1++l2,H.token=false->H.index≠n1:=λH o=>zJ H (by rw[e];simp at o⊢;rcases o with h|h<;>simp[h]);rw[Q _ y9,Q _ (zJ s (by rw[e];simp) z)];have:=hQ.2 l1 s l2 e z ha ((k R ha).1 i);omega
 .rw[W,X,<-wS,<-hM];refine⟨λha i=>?_,λl1 s l2 e z ha i=>?_⟩
  .rw[U];exact xt ⟨ha,(k (λs i=>u s (by simp[i])) ha).1 i⟩
  .have R:∀H∈l1++l2,H.token=false->H.index≠n1:=λH o=>u H (by rw[e];simp at o⊢;rcases o with h|h<;>simp[h]);have o:=(k R ha).1 i;rw[L,Q _ (u s (by rw[e];simp) z)];split
   .next Y=>
    obtain⟨o1,o2⟩:=acM Y;rw[D3,pw]at o1 ha;have:=T.2 (A++l1) s (l2++B) (by rw[e];simp) z (by simp[D3,o1,ha]) (λt C=>by
     simp only[dl]at C o o2;rcases C with(h1|h1)|(h1|h1)
     .exact o2 t (.inl h1)
     .exact o t (.inl h1)
     .exact o t (.inr h1)
     .exact o2 t (.inr h1))
    omega
   .omega
 .rw[W,X,hfr];have v:∀s∈A,s.token=false->s.index≠n1:=λs i=>u s (by simp[i]);have w:∀s∈B,s.token=false->s.index≠n1:=λs i=>u s (by simp[i]);have P:K n1=true->Bq M=false/\∀s∈M,N s.index=true:=λhm=>by rw[U]at hm;exact acM hm
  refine⟨λha i=>?_,λl1 s l2 e z ha i=>?_⟩
  .rw[hN _ wu];obtain⟨Z,m2⟩:=P (i ⟨false,n1⟩ (by simp));rw[D3,pw]at ha;have ha2:Bq B=false:=by simpa[Bq]using ha.2
   refine T.1 (by simp[D3,ha.1,ha2,Z]) λt C=>?_;simp at C;rcases C with h1|h1|h1
   .exact(k v ha.1).1 (λs o=>i s (by simp[o])) t h1
   .exact m2 t h1
   .exact(k w ha2).1 (λs o=>i s (by simp[o])) t h1
  .rw[Q _ wu];rcases List.append_eq_append_iff.1 e with⟨c,f1,f2⟩|⟨c,f1,f2⟩
   .
    cases c with
    |nil=>
     simp at f2;obtain⟨rfl,rfl⟩:=f2;simp at f1;subst f1;have Y:G=true:=xt ⟨ha,(k (λs i=>by
      simp at i;exact i.elim (v s) (w s)) ha).1 i⟩
     rw[L,Y];simp only[er];omega
    |cons m c=>
     simp at f2;obtain⟨rfl,f3⟩:=f2;subst f1;rw[D3,D3,pw,pw]at ha;obtain⟨⟨a1,a2⟩,a3⟩:=ha;have a4:Bq c=false:=by simpa[Bq]using a2
     obtain⟨Z,m2⟩:=P (i ⟨false,n1⟩ (by simp));have hcB:∀s∈c,s∈B:=λs i=>by rw[f3];simp[i]
     have hlB:∀s∈l2,s∈B:=λs i=>by rw[f3];simp[i]
     have:=T.2 (A++(M++c)) s l2 (by rw[f3];simp) z (by simp[D3,a1,Z,a4,a3]) (λt C=>by
      simp only[dl]at C;rcases C with(h1|h1|h1)|h1
      .exact(k v a1).1 (λs o=>i s (by simp[o])) t h1
      .exact m2 t h1
      .exact(k (λs i=>w s (hcB s i)) a4).1 (λs o=>i s (by simp[o])) t h1
      .exact(k (λs i=>w s (hlB s i)) a3).1 (λs o=>i s (by simp[o])) t h1)
     rw[Q _ (w s (by rw[f3];simp) z)];omega
   .
    cases c with
    |nil=>
     simp at f2;obtain⟨rfl,rfl⟩:=f2;simp at f1;rw[<-f1]at ha i;have Y:G=true:=xt ⟨ha,(k (λs i=>by
      simp at i;exact i.elim (v s) (w s)) ha).1 i⟩
     rw[L,Y];simp only[er];omega
    |cons m c=>
     simp at f2;obtain⟨rfl,f3⟩:=f2;subst f3;rw[D3,D3,pw,pw]at ha;obtain⟨a1,a2,a3⟩:=ha;have a4:Bq B=false:=by simpa[Bq]using a3
     obtain⟨Z,m2⟩:=P (i ⟨false,n1⟩ (by simp));have hlA:∀s∈l1,s∈A:=λs i=>by rw[f1];simp[i]
     have hcA:∀s∈c,s∈A:=λs i=>by rw[f1];simp[i]
     have:=T.2 l1 s (c++(M++B)) (by rw[f1];simp) z (by simp[D3,a1,Z,a2,a4]) (λt C=>by
      simp at C;rcases C with h1|h1|h1|h1
      .exact(k (λs i=>v s (hlA s i)) a1).1 (λs o=>i s (by simp[o])) t h1
      .exact(k (λs i=>v s (hcA s i)) a2).1 (λs o=>i s (by simp[o])) t h1
      .exact m2 t h1
      .exact(k w a4).1 (λs o=>i s (by simp[o])) t h1)
     rw[Q _ (v s (by rw[f1];simp) z)];omega
theorem TY(a k:Nat):BF a (k+1)=DO a::BF (a+1) k:=by
 induction k generalizing a with
 |zero=>simp[BF]
 |succ k g=>
  rw[BF,g,BF];simp only[qs,xr,true_and];rw[show a+1+k=a+(k+1) by omega]
theorem QH{h:AE}{hs:List Symbol}{m:Nat}:∀(l:List Symbol) (i:Nat) (g:List Bool),g.length=hs.length->hs.drop i=l->(∀k,i<=k->k<hs.length->g[k]?=some false)->∃j,K0 (Hq h hs (m+1)) l (BF i l.length) g=(true,[],j)
 |[],i,g,_,_,_=>⟨g,rfl⟩
 |s::l,i,g,u,o,t=>by
  have hi:i<hs.length:=by
   refine yP λhn=>?_;rw[ace (by omega)]at o;cases o
  rw[sw hi,xr]at o;obtain⟨rfl,o⟩:=o;have v:Hq h hs (m+1) hs[i] (BF i (l.length+1)) g=(true,BF (i+1) l.length,g.set i true):=by
   rw[TY];unfold Hq;have h0:(0:Int)<=(DO (i:Int)).hole:=by show(0:Int)<=(i:Int);omega
   have h1:(DO (i:Int)).hole.toNat=i:=by show((i:Int)).toNat=i;simp
   simp only[h0,er];rw[ap ⟨by show(i:Int)<_;omega,rfl,by rw[h1];exact t i (br _) hi,by rw[h1];exact ci hi⟩,h1]
  obtain⟨j,q⟩:=QH (h:=h) (hs:=hs) (m:=m) l (i+1) (g.set i true) (by simp[u]) o (λk h1 q=>by rw[nt (by omega)];exact t k (by omega) q);refine⟨j,?_⟩;rw[ea];unfold K0;rw[v];simpa using q
theorem BR.rZ{g:AE}{x:AX}{j a b:Nat}(F:BR g x j a b)(w:NY (CC g x)=0):S5 (A6 g x) (CC g x) (G9 g x)=0:=by
 have hj:=F.jl;have h1:=F.ab;have Y:=F.bl;have o:=F.len;have t:=F.NR;have q:=F.at j;rw[ap rfl]at q;have S:(CC g x).AD.length=g.AD.length+2:=by rw[t];simp[o]
 have J:(A3 g x).right.length<=16:=DH F.c0 _ F.mem;have z:Bu (A6 g x) (j:Int)={A3 g x with right:=Koi.DE g x}:=by unfold Bu;rw[ii,io,q];rfl
 have Df:(Koi.DE g x)[a]?=some ⟨false,(g.A2.length:Nat)⟩:=by
  rw[F.DE,ls (by rw[up];omega)];simp[adl (show a<=(A3 g x).right.length by omega)]
 have Z:=(df.1 Df).1;unfold S5;rw[ao (by rw[F.h0];simp),ao (by rw[w];simp),ao (by show ¬(g.Ae.length<g.Ae.length\/(g.A2++[x.name]).length<(g.A2++[x.name]).length);omega),ap];refine⟨?_,?_⟩
 .have T:G9 g x=[⟨j,a,(g.AD.length:Nat),Be ((g.AD.length+1:Nat):Int)::BF 0 (A3 g x).right.length⟩]:=by unfold G9;rw[F.hj,F.ha]
  rw[T];generalize u:(⟨j,a,(g.AD.length:Nat),Be ((g.AD.length+1:Nat):Int)::BF 0 (A3 g x).right.length⟩:Rewrite)=R;have v:R.prod=j:=by rw[<-u]
  have K:R.at_=a:=by rw[<-u]
  have L:R.child=((g.AD.length:Nat):Int):=by rw[<-u]
  have M:R.A4=Be ((g.AD.length+1:Nat):Int)::BF 0 (A3 g x).right.length:=by rw[<-u]
  simp[List.all_cons,List.all_nil];have U:Ez (A6 g x) R=(A3 g x).right:=by
   unfold Ez;rw[K,ao (by omega),v,L,z,F.VS,ii];show(Koi.DE g x).take a++((Er g x).right++(Koi.DE g x).drop (a+1))=_
   have N:((A3 g x).right.take a).length=a:=by simp;omega
   rw[F.DE,List.take_left' N,List.drop_append,N,ace (by omega),show a+1 - a=1 by omega];exact F.cut
  have A:R9 (A6 g x) R=true:=by
   have W:H9 (A6 g x) R=true:=by
    unfold H9;rw[K,ao (by omega),v,L,z,F.VS,ii];have X:({A3 g x with right:=Koi.DE g x}:AO).right[a]?=some ⟨false,(Er g x).left⟩:=Df;rw[X,o];simp;omega
   unfold R9;rw[W,v,M,o];simp[CL];omega
  have B:∃s,QR (A6 g x) (CC g x) R=(true,[],s):=by
   unfold QR;rw[U,M,v,z];have C:Nf (CC g x) ⟨false,(A3 g x).left⟩ (Be ((g.AD.length+1:Nat):Int))=true:=by
    have:(CC g x).AD.getD (g.AD.length+1) FV=D9 g x:=by
     rw[t,io,ls (by simp[o])];simp[o]
    unfold Nf Be;simp only[ii,this,S];simp[D9];constructor
    .rfl
    .omega
   have E:((CC g x).AD.getD (Be ((g.AD.length+1:Nat):Int)).prod.toNat FV).right=(A3 g x).right:=by
    have:(CC g x).AD.getD (g.AD.length+1) FV=D9 g x:=by
     rw[t,io,ls (by simp[o])];simp[o]
    show((CC g x).AD.getD (((g.AD.length+1:Nat):Int)).toNat FV).right=_
    rw[ii,this];rfl
   obtain⟨s,G⟩:=QH (h:=CC g x) (hs:=(A3 g x).right) (m:=(A3 g x).right.length) (A3 g x).right 0 (List.replicate (A3 g x).right.length false) (by simp) (by simp) (λk _ w=>by simp[w]);refine⟨s,?_⟩;rw[ea,CL,Hq];have n1:¬(0:Int)<=(Be ((g.AD.length+1:Nat):Int)).hole:=by show ¬(0:Int)<=-1;omega
   have n2:(Be ((g.AD.length+1:Nat):Int)).hole= -1:=rfl;simp only[fc,n2,er,lh,C,E];exact G
  obtain⟨s,G⟩:=B;unfold Jw;rw[A,G];simp
 .rw[cl];intro i hi;have P:i<(A6 g x).AD.length:=by simpa using hi
  have H:JN (A6 g x) (CC g x) i=true:=by
   unfold JN;have e:((CC g x).AD.getD i FV).left=((A6 g x).AD.getD i FV).left/\((CC g x).AD.getD i FV).right=((A6 g x).AD.getD i FV).right:=by
    rw[t,io,ej (by simpa using P),yy,io];by_cases Q:j=i
    .subst Q;rw[ap rfl,ap P,q];exact⟨rfl,rfl⟩
    .rw[ao Q];exact⟨rfl,rfl⟩
   rw[e.1,e.2];simp;omega
  rw[H];rfl
theorem BR.back{g:AE}{x:AX}{j a b:Nat}(F:BR g x j a b)(hn:g.conds.length<=12)(m:∀p∈g.AD,2<=p.name.size/\p.name.size<=7)(h:x.name.size=5)(o:g.AD.length<=1000){N:Int->Bool}{r:Int->Nat}(q:Hf g N r):
  M5 (A6 g x) (VK (A6 g x) (Hd ((λx:AX=>{x with number:=0,at_:=0}) (C1 x))) (Koi.Ci (A6 g x) (C1 x)) (if Koi.Ly (A6 g x) (C1 x)then 311 else 0) (if Koi.Ly (A6 g x) (C1 x)then A6 g x else Koi.O8 (A6 g x) (C1 x))
   (if Koi.Ly (A6 g x) (C1 x)then []else Koi.IU (A6 g x) (C1 x) (A6 g x).AD.length (Koi.Bv (A6 g x) (C1 x))) false)=(CC g x,G9 g x,0):=by
 obtain⟨t,u,i⟩:=F.kW q;have k:NY (CC g x)=0:=Du.2 ⟨F.nF m h o,i.none⟩;have s:Hd ((λx:AX=>{x with number:=0,at_:=0}) (C1 x))=true:=by
  show Hd (U5 7 0 0 0 ⟨#[]⟩)=true
  decide+kernel
 rw[s,F.Ci,F.Ly,F.O8 hn,F.IU];unfold M5 VK;rw[ao (by rw[F.h0];simp)];simp[k,F.rZ k]
open Go.Proofs Tryz DT
def cfg(c:Nat):Int->Bool:=λv=>decide (c / 2 ^ v.toNat % 2=1)
@[simp] def Fs(c:Nat):D:=.int .u64 c
theorem rQ(c m:Nat)(g:c<2 ^ 64):(IntKind.u64.wrap ((((c:Int) / 2 ^ m % 2 ^ IntKind.u64.bits).toNat&&& 1 % 2 ^ IntKind.u64.bits:Nat):Int)==1)=decide (c / 2 ^ m % 2=1):=by
 have e:IntKind.u64.bits=64:=rfl;have h:(c:Int) / 2 ^ m=((c / 2 ^ m:Nat):Int):=by push_cast;rfl
 have i:c / 2 ^ m<2 ^ 64:=Nat.lt_of_le_of_lt (Nat.div_le_self _ _) g;rw[e,h];generalize c / 2 ^ m=x at i;have j:((x:Int) % 2 ^ 64).toNat=x:=by omega
 have k:1 % 2 ^ 64=1:=by decide
 rw[j,k,Nat.and_one_is_mod,Ps,qr (by omega),eg];simp;omega
theorem Xf(d:AN)(w:Valid d)(c:Nat)(z:c<2 ^ 64):Pure prog 132 [AB d,Fs c] (.bool ((tr d).Ca (cfg c))):=by
 have A:Bl d.nodes (tr d) d.root:=by have:=GO (tr d);rwa [Ep w]at this
 have B:=Lu d;generalize tr d=t0 at *;refine eJ func132 rfl rfl (by simp) λwf=>?_;have i:d.nodes.length<=maxLen:=by simp[Bs,DZ]at wf;omega
 rw[ntmps132];apply yW;simp;apply yW;simp[AB];apply xB;refine aeA (λm tm S=>tm 1=.d (Fs c)/\tm 2=.ptr 0 1 0 0/\(∃t:DT,∃n:Int,tm 5=.d (.int .i64 n)/\t.size=m/\t.Good/\Bl d.nodes t n/\t.Ca (cfg c)=t0.Ca (cfg c))/\S=[.row true 2 [.d (AB d)]]) ⟨t0.size,_,_,am,by simp,by simp,⟨t0,d.root,by simp,rfl,B,A,rfl⟩,by simp[AB]⟩ ?_;rintro m tm S ⟨t1,t2,⟨t,n,t5,rfl,C,tr,g⟩,rfl⟩;cases t with
 |leaf b=>
  have hn:n=if b then 1 else 0:=tr;subst hn;refine xS (yW ?_);simp[t5];cases b with
  |false=>
   apply AR;simp;apply C7;apply yW;simp[t5];apply zT;simp[<-g,Ca]
  |true=>
   apply AR;simp;apply C7;apply yW;simp[t5];apply zT;simp[<-g,Ca]
 |node v lo hi=>
  obtain⟨k,rfl,l,h,u,E,F⟩:=tr;obtain⟨K,L,-,-,-,G,gh⟩:=C;refine xS (yW ?_);simp[t5];have c1:(1:Int)<k+2:=by omega
  apply AR;simp[c1];apply xK;apply Bx;have H:=(df.1 u).1;have j:=(df.1 u).2;have J:IntKind.i64.wrap (k:Int)=k:=by rw[bv];unfold maxLen at i;omega
  (repeat apply xS);apply yV;simp[t2,t5,AB,H,j,J];obtain⟨m,rfl⟩:∃m:Nat,v=m:=⟨v.toNat,by omega⟩;have o:IntKind.u64.wrap (m:Int)=m:=by rw[Ps,qr (by omega)]
  have q:=rQ c m z;have s:(c:Int).fdiv (2 ^ (min m IntKind.u64.bits))=(c:Int) / 2 ^ m:=by
   have e:IntKind.u64.bits=64:=rfl;rw[e,adl (by omega),acx _ (by exact_mod_cast cq _)]
  (repeat apply xS);apply yV;simp[t1,o,s,q];by_cases hb:c / 2 ^ m % 2=1
  .apply AR;simp[hb];apply yV;simp;refine⟨hi.size,by simp[size];try omega,_,_,lm 1 (S':=[.row true 2 [.d (AB d)]]) rfl (by simp) (by simp) (by simp),?_⟩;simp[clean,AP,t1,t2,AB];exact⟨hi,rfl,gh,F,by rw[<-g];simp[Ca,cfg,hb]⟩
  .apply AR;simp[hb];apply yV;simp;refine⟨lo.size,by simp[size];try omega,_,_,lm 1 (S':=[.row true 2 [.d (AB d)]]) rfl (by simp) (by simp) (by simp),?_⟩;simp[clean,AP,t1,t2,AB];exact⟨lo,rfl,G,E,by rw[<-g];simp[Ca,cfg,hb]⟩
def ID(k:Int):Int:=if k=0\/k=1 then 0 else if k=4 then 1 else if k=2\/k=3 then 2 else 0
def NF(k:Int):Bool:=decide (k=0\/k=1\/k=4\/k=2\/k=3)
theorem Na(k:Int):Pure prog 246 [AF k] (.Cb [AF (ID k),DN (NF k)]):=by
 refine zP func246 13 rfl λwf=>?_;apply yW;simp;refine xS (yW ?_);simp;apply Bx;refine xS (yW ?_);simp;by_cases h0:k=0
 .subst h0;apply AR;simp;apply xK;apply AR;simp;apply yW;simp;refine Af ⟨_,_,am,?_⟩;simp[ID,NF,Ba]
 .apply AR;simp[h0];apply yV;simp;by_cases h1:k=1
  .subst h1;apply AR;simp;apply yW;simp;refine Af ⟨_,_,am,?_⟩;simp[ID,NF,Ba]
  .apply AR;simp[h1];(repeat apply xS);apply yV;simp;by_cases g:k=4
   .subst g;apply AR;simp;apply yW;simp;refine Af ⟨_,_,am,?_⟩;simp[ID,NF,Ba]
   .apply AR;simp[g];refine xS (yW ?_);simp;by_cases h:k=2
    .subst h;apply AR;simp;apply xK;apply AR;simp;apply yW;simp;refine Af ⟨_,_,am,?_⟩;simp[ID,NF,Ba]
    .apply AR;simp[h];apply yV;simp;by_cases i:k=3
     .subst i;apply AR;simp;apply yW;simp;refine Af ⟨_,_,am,?_⟩;simp[ID,NF,Ba]
     .apply AR;simp[i];apply CT;apply yW;simp;apply zT;simp[ID,NF,h0,h1,g,h,i,Ba]
def OE(x:BC)(i:Int):Bool:=
 !(((!NF x.kind)||(decide (x.kind≠1)&&(decide (x.lo≠0)||decide (x.hi≠0))))||decide (x.lo<0)||decide (x.hi<x.lo)||decide (255<x.hi))&&
 (!((decide (ID x.kind<1)&&decide (x.a≠0))||(decide (ID x.kind<2)&&decide (x.b≠0)))&&
 ((decide (ID x.kind<1)||(decide (0<=x.a)&&decide (x.a<i)))&&(decide (ID x.kind<2)||(decide (0<=x.b)&&decide (x.b<i)))))
theorem ee(p:List BC)(i:Nat)(hi:i<p.length):Pure prog 245 [Ay p,AF i] (.bool (OE p[i] i)):=by
 generalize m:p[i]=x;have o:=Na x.kind;have g:=AS.eq_1 x;refine zP func245 96 rfl λwf=>?_;apply yW;simp;apply yW;simp[hi,m,g];apply yS;apply yJ;simp;refine B9 (o) rfl (by simp) (yJ ?_);simp;(repeat apply xS);refine HA λK h=>?_;(repeat((refine Cd ?_ ?_);(focus(simp;try(first|omega|(simp +contextual[];done)|grind);done));simp));refine B6 (h _ _ ?_);apply AR;simp;refine⟨λh1=>?_,λh1=>?_⟩
 .apply yW;simp;refine Af ⟨_,_,am,?_⟩;unfold OE;cases j:NF x.kind<;>by_cases k:x.kind=1<;>simp[j,k]at h1⊢ <;>grind
 .intro q t u v;apply xK;(repeat apply xS);refine HA λK h=>?_;(repeat((refine Cd ?_ ?_);(focus(simp;try(first|omega|(simp +contextual[g];done)|grind);done));simp));refine B6 (h _ _ ?_);apply AR;simp;refine⟨λs=>?_,?_⟩
  .apply yW;simp;refine Af ⟨_,_,am,?_⟩;(try simp);unfold OE;grind
  .intro s w;apply xK;(repeat apply xS);refine HA λK h=>?_;(repeat((refine Cd ?_ ?_);(focus(simp;try(first|omega|(simp +contextual[g];done)|grind);done));simp));refine B6 (h _ _ ?_);apply zT;unfold OE;cases j:NF x.kind<;>by_cases k:x.kind=1<;>simp[j,k]at h1 q⊢ <;>grind
def bump(u:List Int)(a:Int):List Int:=u.set a.toNat (u.getD a.toNat 0+1)
def CU(p:List BC):Nat->List Int
 |0=>List.replicate p.length 0
 |i+1=>match p[i]? with
  |none=>CU p i
  |some x=>(λu=>if 2<=ID x.kind then bump u x.b else u) (if 1<=ID x.kind then bump (CU p i) x.a else CU p i)
theorem RG(p:List BC)(i:Nat):(CU p i).length=p.length:=by
 induction i with
 |zero=>simp[CU]
 |succ i g=>
  unfold CU;split
  .exact g
  .simp[];split<;>split<;>simp[bump,g]
def Th(p:List BC):Bool:=(List.range p.length).all λi=>match p[i]? with|some x=>OE x i|none=>true
def Zk(p:List BC):Int:=if 512<p.length then 2 else if Th p=false then 40 else if((List.range (p.length - 1)).all λi=>decide ((CU p p.length).getD i 0=1))=false then 40 else if p.length=0 then 40 else 0
theorem Xi{p:List BC}(h:Th p=true)(i:Nat)(hi:i<p.length):OE p[i] i=true:=by
 have:=cl.1 h i (by simpa using hi);rw[ci hi]at this;exact this
theorem kS{p:List BC}(h:Zk p=0):Th p=true/\0<p.length:=by
 unfold Zk at h;split at h
 .cases h
 .split at h
  .cases h
  .next h1=>
   split at h
   .cases h
   .split at h
    .cases h
    .exact⟨by simpa using h1,by omega⟩
theorem Tz{x:BC}{i:Nat}(h:OE x i=true):(1<=ID x.kind->0<=x.a/\x.a<i)/\(2<=ID x.kind->0<=x.b/\x.b<i):=by
 simp[OE]at h;obtain⟨_,_,h1,g⟩:=h;exact⟨λj=>h1.resolve_left (by omega),λj=>g.resolve_left (by omega)⟩
theorem jv(l:List Int)(n:Int):Pure prog 212 [A9 l,AF n] (.bool (l.contains n)):=by
 refine eJ func212 rfl rfl (by simp) λwf=>?_;have q:l.length<=al:=by simp[Bs,DZ]at wf;omega
 rw[ntmps212];apply yW;simp;refine xS (yW ?_);simp;apply Bx;refine zL l.length (λi tm S=>tm 0=.d (A9 l)/\tm 1=.d (AF n)/\tm 5=.d (.int .i64 i)/\S=[]/\∀k (h:k<l.length),k<i->l[k]≠n) (by simp) ?_;rintro i tm S hi ⟨t0,t1,t5,rfl,o⟩;refine xS (yW ?_);simp[t0,t5];apply AR;simp;refine⟨λg=>?_,λv=>?_⟩
 .apply xK;apply xB;(repeat apply xS);apply yV;simp[t0,t1,t5,g];by_cases j:l[i]=n
  .apply AR;simp[j];apply yW;simp;refine Af ⟨_,_,am,?_⟩;(try simp);exact j▸b9 g
  .apply AR;simp[j];apply CT;apply yV;simp[t5];refine⟨g,_,_,am,?_⟩;simp[t0,t1,AL g q];intro k m s;by_cases e:k=i
   .subst e;exact j
   .exact o k m (by omega)
 .have e:i=l.length:=by omega
  subst e;apply C7;apply yW;simp;apply zT;(try simp);intro t;obtain⟨k,m,u⟩:=jp.1 t;exact o k m m u
theorem dV(l:List Int)(n:Int)(w:Bool)(q:l.length<=al):AG prog 212 [.row 0 l.length,.d (AF n)] [.row w 1 (l.map λx=>.d (AF x))] (.d (.bool (l.contains n))) [.row w 1 (l.map λx=>.d (AF x))]:=by
 refine zC func212 18 rfl λwf _=>?_;apply yW;simp;refine xS (yW ?_);simp;apply Bx;refine zL l.length (λi tm S=>tm 0=.row 0 l.length/\tm 1=.d (AF n)/\tm 5=.d (.int .i64 i)/\S=[.row w 1 (l.map λx=>.d (AF x))]/\∀k (h:k<l.length),k<i->l[k]≠n) (by simp) ?_;rintro i tm S hi ⟨t0,t1,t5,rfl,o⟩;refine xS (yW ?_);simp[t0,t5];apply AR;simp;refine⟨λg=>?_,λv=>?_⟩
 .apply xK;apply xB;(repeat apply xS);apply yV;simp[t0,t1,t5,g];by_cases j:l[i]=n
  .apply AR;simp[j];apply yW;simp;apply Af;refine⟨_,am,?_⟩;simp[Au];exact j▸b9 g
  .apply AR;simp[j];apply CT;apply yV;simp[t5];refine⟨g,_,_,am,?_⟩;simp[t0,t1,AL g q];intro k m s;by_cases e:k=i
   .subst e;exact j
   .exact o k m (by omega)
 .have e:i=l.length:=by omega
  subst e;apply C7;apply yW;simp;apply Af;refine⟨_,am,?_⟩;simp[Au];intro t;obtain⟨k,m,u⟩:=jp.1 t;exact o k m m u
def Mu(out:List Int)(x:Int):List Int:=if out.contains x then out else out++[x]
def Ij(l m:List Int):List Int:=m.foldl Mu l
def FY(L:Nat)(l:List Int):Prop:=l.Nodup/\∀y∈l,0<=y/\y<(L+1:Nat)
theorem FY.len{L:Nat}{l:List Int}(h:FY L l):l.length<=L+1:=TX (L+1) l h.1 h.2
theorem FY.Mu{L:Nat}{l:List Int}(h:FY L l){x:Int}(i:0<=x/\x<(L+1:Nat)):FY L (Mu l x):=by
 unfold Koi.Mu;split
 .exact h
 .next j=>
  refine⟨rt.2 ⟨h.1,by simp,λa ha b hb e=>j ?_⟩,λy g=>?_⟩
  .simp at hb;rw[<-hb,<-e];exact List.contains_iff_mem.2 ha
  .rcases dl.1 g with g|g
   .exact h.2 y g
   .simp at g;subst g;exact i
theorem FY.uJ{L:Nat}{l m:List Int}(h:FY L l)(g:∀y∈m,0<=y/\y<(L+1:Nat)):FY L (Ij l m)/\l.length<=(Ij l m).length:=by
 induction m generalizing l with
 |nil=>exact⟨h,br _⟩
 |cons x m i=>
  have h1:=h.Mu (g x (by simp));obtain⟨j,o⟩:=i h1 λy k=>g y (by simp[k]);refine⟨j,?_⟩;have:l.length<=(Koi.Mu l x).length:=by unfold Koi.Mu;split<;>simp
  show l.length<=(Ij (Koi.Mu l x) m).length
  omega
theorem iY(l m:List Int)(v:l.length+m.length<=2 ^ 30):Pure prog 247 [A9 l,A9 m] (A9 (Ij l m)):=by
 refine zP func247 31 rfl λwf=>?_;have q:l.length<=2 ^ 30:=by omega
 have k:m.length<=al:=by unfold al;omega
 apply yW;simp;apply yW;simp[q];refine xS (yW ?_);simp;apply Bx;refine zL m.length (λi tm S=>tm 1=.d (A9 m)/\tm 6=.d (.int .i64 i)/\tm 5=.row 0 (Ij l (m.take i)).length/\(∃w,S=[.row w 1 ((Ij l (m.take i)).map λx=>.d (AF x))])/\(Ij l (m.take i)).length<=l.length+i) (by simp[Ij];exact Classical.em _) ?_;rintro i tm S hi ⟨t1,t6,t5,⟨w,rfl⟩,s⟩;refine xS (yW ?_);simp[t1,t6];apply AR;simp;refine⟨λg=>?_,λz=>?_⟩
 .have o:Ij l (m.take (i+1))=Mu (Ij l (m.take i)) m[i]:=by
   rw[Ij,yq,ci g,E2];rfl
  generalize A:Ij l (m.take i)=T at *;have t:T.length+1<=2 ^ 30:=by omega
  have u:1<=al:=by simp[al]
  apply xK;apply xB;apply yS;apply yJ;simp[t1,t5,t6,g];refine gl rfl rfl (by simp) (f:=212) (args:=[.row 0 T.length,.d (AF m[i])]) (by simp[callee];try rfl) (by simp) (dV T m[i] w (by unfold al;omega)) (yJ ?_);simp;apply AR;simp;refine⟨λh=>?_,λh=>?_⟩
  .have j:Mu T m[i]=T++[m[i]]:=by unfold Mu;rw[ao (by simpa using h)]
   apply yV;simp[t1,t5,t6,g,t,u,Ah];apply yV;simp[t6];refine⟨g,_,_,am,?_⟩;simp[t1,AL g k,o,j];omega
  .have j:Mu T m[i]=T:=by unfold Mu;rw[ap (by simpa using h)]
   apply CT;apply yV;simp[t6];refine⟨g,_,_,am,?_⟩;simp[t1,t5,AL g k,o,j];omega
 .have e:i=m.length:=by omega
  subst e;rw[ne]at t5;apply C7;(repeat apply xS);apply yV;simp[t5];(apply Af;refine⟨_,_,c9 0 (xs:=(Ij l m).map AF) rfl (Cy _ AF _),?_⟩;simp[Ba,CF])
def Nd(s:ByteArray)(lo hi:Int)(k:Int):Bool:=decide (k<s.size)&&(decide (lo<=(s.get! k.toNat).toNat)&&decide (((s.get! k.toNat).toNat:Int)<=hi))
def Mt(s:ByteArray)(lo hi:Int)(l:List Int):List Int:=(l.filter (Nd s lo hi)).map λk=>k+1
theorem FY.IL{s:ByteArray}{lo hi:Int}{l:List Int}(h:FY s.size l):FY s.size (Mt s lo hi l):=by
 refine⟨?_,λy g=>?_⟩
 .unfold Mt;rw[List.Nodup,ac8];exact(List.Pairwise.filter _ h.1).imp λi e=>i (by omega)
 .obtain⟨k,j,rfl⟩:=eo.1 g;obtain⟨h1,m⟩:=ms.1 j;have o:=h.2 k h1;simp[Nd]at m;omega
def Vb(F:List Int->List Int):Nat->List Int->List Int
 |0,l=>l
 |f+1,l=>if(Ij l (F l)).length=l.length then Ij l (F l)else Vb F f (Ij l (F l))
theorem YK(p:List BC)(hv:Th p=true)(s:ByteArray)(hs:s.size<=2 ^ 20):∀(m i:Nat) (_:i<p.length),i<m->∀l,FY s.size l->∃o,FY s.size o/\Pure prog 213 [Ay p,AF i,BO s,A9 l] (A9 o):=by
 intro m;induction m with
 |zero=>intro i _ h;omega
 |succ m K=>
  intro i hi him l C;have P:=Xi hv i hi;obtain⟨Y,hB⟩:=Tz P;have yh:=C.len;obtain⟨kd,j⟩:∃k,p[i].kind=k:=⟨_,rfl⟩;have Z:kd=0\/kd=1\/kd=4\/kd=2\/kd=3:=by
   have h1:NF p[i].kind=true:=by
    unfold OE at P;cases vp:NF p[i].kind with
    |true=>rfl
    |false=>rw[vp]at P;simp at P
   rw[j]at h1;simpa[NF]using h1
  generalize L:p[i]=x at *;have q:=AS.eq_1 x;rcases Z with rfl|rfl|rfl|rfl|rfl
  .refine⟨l,C,eJ func213 rfl rfl (by simp) λwf=>?_⟩;rw[ntmps213];apply yW;simp;apply yW;simp[hi,L,q];apply yW;simp;refine xS (yW ?_);simp[j];apply Bx;apply yW;simp;apply AR;simp;apply yW;simp;refine Af ⟨_,_,am,?_⟩;try simp
  .refine⟨Mt s x.lo x.hi l,C.IL,eJ func213 rfl rfl (by simp) λwf=>?_⟩;rw[ntmps213];apply yW;simp;apply yW;simp[hi,L,q];apply yW;simp;refine xS (yW ?_);simp[j];apply Bx;apply yW;simp;apply AR;simp;apply yW;simp;apply AR;simp;refine xS (yW ?_);simp;refine ed (ll 10 1 (xs:=[]) (by simp)) ?_;have Q:l.length<=al:=by unfold al;omega
   have b3:1<=al:=by simp[al]
   apply Bx;refine zL l.length (λi tm S=>tm 2=.d (BO s)/\tm 3=.d (A9 l)/\tm 9=.ptr 0 1 0 0/\tm 11=.d (.int .i64 i)/\tm 10=.row 1 (Mt s x.lo x.hi (l.take i)).length/\(∃w,S=[.row true 5 [.d (AS x)],.row w 1 ((Mt s x.lo x.hi (l.take i)).map λk=>.d (AF k))])) (by simp[Mt,q,j]) ?_;rintro i tm S hi ⟨t2,t3,t9,t11,t10,w,rfl⟩;refine xS (yW ?_);simp[t3,t11];apply AR;simp;refine⟨λt=>?_,λvw=>?_⟩
   .have R:Mt s x.lo x.hi (l.take (i+1))=Mt s x.lo x.hi (l.take i)++if Nd s x.lo x.hi l[i]then [l[i]+1]else []:=by
     rw[yq,ci t];unfold Mt;rw[acE,su];cases E:Nd s x.lo x.hi l[i]<;>simp[E]
    have wi:(Mt s x.lo x.hi (l.take i)).length<=i:=by
     unfold Mt;rw[li];exact ke (acF _ _) (by simp;omega)
    generalize hT:Mt s x.lo x.hi (l.take i)=T at *;have hk:=C.2 _ (b9 t);have b2:T.length+1<=2 ^ 30:=by omega
    generalize v:l[i]=k at *;obtain⟨k,rfl⟩:∃k':Nat,k=k':=⟨k.toNat,by omega⟩;apply xK;apply xB;by_cases c1:k<s.size
    .have G:IntKind.i64.wrap ((s.get! k).toNat:Int)=(s.get! k).toNat:=by rw[bv];have:=(s.get! k).toNat_lt;omega
     have M:Nd s x.lo x.hi (k:Int)=(decide (x.lo<=(s.get! k).toNat)&&decide (((s.get! k).toNat:Int)<=x.hi)):=by
      unfold Nd;rw[ii];simp[c1]
     by_cases B:x.lo<=(s.get! k).toNat
     .by_cases U:((s.get! k).toNat:Int)<=x.hi
      .skip;refine yD [0,2,4,6,8,10,12,14,16,18,20,22,24,26,28,30,32,34,36,38,40,42,44,46,48,50,52,54,56,58,60] (by kernel_rfl) ?_;simp;apply yZ;simp[t2,t3,t9,t11,t,v,q,G,c1,B,U];apply AR;simp;apply yV;simp[t3,t10,t11,t,v,b2,b3,Ah];apply yV;simp[t11];refine⟨t,_,_,am,?_⟩;have vS:IntKind.i64.wrap ((k:Int)+1)=k+1:=by rw[bv];omega
       simp[t2,t3,t9,AL t Q,R,M,B,U,q,vS]
      .refine yD [0,2,4,6,8,10,12,14,16,18,20,22,24,26,28,30,32,34,36,38,40,42,44,46,48,50,52,54,56,58,60] (by kernel_rfl) ?_;simp;apply yZ;simp[t2,t3,t9,t11,t,v,q,G,c1,B,U];apply AR;simp;apply CT;apply yV;simp[t11];refine⟨t,_,_,am,?_⟩;simp[t2,t3,t9,t10,AL t Q,R,q,M,B,U]
     .refine yD [0,2,4,6,8,10,12,14,16,18,20,22,24,26,28,30,32,34,36,38,40,42,44,46,48,50,52,54,56,58,60] (by kernel_rfl) ?_;simp;apply yZ;simp[t2,t3,t9,t11,t,v,q,G,c1,B];apply AR;simp;apply CT;apply yV;simp[t11];refine⟨t,_,_,am,?_⟩;simp[t2,t3,t9,t10,AL t Q,R,q,M,B]
    .have M:Nd s x.lo x.hi (k:Int)=false:=by simp[Nd];omega
     refine yD [0,2,4,6,8,10,12,14,16,18,20,22,24,26,28,30,32,34,36,38,40,42,44,46,48,50,52,54,56,58,60] (by kernel_rfl) ?_;simp;apply yZ;simp[t2,t3,t11,t,v,q,c1];apply AR;simp;apply CT;apply yV;simp[t11];refine⟨t,_,_,am,?_⟩;simp[t2,t3,t9,t10,AL t Q,R,q,M]
   .have e:i=l.length:=by omega
    subst e;rw[ne]at t10;apply C7;(repeat apply xS);apply yV;simp[t10];(apply Af;refine⟨_,_,c9 1 (xs:=(Mt s x.lo x.hi l).map AF) rfl (by simp),?_⟩;simp[Ba,CF])
  .have ha:=Y (by rw[j];decide);obtain⟨a,u⟩:∃a:Nat,x.a=a:=⟨x.a.toNat,by omega⟩;obtain⟨F,hF⟩:∃F:List Int->List Int,∀l,FY s.size l->FY s.size (F l)/\Pure prog 213 [Ay p,AF a,BO s,A9 l] (A9 (F l)):=by
    classical
    refine⟨λl=>if h:FY s.size l then(K a (by omega) (by omega) l h).choose else [],λl h=>?_⟩;simp[x0 h];exact(K a (by omega) (by omega) l h).choose_spec
   have H:∀f l,FY s.size l->FY s.size (Vb F f l):=by
    intro f;induction f with
    |zero=>intro l h;exact h
    |succ f ihf=>
     intro l h;have h1:=(h.uJ (hF l h).1.2).1;unfold Vb;split
     .exact h1
     .exact ihf _ h1
   refine⟨Vb F (s.size+2) l,H _ _ C,eJ func213 rfl rfl (by simp) λwf=>?_⟩;generalize hO:Vb F (s.size+2) l=R0;rw[ntmps213];apply yW;simp;apply yW;simp[hi,L,q];apply yW;simp;refine xS (yW ?_);simp[j];apply Bx;apply yW;simp;apply AR;simp;apply yW;simp;apply AR;simp;apply yW;simp;apply AR;simp;apply yW;simp;apply AR;simp;apply CT;apply yW;simp;apply yW;simp;apply xB;refine aeA (λm tm S=>tm 0=.d (Ay p)/\tm 2=.d (BO s)/\tm 9=.ptr 0 1 0 0/\(∃g n,tm 10=.d (A9 g)/\tm 12=.d (AF n)/\FY s.size g/\((n<g.length/\m=s.size+3 - g.length/\∃f,s.size+2<=f+g.length/\Vb F f g=R0)\/(n=g.length/\m=0/\g=R0)))/\S=[.row true 5 [.d (AS x)]]) ⟨s.size+3 - l.length,_,_,am,by simp,by simp,by simp,⟨l,-1,by simp,by simp,C,.inl ⟨by omega,rfl,s.size+2,by omega,hO⟩⟩,by simp[q,j]⟩ ?_;rintro m tm S ⟨t0,t2,t9,⟨g,n,t10,t12,hg,hor⟩,rfl⟩;have xd:=hg.len;obtain⟨f1,f2⟩:=hF g hg;have N:=hg.uJ f1.2;have wR:=f1.len;have xg:=N.1.len;have z:=iY g (F g) (by omega);rcases hor with⟨hn,rfl,f,hf,E⟩|⟨rfl,rfl,rfl⟩
   .refine xS (yW ?_);simp[t10,t12];apply AR;simp[hn];apply xK;apply Bx;apply yW;simp[t10];apply yT;apply yJ;simp[t0,t2,t9,t10,q,u];refine B9 (f2) rfl (by simp) (yJ ?_);simp;refine B9 (z) rfl (by simp) (yJ ?_);simp;obtain⟨mm,A⟩:∃mm,mm=if(Ij g (F g)).length=g.length then 0 else s.size+3 - (Ij g (F g)).length:=⟨_,rfl⟩;refine⟨mm,?_,_,_,am,?_⟩
    .rw[A];split<;>omega
    .simp[t0,t2,t9,q,u];refine⟨_,rfl,N.1,?_⟩;obtain⟨f,rfl⟩:∃f',f=f'+1:=⟨f - 1,by omega⟩;unfold Vb at E;by_cases he:(Ij g (F g)).length=g.length
     .rw[ap he]at E A;exact .inr ⟨by omega,A,E⟩
     .rw[ao he]at E A;exact .inl ⟨by omega,A,f,by omega,E⟩
   .refine xS (yW ?_);simp[t10,t12];apply AR;simp;apply C7;apply yW;simp[t10];apply zT;try simp
  .have ha:=Y (by rw[j];decide);have hb:=hB (by rw[j];decide);obtain⟨a,u⟩:∃a:Nat,x.a=a:=⟨x.a.toNat,by omega⟩;obtain⟨b,J⟩:∃b:Nat,x.b=b:=⟨x.b.toNat,by omega⟩;obtain⟨l1,W,c1⟩:=K a (by omega) (by omega) l C;obtain⟨l2,X,B⟩:=K b (by omega) (by omega) l1 W;refine⟨l2,X,eJ func213 rfl rfl (by simp) λwf=>?_⟩;rw[ntmps213];apply yW;simp;apply yW;simp[hi,L,q];apply yW;simp;refine xS (yW ?_);simp[j];apply Bx;apply yW;simp;apply AR;simp;apply yW;simp;apply AR;simp;apply yW;simp;apply AR;simp;(repeat apply xS);refine yE [0,2,4,6,8,10,12,14,16,18,20,22] (by kernel_rfl) ?_;simp;apply yA 0;simp[u,J];refine go (c1) rfl (by simp) ?_;simp;apply yA 0;simp;refine go (B) rfl (by simp) ?_;simp;apply yA 0;simp;refine Af ⟨_,_,am,?_⟩;try simp
  .have ha:=Y (by rw[j];decide);have hb:=hB (by rw[j];decide);obtain⟨a,u⟩:∃a:Nat,x.a=a:=⟨x.a.toNat,by omega⟩;obtain⟨b,J⟩:∃b:Nat,x.b=b:=⟨x.b.toNat,by omega⟩;obtain⟨l1,W,c1⟩:=K a (by omega) (by omega) l C;obtain⟨l2,X,B⟩:=K b (by omega) (by omega) l C;have h1:=W.len;have h2:=X.len;have z:=iY l1 l2 (by omega);refine⟨Ij l1 l2,(W.uJ X.2).1,eJ func213 rfl rfl (by simp) λwf=>?_⟩;rw[ntmps213];apply yW;simp;apply yW;simp[hi,L,q];apply yW;simp;refine xS (yW ?_);simp[j];apply Bx;apply yW;simp;apply AR;simp;apply yW;simp;apply AR;simp;apply yW;simp;apply AR;simp;apply yW;simp;apply AR;simp;(repeat apply xS);refine yE [0,2,4,6,8,10,12,14,16,18,20,22,24,26] (by kernel_rfl) ?_;simp;apply yA 0;simp[u,J];refine go (c1) rfl (by simp) ?_;simp;apply yA 0;simp;refine go (B) rfl (by simp) ?_;simp;apply yA 0;simp;refine go (z) rfl (by simp) ?_;simp;apply yA 0;simp;refine Af ⟨_,_,am,?_⟩;try simp
theorem Po{u:List Int}{B:Int}(h:∀y∈u,0<=y/\y<=B)(j:0<=B)(a:Int):∀y∈bump u a,0<=y/\y<=B+1:=λy g=>by
 rcases y3 g with g|rfl
 .have:=h y g;omega
 .rw[io];cases i:u[a.toNat]? with
  |none=>simp;omega
  |some z=>have:=h z (lw i);simp;omega
theorem Nk(p:List BC)(i:Nat):∀y∈CU p i,0<=y/\y<=2 * (i:Int):=by
 induction i with
 |zero=>intro y g;simp[CU]at g;omega
 |succ i j=>
  intro y g;have m:∀{u:List Int} {B:Int},(∀y∈u,0<=y/\y<=B)->∀y∈u,0<=y/\y<=B+1:=λh y g=>by have:=h y g;omega
  unfold CU at g;split at g
  .have:=j y g;omega
  .simp[]at g;have k:∀{u:List Int} {B:Int} {c:Prop} [Decidable c] {a:Int},(∀y∈u,0<=y/\y<=B)->0<=B->∀y∈(if c then bump u a else u),0<=y/\y<=B+1:=λ{u B c _ a} h o=>by
    split
    .exact Po h o _
    .exact m h
   have q:=k (k j (by omega)) (by omega) y g;omega
theorem iH(p:List BC)(i a:Nat):0<=(CU p i).getD a 0/\(CU p i).getD a 0<=2 * (i:Int):=by
 rw[io];cases g:(CU p i)[a]? with
 |none=>simp;omega
 |some z=>exact Nk p i z (lw g)
theorem Yu(p:List BC):Pure prog 211 [Ay p] (AF (Zk p)):=by
 refine eJ func211 (by kernel_rfl) rfl (by simp) λwf=>?_;have H:p.length<=al:=by simp[Bs,DZ]at wf;omega
 generalize j:Zk p=R;unfold Zk at j;rw[ntmps211];refine xW λK g=>?_;simp;apply g;refine xS (xW λK g=>?_);simp;apply g;by_cases A:512<p.length
 .rw[ap A]at j;subst j;have o:(512:Int)<p.length:=by omega
  refine AR ?_;simp[o];refine xW λK g=>?_;simp;apply g;refine Af ⟨_,_,am,?_⟩;try simp
 .rw[ao A]at j;have o:¬(512:Int)<p.length:=by omega
  refine AR ?_;simp[o];refine CT ?_;have b0:(p.length:Int)<=1073741824:=by omega
  have b1:p.length<=512:=by omega
  refine xW λK g=>?_;simp[b0];apply g;refine k7 (R:=λtm S=>tm 0=.d (Ay p)/\tm 3=.row 0 p.length/\S=[.row true 1 ((CU p p.length).map λx=>.d (AF x))]/\Th p=true) ?_ ?_
  .refine xW λK g=>?_;simp;apply g;refine Bx ?_;refine DV p.length (λi tm S=>tm 0=.d (Ay p)/\tm 3=.row 0 p.length/\tm 4=.d (.int .i64 i)/\S=[.row true 1 ((CU p i).map λx=>.d (AF x))]/\∀k (h:k<p.length),k<i->OE p[k] k=true) (i0:=0) (cq _) (by simp[CU]) ?_;rintro i tm S hi ⟨t0,t3,t4,rfl,J⟩;refine xS (xW λK g=>?_);simp[t0,t4];apply g;refine AR ?_;simp;refine⟨λm=>?_,λvw=>?_⟩
   .have hvd:=ee p i m;have v:CU p (i+1)=(λu=>if 2<=ID p[i].kind then bump u p[i].b else u) (if 1<=ID p[i].kind then bump (CU p i) p[i].a else CU p i):=by
     rw[CU,ci m]
    have C:=RG p i;have L:=iH p i;refine xK ?_;refine xB ?_;refine xS (FX λK g=>?_);refine xJ ?_;simp[t0,t4];refine B9 (hvd) rfl (by simp) ?_;simp;refine xJ ?_;simp;refine B6 (g _ _ ?_);(try simp only[xQ,reduceIte]);cases w:OE p[i] i with
    |false=>
     have E:Th p=false:=by
      cases h:Th p with
      |false=>rfl
      |true=>rw[Xi h i m]at w;cases w
     rw[ap E]at j;subst j;refine AR ?_;simp;refine xW λK g=>?_;simp;apply g;refine Af ⟨_,_,am,?_⟩;try simp
    |true=>
     obtain⟨hA,hB⟩:=Tz w;have vy:=Na p[i].kind;have q:ID p[i].kind=0\/ID p[i].kind=1\/ID p[i].kind=2:=by unfold ID;split;simp;split;simp;split<;>simp
     have wo:∀k (h:k<p.length),k<i+1->OE p[k] k=true:=λk h h2=>by
      by_cases e:k=i
      .subst e;exact w
      .exact J k h (by omega)
     generalize W:p[i]=x at *;have X:=AS.eq_1 x;refine AR ?_;simp;refine xK ?_;(repeat refine xS ?_);refine HA λK g=>?_;refine xJ ?_;simp[t0,t4,m,W,X];refine B9 (vy) rfl (by simp) ?_;simp;refine xJ ?_;simp;refine B6 (g _ _ ?_);(try simp only[xQ,reduceIte]);rcases q with q|q|q
     .rw[q]at v;simp at v;refine xS (xW λK g=>?_);simp[q];apply g;refine AR ?_;simp;refine xK ?_;refine xW λK g=>?_;simp;apply g;refine AR ?_;simp;refine CT ?_;refine xV λK g=>?_;simp[t4];apply g;refine⟨m,_,_,am,?_⟩;simp[t0,t3,AL m H,v];exact wo
     .rw[q]at v;simp at v;have ha:=hA (by omega);obtain⟨a,s⟩:∃a:Nat,x.a=a:=⟨x.a.toNat,by omega⟩;have xw:a<p.length:=by omega
      have M:a<(CU p i).length:=by omega
      have hu:=L a;have F:(CU p i).getD a 0=(CU p i)[a]:=by simp[List.getD,M]
      have Y:IntKind.i64.wrap ((CU p i)[a]+1)=(CU p i)[a]+1:=by rw[bv];omega
      have z:bump (CU p i) x.a=(CU p i).set a ((CU p i)[a]+1):=by unfold bump;rw[s,ii,F]
      refine xS (xW λK g=>?_);simp[q];apply g;refine AR ?_;simp;refine xV λK g=>?_;simp[t0,t3,t4,m,W,X,s,xw,C,Y];apply g;refine xW λK g=>?_;simp;apply g;refine AR ?_;simp;refine CT ?_;refine xV λK g=>?_;simp[t4];apply g;refine⟨m,_,_,am,?_⟩;simp[t0,t3,AL m H,v,z];exact wo
     .rw[q]at v;simp at v;have ha:=hA (by omega);have hb:=hB (by omega);obtain⟨a,s⟩:∃a:Nat,x.a=a:=⟨x.a.toNat,by omega⟩;obtain⟨b,N⟩:∃b:Nat,x.b=b:=⟨x.b.toNat,by omega⟩;have xw:a<p.length:=by omega
      have zY:b<p.length:=by omega
      have M:a<(CU p i).length:=by omega
      have hu:=L a;have F:(CU p i).getD a 0=(CU p i)[a]:=by simp[List.getD,M]
      have Y:IntKind.i64.wrap ((CU p i)[a]+1)=(CU p i)[a]+1:=by rw[bv];omega
      have z:bump (CU p i) x.a=(CU p i).set a ((CU p i)[a]+1):=by unfold bump;rw[s,ii,F]
      refine xS (xW λK g=>?_);simp[q];apply g;refine AR ?_;simp;refine xV λK g=>?_;simp[t0,t3,t4,m,W,X,s,xw,C,Y];apply g;rw[z]at v;have B:∀y∈bump (CU p i) x.a,0<=y/\y<=2 * (i:Int)+1:=Po (Nk p i) (by omega) _;rw[z]at B;have za:((CU p i).set a ((CU p i)[a]+1)).length=p.length:=by simp[C]
      have P:List.map (λx=>V.d (D.int .i64 x)) ((CU p i).set a ((CU p i)[a]+1))=(List.map (λx=>V.d (D.int .i64 x)) (CU p i)).set a (V.d (D.int .i64 ((CU p i)[a]+1))):=by rw[eQ]
      rw[<-P];clear P Y;generalize(CU p i).set a ((CU p i)[a]+1)=G at *;have t:b<G.length:=by omega
      have hub1:=B _ (b9 t);have wm:IntKind.i64.wrap (G[b]+1)=G[b]+1:=by rw[bv];omega
      have Q:bump G x.b=G.set b (G[b]+1):=by unfold bump;rw[N,ii];simp[List.getD,t]
      refine xW λK g=>?_;simp;apply g;refine AR ?_;simp;refine xV λK g=>?_;simp[t0,t3,t4,m,W,X,N,zY,za,wm];apply g;refine xV λK g=>?_;simp[t4];apply g;refine⟨m,_,_,am,?_⟩;simp[t0,t3,AL m H,v,Q];exact wo
   .have e:i=p.length:=by omega
    subst e;refine C7 ?_;(try simp only[C4,BW,reduceIte]);exact⟨t0,t3,trivial,by
     unfold Th;rw[cl];intro k Z;have xb:k<p.length:=by simpa using Z
     rw[ci xb];exact J k xb xb⟩
  .rintro tm S ⟨t0,t3,rfl,E⟩;rw[ao (by rw[E];simp)]at j;have za:=RG p p.length;generalize CU p p.length=U at *;refine k7 (R:=λtm S=>tm 0=.d (Ay p)/\S=[.row true 1 (U.map λx=>.d (AF x))]/\(if p.length=0 then(40:Int)else 0)=R) ?_ ?_
   .refine xW λK g=>?_;simp;apply g;refine Bx ?_;refine DV (p.length - 1) (λi tm S=>tm 0=.d (Ay p)/\tm 3=.row 0 p.length/\tm 7=.d (.int .i64 i)/\S=[.row true 1 (U.map λx=>.d (AF x))]/\∀k,k<i->U.getD k 0=1) (i0:=0) (cq _) (by simp[t0,t3]) ?_;rintro i tm S hi ⟨t0,t3,t7,rfl,J⟩;have T:IntKind.i64.wrap ((p.length:Int) - 1)=p.length - 1:=by rw[bv];unfold al at H;omega
    by_cases m:i<p.length - 1
    .have wI:(i:Int)<p.length - 1:=by omega
     have wZ:i<U.length:=by omega
     have hl3:i<p.length:=by omega
     refine xS (xW λK g=>?_);simp[t0,t7,T];apply g;refine AR ?_;simp[wI];refine xK ?_;refine xB ?_;(repeat refine xS ?_);refine xV λK g=>?_;simp[t3,t7,hl3,za];refine g _ _ ?_;(try simp only[xQ,reduceIte]);by_cases he:U[i]=1
     .refine AR ?_;simp[he];refine CT ?_;refine xV λK g=>?_;simp[t7];apply g;refine⟨m,_,_,am,?_⟩;simp[t0,t3,AL (show i<p.length by omega) H];intro k Z;by_cases e:k=i
      .subst e;simp[wZ,he]
      .have:=J k (by omega);simpa[io]using this
     .have hf:((List.range (p.length - 1)).all λi=>decide (U.getD i 0=1))=false:=by
       rw[acr];exact⟨i,by simpa using m,by simp[wZ,he]⟩
      rw[ap hf]at j;subst j;refine AR ?_;simp[he];refine xW λK g=>?_;simp;apply g;refine Af ⟨_,_,am,?_⟩;try simp
    .have wI:¬(i:Int)<p.length - 1:=by omega
     have ht:((List.range (p.length - 1)).all λi=>decide (U.getD i 0=1))=true:=by
      rw[cl];intro k Z;have xb:k<p.length - 1:=by simpa using Z
      simpa using J k (by omega)
     rw[ao (by rw[ht];simp)]at j;refine xS (xW λK g=>?_);simp[t0,t7,T];apply g;refine AR ?_;simp[wI];refine C7 ?_;(try simp only[C4,BW,reduceIte]);exact⟨t0,trivial,by simpa using j⟩
   .rintro tm S ⟨t0,rfl,j⟩;by_cases hp:p.length=0
    .have zK:p=[]:=acS hp;rw[ap hp]at j;subst j;refine xS (xW λK g=>?_);simp[t0,zK];apply g;refine AR ?_;simp;refine xW λK g=>?_;simp;apply g;refine Af ⟨_,_,am,?_⟩;try simp
    .have zK:¬p=[]:=λe=>hp (by rw[e];rfl);rw[ao hp]at j;subst j;refine xS (xW λK g=>?_);simp[t0];apply g;refine AR ?_;simp[zK];refine xK ?_;refine xW λK g=>?_;simp;apply g;refine Af ⟨_,_,am,?_⟩;try simp
theorem dI(p:List BC)(s:ByteArray):∃b:Bool,s.size<=2 ^ 20->Pure prog 184 [Ay p,BO s] (.bool b):=by
 have g:=Yu p;by_cases m:s.size<=2 ^ 20;case neg=>exact⟨true,λh=>absurd h m⟩
 by_cases k:Zk p=0
 .obtain⟨t,h0⟩:=kS k;obtain⟨o,w,hb⟩:=YK p t s m p.length (p.length - 1) (by omega) (by omega) [0] ⟨by simp,λy q=>by simp at q;subst q;omega⟩;have u:=jv o s.size;refine⟨_,λ_=>eJ (d:=.bool (o.contains (s.size:Int))) func184 (by kernel_rfl) rfl (by simp) λwf=>?_⟩;have v:p.length<=al:=by simp[Bs,DZ]at wf;omega
  have i:IntKind.i64.wrap ((p.length:Int) - 1)=((p.length - 1:Nat):Int):=by rw[bv];unfold al at v;omega
  rw[k]at g;rw[ntmps184];refine xW λK j=>?_;simp;apply j;(repeat refine xS ?_);refine HA λK j=>?_;refine xJ ?_;simp;refine B9 (g) rfl (by simp) ?_;simp;refine xH ?_;simp[al,i];refine i7 (hb) rfl rfl (by simp;try rfl) ?_;simp;refine xH ?_;simp;refine i7 (u) rfl rfl (by simp;try rfl) ?_;simp;refine xH ?_;simp;refine B6 (j _ _ ?_);(try simp only[xQ,reduceIte]);refine Af ⟨_,_,am,?_⟩;try simp
 .refine⟨false,λ_=>eJ func184 (by kernel_rfl) rfl (by simp) λwf=>?_⟩;rw[ntmps184];refine xW λK j=>?_;simp;apply j;(repeat refine xS ?_);refine HA λK j=>?_;refine xJ ?_;simp;refine B9 (g) rfl (by simp) ?_;simp;(repeat((first|refine FJ rfl ?_ ?_;(·simp[k])|refine QX rfl ?_ ?_;(·simp[k])|refine Cd ?_ ?_;(·simp[k]));simp));refine B6 (j _ _ ?_);(try simp only[C4]);refine Af ⟨_,_,am,?_⟩;try simp
noncomputable def HY(d:AN)(c:Nat):Bool:=(tr d).Ca (cfg c)
noncomputable def Pt(g:AE)(c:Nat)(s:Symbol):Bool:=!s.token||HY (g.Ae.getD s.index.toNat o8).cond c
noncomputable def B0(g:AE)(c:Nat)(p:Nat):Bool:=match g.AD[p]? with
 |some q=>q.right.all (Pt g c)&&HY q.cond c
 |none=>false
theorem Xt(g:AE)(G:C2 g=0)(hn:g.conds.length<=12)(c:Nat)(H:c<2 ^ 64)(p:Nat)(w:p<g.AD.length):Pure prog 183 [AA g,Fs c,AF p] (.bool (B0 g c p)):=by
 have z:=MQ hn G;obtain⟨q,A⟩:=a9 (g.AD[p]);have B:q∈g.AD:=A▸b9 w;have C:B0 g c p=(q.right.all (Pt g c)&&HY q.cond c):=by unfold B0;rw[ci w,A]
 rw[C];have P:=Xf q.cond (z.prod q B).1 c H;have Q:∀s∈q.right,s.token=true->∃k:Nat,s.index=k/\∃J:k<g.Ae.length,Pure prog 132 [AB g.Ae[k].cond,Fs c] (.bool (Pt g c s)):=λs v o=>by
  obtain⟨h0,h1⟩:=z.sym q B s v o;have j:s.index.toNat<g.Ae.length:=by omega
  refine⟨s.index.toNat,by omega,j,?_⟩;have:=Xf g.Ae[s.index.toNat].cond (z.tok _ (b9 j)).1 c H;have e:Pt g c s=(tr g.Ae[s.index.toNat].cond).Ca (cfg c):=by simp[Pt,o,HY,List.getD,j]
  rw[e];exact this
 have m:=AH.eq_1 q;refine eJ func183 rfl rfl (by simp) λwf=>?_;have K:q.right.length<=al:=by have:=DH G q B;unfold al;omega
 rw[ntmps183];apply yW;simp;apply yW;simp[AA,w,A,m];refine xS (yW ?_);simp;apply Bx;refine zL q.right.length (λi tm S=>tm 1=.d (Fs c)/\tm 3=.ptr 0 1 0 0/\tm 7=.ptr 1 1 0 0/\tm 8=.d (.int .i64 i)/\S=[.row true 9 [.d (AA g)],.row true 13 [.d (AH q)]]/\∀s∈q.right.take i,Pt g c s=true) (by simp[AA,m]) ?_;rintro i tm S hi ⟨t1,t3,t7,t8,rfl,E⟩;refine xS (yW ?_);simp[t7,t8,m];apply AR;simp;refine⟨λj=>?_,λU=>?_⟩
 .obtain⟨s,v⟩:=a9 (q.right[i]);have L:s∈q.right:=v▸b9 j;have M:Pt g c s=true->∀s∈q.right.take (i+1),Pt g c s=true:=λh x t=>by
   rw[yq,ci j,v]at t;rcases dl.1 t with t|t
   .exact E x t
   .simp at t;subst t;exact h
  have N:=AI.eq_1 s;apply xK;apply xB;cases o:s.token with
  |false=>
   refine yD [0,2,4,6,8,10,12,14,16,18,20,22,24,26,28,30,32,34,36,38,40,42] (by kernel_rfl) ?_;simp;apply yZ;simp[t7,t8,j,v,N,o];apply AR;simp;apply CT;apply yV;simp[t8];refine⟨j,_,_,am,?_⟩;simp[t1,t3,t7,AL j K,m];exact M (by simp[Pt,o])
  |true=>
   obtain⟨k,J,R,u⟩:=Q s L o;have F:=Ad.eq_1 g.Ae[k];(repeat apply xS);refine yE [0,2,4,6,8,10,12,14,16,18,20,22,24,26,28,30,32,34,36,38,40,42] (by kernel_rfl) ?_;simp;apply yZ;simp[t1,t3,t7,t8,j,v,N,o,J,R,F,AA];refine Ag.EU (ds:=[AB g.Ae[k].cond,Fs c]) rfl rfl (by simp;rfl) (λ_=>u) (by simp[xN]) ?_;simp;apply yZ;simp;cases hb:Pt g c s with
   |false=>
    apply AR;simp;apply yW;simp;refine Af ⟨_,_,am,?_⟩;(try simp);intro h;have:=h s L;rw[hb]at this;cases this
   |true=>
    apply AR;simp;apply CT;apply yV;simp[t8];refine⟨j,_,_,am,?_⟩;simp[t1,t3,t7,AL j K,m];exact M hb
 .have e:i=q.right.length:=by omega
  subst e;rw[ne]at E;have T:q.right.all (Pt g c)=true:=cl.2 E;apply C7;(repeat apply xS);apply yT;apply yJ;simp[t1,t7];refine B9 (P) rfl (by simp[xN]) (yJ ?_);simp;apply zT;simp[T,HY]
theorem YS(g:AE)(t:C2 g=0)(hn:g.conds.length<=12)(c:Nat)(L:c<2 ^ 64)(p:Nat)(u:p<g.AD.length)(l:List Int)(N:l.length=g.A2.length)(hb:∀y∈l,y<=1000):
  Pure prog 133 [AA g,Fs c,AF p,A9 l] (AF (Gm g (B0 g c) (λn=>l.getD n 0) p)):=by
 obtain⟨q,z⟩:=a9 (g.AD[p]);have A:q∈g.AD:=z▸b9 u;have P:=Xt g t hn c L p u;have B:ER g p=q.right:=by unfold ER;rw[ci u,z]
 have E:q.right.length<=al:=by have:=DH t q A;unfold al;omega
 have Q:=AH.eq_1 q;unfold Gm;rw[B];obtain⟨F,G⟩:∃F:Nat->Int,F=λn=>l.getD n 0:=⟨_,rfl⟩;rw[<-G];refine zP func133 48 rfl λwf=>?_;apply yW;simp;refine xS (yS ?_);apply yJ;simp;refine B9 (P) rfl (by simp[xN]) (yJ ?_);simp;cases X:B0 g c p with
 |false=>
  apply AR;simp;apply yW;simp;refine Af ⟨_,_,am,?_⟩;try simp
 |true=>
  apply AR;simp;apply xK;apply yW;simp;apply yW;simp[AA,u,z,Q];refine xS (yW ?_);simp;apply Bx;refine zL q.right.length (λi tm S=>tm 3=.d (A9 l)/\tm 9=.d (.int .i64 (E6 F (q.right.take i)))/\tm 10=.d (Az q.right)/\tm 11=.d (.int .i64 i)/\S=[.row true 9 [.d (AA g)]]/\E6 F (q.right.take i)<=1000) (by simp[E6,AA]) ?_;rintro i tm S hi ⟨t3,t9,t10,t11,rfl,j⟩;have R:=Gj F (q.right.take i);refine xS (yW ?_);simp[t10,t11];apply AR;simp;refine⟨λh=>?_,λY=>?_⟩
  .obtain⟨s,v⟩:=a9 (q.right[i]);have H:s∈q.right:=v▸b9 h;have J:=AI.eq_1 s;have m:E6 F (q.right.take (i+1))=if s.token then E6 F (q.right.take i)else max (E6 F (q.right.take i)) (F s.index.toNat):=by
    unfold E6;rw[yq,ci h,v,Option.toList_some,E2];rfl
   generalize E6 F (q.right.take i)=M at *;apply xK;apply xB;(repeat apply xS);apply yV;simp[t10,t11,h,v,J];cases w:s.token with
   |true=>
    rw[w,ap rfl]at m;apply AR;simp;apply CT;apply yV;simp[t11];refine⟨h,_,_,am,?_⟩;simp[t3,t9,t10,AL h E,m,j]
   |false=>
    rw[w,ao (by simp)]at m;obtain⟨k,K⟩:∃k:Nat,s.index=k:=⟨s.index.toNat,by have:=I5 t A H w;omega⟩;have C:k<l.length:=by have:=I5 t A H w;omega
    have o:k<g.A2.length:=by omega
    have T:F k=l[k]:=by rw[G];simp[List.getD,C]
    have U:=hb _ (b9 C);rw[K,ii,T]at m;apply AR;simp;apply yV;simp[t3,t9,t10,t11,h,v,J,K,o,N];apply yV;simp[t11];refine⟨h,_,_,am,?_⟩;simp[t3,t10,AL h E,m];omega
  .have e:i=q.right.length:=by omega
   subst e;rw[ne]at t9 j R;have W:IntKind.i64.wrap (E6 F q.right+1)=E6 F q.right+1:=by rw[bv];omega
   generalize E6 F q.right=M at *;apply C7;apply yW;simp[t9,W];apply zT;(try simp);split<;>omega
theorem Vx(g:AE)(t:C2 g=0)(hn:g.conds.length<=12)(c:Nat)(N:c<2 ^ 64)(p:Nat)(u:p<g.AD.length)(l:List Int)(P:l.length=g.A2.length)(hb:∀y∈l,y<=1000)(w:Bool):
  AG prog 133 [.d (AA g),.d (Fs c),.d (AF p),.row 0 l.length] [.row w 1 (l.map λx=>.d (AF x))] (.d (AF (Gm g (B0 g c) (λn=>l.getD n 0) p))) [.row w 1 (l.map λx=>.d (AF x))]:=by
 obtain⟨q,A⟩:=a9 (g.AD[p]);have B:q∈g.AD:=A▸b9 u;have Q:=Xt g t hn c N p u;have C:ER g p=q.right:=by unfold ER;rw[ci u,A]
 have G:q.right.length<=al:=by have:=DH t q B;unfold al;omega
 have R:=AH.eq_1 q;unfold Gm;rw[C];obtain⟨F,H⟩:∃F:Nat->Int,F=λn=>l.getD n 0:=⟨_,rfl⟩;rw[<-H];refine zC func133 48 rfl λwf _=>?_;apply yW;simp;refine xS (yS ?_);apply yJ;simp;refine B9 (Q) rfl (by simp[xN]) (yJ ?_);simp;cases Y:B0 g c p with
 |false=>
  apply AR;simp;(repeat apply xS);apply yV;simp;(apply Af;refine⟨_,a8 1 rfl (by simp) (by simp) (by simp),?_⟩;simp[Au,clean,AP])
 |true=>
  apply AR;simp;apply xK;apply yW;simp;apply yW;simp[AA,u,A,R];refine xS (yW ?_);simp;apply Bx;refine zL q.right.length (λi tm S=>tm 3=.row 0 l.length/\tm 9=.d (.int .i64 (E6 F (q.right.take i)))/\tm 10=.d (Az q.right)/\tm 11=.d (.int .i64 i)/\S=[.row w 1 (l.map λx=>.d (AF x)),.row true 9 [.d (AA g)]]/\E6 F (q.right.take i)<=1000) (by simp[E6,AA]) ?_;rintro i tm S hi ⟨t3,t9,t10,t11,rfl,j⟩;have T:=Gj F (q.right.take i);refine xS (yW ?_);simp[t10,t11];apply AR;simp;refine⟨λh=>?_,λZ=>?_⟩
  .obtain⟨s,v⟩:=a9 (q.right[i]);have J:s∈q.right:=v▸b9 h;have K:=AI.eq_1 s;have m:E6 F (q.right.take (i+1))=if s.token then E6 F (q.right.take i)else max (E6 F (q.right.take i)) (F s.index.toNat):=by
    unfold E6;rw[yq,ci h,v,Option.toList_some,E2];rfl
   generalize E6 F (q.right.take i)=M at *;apply xK;apply xB;(repeat apply xS);apply yV;simp[t10,t11,h,v,K];cases z:s.token with
   |true=>
    rw[z,ap rfl]at m;apply AR;simp;apply CT;apply yV;simp[t11];refine⟨h,_,_,am,?_⟩;simp[t3,t9,t10,AL h G,m,j]
   |false=>
    rw[z,ao (by simp)]at m;obtain⟨k,L⟩:∃k:Nat,s.index=k:=⟨s.index.toNat,by have:=I5 t B J z;omega⟩;have E:k<l.length:=by have:=I5 t B J z;omega
    have o:k<g.A2.length:=by omega
    have U:F k=l[k]:=by rw[H];simp[List.getD,E]
    have W:=hb _ (b9 E);rw[L,ii,U]at m;apply AR;simp;apply yV;simp[t3,t9,t10,t11,h,v,K,L,o,P];apply yV;simp[t11];refine⟨h,_,_,am,?_⟩;simp[t3,t10,AL h G,m];omega
  .have e:i=q.right.length:=by omega
   subst e;rw[ne]at t9 j T;have X:IntKind.i64.wrap (E6 F q.right+1)=E6 F q.right+1:=by rw[bv];omega
   generalize E6 F q.right=M at *;apply C7;(repeat apply xS);apply yV;simp[t9,X];(apply Af;refine⟨_,a8 1 rfl (by simp) (by simp) (by simp),?_⟩;simp[Au,clean,AP]);split<;>omega
theorem o7(g:AE)(h:C2 g=0):Im g:=λp i=>by
 have m:=FC h (b9 i);unfold DJ ER;rw[ci i];exact⟨by simp[];omega,λs j k=>by have:=I5 h (b9 i) j k;omega⟩
theorem X8{g:AE}{pr:Nat->Bool}{l:List Int}(h:∀y∈l,y<=1000)(p:Nat):∀y∈NZ g pr l p,y<=1000:=λy i=>by
 rcases y3 i with i|rfl
 .exact h y i
 .have:=fO g pr (λn=>l.getD n 0) p;omega
theorem LR{g:AE}{pr:Nat->Bool}{l:List Int}(h:∀y∈l,y<=1000):∀p,∀y∈Cz g pr l p,y<=1000
 |0=>h
 |p+1=>X8 (LR h p) p
theorem J9(g:AE)(pr:Nat->Bool):∀r,∀y∈DM g pr r,y<=1000
 |0=>λy h=>by simp[DM]at h;omega
 |r+1=>LR (J9 g pr r) _
theorem VV(g:AE)(s:C2 g=0)(hn:g.conds.length<=12)(c:Nat)(hc:c<2 ^ 64):Pure prog 49 [AA g,Fs c] (A9 (L4 g (B0 g c))):=by
 have hN:g.A2.length<=2000:=by have:=(Ck s).1;simp[C3]at this;omega
 have hP:g.AD.length<=2000:=by have:=(Ck s).1;simp[C3]at this;omega
 have B:(g.A2.length:Int)<=1073741824:=by omega
 have b1:g.A2.length<=al:=by unfold al;omega
 have b2:g.AD.length<=al:=by unfold al;omega
 obtain⟨pr,wX⟩:∃pr,pr=B0 g c:=⟨_,rfl⟩;have o:=λp W l hl hb=>Vx g s hn c hc p W l hl hb true;rw[<-wX]at o⊢;have hw:=o7 g s;unfold L4;refine zP func49 57 rfl λwf=>?_;apply yW;simp;apply yW;simp[AA,B];refine k7 (R:=λtm S=>tm 1=.d (Fs c)/\tm 2=.ptr 0 1 0 0/\tm 5=.row 1 g.A2.length/\S=[.row true 9 [.d (AA g)],.row true 1 ((DM g pr 0).map λx=>.d (AF x))]) ?_ ?_
 .apply yW;simp;apply Bx;refine zL g.A2.length (λi tm S=>tm 1=.d (Fs c)/\tm 2=.ptr 0 1 0 0/\tm 5=.row 1 g.A2.length/\tm 6=.d (.int .i64 i)/\∃u:List Int,u.length=g.A2.length/\(∀k,k<i->u[k]?=some 1000)/\S=[.row true 9 [.d (AA g)],.row true 1 (u.map λx=>.d (AF x))]) (by simp[AA];exact⟨List.replicate g.A2.length 0,by simp,by simp⟩) ?_;rintro i tm S hi ⟨t1,t2,t5,t6,u,z,X,rfl⟩;refine xS (yW ?_);simp[t5,t6,z];apply AR;simp;refine⟨λt=>?_,λvw=>?_⟩
  .have v:i<u.length:=by omega
   apply xK;apply xB;apply yV;simp[t5,t6,t,z];apply yV;simp[t6];refine⟨t,_,_,am,?_⟩;simp[t1,t2,t5,AL t b1];refine⟨u.set i 1000,by simp[z],λk C=>?_,by simp⟩;rw[yy];split
   .first|rfl|rw[ap v]
   .exact X k (by omega)
  .have e:i=g.A2.length:=by omega
   subst e;have E:u=List.replicate g.A2.length 1000:=by
    apply un (by simp[z]);intro k h1 h2;have:=X k (by omega);rw[ci h1]at this;simpa using this
   apply C7;simp[t1,t2,t5,DM,E]
 .rintro tm S ⟨t1,t2,t5,rfl⟩;have vS:IntKind.i64.wrap ((g.A2.length:Int)+1)=((g.A2.length+1:Nat):Int):=by rw[bv];omega
  have w:=Gg g pr;have F:g.A2.length+1<=al:=by unfold al;omega
  refine k7 (R:=λtm S=>tm 5=.row 1 g.A2.length/\S=[.row true 9 [.d (AA g)],.row true 1 ((DM g pr (g.A2.length+1)).map λx=>.d (AF x))]) ?_ ?_
  .apply yW;simp;apply Bx;refine zL (g.A2.length+1) (λi tm S=>tm 1=.d (Fs c)/\tm 2=.ptr 0 1 0 0/\tm 5=.row 1 g.A2.length/\tm 7=.d (.int .i64 i)/\S=[.row true 9 [.d (AA g)],.row true 1 ((DM g pr i).map λx=>.d (AF x))]) (by simp[t1,t2,t5]) ?_;rintro i tm S hi ⟨t1,t2,t5,t7,rfl⟩;have Y:=w i;refine xS (yW ?_);simp[t5,t7,Y,vS];by_cases t:i<g.A2.length+1
   .have G:(i:Int)<g.A2.length+1:=by omega
    apply AR;simp[G];apply xK;apply xB;have J:=J9 g pr i;have K:DM g pr (i+1)=Cz g pr (DM g pr i) g.AD.length:=rfl;generalize DM g pr i=R at *;apply yW;simp;apply Bx;refine zL g.AD.length (λp tm S=>tm 1=.d (Fs c)/\tm 2=.ptr 0 1 0 0/\tm 5=.row 1 g.A2.length/\tm 7=.d (.int .i64 i)/\tm 8=.d (.int .i64 p)/\S=[.row true 9 [.d (AA g)],.row true 1 ((Cz g pr R p).map λx=>.d (AF x))]) (by simp[t1,t2,t5,t7,Cz]) ?_;rintro p tm S W ⟨t1,t2,t5,t7,t8,rfl⟩;have h:(Cz g pr R p).length=g.A2.length:=by rw[Iu,Y]
    have M:=LR (g:=g) (pr:=pr) J p;refine xS (yW ?_);simp[t2,t8,AA];apply AR;simp;refine⟨λj=>?_,λZ=>?_⟩
    .have A:Cz g pr R (p+1)=NZ g pr (Cz g pr R p) p:=rfl;have wD:=o p j (Cz g pr R p) h M;have vu:AG prog 133 [.d (AA g),.d (Fs c),.d (AF p),.row 0 g.A2.length] [.row true 1 ((Cz g pr R p).map λx=>.d (AF x))] (.d (AF (Gm g pr (λn=>(Cz g pr R p).getD n 0) p))) [.row true 1 ((Cz g pr R p).map λx=>.d (AF x))]:=by rw[<-h];exact wD
     obtain⟨q,N⟩:=a9 (g.AD[p]);have yo:q∈g.AD:=N▸b9 j;have vf:=AH.eq_1 q;obtain⟨k,C⟩:∃k:Nat,q.left=k:=⟨q.left.toNat,by have:=FC s yo;omega⟩;have P:k<g.A2.length:=by have:=FC s yo;omega
     have Q:DJ g p=k:=by unfold DJ;rw[ci j,N];simp[C]
     have hgb:=fO g pr (λn=>(Cz g pr R p).getD n 0) p;unfold NZ at A;rw[Q]at A;generalize Gm g pr (λn=>(Cz g pr R p).getD n 0) p=H at *;clear o wD;generalize Cz g pr R p=L at *;have m:k<L.length:=by omega
     have T:L.getD k 0=L[k]:=by simp[List.getD,m]
     rw[T]at A;apply xK;apply xB;apply yW;simp[t2,t8,j,N,vf,C];refine yE [0,2,4,6,8,10,12,14,16,18,20,22,24,27] (by kernel_rfl) ?_;simp;apply yA 1;simp[t1,t2,t5,t8,P,h];refine Ag.Sm (vu) [1] rfl (by simp;try rfl) ?_;simp;apply yA 1;simp[P,h];apply xX 8191 (by kernel_rfl);simp[Ac,t1,t2,t5,t8,P,h];apply xM;apply yV;simp[t8];refine⟨j,_,_,am,?_⟩;have U:(if H<L[k]then H else L[k])=min L[k] H:=by split<;>omega
     simp[t1,t2,t5,t7,AL j b2,A,U]
    .have e:p=g.AD.length:=by omega
     subst e;apply C7;apply yV;simp[t7];refine⟨t,_,_,am,?_⟩;simp[t1,t2,t5,AL t F,K]
   .have e:i=g.A2.length+1:=by omega
    subst e;have G:¬(g.A2.length:Int)+1<g.A2.length+1:=by omega
    apply AR;simp[G];apply C7;simp[t5]
  .rintro tm S ⟨t5,rfl⟩;(repeat apply xS);apply yV;simp[t5];(apply Af;refine⟨_,_,c9 1 (xs:=(DM g pr (g.A2.length+1)).map AF) rfl (by simp),?_⟩;simp[Ba,CF,Gg])
noncomputable def hasB(g:AE)(c:Nat):Bool:=decide (c<2 ^ g.conds.length)&&HY g.fam c
theorem ng(g:AE)(m:C2 g=0)(hn:g.conds.length<=12)(c:Nat)(o:c<2 ^ 64):Pure prog 48 [AA g,Fs c] (.bool (hasB g c)):=by
 have q:=Xf g.fam (MQ hn m).fam.1 c o;have j:IntKind.u64.wrap (g.conds.length:Int)=g.conds.length:=by rw[Ps,qr (by omega)]
 have k:(c:Int).fdiv (2 ^ (min g.conds.length IntKind.u64.bits))=((c / 2 ^ g.conds.length:Nat):Int):=by
  have e:IntKind.u64.bits=64:=rfl;rw[e,adl (by omega),acx _ (by exact_mod_cast cq _)];push_cast;rfl
 have i:¬(g.conds.length:Int)=64:=by omega
 unfold hasB HY;refine zP func48 24 rfl λwf=>?_;apply yW;simp;apply yW;simp[AA];apply yS;(repeat((first|refine FJ rfl ?_ ?_;(·simp[i])|refine QX rfl ?_ ?_;(·simp[i])|refine Cd ?_ ?_;(·simp[i]));simp[j,k]));refine wl (ds:=[AB g.fam,Fs c]) rfl rfl (by simp;rfl) (λ_=>q) (by simp[AB,AB]) ?_;simp;apply yH;simp;apply zT;(try simp);congr 1;have e:(c:Int) / 2 ^ g.conds.length=((c / 2 ^ g.conds.length:Nat):Int):=by push_cast;rfl
 rw[e,eg,oj,zO,zO,cF];have s:c / 2 ^ g.conds.length=0↔c<2 ^ g.conds.length:=Nat.div_eq_zero_iff_lt (Nat.two_pow_pos _);rw[<-s];exact⟨λh=>by rcases h with h|h;exact absurd h i;exact_mod_cast h,λh=>.inr (by exact_mod_cast h)⟩
noncomputable def uP(p:List BC)(s:ByteArray):Bool:=(dI p s).choose
theorem pW(p:List BC)(s:ByteArray)(hs:s.size<=2 ^ 20):Pure prog 184 [Ay p,BO s] (.bool (uP p s)):=(dI p s).choose_spec hs
noncomputable def oR(t:Token)(s:ByteArray):Bool:=if t.literal=⟨#[]⟩then uP t.pattern s else decide (s=t.literal)
theorem Ok(t:Token)(s:ByteArray)(hs:s.size<=2 ^ 20):Pure prog 135 [Ad t,BO s] (.bool (oR t s)):=by
 have g:=Ad.eq_1 t;have i:ByteArray.empty=(⟨#[]⟩:ByteArray):=rfl;have j:=pW t.pattern s hs;refine zP func135 16 rfl λwf=>?_;unfold oR;by_cases h:t.literal=⟨#[]⟩
 .rw[ap h];apply yW;simp;refine xS (yW ?_);simp[g,h];apply AR;simp;apply xK;(repeat apply xS);apply yT;apply yJ;simp;refine B9 (j) rfl (by simp) (yJ ?_);simp;apply zT;try simp
 .rw[ao h];apply yW;simp;refine xS (yW ?_);simp[g,h];apply AR;simp;apply yW;simp;refine Af ⟨_,_,am,?_⟩;try simp
noncomputable def NA(c:Nat)(s:ByteArray)(t:Token):Bool:=decide (t.cls=2)&&(HY t.cond c&&(decide (s≠⟨#[]⟩)&&oR t s))
noncomputable def dr(g:AE)(c:Nat)(s:ByteArray):Bool:=g.Ae.any (NA c s)
theorem Zy(g:AE)(J:C2 g=0)(hn:g.conds.length<=12)(c:Nat)(M:c<2 ^ 64)(s:ByteArray)(hs:s.size<=2 ^ 20):Pure prog 137 [AA g,Fs c,BO s] (.bool (dr g c s)):=by
 have N:=MQ hn J;have m:ByteArray.empty=(⟨#[]⟩:ByteArray):=rfl;refine eJ func137 (by kernel_rfl) rfl (by simp) λwf=>?_;have B:g.Ae.length<=al:=by have:=(Ck J).1;simp[C3]at this;unfold al;omega
 rw[ntmps137];refine xW λK k=>?_;simp;apply k;refine xS (xW λK k=>?_);simp;apply k;refine Bx ?_;refine DV g.Ae.length (λi tm S=>tm 1=.d (Fs c)/\tm 2=.d (BO s)/\tm 3=.ptr 0 1 0 0/\tm 7=.d (.int .i64 i)/\S=[.row true 9 [.d (AA g)]]/\∀t∈g.Ae.take i,NA c s t=false) (i0:=0) (cq _) (by simp[AA]) ?_;rintro i tm S hi ⟨t1,t2,t3,t7,rfl,H⟩;refine xS (xW λK k=>?_);simp[t3,t7,AA];apply k;refine AR ?_;simp;refine⟨λo=>?_,λQ=>?_⟩
 .obtain⟨t,w⟩:=a9 (g.Ae[i]);have L:t∈g.Ae:=w▸b9 o;have v:Pure prog 132 [AB t.cond,Fs c] (.bool (HY t.cond c)):=Xf t.cond (N.tok t L).1 c M;have C:=Ok t s hs;have j:=Ad.eq_1 t;have E:NA c s t=false->∀t∈g.Ae.take (i+1),NA c s t=false:=λh x q=>by
   rw[yq,ci o,w]at q;rcases dl.1 q with q|q
   .exact H x q
   .simp at q;subst q;exact h
  refine xK ?_;refine xB ?_;(repeat refine xS ?_);refine xV λK k=>?_;simp[t3,t7,o,w,j];refine k _ _ ?_;(try simp only[xQ,reduceIte]);by_cases c1:t.cls=2
  .cases F:HY t.cond c with
   |false=>
    have u:NA c s t=false:=by simp[NA,F]
    rw[F]at v;refine FX λK k=>?_;refine xH ?_;simp[t1,c1];refine i7 (v) rfl rfl (by simp[xN];try rfl) ?_;simp;refine xH ?_;simp;refine B6 (k _ _ ?_);refine AR ?_;simp;refine CT ?_;refine xV λK k=>?_;simp[t7];apply k;refine⟨o,_,_,lm 1 (S':=[.row true 9 [.d (AA g)]]) (by simp[AA]) (by simp) (by simp) (by simp),?_⟩;simp[clean,AP,t1,t2,t3,AL o B];exact E u
   |true=>
    rw[F]at v;by_cases z:s=⟨#[]⟩
    .have u:NA c s t=false:=by simp[NA,z]
     refine FX λK k=>?_;refine xH ?_;simp[t1,c1];refine i7 (v) rfl rfl (by simp[xN];try rfl) ?_;simp;refine xH ?_;simp[t2,z];refine B6 (k _ _ ?_);refine AR ?_;simp;refine CT ?_;refine xV λK k=>?_;simp[t7];apply k;refine⟨o,_,_,lm 1 (S':=[.row true 9 [.d (AA g)]]) (by simp[AA]) (by simp) (by simp) (by simp),?_⟩;simp[clean,AP,t1,t2,t3,AL o B];exact E u
    .have A:NA c s t=oR t s:=by simp[NA,c1,F,z]
     cases G:oR t s with
     |false=>
      have u:NA c s t=false:=by rw[A,G]
      rw[G]at C;refine FX λK k=>?_;refine xH ?_;simp[t1,c1];refine i7 (v) rfl rfl (by simp[xN];try rfl) ?_;simp;refine xH ?_;simp[t2,z];refine i7 (C) rfl rfl (by simp[j,c1];try rfl) ?_;simp;refine xH ?_;simp;refine B6 (k _ _ ?_);refine AR ?_;simp;refine CT ?_;refine xV λK k=>?_;simp[t7];apply k;refine⟨o,_,_,lm 1 (S':=[.row true 9 [.d (AA g)]]) (by simp[AA]) (by simp) (by simp) (by simp),?_⟩;simp[clean,AP,t1,t2,t3,AL o B];exact E u
     |true=>
      rw[G]at C;refine FX λK k=>?_;refine xH ?_;simp[t1,c1];refine i7 (v) rfl rfl (by simp[xN];try rfl) ?_;simp;refine xH ?_;simp[t2,z];refine i7 (C) rfl rfl (by simp[j,c1];try rfl) ?_;simp;refine xH ?_;simp;refine B6 (k _ _ ?_);refine AR ?_;simp;refine xW λK k=>?_;simp;apply k;refine Af ⟨_,_,am,?_⟩;(try simp);exact zv.2 ⟨t,L,by rw[A,G]⟩
  .have u:NA c s t=false:=by simp[NA,c1]
   (repeat refine xS ?_);refine HA λK k=>?_;(repeat((first|refine FJ rfl ?_ ?_;(·simp[c1])|refine QX rfl ?_ ?_;(·simp[t1,t2,j,c1,m])|refine Cd ?_ ?_;(·simp[c1]));simp));refine B6 (k _ _ ?_);(try simp only[C4]);refine AR ?_;simp;refine CT ?_;refine xV λK k=>?_;simp[t7];apply k;refine⟨o,_,_,lm 1 (S':=[.row true 9 [.d (AA g)]]) (by simp[AA]) (by simp) (by simp) (by simp),?_⟩;simp[clean,AP,t1,t2,t3,AL o B];exact E u
 .have e:i=g.Ae.length:=by omega
  subst e;rw[ne]at H;have P:dr g c s=false:=p6.2 λt w=>by rw[H t w];simp
  refine C7 ?_;refine xW λK k=>?_;simp;apply k;refine Af ⟨_,_,am,?_⟩;(try simp);exact P
def A1(x:BG):D:=.agg [AF x.prod,AF x.token,BO x.text,By x.rem]
@[simp] theorem aw(x:BG):Ai (.d (A1 x))=[.d (AF x.prod),.d (AF x.token),.d (BO x.text),.d (By x.rem)]:=rfl
@[simp] theorem aW(x:BG):At (.d (A1 x))=true:=rfl
@[simp] theorem jR(x:BG):Bw (.d (A1 x))=false:=rfl
@[simp] theorem bE(x:BG):BN (A1 x)=[AF x.prod,AF x.token,BO x.text,By x.rem]:=rfl
@[simp] theorem jM(x:BG):CZ.oneD (A1 x)=true:=rfl
@[simp] theorem nW(x:BG):DZ (A1 x)=Bs [AF x.prod,AF x.token,BO x.text,By x.rem]:=rfl
@[simp] theorem fL(S:Sg)(x:BG):Dm S (.d (A1 x))=some [AF x.prod,AF x.token,BO x.text,By x.rem]:=rfl
def ON(g:AE)(c:Nat)(l:List Int)(a:Nat)(hi:List Int)(out:V):V:=.agg [.d (By g.conds),.d (AY g.fam.nodes),.d (AF g.fam.root),.d (DI g.Ae),.d (By g.A2),.d (Co g.AD),.d (AF g.start),.d (Bp g.levels),.d (BX g.AU),.d (Fs c),.d (.sl (l.map (D.int .u8))),.d (.int .i64 a),.d (A9 hi),out]
def Hu(g:AE)(c:Nat)(l:List Int)(a:Nat)(hi:List Int)(w:Bool)(ns:List BG):Sg:=[.row true 14 [ON g c l a hi (.row 1 ns.length)],.row w 4 (ns.map λn=>.d (A1 n))]
def Kq(l:List Int)(a:Nat)(n:Int):Int:=if l.length<=a\/n<1 then 0 else(l.getD a 0).tmod n
def Mk(l:List Int)(a:Nat)(n:Int):Nat:=if l.length<=a\/n<1 then a else a+1
theorem KV{l:List Int}(g:∀k∈l,0<=k/\k<256){a:Nat}{n:Int}(hn:1<=n):0<=Kq l a n/\Kq l a n<n:=by
 unfold Kq;split
 .omega
 .have h0:0<=l.getD a 0:=by
   rw[io];cases h:l[a]? with
   |none=>simp
   |some z=>exact(g z (lw h)).1
  exact⟨adI _ h0,Int.tmod_lt_of_pos _ (by omega)⟩
theorem Vw(l:List Int)(a:Nat)(n:Int):a<=Mk l a n/\(a<=l.length->Mk l a n<=l.length):=by
 unfold Mk;split<;>omega
theorem Rz(g:AE)(c:Nat)(l:List Int)(v:l.length<=40)(m:∀k∈l,0<=k/\k<256)(a:Nat)(hi:List Int)(w:Bool)(ns:List BG)(n:Int):
  AG prog 134 [.ptr 0 1 0 0,.d (AF n)] (Hu g c l a hi w ns) (.d (AF (Kq l a n))) (Hu g c l (Mk l a n) hi w ns):=by
 refine zC func134 40 rfl λwf _=>?_;unfold Hu ON;(repeat apply xS);apply yV;simp;by_cases c1:l.length<=a
 .have i:Kq l a n=0:=by simp[Kq,c1]
  have j:Mk l a n=a:=by simp[Mk,c1]
  rw[i,j];apply xS;refine yD [0,2,4,6,8,10,12,14,16,18,20,22,24,26] (by kernel_rfl) ?_;simp;apply yZ;simp[c1];apply AR;simp;(repeat apply xS);apply yV;simp;(apply Af;refine⟨_,am,?_⟩;simp[Au])
 .by_cases h:n<1
  .have i:Kq l a n=0:=by simp[Kq,h]
   have j:Mk l a n=a:=by simp[Mk,h]
   rw[i,j];apply xS;refine yD [0,2,4,6,8,10,12,14,16,18,20,22,24,26] (by kernel_rfl) ?_;simp;apply yZ;simp[c1,h];apply AR;simp;(repeat apply xS);apply yV;simp;(apply Af;refine⟨_,am,?_⟩;simp[Au])
  .have o:a<l.length:=by omega
   have i:Kq l a n=l[a].tmod n:=by simp[Kq,c1,h,o]
   have j:Mk l a n=a+1:=by simp[Mk,c1,h]
   have q:IntKind.i64.wrap ((a:Int)+1)=((a+1:Nat):Int):=by rw[bv];omega
   have hb:=m _ (b9 o);have s:IntKind.i64.wrap l[a]=l[a]:=by rw[bv];omega
   have t:IntKind.i64.wrap (a:Int)=a:=by rw[bv];omega
   have u:n≠0:=by omega
   rw[i,j];apply xS;refine yD [0,2,4,6,8,10,12,14,16,18,20,22,24,26] (by kernel_rfl) ?_;simp;apply yZ;simp[c1,h];apply AR;simp;apply xK;apply yW;simp[q];(repeat apply xS);refine yE [0,2,4,6,8,10,12,14,16,18,20,22,24,26,28] (by kernel_rfl) ?_;simp;apply yA 1;simp[o,s,t,u];(apply Af;refine⟨_,am,?_⟩;simp[Au])
def rk:List ByteArray:=[⟨#[37]⟩,⟨#[37,97]⟩,⟨#[37,98,32,99]⟩]
noncomputable def M4(g:AE)(c:Nat)(l:List Int)(a:Nat):Nat->Nat×List ByteArray
 |0=>(Mk l a 12,[])
 |i+1=>(Mk l (M4 g c l a i).1 3,if dr g c (rk.getD (Kq l (M4 g c l a i).1 3).toNat ⟨#[]⟩)then(M4 g c l a i).2++[rk.getD (Kq l (M4 g c l a i).1 3).toNat ⟨#[]⟩]else(M4 g c l a i).2)
theorem Rt(g:AE)(c:Nat)(l:List Int){a:Nat}(ha:a<=l.length)(i:Nat):a<=(M4 g c l a i).1/\(M4 g c l a i).1<=l.length/\(M4 g c l a i).2.length<=i:=by
 induction i with
 |zero=>have:=Vw l a 12;exact⟨this.1,this.2 ha,br _⟩
 |succ i h=>
  obtain⟨h1,j,k⟩:=h;have:=Vw l (M4 g c l a i).1 3;refine⟨by show a<=Mk l _ 3;omega,this.2 j,?_⟩;simp[M4];split
  .simp;omega
  .omega
noncomputable def Rr(g:AE)(c:Nat)(l:List Int)(a:Nat):Nat×List ByteArray:=M4 g c l a (Kq l a 12 - 9).toNat
theorem Pp(g:AE)(Q:C2 g=0)(hn:g.conds.length<=12)(c:Nat)(T:c<2 ^ 64)(l:List Int)(U:l.length<=40)(o:∀k∈l,0<=k/\k<256)(a:Nat)(ha:a<=l.length)(hi:List Int)(w:Bool)(ns:List BG):
  AG prog 51 [.ptr 0 1 0 0] (Hu g c l a hi w ns) (.d (By (Rr g c l a).2)) (Hu g c l (Rr g c l a).1 hi w ns):=by
 have q:=λa n=>Rz g c l U o a hi w ns n;have C:=λs W=>Zy g Q hn c T s W;have X:=KV o (a:=a) (n:=12) (by omega);have E:=Rt g c l ha;unfold Rr;obtain⟨v,Y⟩:∃v:Nat,Kq l a 12=v:=⟨(Kq l a 12).toNat,by omega⟩;have L:v<12:=by omega
 have Z:(Kq l a 12 - 9).toNat=v - 9:=by omega
 rw[Z];have m:=q a 12;rw[Y]at m;have zA:(M4 g c l a 0).1=Mk l a 12:=rfl;have z:(M4 g c l a 0).2=[]:=rfl;refine zD func51 32 rfl λwf _=>?_;unfold Hu ON at q m⊢;apply yW;simp;apply yW;simp;refine ed (ll 3 1 (xs:=[]) (by simp)) ?_;refine xS (yS ?_);apply yJ;simp;refine xF (m) [0,1] rfl ?_;simp;apply yJ;simp;clear m;apply Bx;refine zL (v - 9) (λi tm S=>tm 0=.ptr 0 1 0 0/\tm 3=.row 2 (M4 g c l a i).2.length/\tm 4=.d (.int .i64 ((v:Int) - i))/\∃M,S=Hu g c l (M4 g c l a i).1 hi w ns++[.row M 1 ((M4 g c l a i).2.map λx=>.d (BO x))]) (by simp[zA,z,Hu,ON]) ?_;rintro i tm S hiN ⟨t0,t3,t4,M,rfl⟩;unfold Hu ON;obtain⟨la,lb,lc⟩:=E i;by_cases N:i<v - 9
 .have c1:(9:Int)<(v:Int) - i:=by omega
  have F:(M4 g c l a (i+1)).1=Mk l (M4 g c l a i).1 3:=rfl;have t:(M4 g c l a (i+1)).2=if dr g c (rk.getD (Kq l (M4 g c l a i).1 3).toNat ⟨#[]⟩)then(M4 g c l a i).2++[rk.getD (Kq l (M4 g c l a i).1 3).toNat ⟨#[]⟩]else(M4 g c l a i).2:=rfl;obtain⟨b,hb⟩:=a9 ((M4 g c l a i).1);obtain⟨R,G⟩:=a9 ((M4 g c l a i).2);rw[hb]at F;rw[hb,G]at t;rw[hb,G];rw[G]at t3 lc;have h3:=KV o (a:=b) (n:=3) (by omega);obtain⟨j,hj⟩:∃j:Nat,Kq l b 3=j:=⟨(Kq l b 3).toNat,by omega⟩;have H:j<3:=by omega
  have A:=q b 3;rw[hj]at A;rw[hj,ii]at t;obtain⟨u,J⟩:=a9 (rk.getD j ⟨#[]⟩);rw[J]at t;have K:u.size<=2 ^ 20:=by
   have:j=0\/j=1\/j=2:=by omega
   rcases this with rfl|rfl|rfl<;>(rw[<-J];decide)
  have za:∀h:j<3,[D.str ⟨#[37]⟩,D.str ⟨#[37,97]⟩,D.str ⟨#[37,98,32,99]⟩][j]=D.str u:=λh=>by
   have:j=0\/j=1\/j=2:=by omega
   rcases this with rfl|rfl|rfl<;>(rw[<-J];rfl)
  have yz:(j:Int)<3:=by omega
  have hr:=C u K;have b1:R.length+1<=2 ^ 30:=by omega
  have b3:1<=al:=by simp[al]
  have P:IntKind.i64.wrap ((v:Int) - i - 1)=v - ((i+1:Nat):Int):=by rw[bv];omega
  refine xS (yW ?_);simp[t4];apply AR;simp[c1];apply xK;apply xB;apply yS;apply yJ;simp[t0,al];refine xF (A) [0,1] rfl ?_;simp;apply yJ;simp[H,yz,za];(repeat apply xS);refine yE [0,2,4,6,8,10,12,14,16,18] (by kernel_rfl) ?_;simp;apply yA 1;simp[t0];refine B5 (hr) rfl (by simp[xN]) ?_;simp;apply xM;cases B:dr g c u with
  |true=>
   rw[B,ap rfl]at t;apply AR;simp;apply yV;simp[t3,b1,b3,Ah];apply yV;simp[t4,P];refine⟨N,_,_,am,?_⟩;simp[t0,F,t]
  |false=>
   rw[B,ao (by simp)]at t;apply AR;simp;apply CT;apply yV;simp[t4,P];refine⟨N,_,_,am,?_⟩;simp[t0,t3,F,t]
 .have e:i=v - 9:=by omega
  subst e;have c1:¬(9:Int)<(v:Int) - ((v - 9:Nat):Int):=by omega
  refine xS (yW ?_);simp[t4];apply AR;simp[c1];apply C7;(repeat apply xS);apply yV;simp[t3];(apply Af;refine⟨_,_,_,c9 2 (xs:=(M4 g c l a (v - 9)).2.map BO) rfl (by simp),by simp,by simp[Ba,CF],a8 2 (by simp) (by simp) (by simp) (by simp)⟩)
section
variable (g:AE) (pr:Nat->Bool) (H:Nat->Int) (left:Nat)
def Vy(p:Nat):Bool:=decide (DJ g p=left)&&decide (Gm g pr H p<1000)
def Ss(i:Nat):List Nat:=(List.range i).filter (Vy g pr H left)
def Xp:Nat->Int
 |0=>-1
 |i+1=>if Vy g pr H left i=true/\Gm g pr H i=H left/\Xp i<0 then(i:Int)else Xp i
theorem ck(i:Nat):Ss g pr H left (i+1)=Ss g pr H left i++if Vy g pr H left i then [i]else []:=by
 unfold Ss;rw[acL,acE];cases h:Vy g pr H left i<;>simp[h]
theorem ji(i:Nat):(Ss g pr H left i).length<=i:=by
 have:=acF (Vy g pr H left) (List.range i);simpa[Ss]using this
theorem qM(i:Nat):(Xp g pr H left i= -1/\∀p,p<i->¬(Vy g pr H left p=true/\Gm g pr H p=H left))\/∃p:Nat,p<i/\Xp g pr H left i=p/\Vy g pr H left p=true/\Gm g pr H p=H left:=by
 induction i with
 |zero=>exact .inl ⟨rfl,λp k=>by omega⟩
 |succ i m=>
  unfold Xp;rcases m with⟨h1,j⟩|⟨p,h1,j,o⟩
  .by_cases c:Vy g pr H left i=true/\Gm g pr H i=H left
   .rw[ap ⟨c.1,c.2,by omega⟩];exact .inr ⟨i,by omega,rfl,c⟩
   .rw[ao (λh=>c ⟨h.1,h.2.1⟩)];refine .inl ⟨h1,λp k=>?_⟩;by_cases e:p=i
    .subst e;exact c
    .exact j p (by omega)
  .rw[ao (by omega)];exact .inr ⟨p,by omega,j,o⟩
end
structure Y0(g:AE)(c:Nat)(l:List Int)(hi:List Int):Prop where
 Hn:C2 g=0
 kN:g.conds.length<=12
 uT:c<2 ^ 64
 uL:l.length<=40
 l8:∀k∈l,0<=k/\k<256
 eq:hi=L4 g (B0 g c)
 n3:g.A2.length<=3
 r5:∀q∈g.AD,q.right.length<=5
def FU(hi:List Int):Nat->Int:=λn=>hi.getD n 0
theorem Y0.len{g:AE}{c:Nat}{l hi:List Int}(h:Y0 g c l hi):hi.length=g.A2.length:=by rw[h.eq];exact Gg _ _ _
theorem Y0.vG{g:AE}{c:Nat}{l hi:List Int}(h:Y0 g c l hi):∀y∈hi,y<=1000:=by rw[h.eq];exact J9 _ _ _
noncomputable def tA(g:AE)(c:Nat)(l hi:List Int)(left a m:Nat):Int×Nat:=
 if l.length<=a\/40<m then(Xp g (B0 g c) (FU hi) left g.AD.length,a)
 else(((Ss g (B0 g c) (FU hi) left g.AD.length).getD (Kq l a (Ss g (B0 g c) (FU hi) left g.AD.length).length).toNat 0:Nat),Mk l a (Ss g (B0 g c) (FU hi) left g.AD.length).length)
theorem Vu{g:AE}{c:Nat}{l hi:List Int}(G:Y0 g c l hi)(left:Nat)(F:left<g.A2.length)(a:Nat)(w:Bool)(ns:List BG)(wK:1<=(Ss g (B0 g c) (FU hi) left g.AD.length).length):
  AG prog 136 [.ptr 0 1 0 0,.d (AF left)] (Hu g c l a hi w ns) (.d (AF (tA g c l hi left a ns.length).1)) (Hu g c l (tA g c l hi left a ns.length).2 hi w ns):=by
 have hP:g.AD.length<=2000:=by have:=(Ck G.Hn).1;simp[C3]at this;omega
 have N:g.AD.length<=al:=by unfold al;omega
 have b3:1<=al:=by simp[al]
 have P:=λp hp=>YS g G.Hn G.kN c G.uT p hp hi G.len G.vG;have Q:=λn=>Rz g c l G.uL G.l8 a hi w ns n;have hH:(λn=>hi.getD n 0)=FU hi:=rfl;simp only[hH]at P;have o:=G.len;have C:left<hi.length:=by omega
 have Y:FU hi left=hi[left]:=by simp[FU,List.getD,C]
 unfold tA;refine AG.CJ func136 (by kernel_rfl) rfl (by simp) λwf _=>?_;rw[ntmps136];unfold Hu ON at Q⊢;refine xW λK k=>?_;simp;apply k;refine xW λK k=>?_;simp;apply k;refine ed (ll 5 1 (xs:=[]) (by simp)) ?_;refine xW λK k=>?_;simp;apply k;refine k7 (R:=λtm S=>tm 0=.ptr 0 1 0 0/\tm 1=.d (AF left)/\tm 5=.row 2 (Ss g (B0 g c) (FU hi) left g.AD.length).length/\tm 6=.d (AF (Xp g (B0 g c) (FU hi) left g.AD.length))/\∃H,S=Hu g c l a hi w ns++[.row H 1 ((Ss g (B0 g c) (FU hi) left g.AD.length).map λ(x:Nat)=>.d (AF x))]) ?_ ?_
 .refine xW λK k=>?_;simp;apply k;refine Bx ?_;refine DV g.AD.length (λi tm S=>tm 0=.ptr 0 1 0 0/\tm 1=.d (AF left)/\tm 5=.row 2 (Ss g (B0 g c) (FU hi) left i).length/\tm 6=.d (AF (Xp g (B0 g c) (FU hi) left i))/\tm 7=.d (.int .i64 i)/\∃H,S=Hu g c l a hi w ns++[.row H 1 ((Ss g (B0 g c) (FU hi) left i).map λ(x:Nat)=>.d (AF x))]) (i0:=0) (cq _) (by simp[Ss,Xp,Hu,ON]) ?_;rintro i tm S hiN ⟨t0,t1,t5,t6,t7,H,rfl⟩;unfold Hu ON;refine xS (xW λK k=>?_);simp[t0,t7];apply k;refine AR ?_;simp;refine⟨λs=>?_,λvw=>?_⟩
  .have v:=ck g (B0 g c) (FU hi) left i;have m:Xp g (B0 g c) (FU hi) left (i+1)=if Vy g (B0 g c) (FU hi) left i=true/\Gm g (B0 g c) (FU hi) i=FU hi left/\Xp g (B0 g c) (FU hi) left i<0 then(i:Int)else Xp g (B0 g c) (FU hi) left i:=rfl;have y9:=ji g (B0 g c) (FU hi) left i;have hh:=P i s;obtain⟨q,z⟩:=a9 (g.AD[i]);have yo:q∈g.AD:=z▸b9 s;have J:=AH.eq_1 q;have T:(DJ g i=left)↔q.left=(left:Int):=by
    have:=FC G.Hn yo;unfold DJ;rw[ci s,z];show q.left.toNat=left↔_
    omega
   have Z:Vy g (B0 g c) (FU hi) left i=(decide (q.left=(left:Int))&&decide (Gm g (B0 g c) (FU hi) i<1000)):=by unfold Vy;rw[decide_eq_decide.2 T]
   rw[Z]at v m;generalize Gm g (B0 g c) (FU hi) i=X at *;rw[Y]at m;generalize Ss g (B0 g c) (FU hi) left i=A at *;generalize Xp g (B0 g c) (FU hi) left i=B at *;have b1:A.length+1<=2 ^ 30:=by omega
   refine xK ?_;refine xB ?_;(repeat refine xS ?_);refine xE [0,2,4,6,8,10,12,14,16,18,20,22,24,26,28] (by kernel_rfl) λK k=>?_;simp;refine xA 1 ?_;simp[t0,t7];refine B5 (hh) rfl (by simp[xN]) ?_;simp;refine xA 1 ?_;simp;refine xM (k _ _ ?_);(try simp only[xQ,reduceIte]);by_cases c1:q.left=(left:Int)
   .by_cases L:X<1000
    .have E:¬(1000:Int)<=X:=by omega
     rw[ap (by simp[c1,L])]at v;refine xS (FX λK k=>?_);refine xH ?_;simp[t0,t1,t7,s,z,J,c1,E];refine B6 (k _ _ ?_);(try simp only[xQ,reduceIte]);refine AR ?_;simp;refine xK ?_;(repeat refine xS ?_);refine xV λK k=>?_;simp[t5,t7,b1,b3,Ah];refine k _ _ ?_;(try simp only[xQ,reduceIte]);by_cases t:X=hi[left]
     .by_cases M:B<0
      .rw[ap ⟨by simp[c1,L],t,M⟩]at m;refine FX λK k=>?_;refine xH ?_;simp[t0,t1,t6,F,o,t,M];refine B6 (k _ _ ?_);refine AR ?_;simp;refine xV λK k=>?_;simp[t7];apply k;refine xV λK k=>?_;simp[t7];apply k;refine⟨s,_,_,am,?_⟩;simp[t0,t1,AL s N,v,m]
      .rw[ao (λh=>M h.2.2)]at m;refine FX λK k=>?_;refine xH ?_;simp[t0,t1,t6,F,o,t,M];refine B6 (k _ _ ?_);refine AR ?_;simp;refine CT ?_;refine xV λK k=>?_;simp[t7];apply k;refine⟨s,_,_,am,?_⟩;simp[t0,t1,t6,AL s N,v,m]
     .rw[ao (λh=>t h.2.1)]at m;(repeat refine xS ?_);refine HA λK k=>?_;(repeat((first|refine FJ rfl ?_ ?_;(·simp[t])|refine QX rfl ?_ ?_;(·simp[t0,t1,t6,t7,C,F,o,t])|refine Cd ?_ ?_;(·simp[F,o,t]));simp[t0,t1,F,o]));refine B6 (k _ _ ?_);(try simp only[C4]);refine AR ?_;simp;refine CT ?_;refine xV λK k=>?_;simp[t7];apply k;refine⟨s,_,_,am,?_⟩;simp[t0,t1,t6,AL s N,v,m]
    .have E:(1000:Int)<=X:=by omega
     rw[ao (by simp[L])]at v;rw[ao (by simp[L])]at m;refine xS (FX λK k=>?_);refine xH ?_;simp[t0,t1,t7,s,z,J,c1,E];refine B6 (k _ _ ?_);(try simp only[xQ,reduceIte]);refine AR ?_;simp;refine C7 ?_;refine xV λK k=>?_;simp[t7];apply k;refine⟨s,_,_,am,?_⟩;simp[t0,t1,t5,t6,AL s N,v,m]
   .rw[ao (by simp[c1])]at v;rw[ao (by simp[c1])]at m;refine xS (FX λK k=>?_);(repeat((first|refine FJ rfl ?_ ?_;(·simp[c1])|refine QX rfl ?_ ?_;(·simp[t0,t1,t7,AA,s,z,J,c1])|refine Cd ?_ ?_;(·simp[s,z,J,c1]));simp[t0,t1,t7,s,z,J]));refine B6 (k _ _ ?_);(try simp only[C4,BW,reduceIte]);refine AR ?_;simp[c1];refine C7 ?_;refine xV λK k=>?_;simp[t7];apply k;refine⟨s,_,_,am,?_⟩;simp[t0,t1,t5,t6,AL s N,v,m]
  .have e:i=g.AD.length:=by omega
   subst e;refine C7 ?_;refine⟨t0,t1,t5,t6,?_⟩;first|rfl|(cases H<;>simp)
 .rintro tm S ⟨t0,t1,t5,t6,H,rfl⟩;unfold Hu ON;generalize Ss g (B0 g c) (FU hi) left g.AD.length=A at *;generalize Xp g (B0 g c) (FU hi) left g.AD.length=B at *;by_cases d1:l.length<=a
  .rw[ap (.inl d1)];refine xS ?_;refine xD [0,2,4,6,8,10,12,14,16,18,20,22,24,26,28,30,32,34] (by kernel_rfl) λK k=>?_;simp;refine xZ ?_;simp[t0,d1];refine xM (k _ _ ?_);(try simp only[]);refine AR ?_;simp;(repeat refine xS ?_);refine xV λK k=>?_;simp[t6];refine k _ _ ?_;(try simp only[xQ,reduceIte]);(refine Af ?_;(try simp only[xQ,reduceIte]);refine⟨_,_,_,am,by simp,by simp,a8 2 (by simp) (by simp) (by simp) (by simp)⟩)
  .by_cases d2:40<ns.length
   .rw[ap (.inr d2)];have u:(40:Int)<ns.length:=by omega
    refine xS ?_;refine xD [0,2,4,6,8,10,12,14,16,18,20,22,24,26,28,30,32,34] (by kernel_rfl) λK k=>?_;simp;refine xZ ?_;simp[t0,d1,u];refine xM (k _ _ ?_);(try simp only[]);refine AR ?_;simp;(repeat refine xS ?_);refine xV λK k=>?_;simp[t6];refine k _ _ ?_;(try simp only[xQ,reduceIte]);(refine Af ?_;(try simp only[xQ,reduceIte]);refine⟨_,_,_,am,by simp,by simp,a8 2 (by simp) (by simp) (by simp) (by simp)⟩)
   .rw[ao (by omega)];have u:¬(40:Int)<ns.length:=by omega
    have hng:=KV G.l8 (a:=a) (n:=A.length) (by omega);have U:=Q A.length;obtain⟨j,hj⟩:∃j:Nat,Kq l a A.length=j:=⟨(Kq l a A.length).toNat,by omega⟩;have W:j<A.length:=by omega
    rw[hj]at U⊢;have hAj:A.getD (j:Int).toNat 0=A[j]:=by simp[List.getD,W]
    rw[hAj];refine xS ?_;refine xD [0,2,4,6,8,10,12,14,16,18,20,22,24,26,28,30,32,34] (by kernel_rfl) λK k=>?_;simp;refine xZ ?_;simp[t0,d1,u];refine xM (k _ _ ?_);(try simp only[]);refine AR ?_;simp;refine xK ?_;(repeat refine xS ?_);refine HA λK k=>?_;refine xJ ?_;simp[t0,t5];refine xF (U) [0,1] rfl ?_;simp;refine xJ ?_;simp[W];refine B6 (k _ _ ?_);(try simp only[xQ,reduceIte]);(refine Af ?_;(try simp only[xQ,reduceIte]);refine⟨_,_,_,am,by simp,by simp,a8 2 (by simp) (by simp) (by simp) (by simp)⟩)
theorem aA{g:AE}{c:Nat}{l hi:List Int}(G:Y0 g c l hi)(left:Nat)(E:left<g.A2.length)(F:FU hi left<1000)(a:Nat)(ha:a<=l.length)(w:Bool)(ns:List BG):
  ∃(p s:Nat),p<g.AD.length/\DJ g p=left/\Gm g (B0 g c) (FU hi) p<1000/\a<=s/\s<=l.length/\(a<s\/(Gm g (B0 g c) (FU hi) p=FU hi left))/\AG prog 136 [.ptr 0 1 0 0,.d (AF left)] (Hu g c l a hi w ns) (.d (AF p)) (Hu g c l s hi w ns):=by
 obtain⟨k1,k2⟩:=iF g (B0 g c) (o7 g G.Hn);rw[<-G.eq]at k1 k2;obtain⟨_,p0,o,u,v⟩:=k2 left E F;have k:Gm g (B0 g c) (FU hi) p0=FU hi left:=v;have m:Vy g (B0 g c) (FU hi) left p0=true:=by
  unfold Vy;rw[u,k];simp[F]
 have K:p0∈Ss g (B0 g c) (FU hi) left g.AD.length:=ms.2 ⟨by simpa using o,m⟩;have L:1<=(Ss g (B0 g c) (FU hi) left g.AD.length).length:=acw K;have i:=Vu G left E a w ns L;have t:∀p,Vy g (B0 g c) (FU hi) left p=true->DJ g p=left/\Gm g (B0 g c) (FU hi) p<1000:=λp h=>by
  simpa[Vy]using h
 unfold tA at i;by_cases d:l.length<=a\/40<ns.length
 .rw[ap d]at i;rcases qM g (B0 g c) (FU hi) left g.AD.length with⟨_,z⟩|⟨p,h1,z,H,M⟩
  .exact absurd ⟨m,k⟩ (z p0 o)
  .rw[z]at i;exact⟨p,a,h1,(t p H).1,(t p H).2,br _,ha,.inr M,i⟩
 .rw[ao d]at i;generalize N:Ss g (B0 g c) (FU hi) left g.AD.length=A at *;have P:=KV G.l8 (a:=a) (n:=A.length) (by omega);obtain⟨j,hj⟩:∃j:Nat,Kq l a A.length=j:=⟨(Kq l a A.length).toNat,by omega⟩;have q:j<A.length:=by omega
  rw[hj]at i;have B:A.getD (j:Int).toNat 0=A[j]:=by simp[List.getD,q]
  rw[B]at i;have J:A[j]∈A:=b9 q;generalize A[j]=x at *;rw[<-N]at J;obtain⟨Q,m2⟩:=ms.1 J;have C:Mk l a A.length=a+1:=by unfold Mk;rw[ao (by omega)]
  rw[C]at i;exact⟨x,a+1,by simpa using Q,(t _ m2).1,(t _ m2).2,by omega,by omega,.inl (by omega),i⟩
end Go.Koi
