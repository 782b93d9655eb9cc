/-
  Part 15 of the proof that the law ChangeRestricts returns true for every input.
-/
import Derived.Test.YtbpjppgjnkklnaaGreatDoorG13
set_option maxHeartbeats 64000000
set_option maxRecDepth 100000
open List renaming length->Z,range->i6,getD->i5
open Go.IntKind renaming wrap->b8
open Bool renaming true->J
namespace Go.Koi
open Go renaming maxLen->a8
open Go.Proofs DT
structure Eg(g:AE)(x:AZ)(j a b:Nat):Prop where
 c0:B3 g=0
 h0:MD (Kn g x)=0
 hj:x.number=j
 ha:x.at_=a
 hb:x.to=b
 jl:j<Z g.AD
 ab:a<b
 bl:b<=Z (Bd g x).right
 bd:Dq g x.number=false
theorem Eg.J1{g:AE}{x:AZ}{j a b:Nat}(F:Eg g x j a b):Bd g x=g.AD[j]'F.jl:=by simp[Bd,F.hj,List.getD,F.jl]
theorem Eg.mem{g:AE}{x:AZ}{j a b:Nat}(F:Eg g x j a b):Bd g x∈g.AD:=by rw[F.J1];exact cL F.jl
theorem Eg.O2{g:AE}{x:AZ}{j a b:Nat}(F:Eg g x j a b):O2 g x=(Bd g x).right.take a++⟨false,(Z g.A0:Nat)⟩::(Bd g x).right.drop b:=by
 simp[Koi.O2,F.ha,F.hb]
theorem Eg.part{g:AE}{x:AZ}{j a b:Nat}(F:Eg g x j a b):(Ot g x).right=((Bd g x).right.drop a).take (b - a):=by
 simp[Ot,F.ha,F.hb,List.drop_take]
theorem Eg.cut{g:AE}{x:AZ}{j a b:Nat}(F:Eg g x j a b):(Bd g x).right.take a++((Ot g x).right++(Bd g x).right.drop b)=(Bd g x).right:=by
 rw[F.part];have e:(Bd g x).right.drop b=((Bd g x).right.drop a).drop (b - a):=by rw[aca];congr 1;have:=F.ab;omega
 rw[e,abV,abV]
theorem Eg.AD{g:AE}{x:AZ}{j a b:Nat}(F:Eg g x j a b):(Kn g x).AD=(g.AD++[Ot g x]).set j {Bd g x with right:=Koi.O2 g x}:=by simp[Kn,F.hj]
theorem Eg.len{g:AE}{x:AZ}{j a b:Nat}(F:Eg g x j a b):Z (Kn g x).AD=Z g.AD+1:=by rw[F.AD];simp
theorem Eg.at{g:AE}{x:AZ}{j a b:Nat}(F:Eg g x j a b)(i:Nat):(Kn g x).AD[i]?=if i=j then some {Bd g x with right:=Koi.O2 g x}else if i=Z g.AD then some (Ot g x)else g.AD[i]?:=by
 have hj:=F.jl;rw[F.AD,acY];by_cases e:i=j
 .subst e;simp;omega
 .rw[bv (λh=>e h.symm),bv e,acv];by_cases k:i<Z g.AD
  .rw[ca k,bv (by omega)]
  .rw[bv k];by_cases m:i=Z g.AD
   .subst m;simp
   .rw[bv m,pu (by simp;omega),pu (by omega)]
theorem Gy{g:AE}(h:B3 g=0){p:AO}(k:p∈g.AD):0<=p.left/\p.left<Z g.A0:=by
 obtain⟨_,_,_,_,i,_⟩:=Bx h;have j:=(Eu i p k).1;simp[Es]at j;have m:=j.1;simpa[Fi]using m
theorem K7{g:AE}(h:B3 g=0){p:AO}(k:p∈g.AD){s:Symbol}(m:s∈p.right)(o:s.token=false):0<=s.index/\s.index<Z g.A0:=by
 obtain⟨_,_,_,_,i,_⟩:=Bx h;have j:=(Eu i p k).1;simp[Es]at j;have q:=j.2 s m;simpa[Fi,o]using q
theorem Eg.and{g:AE}{x:AZ}{j a b:Nat}(F:Eg g x j a b)(m:Z g.conds<=12):Dl Bool.and (Bd g x).cond (Bd g x).cond=((Bd g x).cond,0):=by
 obtain⟨h,i⟩:=FM (HJ F.c0 F.mem);have k:=(KA m (EE h) (EE h) i i).1;have o:I7 (tr (Bd g x).cond) (tr (Bd g x).cond)=tr (Bd g x).cond:=P7 (KT _) λc=>by simp
 rw[o,EE h]at k;exact k
theorem HV{g:AE}:∀(l:List AO) (L:List ByteArray),Cs g L l=0↔(∀p∈l,Es g p=J/\HR g p=J/\p.name∉L)/\(l.map (·.name)).Nodup
 |[],L=>by simp[Cs]
 |p::l,L=>by
  unfold Cs;have A:Fm L p.name=J↔p.name∈L:=iy L p.name;rw[ii,acy];by_cases c1:Es g p=false
  .rw[ca c1];refine⟨λh=>absurd h (by decide),λh=>?_⟩;have:=(h.1 p (by simp)).1;rw[c1]at this;cases this
  .rw[bv c1];by_cases j:Fm L p.name=J\/HR g p=false
   .rw[ca j];refine⟨λh=>absurd h (by decide),λh=>?_⟩;have k:=(h.1 p (by simp)).2;rcases j with j|j
    .exact absurd (A.1 j) k.2
    .rw[j]at k;exact absurd k.1 (by decide)
   .rw[bv j,HV l];simp only[va]at j;constructor
    .rintro⟨k,o⟩;refine⟨λq m=>?_,λi=>?_,o⟩
     .rcases ke.1 m with rfl|m
      .exact⟨by simpa using c1,by simpa using j.2,λi=>j.1 (A.2 i)⟩
      .obtain⟨u,v,w⟩:=k q m;exact⟨u,v,λi=>w (by simp[i])⟩
     .obtain⟨q,m,e⟩:=g7.1 i;exact(k q m).2.2 (by simp[e])
    .rintro⟨k,o,B⟩;refine⟨λq m=>?_,B⟩;obtain⟨u,v,w⟩:=k q (by simp[m]);refine⟨u,v,λi=>?_⟩;rcases fi.1 i with i|i
     .exact w i
     .simp at i;exact o (g7.2 ⟨q,m,i⟩)
theorem N4{g g':AE}(B:g'.conds=g.conds)(C:g'.A0=g.A0)(w:g'.AT=g.AT)(A:∀(i:Nat) p,g.AD[i]?=some p->∃q,g'.AD[i]?=some q/\q.left=p.left/\q.right=p.right){f:Filter}(h:Ek g f=J):Ek g' f=true:=by
 simp[Ek]at h⊢;refine⟨?_,h.2⟩;have j:=h.1;unfold FB at j⊢;rw[B,C];have m:∀k l,Gn g' k l=Gn g k l:=λk l=>by unfold Gn FZ;rw[w]
 have o:∀i k,Gd g' i k=Gd g i k:=λi k=>by unfold Gd;rw[w]
 simp only[m,o];split at j
 .next c=>
  rw[ca c];simp only[cF]at j⊢;refine⟨j.1,?_⟩;have u:=j.2;unfold JU at u⊢;simp only[cF]at u⊢;refine⟨u.1,?_⟩;have v:=u.2;split at v
  .next p c E F=>
   obtain⟨q,f1,_,f2⟩:=A _ _ E;obtain⟨G,f3,f4,_⟩:=A _ _ F;rw[f1,f3];simp only[f2,f4];exact v
  .cases v
 .next c=>
  rw[bv c];exact j
open Go.Proofs Tryz DT
def cfg(c:Nat):Int->Bool:=λv=>decide (c / 2 ^ v.toNat % 2=1)
@[simp] def Dt(c:Nat):D:=.int .u64 c
theorem pY(c m:Nat)(g:c<2 ^ 64):(b8 .u64 ((((c:Int) / 2 ^ m % 2 ^ IntKind.u64.bits).toNat&&& 1 % 2 ^ IntKind.u64.bits:Nat):Int)==1)=decide (c / 2 ^ m % 2=1):=by
 have e:IntKind.u64.bits=64:=rfl;have h:(c:Int) / 2 ^ m=((c / 2 ^ m:Nat):Int):=by push_cast;rfl
 have i:c / 2 ^ m<2 ^ 64:=Nat.lt_of_le_of_lt (Nat.div_le_self _ _) g;rw[e,h];generalize c / 2 ^ m=x at i;have j:((x:Int) % 2 ^ 64).toNat=x:=by omega
 have k:1 % 2 ^ 64=1:=by decide
 rw[j,k,Nat.and_one_is_mod,P9,sw (by omega),gI];simp;omega
abbrev adh:=@Nat.min_eq_left
theorem YD(d:AL)(B:Valid d)(c:Nat)(C:c<2 ^ 64):Pure prog 147 [AB d,Dt c] (.bool ((tr d).CG (cfg c))):=by
 have E:Bf d.nodes (tr d) d.root:=by have:=Fp (tr d);rwa [EE B]at this
 have F:=KT d;generalize tr d=t0 at *;refine hW func147 rfl rfl (by simp) λwf=>?_;have i:Z d.nodes<=a8:=by simp[Bm,DY]at wf;omega
 rw[ntmps147];apply yW;simp;apply yW;simp[AB];apply xB;refine aes (λm tm S=>tm 1=.d (Dt c)/\tm 2=.ptr 0 1 0 0/\(∃t:DT,∃n:Int,tm 5=.d (encI n)/\t.size=m/\t.Good/\Bf d.nodes t n/\t.CG (cfg c)=t0.CG (cfg c))/\S=[.row J 2 [.d (AB d)]]) ⟨t0.size,_,_,a9,by simp,by simp,⟨t0,d.root,by simp,rfl,F,E,rfl⟩,by simp[AB]⟩ ?_;rintro m tm S ⟨t1,t2,⟨t,n,t5,rfl,G,tr,g⟩,rfl⟩;cases t with
 |leaf b=>
  have H:n=if b then 1 else 0:=tr;subst H;refine xS (yW ?_);simp[t5];cases b with
  |false=>
   apply AP;simp;apply Ci;apply yW;simp[t5];apply zT;simp[<-g,CG]
  |true=>
   apply AP;simp;apply Ci;apply yW;simp[t5];apply zT;simp[<-g,CG]
 |node v lo hi=>
  obtain⟨k,rfl,l,h,A,K,L⟩:=tr;obtain⟨P,Q,-,-,-,M,gh⟩:=G;refine xS (yW ?_);simp[t5];have c1:(1:Int)<k+2:=by omega
  apply AP;simp[c1];apply xK;apply Bo;have j:=(gq.1 A).1;have o:=(gq.1 A).2;have N:b8 .i64 (k:Int)=k:=by rw[c8];unfold a8 at i;omega
  (repeat apply xS);apply yV;simp[t2,t5,AB,j,o,N];obtain⟨m,rfl⟩:∃m:Nat,v=m:=⟨v.toNat,by omega⟩;have q:b8 .u64 (m:Int)=m:=by rw[P9,sw (by omega)]
  have u:=pY c m C;have w:(c:Int).fdiv (2 ^ (min m IntKind.u64.bits))=(c:Int) / 2 ^ m:=by
   have e:IntKind.u64.bits=64:=rfl;rw[e,adh (by omega),abO _ (by exact_mod_cast er _)]
  (repeat apply xS);apply yV;simp[t1,q,w,u];by_cases hb:c / 2 ^ m % 2=1
  .apply AP;simp[hb];apply yV;simp;refine⟨hi.size,by simp[size];try omega,_,_,n8 1 (S':=[.row J 2 [.d (AB d)]]) rfl (by simp) (by simp) (by simp),?_⟩;simp[clean,AJ,t1,t2,AB];exact⟨hi,rfl,gh,L,by rw[<-g];simp[CG,cfg,hb]⟩
  .apply AP;simp[hb];apply yV;simp;refine⟨lo.size,by simp[size];try omega,_,_,n8 1 (S':=[.row J 2 [.d (AB d)]]) rfl (by simp) (by simp) (by simp),?_⟩;simp[clean,AJ,t1,t2,AB];exact⟨lo,rfl,M,K,by rw[<-g];simp[CG,cfg,hb]⟩
def IF(k:Int):Int:=if k=0\/k=1 then 0 else if k=4 then 1 else if k=2\/k=3 then 2 else 0
def NR(k:Int):Bool:=decide (k=0\/k=1\/k=4\/k=2\/k=3)
theorem N8(k:Int):Pure prog 278 [encI k] (.CX [encI (IF k),Cu (NR k)]):=by
 refine zP func278 13 rfl λwf=>?_;apply yW;simp;refine xS (yW ?_);simp;apply Bo;refine xS (yW ?_);simp;by_cases h0:k=0
 .subst h0;apply AP;simp;apply xK;apply AP;simp;apply yW;simp;refine Aj ⟨_,_,a9,?_⟩;simp[IF,NR,BO]
 .apply AP;simp[h0];apply yV;simp;by_cases g:k=1
  .subst g;apply AP;simp;apply yW;simp;refine Aj ⟨_,_,a9,?_⟩;simp[IF,NR,BO]
  .apply AP;simp[g];(repeat apply xS);apply yV;simp;by_cases h:k=4
   .subst h;apply AP;simp;apply yW;simp;refine Aj ⟨_,_,a9,?_⟩;simp[IF,NR,BO]
   .apply AP;simp[h];refine xS (yW ?_);simp;by_cases i:k=2
    .subst i;apply AP;simp;apply xK;apply AP;simp;apply yW;simp;refine Aj ⟨_,_,a9,?_⟩;simp[IF,NR,BO]
    .apply AP;simp[i];apply yV;simp;by_cases j:k=3
     .subst j;apply AP;simp;apply yW;simp;refine Aj ⟨_,_,a9,?_⟩;simp[IF,NR,BO]
     .apply AP;simp[j];apply CF;apply yW;simp;apply zT;simp[IF,NR,h0,g,h,i,j,BO]
def OJ(x:A8)(i:Int):Bool:=
 !(((!NR x.kind)||(decide (x.kind≠1)&&(decide (x.lo≠0)||decide (x.hi≠0))))||decide (x.lo<0)||decide (x.hi<x.lo)||decide (255<x.hi))&&
 (!((decide (IF x.kind<1)&&decide (x.a≠0))||(decide (IF x.kind<2)&&decide (x.b≠0)))&&
 ((decide (IF x.kind<1)||(decide (0<=x.a)&&decide (x.a<i)))&&(decide (IF x.kind<2)||(decide (0<=x.b)&&decide (x.b<i)))))
theorem jI(p:List A8)(i:Nat)(hi:i<Z p):Pure prog 277 [Av p,encI i] (.bool (OJ p[i] i)):=by
 generalize o:p[i]=x;have q:=N8 x.kind;have g:=AQ.eq_1 x;refine zP func277 96 rfl λwf=>?_;apply yW;simp;apply yW;simp[hi,o,g];apply yS;apply yJ;simp;refine Bq (q) rfl (by simp) (yJ ?_);simp;(repeat apply xS);refine FG λK h=>?_;(repeat((refine Cc ?_ ?_);(focus(simp;try(first|omega|(simp +contextual[];done)|grind);done));simp));refine BY (h _ _ ?_);apply AP;simp;refine⟨λj=>?_,λj=>?_⟩
 .apply yW;simp;refine Aj ⟨_,_,a9,?_⟩;unfold OJ;cases k:NR x.kind<;>by_cases m:x.kind=1<;>simp[k,m]at j⊢ <;>grind
 .intro u w A B;apply xK;(repeat apply xS);refine FG λK h=>?_;(repeat((refine Cc ?_ ?_);(focus(simp;try(first|omega|(simp +contextual[g];done)|grind);done));simp));refine BY (h _ _ ?_);apply AP;simp;refine⟨λv=>?_,?_⟩
  .apply yW;simp;refine Aj ⟨_,_,a9,?_⟩;(try simp);unfold OJ;grind
  .intro v C;apply xK;(repeat apply xS);refine FG λK h=>?_;(repeat((refine Cc ?_ ?_);(focus(simp;try(first|omega|(simp +contextual[g];done)|grind);done));simp));refine BY (h _ _ ?_);apply zT;unfold OJ;cases k:NR x.kind<;>by_cases m:x.kind=1<;>simp[k,m]at j u⊢ <;>grind
def bump(u:List Int)(a:Int):List Int:=u.set a.toNat (u.getD a.toNat 0+1)
def CS(p:List A8):Nat->List Int
 |0=>List.replicate (Z p) 0
 |i+1=>match p[i]? with
  |none=>CS p i
  |some x=>(λu=>if 2<=IF x.kind then bump u x.b else u) (if 1<=IF x.kind then bump (CS p i) x.a else CS p i)
theorem RT(p:List A8)(i:Nat):Z (CS p i)=Z p:=by
 induction i with
 |zero=>simp[CS]
 |succ i g=>
  unfold CS;split
  .exact g
  .simp[];split<;>split<;>simp[bump,g]
def Uw(p:List A8):Bool:=(i6 (Z p)).all λi=>match p[i]? with|some x=>OJ x i|none=>J
def Yt(p:List A8):Int:=if 512<Z p then 2 else if Uw p=false then 40 else if((i6 (Z p - 1)).all λi=>decide ((CS p (Z p)).getD i 0=1))=false then 40 else if Z p=0 then 40 else 0
theorem Xg{p:List A8}(h:Uw p=J)(i:Nat)(hi:i<Z p):OJ p[i] i=true:=by
 have:=ed.1 h i (by simpa using hi);rw[ej hi]at this;exact this
theorem nB{p:List A8}(h:Yt p=0):Uw p=J/\0<Z p:=by
 unfold Yt at h;split at h
 .cases h
 .split at h
  .cases h
  .next g=>
   split at h
   .cases h
   .split at h
    .cases h
    .exact⟨by simpa using g,by omega⟩
theorem Tp{x:A8}{i:Nat}(h:OJ x i=J):(1<=IF x.kind->0<=x.a/\x.a<i)/\(2<=IF x.kind->0<=x.b/\x.b<i):=by
 simp[OJ]at h;obtain⟨_,_,g,j⟩:=h;exact⟨λk=>g.resolve_left (by omega),λk=>j.resolve_left (by omega)⟩
theorem nO(l:List Int)(n:Int):Pure prog 238 [BZ l,encI n] (.bool (l.contains n)):=by
 refine hW func238 rfl rfl (by simp) λwf=>?_;have q:Z l<=a8:=by simp[Bm,DY]at wf;omega
 rw[ntmps238];apply yW;simp;refine xS (yW ?_);simp;apply Bo;refine zL (Z l) (λi tm S=>tm 0=.d (BZ l)/\tm 1=.d (encI n)/\tm 5=.d (encI i)/\S=[]/\∀k (h:k<Z l),k<i->l[k]≠n) (by simp) ?_;rintro i tm S hi ⟨t0,t1,t5,rfl,o⟩;refine xS (yW ?_);simp[t0,t5];apply AP;simp;refine⟨λg=>?_,λA=>?_⟩
 .apply xK;apply xB;(repeat apply xS);apply yV;simp[t0,t1,t5,g];by_cases j:l[i]=n
  .apply AP;simp[j];apply yW;simp;refine Aj ⟨_,_,a9,?_⟩;(try simp);exact j▸cL g
  .apply AP;simp[j];apply CF;apply yV;simp[t5];refine⟨g,_,_,a9,?_⟩;simp[t0,t1,AK g q];intro k m u;by_cases e:k=i
   .subst e;exact j
   .exact o k m (by omega)
 .have e:i=Z l:=by omega
  subst e;apply Ci;apply yW;simp;apply zT;(try simp);intro v;obtain⟨k,m,w⟩:=lm.1 v;exact o k m m w
theorem e8(l:List Int)(n:Int)(w:Bool)(q:Z l<=a8):AG prog 238 [.row 0 (Z l),.d (encI n)] [.row w 1 (l.map λx=>.d (encI x))] (.d (.bool (l.contains n))) [.row w 1 (l.map λx=>.d (encI x))]:=by
 refine zC func238 18 rfl λwf _=>?_;apply yW;simp;refine xS (yW ?_);simp;apply Bo;refine zL (Z l) (λi tm S=>tm 0=.row 0 (Z l)/\tm 1=.d (encI n)/\tm 5=.d (encI i)/\S=[.row w 1 (l.map λx=>.d (encI x))]/\∀k (h:k<Z l),k<i->l[k]≠n) (by simp) ?_;rintro i tm S hi ⟨t0,t1,t5,rfl,o⟩;refine xS (yW ?_);simp[t0,t5];apply AP;simp;refine⟨λg=>?_,λB=>?_⟩
 .apply xK;apply xB;(repeat apply xS);apply yV;simp[t0,t1,t5,g];by_cases j:l[i]=n
  .apply AP;simp[j];apply yW;simp;apply Aj;refine⟨_,a9,?_⟩;simp[Aq];exact j▸cL g
  .apply AP;simp[j];apply CF;apply yV;simp[t5];refine⟨g,_,_,a9,?_⟩;simp[t0,t1,AK g q];intro k m u;by_cases e:k=i
   .subst e;exact j
   .exact o k m (by omega)
 .have e:i=Z l:=by omega
  subst e;apply Ci;apply yW;simp;apply Aj;refine⟨_,a9,?_⟩;simp[Aq];intro v;obtain⟨k,m,A⟩:=lm.1 v;exact o k m m A
def NH(out:List Int)(x:Int):List Int:=if out.contains x then out else out++[x]
def IS(l m:List Int):List Int:=m.foldl NH l
def Fo(L:Nat)(l:List Int):Prop:=l.Nodup/\∀y∈l,0<=y/\y<(L+1:Nat)
theorem Fo.len{L:Nat}{l:List Int}(h:Fo L l):Z l<=L+1:=Ui (L+1) l h.1 h.2
theorem Fo.NH{L:Nat}{l:List Int}(h:Fo L l){x:Int}(i:0<=x/\x<(L+1:Nat)):Fo L (NH l x):=by
 unfold Koi.NH;split
 .exact h
 .next j=>
  refine⟨Ks.2 ⟨h.1,by simp,λa ha b hb e=>j ?_⟩,λy g=>?_⟩
  .simp at hb;rw[<-hb,<-e];exact List.contains_iff_mem.2 ha
  .rcases fi.1 g with g|g
   .exact h.2 y g
   .simp at g;subst g;exact i
theorem Fo.x8{L:Nat}{l m:List Int}(h:Fo L l)(g:∀y∈m,0<=y/\y<(L+1:Nat)):Fo L (IS l m)/\Z l<=Z (IS l m):=by
 induction m generalizing l with
 |nil=>exact⟨h,c9 _⟩
 |cons x m i=>
  have j:=h.NH (g x (by simp));obtain⟨k,q⟩:=i j λy o=>g y (by simp[o]);refine⟨k,?_⟩;have:Z l<=Z (Koi.NH l x):=by unfold Koi.NH;split<;>simp
  show Z l<=Z (IS (Koi.NH l x) m)
  omega
theorem fS(l m:List Int)(A:Z l+Z m<=2 ^ 30):Pure prog 279 [BZ l,BZ m] (BZ (IS l m)):=by
 refine zP func279 31 rfl λwf=>?_;have b1:Z l<=2 ^ 30:=by omega
 have k:Z m<=a8:=by unfold a8;omega
 apply yW;simp;apply yW;simp[b1];refine xS (yW ?_);simp;apply Bo;refine zL (Z m) (λi tm S=>tm 1=.d (BZ m)/\tm 6=.d (encI i)/\tm 5=.row 0 (Z (IS l (m.take i)))/\(∃w,S=[.row w 1 ((IS l (m.take i)).map λx=>.d (encI x))])/\Z (IS l (m.take i))<=Z l+i) (by simp[IS];exact Classical.em _) ?_;rintro i tm S hi ⟨t1,t6,t5,⟨w,rfl⟩,q⟩;refine xS (yW ?_);simp[t1,t6];apply AP;simp;refine⟨λg=>?_,λB=>?_⟩
 .have o:IS l (m.take (i+1))=NH (IS l (m.take i)) m[i]:=by
   rw[IS,abN,ej g,abU];rfl
  generalize C:IS l (m.take i)=T at *;have u:Z T+1<=2 ^ 30:=by omega
  have v:1<=a8:=by simp[a8]
  apply xK;apply xB;apply yS;apply yJ;simp[t1,t5,t6,g];refine i9 rfl rfl (by simp) (f:=238) (args:=[.row 0 (Z T),.d (encI m[i])]) (by simp[callee];try rfl) (by simp) (e8 T m[i] w (by unfold a8;omega)) (yJ ?_);simp;apply AP;simp;refine⟨λh=>?_,λh=>?_⟩
  .have j:NH T m[i]=T++[m[i]]:=by unfold NH;rw[bv (by simpa using h)]
   apply yV;simp[t1,t5,t6,g,u,v,Ac];apply yV;simp[t6];refine⟨g,_,_,a9,?_⟩;simp[t1,AK g k,o,j];omega
  .have j:NH T m[i]=T:=by unfold NH;rw[ca (by simpa using h)]
   apply CF;apply yV;simp[t6];refine⟨g,_,_,a9,?_⟩;simp[t1,t5,AK g k,o,j];omega
 .have e:i=Z m:=by omega
  subst e;rw[ns]at t5;apply Ci;(repeat apply xS);apply yV;simp[t5];(apply Aj;refine⟨_,_,gl 0 (xs:=(IS l m).map encI) rfl (Cp _ encI _),?_⟩;simp[BO,B4])
def Nt(s:ByteArray)(lo hi:Int)(k:Int):Bool:=decide (k<s.size)&&(decide (lo<=(s.get! k.toNat).toNat)&&decide (((s.get! k.toNat).toNat:Int)<=hi))
def NI(s:ByteArray)(lo hi:Int)(l:List Int):List Int:=(l.filter (Nt s lo hi)).map λk=>k+1
theorem Fo.GZ{s:ByteArray}{lo hi:Int}{l:List Int}(h:Fo s.size l):Fo s.size (NI s lo hi l):=by
 refine⟨?_,λy g=>?_⟩
 .unfold NI;rw[List.Nodup,acW];exact(List.Pairwise.filter _ h.1).imp λi e=>i (by omega)
 .obtain⟨k,j,rfl⟩:=g7.1 g;obtain⟨m,o⟩:=ut.1 j;have q:=h.2 k m;simp[Nt]at o;omega
def Vu(F:List Int->List Int):Nat->List Int->List Int
 |0,l=>l
 |f+1,l=>if Z (IS l (F l))=Z l then IS l (F l)else Vu F f (IS l (F l))
theorem aI(p:List A8)(hv:Uw p=J)(s:ByteArray)(hs:s.size<=2 ^ 20):∀(m i:Nat) (_:i<Z p),i<m->∀l,Fo s.size l->∃o,Fo s.size o/\Pure prog 239 [Av p,encI i,BQ s,BZ l] (BZ o):=by
 intro m;induction m with
 |zero=>intro i _ h;omega
 |succ m Q=>
  intro i hi him l K;have v:=Xg hv i hi;obtain⟨hA,hB⟩:=Tp v;have hll:=K.len;obtain⟨kd,j⟩:∃k,p[i].kind=k:=⟨_,rfl⟩;have hkk:kd=0\/kd=1\/kd=4\/kd=2\/kd=3:=by
   have R:NR p[i].kind=true:=by
    unfold OJ at v;cases zq:NR p[i].kind with
    |true=>rfl
    |false=>rw[zq]at v;simp at v
   rw[j]at R;simpa[NR]using R
  generalize U:p[i]=x at *;have q:=AQ.eq_1 x;rcases hkk with rfl|rfl|rfl|rfl|rfl
  .refine⟨l,K,hW func239 rfl rfl (by simp) λwf=>?_⟩;rw[ntmps239];apply yW;simp;apply yW;simp[hi,U,q];apply yW;simp;refine xS (yW ?_);simp[j];apply Bo;apply yW;simp;apply AP;simp;apply yW;simp;refine Aj ⟨_,_,a9,?_⟩;try simp
  .refine⟨NI s x.lo x.hi l,K.GZ,hW func239 rfl rfl (by simp) λwf=>?_⟩;rw[ntmps239];apply yW;simp;apply yW;simp[hi,U,q];apply yW;simp;refine xS (yW ?_);simp[j];apply Bo;apply yW;simp;apply AP;simp;apply yW;simp;apply AP;simp;refine xS (yW ?_);simp;refine gs (oa 10 1 (xs:=[]) (by simp)) ?_;have X:Z l<=a8:=by unfold a8;omega
   have b3:1<=a8:=by simp[a8]
   apply Bo;refine zL (Z l) (λi tm S=>tm 2=.d (BQ s)/\tm 3=.d (BZ l)/\tm 9=.ptr 0 1 0 0/\tm 11=.d (encI i)/\tm 10=.row 1 (Z (NI s x.lo x.hi (l.take i)))/\(∃w,S=[.row J 5 [.d (AQ x)],.row w 1 ((NI s x.lo x.hi (l.take i)).map λk=>.d (encI k))])) (by simp[NI,q,j]) ?_;rintro i tm S hi ⟨t2,t3,t9,t11,t10,w,rfl⟩;refine xS (yW ?_);simp[t3,t11];apply AP;simp;refine⟨λu=>?_,λzu=>?_⟩
   .have Y:NI s x.lo x.hi (l.take (i+1))=NI s x.lo x.hi (l.take i)++if Nt s x.lo x.hi l[i]then [l[i]+1]else []:=by
     rw[abN,ej u];unfold NI;rw[acr,abZ];cases L:Nt s x.lo x.hi l[i]<;>simp[L]
    have hrl:Z (NI s x.lo x.hi (l.take i))<=i:=by
     unfold NI;rw[y3];exact ms (acS _ _) (by simp;omega)
    generalize hT:NI s x.lo x.hi (l.take i)=T at *;have hk:=K.2 _ (cL u);have b2:Z T+1<=2 ^ 30:=by omega
    generalize B:l[i]=k at *;obtain⟨k,rfl⟩:∃k':Nat,k=k':=⟨k.toNat,by omega⟩;apply xK;apply xB;by_cases c1:k<s.size
    .have M:b8 .i64 ((s.get! k).toNat:Int)=(s.get! k).toNat:=by rw[c8];have:=(s.get! k).toNat_lt;omega
     have C:Nt s x.lo x.hi (k:Int)=(decide (x.lo<=(s.get! k).toNat)&&decide (((s.get! k).toNat:Int)<=x.hi)):=by
      unfold Nt;rw[ne];simp[c1]
     by_cases H:x.lo<=(s.get! k).toNat
     .by_cases c3:((s.get! k).toNat:Int)<=x.hi
      .skip;refine yD (A7 31 []) (by kernel_rfl) ?_;simp;apply yZ;simp[t2,t3,t9,t11,u,B,q,M,c1,H,c3];apply AP;simp;apply yV;simp[t3,t10,t11,u,B,b2,b3,Ac];apply yV;simp[t11];refine⟨u,_,_,a9,?_⟩;have hw1:b8 .i64 ((k:Int)+1)=k+1:=by rw[c8];omega
       simp[t2,t3,t9,AK u X,Y,C,H,c3,q,hw1]
      .refine yD (A7 31 []) (by kernel_rfl) ?_;simp;apply yZ;simp[t2,t3,t9,t11,u,B,q,M,c1,H,c3];apply AP;simp;apply CF;apply yV;simp[t11];refine⟨u,_,_,a9,?_⟩;simp[t2,t3,t9,t10,AK u X,Y,q,C,H,c3]
     .refine yD (A7 31 []) (by kernel_rfl) ?_;simp;apply yZ;simp[t2,t3,t9,t11,u,B,q,M,c1,H];apply AP;simp;apply CF;apply yV;simp[t11];refine⟨u,_,_,a9,?_⟩;simp[t2,t3,t9,t10,AK u X,Y,q,C,H]
    .have C:Nt s x.lo x.hi (k:Int)=false:=by simp[Nt];omega
     refine yD (A7 31 []) (by kernel_rfl) ?_;simp;apply yZ;simp[t2,t3,t11,u,B,q,c1];apply AP;simp;apply CF;apply yV;simp[t11];refine⟨u,_,_,a9,?_⟩;simp[t2,t3,t9,t10,AK u X,Y,q,C]
   .have e:i=Z l:=by omega
    subst e;rw[ns]at t10;apply Ci;(repeat apply xS);apply yV;simp[t10];(apply Aj;refine⟨_,_,gl 1 (xs:=(NI s x.lo x.hi l).map encI) rfl (by simp),?_⟩;simp[BO,B4])
  .have ha:=hA (by rw[j];decide);obtain⟨a,A⟩:∃a:Nat,x.a=a:=⟨x.a.toNat,by omega⟩;obtain⟨F,hF⟩:∃F:List Int->List Int,∀l,Fo s.size l->Fo s.size (F l)/\Pure prog 239 [Av p,encI a,BQ s,BZ l] (BZ (F l)):=by
    classical
    refine⟨λl=>if h:Fo s.size l then(Q a (by omega) (by omega) l h).choose else [],λl h=>?_⟩;simp[NE h];exact(Q a (by omega) (by omega) l h).choose_spec
   have N:∀f l,Fo s.size l->Fo s.size (Vu F f l):=by
    intro f;induction f with
    |zero=>intro l h;exact h
    |succ f ihf=>
     intro l h;have R:=(h.x8 (hF l h).1.2).1;unfold Vu;split
     .exact R
     .exact ihf _ R
   refine⟨Vu F (s.size+2) l,N _ _ K,hW func239 rfl rfl (by simp) λwf=>?_⟩;generalize hO:Vu F (s.size+2) l=R0;rw[ntmps239];apply yW;simp;apply yW;simp[hi,U,q];apply yW;simp;refine xS (yW ?_);simp[j];apply Bo;apply yW;simp;apply AP;simp;apply yW;simp;apply AP;simp;apply yW;simp;apply AP;simp;apply yW;simp;apply AP;simp;apply CF;apply yW;simp;apply yW;simp;apply xB;refine aes (λm tm S=>tm 0=.d (Av p)/\tm 2=.d (BQ s)/\tm 9=.ptr 0 1 0 0/\(∃g n,tm 10=.d (BZ g)/\tm 12=.d (encI n)/\Fo s.size g/\((n<Z g/\m=s.size+3 - Z g/\∃f,s.size+2<=f+Z g/\Vu F f g=R0)\/(n=Z g/\m=0/\g=R0)))/\S=[.row J 5 [.d (AQ x)]]) ⟨s.size+3 - Z l,_,_,a9,by simp,by simp,by simp,⟨l,-1,by simp,by simp,K,.inl ⟨by omega,rfl,s.size+2,by omega,hO⟩⟩,by simp[q,j]⟩ ?_;rintro m tm S ⟨t0,t2,t9,⟨g,n,t10,t12,hg,hor⟩,rfl⟩;have hcl:=hg.len;obtain⟨f1,f2⟩:=hF g hg;have W:=hg.x8 f1.2;have hfl:=f1.len;have htl:=W.1.len;have E:=fS g (F g) (by omega);rcases hor with⟨hn,rfl,f,hf,L⟩|⟨rfl,rfl,rfl⟩
   .refine xS (yW ?_);simp[t10,t12];apply AP;simp[hn];apply xK;apply Bo;apply yW;simp[t10];apply yT;apply yJ;simp[t0,t2,t9,t10,q,A];refine Bq (f2) rfl (by simp) (yJ ?_);simp;refine Bq (E) rfl (by simp) (yJ ?_);simp;obtain⟨mm,G⟩:∃mm,mm=if Z (IS g (F g))=Z g then 0 else s.size+3 - Z (IS g (F g)):=⟨_,rfl⟩;refine⟨mm,?_,_,_,a9,?_⟩
    .rw[G];split<;>omega
    .simp[t0,t2,t9,q,A];refine⟨_,rfl,W.1,?_⟩;obtain⟨f,rfl⟩:∃f',f=f'+1:=⟨f - 1,by omega⟩;unfold Vu at L;by_cases he:Z (IS g (F g))=Z g
     .rw[ca he]at L G;exact .inr ⟨by omega,G,L⟩
     .rw[bv he]at L G;exact .inl ⟨by omega,G,f,by omega,L⟩
   .refine xS (yW ?_);simp[t10,t12];apply AP;simp;apply Ci;apply yW;simp[t10];apply zT;try simp
  .have ha:=hA (by rw[j];decide);have hb:=hB (by rw[j];decide);obtain⟨a,A⟩:∃a:Nat,x.a=a:=⟨x.a.toNat,by omega⟩;obtain⟨b,P⟩:∃b:Nat,x.b=b:=⟨x.b.toNat,by omega⟩;obtain⟨l1,g1,c1⟩:=Q a (by omega) (by omega) l K;obtain⟨l2,g2,H⟩:=Q b (by omega) (by omega) l1 g1;refine⟨l2,g2,hW func239 rfl rfl (by simp) λwf=>?_⟩;rw[ntmps239];apply yW;simp;apply yW;simp[hi,U,q];apply yW;simp;refine xS (yW ?_);simp[j];apply Bo;apply yW;simp;apply AP;simp;apply yW;simp;apply AP;simp;apply yW;simp;apply AP;simp;(repeat apply xS);refine yE (A7 12 []) (by kernel_rfl) ?_;simp;apply yA 0;simp[A,P];refine j0 (c1) rfl (by simp) ?_;simp;apply yA 0;simp;refine j0 (H) rfl (by simp) ?_;simp;apply yA 0;simp;refine Aj ⟨_,_,a9,?_⟩;try simp
  .have ha:=hA (by rw[j];decide);have hb:=hB (by rw[j];decide);obtain⟨a,A⟩:∃a:Nat,x.a=a:=⟨x.a.toNat,by omega⟩;obtain⟨b,P⟩:∃b:Nat,x.b=b:=⟨x.b.toNat,by omega⟩;obtain⟨l1,g1,c1⟩:=Q a (by omega) (by omega) l K;obtain⟨l2,g2,H⟩:=Q b (by omega) (by omega) l K;have R:=g1.len;have h2:=g2.len;have E:=fS l1 l2 (by omega);refine⟨IS l1 l2,(g1.x8 g2.2).1,hW func239 rfl rfl (by simp) λwf=>?_⟩;rw[ntmps239];apply yW;simp;apply yW;simp[hi,U,q];apply yW;simp;refine xS (yW ?_);simp[j];apply Bo;apply yW;simp;apply AP;simp;apply yW;simp;apply AP;simp;apply yW;simp;apply AP;simp;apply yW;simp;apply AP;simp;(repeat apply xS);refine yE (A7 14 []) (by kernel_rfl) ?_;simp;apply yA 0;simp[A,P];refine j0 (c1) rfl (by simp) ?_;simp;apply yA 0;simp;refine j0 (H) rfl (by simp) ?_;simp;apply yA 0;simp;refine j0 (E) rfl (by simp) ?_;simp;apply yA 0;simp;refine Aj ⟨_,_,a9,?_⟩;try simp
theorem Pb{u:List Int}{B:Int}(h:∀y∈u,0<=y/\y<=B)(j:0<=B)(a:Int):∀y∈bump u a,0<=y/\y<=B+1:=λy g=>by
 rcases abx g with g|rfl
 .have:=h y g;omega
 .rw[GE];cases i:u[a.toNat]? with
  |none=>simp;omega
  |some z=>have:=h z (oj i);simp;omega
theorem Nv(p:List A8)(i:Nat):∀y∈CS p i,0<=y/\y<=2 * (i:Int):=by
 induction i with
 |zero=>intro y g;simp[CS]at g;omega
 |succ i j=>
  intro y g;have w1:∀{u:List Int} {B:Int},(∀y∈u,0<=y/\y<=B)->∀y∈u,0<=y/\y<=B+1:=λh y g=>by have:=h y g;omega
  unfold CS at g;split at g
  .have:=j y g;omega
  .simp[]at g;have k:∀{u:List Int} {B:Int} {c:Prop} [Decidable c] {a:Int},(∀y∈u,0<=y/\y<=B)->0<=B->∀y∈(if c then bump u a else u),0<=y/\y<=B+1:=λ{u B c _ a} h m=>by
    split
    .exact Pb h m _
    .exact w1 h
   have o:=k (k j (by omega)) (by omega) y g;omega
theorem ji(p:List A8)(i a:Nat):0<=(CS p i).getD a 0/\(CS p i).getD a 0<=2 * (i:Int):=by
 rw[GE];cases g:(CS p i)[a]? with
 |none=>simp;omega
 |some z=>exact Nv p i z (oj g)
theorem ZE(p:List A8):Pure prog 237 [Av p] (encI (Yt p)):=by
 refine hW func237 (by kernel_rfl) rfl (by simp) λwf=>?_;have a1:Z p<=a8:=by simp[Bm,DY]at wf;omega
 generalize m:Yt p=R;unfold Yt at m;rw[ntmps237];refine xW λK g=>?_;simp;apply g;refine xS (xW λK g=>?_);simp;apply g;by_cases N:512<Z p
 .rw[ca N]at m;subst m;have q:(512:Int)<Z p:=by omega
  refine AP ?_;simp[q];refine xW λK g=>?_;simp;apply g;refine Aj ⟨_,_,a9,?_⟩;try simp
 .rw[bv N]at m;have q:¬(512:Int)<Z p:=by omega
  refine AP ?_;simp[q];refine CF ?_;have b0:(Z p:Int)<=1073741824:=by omega
  have b1:Z p<=512:=by omega
  refine xW λK g=>?_;simp[b0];apply g;refine m7 (R:=λtm S=>tm 0=.d (Av p)/\tm 3=.row 0 (Z p)/\S=[.row J 1 ((CS p (Z p)).map λx=>.d (encI x))]/\Uw p=J) ?_ ?_
  .refine xW λK g=>?_;simp;apply g;refine Bo ?_;refine FO (Z p) (λi tm S=>tm 0=.d (Av p)/\tm 3=.row 0 (Z p)/\tm 4=.d (encI i)/\S=[.row J 1 ((CS p i).map λx=>.d (encI x))]/\∀k (h:k<Z p),k<i->OJ p[k] k=J) (i0:=0) (er _) (by simp[CS]) ?_;rintro i tm S hi ⟨t0,t3,t4,rfl,zj⟩;refine xS (xW λK g=>?_);simp[t0,t4];apply g;refine AP ?_;simp;refine⟨λo=>?_,λzu=>?_⟩
   .have hvd:=jI p i o;have E:CS p (i+1)=(λu=>if 2<=IF p[i].kind then bump u p[i].b else u) (if 1<=IF p[i].kind then bump (CS p i) p[i].a else CS p i):=by
     rw[CS,ej o]
    have Q:=RT p i;have hub:=ji p i;refine xK ?_;refine xB ?_;refine xS (E5 λK g=>?_);refine xJ ?_;simp[t0,t4];refine Bq (hvd) rfl (by simp) ?_;simp;refine xJ ?_;simp;refine BY (g _ _ ?_);(try simp only[xQ,reduceIte]);cases F:OJ p[i] i with
    |false=>
     have T:Uw p=false:=by
      cases h:Uw p with
      |false=>rfl
      |true=>rw[Xg h i o]at F;cases F
     rw[ca T]at m;subst m;refine AP ?_;simp;refine xW λK g=>?_;simp;apply g;refine Aj ⟨_,_,a9,?_⟩;try simp
    |true=>
     obtain⟨hA,hB⟩:=Tp F;have zy:=N8 p[i].kind;have w:IF p[i].kind=0\/IF p[i].kind=1\/IF p[i].kind=2:=by unfold IF;split;simp;split;simp;split<;>simp
     have v:∀k (h:k<Z p),k<i+1->OJ p[k] k=true:=λk h h2=>by
      by_cases e:k=i
      .subst e;exact F
      .exact zj k h (by omega)
     generalize hx:p[i]=x at *;have zh:=AQ.eq_1 x;refine AP ?_;simp;refine xK ?_;(repeat refine xS ?_);refine FG λK g=>?_;refine xJ ?_;simp[t0,t4,o,hx,zh];refine Bq (zy) rfl (by simp) ?_;simp;refine xJ ?_;simp;refine BY (g _ _ ?_);(try simp only[xQ,reduceIte]);rcases w with w|w|w
     .rw[w]at E;simp at E;refine xS (xW λK g=>?_);simp[w];apply g;refine AP ?_;simp;refine xK ?_;refine xW λK g=>?_;simp;apply g;refine AP ?_;simp;refine CF ?_;refine xV λK g=>?_;simp[t4];apply g;refine⟨o,_,_,a9,?_⟩;simp[t0,t3,AK o a1,E];exact v
     .rw[w]at E;simp at E;have ha:=hA (by omega);obtain⟨a,A⟩:∃a:Nat,x.a=a:=⟨x.a.toNat,by omega⟩;have W:a<Z p:=by omega
      have j:a<Z (CS p i):=by omega
      have hu:=hub a;have X:(CS p i).getD a 0=(CS p i)[a]:=by simp[List.getD,j]
      have G:b8 .i64 ((CS p i)[a]+1)=(CS p i)[a]+1:=by rw[c8];omega
      have H:bump (CS p i) x.a=(CS p i).set a ((CS p i)[a]+1):=by unfold bump;rw[A,ne,X]
      refine xS (xW λK g=>?_);simp[w];apply g;refine AP ?_;simp;refine xV λK g=>?_;simp[t0,t3,t4,o,hx,zh,A,W,Q,G];apply g;refine xW λK g=>?_;simp;apply g;refine AP ?_;simp;refine CF ?_;refine xV λK g=>?_;simp[t4];apply g;refine⟨o,_,_,a9,?_⟩;simp[t0,t3,AK o a1,E,H];exact v
     .rw[w]at E;simp at E;have ha:=hA (by omega);have hb:=hB (by omega);obtain⟨a,A⟩:∃a:Nat,x.a=a:=⟨x.a.toNat,by omega⟩;obtain⟨b,hxb⟩:∃b:Nat,x.b=b:=⟨x.b.toNat,by omega⟩;have W:a<Z p:=by omega
      have hbl:b<Z p:=by omega
      have j:a<Z (CS p i):=by omega
      have hu:=hub a;have X:(CS p i).getD a 0=(CS p i)[a]:=by simp[List.getD,j]
      have G:b8 .i64 ((CS p i)[a]+1)=(CS p i)[a]+1:=by rw[c8];omega
      have H:bump (CS p i) x.a=(CS p i).set a ((CS p i)[a]+1):=by unfold bump;rw[A,ne,X]
      refine xS (xW λK g=>?_);simp[w];apply g;refine AP ?_;simp;refine xV λK g=>?_;simp[t0,t3,t4,o,hx,zh,A,W,Q,G];apply g;rw[H]at E;have P:∀y∈bump (CS p i) x.a,0<=y/\y<=2 * (i:Int)+1:=Pb (Nv p i) (by omega) _;rw[H]at P;have Y:Z ((CS p i).set a ((CS p i)[a]+1))=Z p:=by simp[Q]
      have hms:List.map (λx=>V.d (D.int .i64 x)) ((CS p i).set a ((CS p i)[a]+1))=(List.map (λx=>V.d (D.int .i64 x)) (CS p i)).set a (V.d (D.int .i64 ((CS p i)[a]+1))):=by rw[g9]
      rw[<-hms];clear hms G;generalize(CS p i).set a ((CS p i)[a]+1)=u1 at *;have B:b<Z u1:=by omega
      have hub1:=P _ (cL B);have hw2:b8 .i64 (u1[b]+1)=u1[b]+1:=by rw[c8];omega
      have hbp2:bump u1 x.b=u1.set b (u1[b]+1):=by unfold bump;rw[hxb,ne];simp[List.getD,B]
      refine xW λK g=>?_;simp;apply g;refine AP ?_;simp;refine xV λK g=>?_;simp[t0,t3,t4,o,hx,zh,hxb,hbl,Y,hw2];apply g;refine xV λK g=>?_;simp[t4];apply g;refine⟨o,_,_,a9,?_⟩;simp[t0,t3,AK o a1,E,hbp2];exact v
   .have e:i=Z p:=by omega
    subst e;refine Ci ?_;(try simp only[B5,A2,reduceIte]);exact⟨t0,t3,trivial,by
     unfold Uw;rw[ed];intro k hk;have L:k<Z p:=by simpa using hk
     rw[ej L];exact zj k L L⟩
  .rintro tm S ⟨t0,t3,rfl,T⟩;rw[bv (by rw[T];simp)]at m;have Y:=RT p (Z p);generalize CS p (Z p)=U at *;refine m7 (R:=λtm S=>tm 0=.d (Av p)/\S=[.row J 1 (U.map λx=>.d (encI x))]/\(if Z p=0 then(40:Int)else 0)=R) ?_ ?_
   .refine xW λK g=>?_;simp;apply g;refine Bo ?_;refine FO (Z p - 1) (λi tm S=>tm 0=.d (Av p)/\tm 3=.row 0 (Z p)/\tm 7=.d (encI i)/\S=[.row J 1 (U.map λx=>.d (encI x))]/\∀k,k<i->U.getD k 0=1) (i0:=0) (er _) (by simp[t0,t3]) ?_;rintro i tm S hi ⟨t0,t3,t7,rfl,zj⟩;have hwm:b8 .i64 ((Z p:Int) - 1)=Z p - 1:=by rw[c8];unfold a8 at a1;omega
    by_cases o:i<Z p - 1
    .have C:(i:Int)<Z p - 1:=by omega
     have hl2:i<Z U:=by omega
     have hl3:i<Z p:=by omega
     refine xS (xW λK g=>?_);simp[t0,t7,hwm];apply g;refine AP ?_;simp[C];refine xK ?_;refine xB ?_;(repeat refine xS ?_);refine xV λK g=>?_;simp[t3,t7,hl3,Y];refine g _ _ ?_;(try simp only[xQ,reduceIte]);by_cases he:U[i]=1
     .refine AP ?_;simp[he];refine CF ?_;refine xV λK g=>?_;simp[t7];apply g;refine⟨o,_,_,a9,?_⟩;simp[t0,t3,AK (show i<Z p by omega) a1];intro k hk;by_cases e:k=i
      .subst e;simp[hl2,he]
      .have:=zj k (by omega);simpa[GE]using this
     .have hf:((i6 (Z p - 1)).all λi=>decide (U.getD i 0=1))=false:=by
       rw[ab7];exact⟨i,by simpa using o,by simp[hl2,he]⟩
      rw[ca hf]at m;subst m;refine AP ?_;simp[he];refine xW λK g=>?_;simp;apply g;refine Aj ⟨_,_,a9,?_⟩;try simp
    .have C:¬(i:Int)<Z p - 1:=by omega
     have ht:((i6 (Z p - 1)).all λi=>decide (U.getD i 0=1))=true:=by
      rw[ed];intro k hk;have L:k<Z p - 1:=by simpa using hk
      simpa using zj k (by omega)
     rw[bv (by rw[ht];simp)]at m;refine xS (xW λK g=>?_);simp[t0,t7,hwm];apply g;refine AP ?_;simp[C];refine Ci ?_;(try simp only[B5,A2,reduceIte]);exact⟨t0,trivial,by simpa using m⟩
   .rintro tm S ⟨t0,rfl,m⟩;by_cases hp:Z p=0
    .have M:p=[]:=List.eq_nil_of_length_eq_zero hp;rw[ca hp]at m;subst m;refine xS (xW λK g=>?_);simp[t0,M];apply g;refine AP ?_;simp;refine xW λK g=>?_;simp;apply g;refine Aj ⟨_,_,a9,?_⟩;try simp
    .have M:¬p=[]:=λe=>hp (by rw[e];rfl);rw[bv hp]at m;subst m;refine xS (xW λK g=>?_);simp[t0];apply g;refine AP ?_;simp[M];refine xK ?_;refine xW λK g=>?_;simp;apply g;refine Aj ⟨_,_,a9,?_⟩;try simp
theorem fL(p:List A8)(s:ByteArray):∃b:Bool,s.size<=2 ^ 20->Pure prog 184 [Av p,BQ s] (.bool b):=by
 have g:=ZE p;by_cases m:s.size<=2 ^ 20;case neg=>exact⟨J,λh=>absurd h m⟩
 by_cases k:Yt p=0
 .obtain⟨u,h0⟩:=nB k;obtain⟨o,A,hb⟩:=aI p u s m (Z p) (Z p - 1) (by omega) (by omega) [0] ⟨by simp,λy q=>by simp at q;subst q;omega⟩;have v:=nO o s.size;refine⟨_,λ_=>hW (d:=.bool (o.contains (s.size:Int))) func184 (by kernel_rfl) rfl (by simp) λwf=>?_⟩;have w:Z p<=a8:=by simp[Bm,DY]at wf;omega
  have i:b8 .i64 ((Z p:Int) - 1)=((Z p - 1:Nat):Int):=by rw[c8];unfold a8 at w;omega
  rw[k]at g;rw[ntmps184];refine xW λK j=>?_;simp;apply j;(repeat refine xS ?_);refine FG λK j=>?_;refine xJ ?_;simp;refine Bq (g) rfl (by simp) ?_;simp;refine xH ?_;simp[a8,i];refine li (hb) rfl rfl (by simp;try rfl) ?_;simp;refine xH ?_;simp;refine li (v) rfl rfl (by simp;try rfl) ?_;simp;refine xH ?_;simp;refine BY (j _ _ ?_);(try simp only[xQ,reduceIte]);refine Aj ⟨_,_,a9,?_⟩;try simp
 .refine⟨false,λ_=>hW func184 (by kernel_rfl) rfl (by simp) λwf=>?_⟩;rw[ntmps184];refine xW λK j=>?_;simp;apply j;(repeat refine xS ?_);refine FG λK j=>?_;refine xJ ?_;simp;refine Bq (g) rfl (by simp) ?_;simp;(repeat((first|refine FI rfl ?_ ?_;(·simp[k])|refine Pe rfl ?_ ?_;(·simp[k])|refine Cc ?_ ?_;(·simp[k]));simp));refine BY (j _ _ ?_);(try simp only[B5]);refine Aj ⟨_,_,a9,?_⟩;try simp
noncomputable def D6(d:AL)(c:Nat):Bool:=(tr d).CG (cfg c)
noncomputable def NV(g:AE)(c:Nat)(s:Symbol):Bool:=!s.token||D6 (g.AT.getD s.index.toNat qi).cond c
noncomputable def Bk(g:AE)(c:Nat)(p:Nat):Bool:=match g.AD[p]? with
 |some q=>q.right.all (NV g c)&&D6 q.cond c
 |none=>false
theorem X4(g:AE)(T:B3 g=0)(Y:Z g.conds<=12)(c:Nat)(U:c<2 ^ 64)(p:Nat)(F:p<Z g.AD):Pure prog 220 [AA g,Dt c,encI p] (.bool (Bk g c p)):=by
 have G:=L4 Y T;obtain⟨q,H⟩:=ce (g.AD[p]);have u:q∈g.AD:=H▸cL F;have K:Bk g c p=(q.right.all (NV g c)&&D6 q.cond c):=by unfold Bk;rw[ej F,H]
 rw[K];have L:=YD q.cond (G.prod q u).1 c U;have M:∀s∈q.right,s.token=J->∃k:Nat,s.index=k/\∃W:k<Z g.AT,Pure prog 147 [AB g.AT[k].cond,Dt c] (.bool (NV g c s)):=λs B v=>by
  obtain⟨h0,h1⟩:=G.sym q u s B v;have j:s.index.toNat<Z g.AT:=by omega
  refine⟨s.index.toNat,by omega,j,?_⟩;have:=YD g.AT[s.index.toNat].cond (G.tok _ (cL j)).1 c U;have e:NV g c s=(tr g.AT[s.index.toNat].cond).CG (cfg c):=by simp[NV,v,D6,i5,j]
  rw[e];exact this
 have o:=AF.eq_1 q;refine hW func220 rfl rfl (by simp) λwf=>?_;have X:Z q.right<=a8:=by have:=D9 T q u;unfold a8;omega
 rw[ntmps220];apply yW;simp;apply yW;simp[AA,F,H,o];refine xS (yW ?_);simp;apply Bo;refine zL (Z q.right) (λi tm S=>tm 1=.d (Dt c)/\tm 3=.ptr 0 1 0 0/\tm 7=.ptr 1 1 0 0/\tm 8=.d (encI i)/\S=[.row J 9 [.d (AA g)],.row J 13 [.d (AF q)]]/\∀s∈q.right.take i,NV g c s=J) (by simp[AA,o]) ?_;rintro i tm S hi ⟨t1,t3,t7,t8,rfl,N⟩;refine xS (yW ?_);simp[t7,t8,o];apply AP;simp;refine⟨λj=>?_,λzu=>?_⟩
 .obtain⟨s,B⟩:=ce (q.right[i]);have C:s∈q.right:=B▸cL j;have m:NV g c s=J->∀s∈q.right.take (i+1),NV g c s=true:=λh x w=>by
   rw[abN,ej j,B]at w;rcases fi.1 w with w|w
   .exact N x w
   .simp at w;subst w;exact h
  have E:=AH.eq_1 s;apply xK;apply xB;cases v:s.token with
  |false=>
   refine yD (A7 22 []) (by kernel_rfl) ?_;simp;apply yZ;simp[t7,t8,j,B,E,v];apply AP;simp;apply CF;apply yV;simp[t8];refine⟨j,_,_,a9,?_⟩;simp[t1,t3,t7,AK j X,o];exact m (by simp[NV,v])
  |true=>
   obtain⟨k,W,P,A⟩:=M s C v;have Q:=AX.eq_1 g.AT[k];(repeat apply xS);refine yE (A7 22 []) (by kernel_rfl) ?_;simp;apply yZ;simp[t1,t3,t7,t8,j,B,E,v,W,P,Q,AA];refine Ab.C0 (ds:=[AB g.AT[k].cond,Dt c]) rfl rfl (by simp;rfl) (λ_=>A) (by simp[xN]) ?_;simp;apply yZ;simp;cases hb:NV g c s with
   |false=>
    apply AP;simp;apply yW;simp;refine Aj ⟨_,_,a9,?_⟩;(try simp);intro h;have:=h s C;rw[hb]at this;cases this
   |true=>
    apply AP;simp;apply CF;apply yV;simp[t8];refine⟨j,_,_,a9,?_⟩;simp[t1,t3,t7,AK j X,o];exact m hb
 .have e:i=Z q.right:=by omega
  subst e;rw[ns]at N;have R:q.right.all (NV g c)=true:=ed.2 N;apply Ci;(repeat apply xS);apply yT;apply yJ;simp[t1,t7];refine Bq (L) rfl (by simp[xN]) (yJ ?_);simp;apply zT;simp[R,D6]
theorem Zy(g:AE)(B:B3 g=0)(W:Z g.conds<=12)(c:Nat)(X:c<2 ^ 64)(p:Nat)(C:p<Z g.AD)(l:List Int)(Y:Z l=Z g.A0)(hb:∀y∈l,y<=1000):
  Pure prog 148 [AA g,Dt c,encI p,BZ l] (encI (GK g (Bk g c) (λn=>l.getD n 0) p)):=by
 obtain⟨q,H⟩:=ce (g.AD[p]);have j:q∈g.AD:=H▸cL C;have K:=X4 g B W c X p C;have L:EM g p=q.right:=by unfold EM;rw[ej C,H]
 have R:Z q.right<=a8:=by have:=D9 B q j;unfold a8;omega
 have zh:=AF.eq_1 q;unfold GK;rw[L];obtain⟨F,T⟩:∃F:Nat->Int,F=λn=>l.getD n 0:=⟨_,rfl⟩;rw[<-T];refine zP func148 48 rfl λwf=>?_;apply yW;simp;refine xS (yS ?_);apply yJ;simp;refine Bq (K) rfl (by simp[xN]) (yJ ?_);simp;cases hb1:Bk g c p with
 |false=>
  apply AP;simp;apply yW;simp;refine Aj ⟨_,_,a9,?_⟩;try simp
 |true=>
  apply AP;simp;apply xK;apply yW;simp;apply yW;simp[AA,C,H,zh];refine xS (yW ?_);simp;apply Bo;refine zL (Z q.right) (λi tm S=>tm 3=.d (BZ l)/\tm 9=.d (encI (FJ F (q.right.take i)))/\tm 10=.d (Ax q.right)/\tm 11=.d (encI i)/\S=[.row J 9 [.d (AA g)]]/\FJ F (q.right.take i)<=1000) (by simp[FJ,AA]) ?_;rintro i tm S hi ⟨t3,t9,t10,t11,rfl,o⟩;have N:=GP F (q.right.take i);refine xS (yW ?_);simp[t10,t11];apply AP;simp;refine⟨λh=>?_,λzu=>?_⟩
  .obtain⟨s,E⟩:=ce (q.right[i]);have u:s∈q.right:=E▸cL h;have v:=AH.eq_1 s;have w:FJ F (q.right.take (i+1))=if s.token then FJ F (q.right.take i)else max (FJ F (q.right.take i)) (F s.index.toNat):=by
    unfold FJ;rw[abN,ej h,E,Option.toList_some,abU];rfl
   generalize FJ F (q.right.take i)=M at *;apply xK;apply xB;(repeat apply xS);apply yV;simp[t10,t11,h,E,v];cases G:s.token with
   |true=>
    rw[G,ca rfl]at w;apply AP;simp;apply CF;apply yV;simp[t11];refine⟨h,_,_,a9,?_⟩;simp[t3,t9,t10,AK h R,w,o]
   |false=>
    rw[G,bv (by simp)]at w;obtain⟨k,U⟩:∃k:Nat,s.index=k:=⟨s.index.toNat,by have:=K7 B j u G;omega⟩;have m:k<Z l:=by have:=K7 B j u G;omega
    have A:k<Z g.A0:=by omega
    have P:F k=l[k]:=by rw[T];simp[i5,m]
    have hlb:=hb _ (cL m);rw[U,ne,P]at w;apply AP;simp;apply yV;simp[t3,t9,t10,t11,h,E,v,U,A,Y];apply yV;simp[t11];refine⟨h,_,_,a9,?_⟩;simp[t3,t10,AK h R,w];omega
  .have e:i=Z q.right:=by omega
   subst e;rw[ns]at t9 o N;have Q:b8 .i64 (FJ F q.right+1)=FJ F q.right+1:=by rw[c8];omega
   generalize FJ F q.right=M at *;apply Ci;apply yW;simp[t9,Q];apply zT;(try simp);split<;>omega
theorem VO(g:AE)(C:B3 g=0)(X:Z g.conds<=12)(c:Nat)(Y:c<2 ^ 64)(p:Nat)(E:p<Z g.AD)(l:List Int)(hl:Z l=Z g.A0)(hb:∀y∈l,y<=1000)(w:Bool):
  AG prog 148 [.d (AA g),.d (Dt c),.d (encI p),.row 0 (Z l)] [.row w 1 (l.map λx=>.d (encI x))] (.d (encI (GK g (Bk g c) (λn=>l.getD n 0) p))) [.row w 1 (l.map λx=>.d (encI x))]:=by
 obtain⟨q,K⟩:=ce (g.AD[p]);have j:q∈g.AD:=K▸cL E;have L:=X4 g C X c Y p E;have N:EM g p=q.right:=by unfold EM;rw[ej E,K]
 have T:Z q.right<=a8:=by have:=D9 C q j;unfold a8;omega
 have zh:=AF.eq_1 q;unfold GK;rw[N];obtain⟨F,U⟩:∃F:Nat->Int,F=λn=>l.getD n 0:=⟨_,rfl⟩;rw[<-U];refine zC func148 48 rfl λwf _=>?_;apply yW;simp;refine xS (yS ?_);apply yJ;simp;refine Bq (L) rfl (by simp[xN]) (yJ ?_);simp;cases hb1:Bk g c p with
 |false=>
  apply AP;simp;(repeat apply xS);apply yV;simp;(apply Aj;refine⟨_,gc 1 rfl (by simp),?_⟩;simp[Aq,clean,AJ])
 |true=>
  apply AP;simp;apply xK;apply yW;simp;apply yW;simp[AA,E,K,zh];refine xS (yW ?_);simp;apply Bo;refine zL (Z q.right) (λi tm S=>tm 3=.row 0 (Z l)/\tm 9=.d (encI (FJ F (q.right.take i)))/\tm 10=.d (Ax q.right)/\tm 11=.d (encI i)/\S=[.row w 1 (l.map λx=>.d (encI x)),.row J 9 [.d (AA g)]]/\FJ F (q.right.take i)<=1000) (by simp[FJ,AA]) ?_;rintro i tm S hi ⟨t3,t9,t10,t11,rfl,o⟩;have P:=GP F (q.right.take i);refine xS (yW ?_);simp[t10,t11];apply AP;simp;refine⟨λh=>?_,λzu=>?_⟩
  .obtain⟨s,G⟩:=ce (q.right[i]);have u:s∈q.right:=G▸cL h;have v:=AH.eq_1 s;have A:FJ F (q.right.take (i+1))=if s.token then FJ F (q.right.take i)else max (FJ F (q.right.take i)) (F s.index.toNat):=by
    unfold FJ;rw[abN,ej h,G,Option.toList_some,abU];rfl
   generalize FJ F (q.right.take i)=M at *;apply xK;apply xB;(repeat apply xS);apply yV;simp[t10,t11,h,G,v];cases H:s.token with
   |true=>
    rw[H,ca rfl]at A;apply AP;simp;apply CF;apply yV;simp[t11];refine⟨h,_,_,a9,?_⟩;simp[t3,t9,t10,AK h T,A,o]
   |false=>
    rw[H,bv (by simp)]at A;obtain⟨k,W⟩:∃k:Nat,s.index=k:=⟨s.index.toNat,by have:=K7 C j u H;omega⟩;have m:k<Z l:=by have:=K7 C j u H;omega
    have B:k<Z g.A0:=by omega
    have Q:F k=l[k]:=by rw[U];simp[i5,m]
    have hlb:=hb _ (cL m);rw[W,ne,Q]at A;apply AP;simp;apply yV;simp[t3,t9,t10,t11,h,G,v,W,B,hl];apply yV;simp[t11];refine⟨h,_,_,a9,?_⟩;simp[t3,t10,AK h T,A];omega
  .have e:i=Z q.right:=by omega
   subst e;rw[ns]at t9 o P;have R:b8 .i64 (FJ F q.right+1)=FJ F q.right+1:=by rw[c8];omega
   generalize FJ F q.right=M at *;apply Ci;(repeat apply xS);apply yV;simp[t9,R];(apply Aj;refine⟨_,gc 1 rfl (by simp),?_⟩;simp[Aq,clean,AJ]);split<;>omega
theorem ra(g:AE)(h:B3 g=0):Ie g:=λp i=>by
 have m:=Gy h (cL i);unfold Co EM;rw[ej i];exact⟨by simp[];omega,λs j k=>by have:=K7 h (cL i) j k;omega⟩
theorem an{g:AE}{pr:Nat->Bool}{l:List Int}(h:∀y∈l,y<=1000)(p:Nat):∀y∈Nl g pr l p,y<=1000:=λy i=>by
 rcases abx i with i|rfl
 .exact h y i
 .have:=dC g pr (λn=>l.getD n 0) p;omega
theorem LW{g:AE}{pr:Nat->Bool}{l:List Int}(h:∀y∈l,y<=1000):∀p,∀y∈Ct g pr l p,y<=1000
 |0=>h
 |p+1=>an (LW h p) p
theorem J4(g:AE)(pr:Nat->Bool):∀r,∀y∈DC g pr r,y<=1000
 |0=>λy h=>by simp[DC]at h;omega
 |r+1=>LW (J4 g pr r) _
theorem WT(g:AE)(A:B3 g=0)(hn:Z g.conds<=12)(c:Nat)(hc:c<2 ^ 64):Pure prog 50 [AA g,Dt c] (BZ (Kx g (Bk g c))):=by
 have hN:Z g.A0<=2000:=by have:=(Bx A).1;simp[Cq]at this;omega
 have hP:Z g.AD<=2000:=by have:=(Bx A).1;simp[Cq]at this;omega
 have P:(Z g.A0:Int)<=1073741824:=by omega
 have b1:Z g.A0<=a8:=by unfold a8;omega
 have b2:Z g.AD<=a8:=by unfold a8;omega
 obtain⟨pr,Q⟩:∃pr,pr=Bk g c:=⟨_,rfl⟩;have v:=λp hp l hl hb=>VO g A hn c hc p hp l hl hb J;rw[<-Q]at v⊢;have hw:=ra g A;unfold Kx;refine zP func50 57 rfl λwf=>?_;apply yW;simp;apply yW;simp[AA,P];refine m7 (R:=λtm S=>tm 1=.d (Dt c)/\tm 2=.ptr 0 1 0 0/\tm 5=.row 1 (Z g.A0)/\S=[.row J 9 [.d (AA g)],.row J 1 ((DC g pr 0).map λx=>.d (encI x))]) ?_ ?_
 .apply yW;simp;apply Bo;refine zL (Z g.A0) (λi tm S=>tm 1=.d (Dt c)/\tm 2=.ptr 0 1 0 0/\tm 5=.row 1 (Z g.A0)/\tm 6=.d (encI i)/\∃u:List Int,Z u=Z g.A0/\(∀k,k<i->u[k]?=some 1000)/\S=[.row J 9 [.d (AA g)],.row J 1 (u.map λx=>.d (encI x))]) (by simp[AA];exact⟨List.replicate (Z g.A0) 0,by simp,by simp⟩) ?_;rintro i tm S hi ⟨t1,t2,t5,t6,u,M,zj,rfl⟩;refine xS (yW ?_);simp[t5,t6,M];apply AP;simp;refine⟨λB=>?_,λzu=>?_⟩
  .have C:i<Z u:=by omega
   apply xK;apply xB;apply yV;simp[t5,t6,B,M];apply yV;simp[t6];refine⟨B,_,_,a9,?_⟩;simp[t1,t2,t5,AK B b1];refine⟨u.set i 1000,by simp[M],λk T=>?_,by simp⟩;rw[acY];split
   .first|rfl|rw[ca C]
   .exact zj k (by omega)
  .have e:i=Z g.A0:=by omega
   subst e;have U:u=List.replicate (Z g.A0) 1000:=by
    apply xv (by simp[M]);intro k h1 h2;have:=zj k (by omega);rw[ej h1]at this;simpa using this
   apply Ci;simp[t1,t2,t5,DC,U]
 .rintro tm S ⟨t1,t2,t5,rfl⟩;have W:b8 .i64 ((Z g.A0:Int)+1)=((Z g.A0+1:Nat):Int):=by rw[c8];omega
  have E:=GV g pr;have X:Z g.A0+1<=a8:=by unfold a8;omega
  refine m7 (R:=λtm S=>tm 5=.row 1 (Z g.A0)/\S=[.row J 9 [.d (AA g)],.row J 1 ((DC g pr (Z g.A0+1)).map λx=>.d (encI x))]) ?_ ?_
  .apply yW;simp;apply Bo;refine zL (Z g.A0+1) (λi tm S=>tm 1=.d (Dt c)/\tm 2=.ptr 0 1 0 0/\tm 5=.row 1 (Z g.A0)/\tm 7=.d (encI i)/\S=[.row J 9 [.d (AA g)],.row J 1 ((DC g pr i).map λx=>.d (encI x))]) (by simp[t1,t2,t5]) ?_;rintro i tm S hi ⟨t1,t2,t5,t7,rfl⟩;have F:=E i;refine xS (yW ?_);simp[t5,t7,F,W];by_cases B:i<Z g.A0+1
   .have j:(i:Int)<Z g.A0+1:=by omega
    apply AP;simp[j];apply xK;apply xB;have Y:=J4 g pr i;have hRe:DC g pr (i+1)=Ct g pr (DC g pr i) (Z g.AD):=rfl;generalize DC g pr i=R at *;apply yW;simp;apply Bo;refine zL (Z g.AD) (λp tm S=>tm 1=.d (Dt c)/\tm 2=.ptr 0 1 0 0/\tm 5=.row 1 (Z g.A0)/\tm 7=.d (encI i)/\tm 8=.d (encI p)/\S=[.row J 9 [.d (AA g)],.row J 1 ((Ct g pr R p).map λx=>.d (encI x))]) (by simp[t1,t2,t5,t7,Ct]) ?_;rintro p tm S hp ⟨t1,t2,t5,t7,t8,rfl⟩;have m:Z (Ct g pr R p)=Z g.A0:=by rw[I8,F]
    have hbp:=LW (g:=g) (pr:=pr) Y p;refine xS (yW ?_);simp[t2,t8,AA];apply AP;simp;refine⟨λh=>?_,λhgep=>?_⟩
    .have N:Ct g pr R (p+1)=Nl g pr (Ct g pr R p) p:=rfl;have G:=v p h (Ct g pr R p) m hbp;have zt:AG prog 148 [.d (AA g),.d (Dt c),.d (encI p),.row 0 (Z g.A0)] [.row J 1 ((Ct g pr R p).map λx=>.d (encI x))] (.d (encI (GK g pr (λn=>(Ct g pr R p).getD n 0) p))) [.row J 1 ((Ct g pr R p).map λx=>.d (encI x))]:=by rw[<-m];exact G
     obtain⟨q,hq⟩:=ce (g.AD[p]);have K:q∈g.AD:=hq▸cL h;have zh:=AF.eq_1 q;obtain⟨k,T⟩:∃k:Nat,q.left=k:=⟨q.left.toNat,by have:=Gy A K;omega⟩;have w:k<Z g.A0:=by have:=Gy A K;omega
     have hln:Co g p=k:=by unfold Co;rw[ej h,hq];simp[T]
     have hgb:=dC g pr (λn=>(Ct g pr R p).getD n 0) p;unfold Nl at N;rw[hln]at N;generalize GK g pr (λn=>(Ct g pr R p).getD n 0) p=H at *;clear v G;generalize Ct g pr R p=L at *;have o:k<Z L:=by omega
     have hLk:L.getD k 0=L[k]:=by simp[i5,o]
     rw[hLk]at N;apply xK;apply xB;apply yW;simp[t2,t8,h,hq,zh,T];refine yE (A7 13 [27]) (by kernel_rfl) ?_;simp;apply yA 1;simp[t1,t2,t5,t8,w,m];refine Ab.Vs (zt) [1] rfl (by simp;try rfl) ?_;simp;apply yA 1;simp[w,m];apply xX 8191 (by kernel_rfl);simp[AY,t1,t2,t5,t8,w,m];apply xM;apply yV;simp[t8];refine⟨h,_,_,a9,?_⟩;have hmn:(if H<L[k]then H else L[k])=min L[k] H:=by split<;>omega
     simp[t1,t2,t5,t7,AK h b2,N,hmn]
    .have e:p=Z g.AD:=by omega
     subst e;apply Ci;apply yV;simp[t7];refine⟨B,_,_,a9,?_⟩;simp[t1,t2,t5,AK B X,hRe]
   .have e:i=Z g.A0+1:=by omega
    subst e;have j:¬(Z g.A0:Int)+1<Z g.A0+1:=by omega
    apply AP;simp[j];apply Ci;simp[t5]
  .rintro tm S ⟨t5,rfl⟩;(repeat apply xS);apply yV;simp[t5];(apply Aj;refine⟨_,_,gl 1 (xs:=(DC g pr (Z g.A0+1)).map encI) rfl (by simp),?_⟩;simp[BO,B4,GV])
noncomputable def hasB(g:AE)(c:Nat):Bool:=decide (c<2 ^ Z g.conds)&&D6 g.fam c
theorem tH(g:AE)(o:B3 g=0)(q:Z g.conds<=12)(c:Nat)(u:c<2 ^ 64):Pure prog 49 [AA g,Dt c] (.bool (hasB g c)):=by
 have m:=YD g.fam (L4 q o).fam.1 c u;have j:b8 .u64 (Z g.conds:Int)=Z g.conds:=by rw[P9,sw (by omega)]
 have k:(c:Int).fdiv (2 ^ (min (Z g.conds) IntKind.u64.bits))=((c / 2 ^ Z g.conds:Nat):Int):=by
  have e:IntKind.u64.bits=64:=rfl;rw[e,adh (by omega),abO _ (by exact_mod_cast er _)];push_cast;rfl
 have i:¬(Z g.conds:Int)=64:=by omega
 unfold hasB D6;refine zP func49 24 rfl λwf=>?_;apply yW;simp;apply yW;simp[AA];apply yS;(repeat((first|refine FI rfl ?_ ?_;(·simp[i])|refine Pe rfl ?_ ?_;(·simp[i])|refine Cc ?_ ?_;(·simp[i]));simp[j,k]));refine vj (ds:=[AB g.fam,Dt c]) rfl rfl (by simp;rfl) (λ_=>m) (by simp[AB,AB]) ?_;simp;apply yH;simp;apply zT;(try simp);congr 1;have e:(c:Int) / 2 ^ Z g.conds=((c / 2 ^ Z g.conds:Nat):Int):=by push_cast;rfl
 rw[e,gI,ru,acV,acV,fc];have v:c / 2 ^ Z g.conds=0↔c<2 ^ Z g.conds:=Nat.div_eq_zero_iff_lt (adL _);rw[<-v];exact⟨λh=>by rcases h with h|h;exact absurd h i;exact_mod_cast h,λh=>.inr (by exact_mod_cast h)⟩
noncomputable def yc(p:List A8)(s:ByteArray):Bool:=(fL p s).choose
theorem qK(p:List A8)(s:ByteArray)(g:s.size<=2 ^ 20):Pure prog 184 [Av p,BQ s] (.bool (yc p s)):=(fL p s).choose_spec g
noncomputable def kU(t:Token)(s:ByteArray):Bool:=if t.literal=⟨#[]⟩then yc t.pattern s else decide (s=t.literal)
theorem LU(t:Token)(s:ByteArray)(k:s.size<=2 ^ 20):Pure prog 113 [AX t,BQ s] (.bool (kU t s)):=by
 have g:=AX.eq_1 t;have h:ByteArray.empty=(⟨#[]⟩:ByteArray):=rfl;have j:=qK t.pattern s k;refine zP func113 16 rfl λwf=>?_;unfold kU;by_cases i:t.literal=⟨#[]⟩
 .rw[ca i];apply yW;simp;refine xS (yW ?_);simp[g,i];apply AP;simp;apply xK;(repeat apply xS);apply yT;apply yJ;simp;refine Bq (j) rfl (by simp) (yJ ?_);simp;apply zT;try simp
 .rw[bv i];apply yW;simp;refine xS (yW ?_);simp[g,i];apply AP;simp;apply yW;simp;refine Aj ⟨_,_,a9,?_⟩;try simp
noncomputable def M4(c:Nat)(s:ByteArray)(t:Token):Bool:=decide (t.cls=2)&&(D6 t.cond c&&(decide (s≠⟨#[]⟩)&&kU t s))
noncomputable def eF(g:AE)(c:Nat)(s:ByteArray):Bool:=g.AT.any (M4 c s)
theorem Zj(g:AE)(N:B3 g=0)(P:Z g.conds<=12)(c:Nat)(Q:c<2 ^ 64)(s:ByteArray)(R:s.size<=2 ^ 20):Pure prog 151 [AA g,Dt c,BQ s] (.bool (eF g c s)):=by
 have T:=L4 P N;have m:ByteArray.empty=(⟨#[]⟩:ByteArray):=rfl;refine hW func151 (by kernel_rfl) rfl (by simp) λwf=>?_;have G:Z g.AT<=a8:=by have:=(Bx N).1;simp[Cq]at this;unfold a8;omega
 rw[ntmps151];refine xW λK k=>?_;simp;apply k;refine xS (xW λK k=>?_);simp;apply k;refine Bo ?_;refine FO (Z g.AT) (λi tm S=>tm 1=.d (Dt c)/\tm 2=.d (BQ s)/\tm 3=.ptr 0 1 0 0/\tm 7=.d (encI i)/\S=[.row J 9 [.d (AA g)]]/\∀t∈g.AT.take i,M4 c s t=false) (i0:=0) (er _) (by simp[AA]) ?_;rintro i tm S hi ⟨t1,t2,t3,t7,rfl,M⟩;refine xS (xW λK k=>?_);simp[t3,t7,AA];apply k;refine AP ?_;simp;refine⟨λu=>?_,λW=>?_⟩
 .obtain⟨t,B⟩:=ce (g.AT[i]);have C:t∈g.AT:=B▸cL u;have q:Pure prog 147 [AB t.cond,Dt c] (.bool (D6 t.cond c)):=YD t.cond (T.tok t C).1 c Q;have v:=LU t s R;have j:=AX.eq_1 t;have o:M4 c s t=false->∀t∈g.AT.take (i+1),M4 c s t=false:=λh x w=>by
   rw[abN,ej u,B]at w;rcases fi.1 w with w|w
   .exact M x w
   .simp at w;subst w;exact h
  refine xK ?_;refine xB ?_;(repeat refine xS ?_);refine xV λK k=>?_;simp[t3,t7,u,B,j];refine k _ _ ?_;(try simp only[xQ,reduceIte]);by_cases c1:t.cls=2
  .cases H:D6 t.cond c with
   |false=>
    have A:M4 c s t=false:=by simp[M4,H]
    rw[H]at q;refine E5 λK k=>?_;refine xH ?_;simp[t1,c1];refine li (q) rfl rfl (by simp[xN];try rfl) ?_;simp;refine xH ?_;simp;refine BY (k _ _ ?_);refine AP ?_;simp;refine CF ?_;refine xV λK k=>?_;simp[t7];apply k;refine⟨u,_,_,n8 1 (S':=[.row J 9 [.d (AA g)]]) (by simp[AA]) (by simp) (by simp) (by simp),?_⟩;simp[clean,AJ,t1,t2,t3,AK u G];exact o A
   |true=>
    rw[H]at q;by_cases E:s=⟨#[]⟩
    .have A:M4 c s t=false:=by simp[M4,E]
     refine E5 λK k=>?_;refine xH ?_;simp[t1,c1];refine li (q) rfl rfl (by simp[xN];try rfl) ?_;simp;refine xH ?_;simp[t2,E];refine BY (k _ _ ?_);refine AP ?_;simp;refine CF ?_;refine xV λK k=>?_;simp[t7];apply k;refine⟨u,_,_,n8 1 (S':=[.row J 9 [.d (AA g)]]) (by simp[AA]) (by simp) (by simp) (by simp),?_⟩;simp[clean,AJ,t1,t2,t3,AK u G];exact o A
    .have F:M4 c s t=kU t s:=by simp[M4,c1,H,E]
     cases L:kU t s with
     |false=>
      have A:M4 c s t=false:=by rw[F,L]
      rw[L]at v;refine E5 λK k=>?_;refine xH ?_;simp[t1,c1];refine li (q) rfl rfl (by simp[xN];try rfl) ?_;simp;refine xH ?_;simp[t2,E];refine li (v) rfl rfl (by simp[j,c1];try rfl) ?_;simp;refine xH ?_;simp;refine BY (k _ _ ?_);refine AP ?_;simp;refine CF ?_;refine xV λK k=>?_;simp[t7];apply k;refine⟨u,_,_,n8 1 (S':=[.row J 9 [.d (AA g)]]) (by simp[AA]) (by simp) (by simp) (by simp),?_⟩;simp[clean,AJ,t1,t2,t3,AK u G];exact o A
     |true=>
      rw[L]at v;refine E5 λK k=>?_;refine xH ?_;simp[t1,c1];refine li (q) rfl rfl (by simp[xN];try rfl) ?_;simp;refine xH ?_;simp[t2,E];refine li (v) rfl rfl (by simp[j,c1];try rfl) ?_;simp;refine xH ?_;simp;refine BY (k _ _ ?_);refine AP ?_;simp;refine xW λK k=>?_;simp;apply k;refine Aj ⟨_,_,a9,?_⟩;(try simp);exact abT.2 ⟨t,C,by rw[F,L]⟩
  .have A:M4 c s t=false:=by simp[M4,c1]
   (repeat refine xS ?_);refine FG λK k=>?_;(repeat((first|refine FI rfl ?_ ?_;(·simp[c1])|refine Pe rfl ?_ ?_;(·simp[t1,t2,j,c1,m])|refine Cc ?_ ?_;(·simp[c1]));simp));refine BY (k _ _ ?_);(try simp only[B5]);refine AP ?_;simp;refine CF ?_;refine xV λK k=>?_;simp[t7];apply k;refine⟨u,_,_,n8 1 (S':=[.row J 9 [.d (AA g)]]) (by simp[AA]) (by simp) (by simp) (by simp),?_⟩;simp[clean,AJ,t1,t2,t3,AK u G];exact o A
 .have e:i=Z g.AT:=by omega
  subst e;rw[ns]at M;have U:eF g c s=false:=tg.2 λt B=>by rw[M t B];simp
  refine Ci ?_;refine xW λK k=>?_;simp;apply k;refine Aj ⟨_,_,a9,?_⟩;(try simp);exact U
def Bs(x:BD):D:=.agg [encI x.prod,encI x.token,BQ x.text,By x.rem]
@[simp] theorem bp(x:BD):Ae (.d (Bs x))=[.d (encI x.prod),.d (encI x.token),.d (BQ x.text),.d (By x.rem)]:=rfl
@[simp] theorem bw(x:BD):Ap (.d (Bs x))=true:=rfl
@[simp] theorem j8(x:BD):Bp (.d (Bs x))=false:=rfl
@[simp] theorem bI(x:BD):BE (Bs x)=[encI x.prod,encI x.token,BQ x.text,By x.rem]:=rfl
@[simp] theorem kS(x:BD):CL.oneD (Bs x)=true:=rfl
@[simp] theorem pP(x:BD):DY (Bs x)=Bm [encI x.prod,encI x.token,BQ x.text,By x.rem]:=rfl
@[simp] theorem gy(S:Sg)(x:BD):DS S (.d (Bs x))=some [encI x.prod,encI x.token,BQ x.text,By x.rem]:=rfl
def OF(g:AE)(c:Nat)(l:List Int)(a:Nat)(hi:List Int)(out:V):V:=.agg [.d (By g.conds),.d (AV g.fam.nodes),.d (encI g.fam.root),.d (Cm g.AT),.d (By g.A0),.d (CJ g.AD),.d (encI g.start),.d (Be g.levels),.d (BL g.AR),.d (Dt c),.d (.sl (l.map (D.int .u8))),.d (.int .i64 a),.d (BZ hi),out]
def Hu(g:AE)(c:Nat)(l:List Int)(a:Nat)(hi:List Int)(w:Bool)(h:List BD):Sg:=[.row J 14 [OF g c l a hi (.row 1 (Z h))],.row w 4 (h.map λn=>.d (Bs n))]
def KR(l:List Int)(a:Nat)(n:Int):Int:=if Z l<=a\/n<1 then 0 else(l.getD a 0).tmod n
def L8(l:List Int)(a:Nat)(n:Int):Nat:=if Z l<=a\/n<1 then a else a+1
theorem I4{l:List Int}(g:∀k∈l,0<=k/\k<256){a:Nat}{n:Int}(i:1<=n):0<=KR l a n/\KR l a n<n:=by
 unfold KR;split
 .omega
 .have h0:0<=l.getD a 0:=by
   rw[GE];cases h:l[a]? with
   |none=>simp
   |some z=>exact(g z (oj h)).1
  exact⟨adE _ h0,Int.tmod_lt_of_pos _ (by omega)⟩
theorem VT(l:List Int)(a:Nat)(n:Int):a<=L8 l a n/\(a<=Z l->L8 l a n<=Z l):=by
 unfold L8;split<;>omega
theorem SG(g:AE)(c:Nat)(l:List Int)(C:Z l<=40)(o:∀k∈l,0<=k/\k<256)(a:Nat)(hi:List Int)(w:Bool)(B:List BD)(n:Int):
  AG prog 149 [.ptr 0 1 0 0,.d (encI n)] (Hu g c l a hi w B) (.d (encI (KR l a n))) (Hu g c l (L8 l a n) hi w B):=by
 refine zC func149 40 rfl λwf _=>?_;unfold Hu OF;(repeat apply xS);apply yV;simp;by_cases c1:Z l<=a
 .have j:KR l a n=0:=by simp[KR,c1]
  have m:L8 l a n=a:=by simp[L8,c1]
  rw[j,m];apply xS;refine yD (A7 14 []) (by kernel_rfl) ?_;simp;apply yZ;simp[c1];apply AP;simp;(repeat apply xS);apply yV;simp;(apply Aj;refine⟨_,a9,?_⟩;simp[Aq])
 .by_cases h:n<1
  .have j:KR l a n=0:=by simp[KR,h]
   have m:L8 l a n=a:=by simp[L8,h]
   rw[j,m];apply xS;refine yD (A7 14 []) (by kernel_rfl) ?_;simp;apply yZ;simp[c1,h];apply AP;simp;(repeat apply xS);apply yV;simp;(apply Aj;refine⟨_,a9,?_⟩;simp[Aq])
  .have i:a<Z l:=by omega
   have j:KR l a n=l[a].tmod n:=by simp[KR,c1,h,i]
   have m:L8 l a n=a+1:=by simp[L8,c1,h]
   have q:b8 .i64 ((a:Int)+1)=((a+1:Nat):Int):=by rw[c8];omega
   have hb:=o _ (cL i);have u:b8 .i64 l[a]=l[a]:=by rw[c8];omega
   have v:b8 .i64 (a:Int)=a:=by rw[c8];omega
   have A:n≠0:=by omega
   rw[j,m];apply xS;refine yD (A7 14 []) (by kernel_rfl) ?_;simp;apply yZ;simp[c1,h];apply AP;simp;apply xK;apply yW;simp[q];(repeat apply xS);refine yE (A7 15 []) (by kernel_rfl) ?_;simp;apply yA 1;simp[i,u,v,A];(apply Aj;refine⟨_,a9,?_⟩;simp[Aq])
def VW:List ByteArray:=[⟨#[37]⟩,⟨#[37,97]⟩,⟨#[37,98,32,99]⟩]
noncomputable def Kc(g:AE)(c:Nat)(l:List Int)(a:Nat):Nat->Nat×List ByteArray
 |0=>(L8 l a 12,[])
 |i+1=>(L8 l (Kc g c l a i).1 3,if eF g c (VW.getD (KR l (Kc g c l a i).1 3).toNat ⟨#[]⟩)then(Kc g c l a i).2++[VW.getD (KR l (Kc g c l a i).1 3).toNat ⟨#[]⟩]else(Kc g c l a i).2)
theorem S5(g:AE)(c:Nat)(l:List Int){a:Nat}(ha:a<=Z l)(i:Nat):a<=(Kc g c l a i).1/\(Kc g c l a i).1<=Z l/\Z (Kc g c l a i).2<=i:=by
 induction i with
 |zero=>have:=VT l a 12;exact⟨this.1,this.2 ha,c9 _⟩
 |succ i h=>
  obtain⟨k,j,m⟩:=h;have:=VT l (Kc g c l a i).1 3;refine⟨by show a<=L8 l _ 3;omega,this.2 j,?_⟩;simp[Kc];split
  .simp;omega
  .omega
theorem nb(g:AE)(c:Nat){l:List Int}(o:∀k∈l,0<=k/\k<256)(a i:Nat):∀s∈(Kc g c l a i).2,s∈VW:=by
 induction i with
 |zero=>intro s h;simp[Kc]at h
 |succ i m=>
  intro s h;have u:=I4 o (a:=(Kc g c l a i).1) (n:=3) (by omega);obtain⟨j,hj⟩:∃j:Nat,KR l (Kc g c l a i).1 3=j:=⟨(KR l (Kc g c l a i).1 3).toNat,by omega⟩;have q:VW.getD j ⟨#[]⟩∈VW:=by
   have:j=0\/j=1\/j=2:=by omega
   rcases this with rfl|rfl|rfl<;>simp[VW]
  simp only[Kc,hj,ne]at h;split at h
  .rcases fi.1 h with h|h
   .exact m s h
   .rw[go.1 h];exact q
  .exact m s h
noncomputable def Q2(g:AE)(c:Nat)(l:List Int)(a:Nat):Nat×List ByteArray:=Kc g c l a (KR l a 12 - 9).toNat
theorem Ph(g:AE)(hG:B3 g=0)(hn:Z g.conds<=12)(c:Nat)(hc:c<2 ^ 64)(l:List Int)(hl:Z l<=40)(q:∀k∈l,0<=k/\k<256)(a:Nat)(ha:a<=Z l)(hi:List Int)(w:Bool)(H:List BD):
  AG prog 52 [.ptr 0 1 0 0] (Hu g c l a hi w H) (.d (By (Q2 g c l a).2)) (Hu g c l (Q2 g c l a).1 hi w H):=by
 have A:=λa n=>SG g c l hl q a hi w H n;have K:=λs hs=>Zj g hG hn c hc s hs;have h12:=I4 q (a:=a) (n:=12) (by omega);have L:=S5 g c l ha;unfold Q2;obtain⟨v,hv⟩:∃v:Nat,KR l a 12=v:=⟨(KR l a 12).toNat,by omega⟩;have X:v<12:=by omega
 have hN:(KR l a 12 - 9).toNat=v - 9:=by omega
 rw[hN];have o:=A a 12;rw[hv]at o;have M:(Kc g c l a 0).1=L8 l a 12:=rfl;have C:(Kc g c l a 0).2=[]:=rfl;refine zD func52 32 rfl λwf _=>?_;unfold Hu OF at A o⊢;apply yW;simp;apply yW;simp;refine gs (oa 3 1 (xs:=[]) (by simp)) ?_;refine xS (yS ?_);apply yJ;simp;refine xF (o) [0,1] rfl ?_;simp;apply yJ;simp;clear o;apply Bo;refine zL (v - 9) (λi tm S=>tm 0=.ptr 0 1 0 0/\tm 3=.row 2 (Z (Kc g c l a i).2)/\tm 4=.d (encI ((v:Int) - i))/\∃Y,S=Hu g c l (Kc g c l a i).1 hi w H++[.row Y 1 ((Kc g c l a i).2.map λx=>.d (BQ x))]) (by simp[M,C,Hu,OF]) ?_;rintro i tm S hiN ⟨t0,t3,t4,Y,rfl⟩;unfold Hu OF;obtain⟨la,lb,lc⟩:=L i;by_cases zg:i<v - 9
 .have c1:(9:Int)<(v:Int) - i:=by omega
  have B:(Kc g c l a (i+1)).1=L8 l (Kc g c l a i).1 3:=rfl;have m:(Kc g c l a (i+1)).2=if eF g c (VW.getD (KR l (Kc g c l a i).1 3).toNat ⟨#[]⟩)then(Kc g c l a i).2++[VW.getD (KR l (Kc g c l a i).1 3).toNat ⟨#[]⟩]else(Kc g c l a i).2:=rfl;obtain⟨b,hb⟩:=ce ((Kc g c l a i).1);obtain⟨R,N⟩:=ce ((Kc g c l a i).2);rw[hb]at B;rw[hb,N]at m;rw[hb,N];rw[N]at t3 lc;have h3:=I4 q (a:=b) (n:=3) (by omega);obtain⟨j,hj⟩:∃j:Nat,KR l b 3=j:=⟨(KR l b 3).toNat,by omega⟩;have P:j<3:=by omega
  have E:=A b 3;rw[hj]at E;rw[hj,ne]at m;obtain⟨u,Q⟩:=ce (VW.getD j ⟨#[]⟩);rw[Q]at m;have T:u.size<=2 ^ 20:=by
   have:j=0\/j=1\/j=2:=by omega
   rcases this with rfl|rfl|rfl<;>(rw[<-Q];decide)
  have U:∀h:j<3,[D.str ⟨#[37]⟩,D.str ⟨#[37,97]⟩,D.str ⟨#[37,98,32,99]⟩][j]=D.str u:=λh=>by
   have:j=0\/j=1\/j=2:=by omega
   rcases this with rfl|rfl|rfl<;>(rw[<-Q];rfl)
  have W:(j:Int)<3:=by omega
  have hr:=K u T;have b1:Z R+1<=2 ^ 30:=by omega
  have b3:1<=a8:=by simp[a8]
  have F:b8 .i64 ((v:Int) - i - 1)=v - ((i+1:Nat):Int):=by rw[c8];omega
  refine xS (yW ?_);simp[t4];apply AP;simp[c1];apply xK;apply xB;apply yS;apply yJ;simp[t0,a8];refine xF (E) [0,1] rfl ?_;simp;apply yJ;simp[P,W,U];(repeat apply xS);refine yE (A7 10 []) (by kernel_rfl) ?_;simp;apply yA 1;simp[t0];refine B6 (hr) rfl (by simp[xN]) ?_;simp;apply xM;cases G:eF g c u with
  |true=>
   rw[G,ca rfl]at m;apply AP;simp;apply yV;simp[t3,b1,b3,Ac];apply yV;simp[t4,F];refine⟨zg,_,_,a9,?_⟩;simp[t0,B,m]
  |false=>
   rw[G,bv (by simp)]at m;apply AP;simp;apply CF;apply yV;simp[t4,F];refine⟨zg,_,_,a9,?_⟩;simp[t0,t3,B,m]
 .have e:i=v - 9:=by omega
  subst e;have c1:¬(9:Int)<(v:Int) - ((v - 9:Nat):Int):=by omega
  refine xS (yW ?_);simp[t4];apply AP;simp[c1];apply Ci;(repeat apply xS);apply yV;simp[t3];(apply Aj;refine⟨_,_,_,gl 2 (xs:=(Kc g c l a (v - 9)).2.map BQ) rfl (by simp),by simp,by simp[BO,B4],j1 2 (by simp)⟩)
section
variable (g:AE) (pr:Nat->Bool) (H:Nat->Int) (left:Nat)
def WK(p:Nat):Bool:=decide (Co g p=left)&&decide (GK g pr H p<1000)
def Ru(i:Nat):List Nat:=(List.range i).filter (WK g pr H left)
def X3:Nat->Int
 |0=>-1
 |i+1=>if WK g pr H left i=J/\GK g pr H i=H left/\X3 i<0 then(i:Int)else X3 i
theorem dD(i:Nat):Ru g pr H left (i+1)=Ru g pr H left i++if WK g pr H left i then [i]else []:=by
 unfold Ru;rw[acf,acr];cases h:WK g pr H left i<;>simp[h]
theorem k9(i:Nat):Z (Ru g pr H left i)<=i:=by
 have:=acS (WK g pr H left) (List.range i);simpa[Ru]using this
theorem qw(i:Nat):(X3 g pr H left i= -1/\∀p,p<i->¬(WK g pr H left p=J/\GK g pr H p=H left))\/∃p:Nat,p<i/\X3 g pr H left i=p/\WK g pr H left p=J/\GK g pr H p=H left:=by
 induction i with
 |zero=>exact .inl ⟨rfl,λp m=>by omega⟩
 |succ i o=>
  unfold X3;rcases o with⟨k,j⟩|⟨p,k,j,q⟩
  .by_cases c:WK g pr H left i=J/\GK g pr H i=H left
   .rw[ca ⟨c.1,c.2,by omega⟩];exact .inr ⟨i,by omega,rfl,c⟩
   .rw[bv (λh=>c ⟨h.1,h.2.1⟩)];refine .inl ⟨k,λp m=>?_⟩;by_cases e:p=i
    .subst e;exact c
    .exact j p (by omega)
  .rw[bv (by omega)];exact .inr ⟨p,by omega,j,q⟩
end
structure aW(g:AE)(c:Nat)(l:List Int)(hi:List Int):Prop where
 F7:B3 g=0
 n12:Z g.conds<=12
 yo:c<2 ^ 64
 wh:Z l<=40
 l8:∀k∈l,0<=k/\k<256
 eq:hi=Kx g (Bk g c)
 n3:Z g.A0<=3
 r5:∀q∈g.AD,Z q.right<=5
def Fa(hi:List Int):Nat->Int:=λn=>hi.getD n 0
theorem aW.len{g:AE}{c:Nat}{l hi:List Int}(h:aW g c l hi):Z hi=Z g.A0:=by rw[h.eq];exact GV _ _ _
theorem aW.zb{g:AE}{c:Nat}{l hi:List Int}(h:aW g c l hi):∀y∈hi,y<=1000:=by rw[h.eq];exact J4 _ _ _
noncomputable def wY(g:AE)(c:Nat)(l hi:List Int)(left a m:Nat):Int×Nat:=
 if Z l<=a\/40<m then(X3 g (Bk g c) (Fa hi) left (Z g.AD),a)
 else(((Ru g (Bk g c) (Fa hi) left (Z g.AD)).getD (KR l a (Z (Ru g (Bk g c) (Fa hi) left (Z g.AD)))).toNat 0:Nat),L8 l a (Z (Ru g (Bk g c) (Fa hi) left (Z g.AD))))
theorem WL{g:AE}{c:Nat}{l hi:List Int}(G:aW g c l hi)(left:Nat)(m:left<Z g.A0)(a:Nat)(w:Bool)(L:List BD)(hpos:1<=Z (Ru g (Bk g c) (Fa hi) left (Z g.AD))):
  AG prog 150 [.ptr 0 1 0 0,.d (encI left)] (Hu g c l a hi w L) (.d (encI (wY g c l hi left a (Z L)).1)) (Hu g c l (wY g c l hi left a (Z L)).2 hi w L):=by
 have hP:Z g.AD<=2000:=by have:=(Bx G.F7).1;simp[Cq]at this;omega
 have W:Z g.AD<=a8:=by unfold a8;omega
 have b3:1<=a8:=by simp[a8]
 have X:=λp hp=>Zy g G.F7 G.n12 c G.yo p hp hi G.len G.zb;have Y:=λn=>SG g c l G.wh G.l8 a hi w L n;have hH:(λn=>hi.getD n 0)=Fa hi:=rfl;simp only[hH]at X;have u:=G.len;have E:left<Z hi:=by omega
 have hHl:Fa hi left=hi[left]:=by simp[Fa,i5,E]
 unfold wY;refine AG.Gp func150 (by kernel_rfl) rfl (by simp) λwf _=>?_;rw[ntmps150];unfold Hu OF at Y⊢;refine xW λK k=>?_;simp;apply k;refine xW λK k=>?_;simp;apply k;refine gs (oa 5 1 (xs:=[]) (by simp)) ?_;refine xW λK k=>?_;simp;apply k;refine m7 (R:=λtm S=>tm 0=.ptr 0 1 0 0/\tm 1=.d (encI left)/\tm 5=.row 2 (Z (Ru g (Bk g c) (Fa hi) left (Z g.AD)))/\tm 6=.d (encI (X3 g (Bk g c) (Fa hi) left (Z g.AD)))/\∃P,S=Hu g c l a hi w L++[.row P 1 ((Ru g (Bk g c) (Fa hi) left (Z g.AD)).map λ(x:Nat)=>.d (encI x))]) ?_ ?_
 .refine xW λK k=>?_;simp;apply k;refine Bo ?_;refine FO (Z g.AD) (λi tm S=>tm 0=.ptr 0 1 0 0/\tm 1=.d (encI left)/\tm 5=.row 2 (Z (Ru g (Bk g c) (Fa hi) left i))/\tm 6=.d (encI (X3 g (Bk g c) (Fa hi) left i))/\tm 7=.d (encI i)/\∃P,S=Hu g c l a hi w L++[.row P 1 ((Ru g (Bk g c) (Fa hi) left i).map λ(x:Nat)=>.d (encI x))]) (i0:=0) (er _) (by simp[Ru,X3,Hu,OF]) ?_;rintro i tm S hiN ⟨t0,t1,t5,t6,t7,P,rfl⟩;unfold Hu OF;refine xS (xW λK k=>?_);simp[t0,t7];apply k;refine AP ?_;simp;refine⟨λv=>?_,λzu=>?_⟩
  .have C:=dD g (Bk g c) (Fa hi) left i;have o:X3 g (Bk g c) (Fa hi) left (i+1)=if WK g (Bk g c) (Fa hi) left i=J/\GK g (Bk g c) (Fa hi) i=Fa hi left/\X3 g (Bk g c) (Fa hi) left i<0 then(i:Int)else X3 g (Bk g c) (Fa hi) left i:=rfl;have hql:=k9 g (Bk g c) (Fa hi) left i;have hh:=X i v;obtain⟨q,M⟩:=ce (g.AD[i]);have hqm:q∈g.AD:=M▸cL v;have Q:=AF.eq_1 q;have hleq:(Co g i=left)↔q.left=(left:Int):=by
    have:=Gy G.F7 hqm;unfold Co;rw[ej v,M];show q.left.toNat=left↔_
    omega
   have hiq:WK g (Bk g c) (Fa hi) left i=(decide (q.left=(left:Int))&&decide (GK g (Bk g c) (Fa hi) i<1000)):=by unfold WK;rw[decide_eq_decide.2 hleq]
   rw[hiq]at C o;generalize GK g (Bk g c) (Fa hi) i=ht at *;rw[hHl]at o;generalize Ru g (Bk g c) (Fa hi) left i=A at *;generalize X3 g (Bk g c) (Fa hi) left i=B at *;have b1:Z A+1<=2 ^ 30:=by omega
   refine xK ?_;refine xB ?_;(repeat refine xS ?_);refine xE (A7 15 []) (by kernel_rfl) λK k=>?_;simp;refine xA 1 ?_;simp[t0,t7];refine B6 (hh) rfl (by simp[xN]) ?_;simp;refine xA 1 ?_;simp;refine xM (k _ _ ?_);(try simp only[xQ,reduceIte]);by_cases c1:q.left=(left:Int)
   .by_cases T:ht<1000
    .have N:¬(1000:Int)<=ht:=by omega
     rw[ca (by simp[c1,T])]at C;refine xS (E5 λK k=>?_);refine xH ?_;simp[t0,t1,t7,v,M,Q,c1,N];refine BY (k _ _ ?_);(try simp only[xQ,reduceIte]);refine AP ?_;simp;refine xK ?_;(repeat refine xS ?_);refine xV λK k=>?_;simp[t5,t7,b1,b3,Ac];refine k _ _ ?_;(try simp only[xQ,reduceIte]);by_cases F:ht=hi[left]
     .by_cases U:B<0
      .rw[ca ⟨by simp[c1,T],F,U⟩]at o;refine E5 λK k=>?_;refine xH ?_;simp[t0,t1,t6,m,u,F,U];refine BY (k _ _ ?_);refine AP ?_;simp;refine xV λK k=>?_;simp[t7];apply k;refine xV λK k=>?_;simp[t7];apply k;refine⟨v,_,_,a9,?_⟩;simp[t0,t1,AK v W,C,o]
      .rw[bv (λh=>U h.2.2)]at o;refine E5 λK k=>?_;refine xH ?_;simp[t0,t1,t6,m,u,F,U];refine BY (k _ _ ?_);refine AP ?_;simp;refine CF ?_;refine xV λK k=>?_;simp[t7];apply k;refine⟨v,_,_,a9,?_⟩;simp[t0,t1,t6,AK v W,C,o]
     .rw[bv (λh=>F h.2.1)]at o;(repeat refine xS ?_);refine FG λK k=>?_;(repeat((first|refine FI rfl ?_ ?_;(·simp[F])|refine Pe rfl ?_ ?_;(·simp[t0,t1,t6,t7,E,m,u,F])|refine Cc ?_ ?_;(·simp[m,u,F]));simp[t0,t1,m,u]));refine BY (k _ _ ?_);(try simp only[B5]);refine AP ?_;simp;refine CF ?_;refine xV λK k=>?_;simp[t7];apply k;refine⟨v,_,_,a9,?_⟩;simp[t0,t1,t6,AK v W,C,o]
    .have N:(1000:Int)<=ht:=by omega
     rw[bv (by simp[T])]at C;rw[bv (by simp[T])]at o;refine xS (E5 λK k=>?_);refine xH ?_;simp[t0,t1,t7,v,M,Q,c1,N];refine BY (k _ _ ?_);(try simp only[xQ,reduceIte]);refine AP ?_;simp;refine Ci ?_;refine xV λK k=>?_;simp[t7];apply k;refine⟨v,_,_,a9,?_⟩;simp[t0,t1,t5,t6,AK v W,C,o]
   .rw[bv (by simp[c1])]at C;rw[bv (by simp[c1])]at o;refine xS (E5 λK k=>?_);(repeat((first|refine FI rfl ?_ ?_;(·simp[c1])|refine Pe rfl ?_ ?_;(·simp[t0,t1,t7,AA,v,M,Q,c1])|refine Cc ?_ ?_;(·simp[v,M,Q,c1]));simp[t0,t1,t7,v,M,Q]));refine BY (k _ _ ?_);(try simp only[B5,A2,reduceIte]);refine AP ?_;simp[c1];refine Ci ?_;refine xV λK k=>?_;simp[t7];apply k;refine⟨v,_,_,a9,?_⟩;simp[t0,t1,t5,t6,AK v W,C,o]
  .have e:i=Z g.AD:=by omega
   subst e;refine Ci ?_;refine⟨t0,t1,t5,t6,?_⟩;first|rfl|(cases P<;>simp)
 .rintro tm S ⟨t0,t1,t5,t6,P,rfl⟩;unfold Hu OF;generalize Ru g (Bk g c) (Fa hi) left (Z g.AD)=A at *;generalize X3 g (Bk g c) (Fa hi) left (Z g.AD)=B at *;by_cases d1:Z l<=a
  .rw[ca (.inl d1)];refine xS ?_;refine xD (A7 18 []) (by kernel_rfl) λK k=>?_;simp;refine xZ ?_;simp[t0,d1];refine xM (k _ _ ?_);(try simp only[]);refine AP ?_;simp;(repeat refine xS ?_);refine xV λK k=>?_;simp[t6];refine k _ _ ?_;(try simp only[xQ,reduceIte]);(refine Aj ?_;(try simp only[xQ,reduceIte]);refine⟨_,_,_,a9,by simp,by simp,j1 2 (by simp)⟩)
  .by_cases d2:40<Z L
   .rw[ca (.inr d2)];have H:(40:Int)<Z L:=by omega
    refine xS ?_;refine xD (A7 18 []) (by kernel_rfl) λK k=>?_;simp;refine xZ ?_;simp[t0,d1,H];refine xM (k _ _ ?_);(try simp only[]);refine AP ?_;simp;(repeat refine xS ?_);refine xV λK k=>?_;simp[t6];refine k _ _ ?_;(try simp only[xQ,reduceIte]);(refine Aj ?_;(try simp only[xQ,reduceIte]);refine⟨_,_,_,a9,by simp,by simp,j1 2 (by simp)⟩)
   .rw[bv (by omega)];have H:¬(40:Int)<Z L:=by omega
    have hng:=I4 G.l8 (a:=a) (n:=Z A) (by omega);have hnA:=Y (Z A);obtain⟨j,hj⟩:∃j:Nat,KR l a (Z A)=j:=⟨(KR l a (Z A)).toNat,by omega⟩;have hjA:j<Z A:=by omega
    rw[hj]at hnA⊢;have hAj:A.getD (j:Int).toNat 0=A[j]:=by simp[i5,hjA]
    rw[hAj];refine xS ?_;refine xD (A7 18 []) (by kernel_rfl) λK k=>?_;simp;refine xZ ?_;simp[t0,d1,H];refine xM (k _ _ ?_);(try simp only[]);refine AP ?_;simp;refine xK ?_;(repeat refine xS ?_);refine FG λK k=>?_;refine xJ ?_;simp[t0,t5];refine xF (hnA) [0,1] rfl ?_;simp;refine xJ ?_;simp[hjA];refine BY (k _ _ ?_);(try simp only[xQ,reduceIte]);(refine Aj ?_;(try simp only[xQ,reduceIte]);refine⟨_,_,_,a9,by simp,by simp,j1 2 (by simp)⟩)
theorem Zx{g:AE}{c:Nat}{l hi:List Int}(G:aW g c l hi)(left:Nat)(i:left<Z g.A0)(m:Fa hi left<1000)(a:Nat)(ha:a<=Z l)(w:Bool)(C:List BD):
  ∃(p E:Nat),p<Z g.AD/\Co g p=left/\GK g (Bk g c) (Fa hi) p<1000/\a<=E/\E<=Z l/\(a<E\/(GK g (Bk g c) (Fa hi) p=Fa hi left))/\AG prog 150 [.ptr 0 1 0 0,.d (encI left)] (Hu g c l a hi w C) (.d (encI p)) (Hu g c l E hi w C):=by
 obtain⟨k1,k2⟩:=cz g (Bk g c) (ra g G.F7);rw[<-G.eq]at k1 k2;obtain⟨_,p0,u,H,K⟩:=k2 left i m;have o:GK g (Bk g c) (Fa hi) p0=Fa hi left:=K;have q:WK g (Bk g c) (Fa hi) left p0=true:=by
  unfold WK;rw[H,o];simp[m]
 have L:p0∈Ru g (Bk g c) (Fa hi) left (Z g.AD):=ut.2 ⟨by simpa using u,q⟩;have v:1<=Z (Ru g (Bk g c) (Fa hi) left (Z g.AD)):=acH L;have k:=WL G left i a w C v;have F:∀p,WK g (Bk g c) (Fa hi) left p=J->Co g p=left/\GK g (Bk g c) (Fa hi) p<1000:=λp h=>by
  simpa[WK]using h
 unfold wY at k;by_cases d:Z l<=a\/40<Z C
 .rw[ca d]at k;rcases qw g (Bk g c) (Fa hi) left (Z g.AD) with⟨_,M⟩|⟨p,S,M,Q,T⟩
  .exact absurd ⟨q,o⟩ (M p0 u)
  .rw[M]at k;exact⟨p,a,S,(F p Q).1,(F p Q).2,c9 _,ha,.inr T,k⟩
 .rw[bv d]at k;generalize U:Ru g (Bk g c) (Fa hi) left (Z g.AD)=A at *;have W:=I4 G.l8 (a:=a) (n:=Z A) (by omega);obtain⟨j,hj⟩:∃j:Nat,KR l a (Z A)=j:=⟨(KR l a (Z A)).toNat,by omega⟩;have B:j<Z A:=by omega
  rw[hj]at k;have N:A.getD (j:Int).toNat 0=A[j]:=by simp[i5,B]
  rw[N]at k;have R:A[j]∈A:=cL B;generalize A[j]=x at *;rw[<-U]at R;obtain⟨X,m2⟩:=ut.1 R;have P:L8 l a (Z A)=a+1:=by unfold L8;rw[bv (by omega)]
  rw[P]at k;exact⟨x,a+1,by simpa using X,(F _ m2).1,(F _ m2).2,by omega,by omega,.inl (by omega),k⟩
end Go.Koi
