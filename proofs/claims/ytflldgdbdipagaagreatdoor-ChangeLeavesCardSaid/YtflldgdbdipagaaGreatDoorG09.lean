/-
  Part 10 of the proof that the law ChangeLeaves returns true for every input.
-/
import Derived.Test.YtflldgdbdipagaaGreatDoorG08
import Derived.Laws.Bits64b
import Derived.Lib.TrailingZeros
set_option maxHeartbeats 64000000
set_option maxRecDepth 100000
open List renaming length->Z,range->kv,replicate->ke
open Go.IntKind renaming wrap->bv
open Bool renaming true->J,false->am
open Option renaming some->al
open Go.Proofs.Tryz renaming prog->a8
open Go renaming maxLen->ao
namespace Go.Koi
open Go.Proofs Tryz DT
def CT(k:Int):Int:=if k=0\/k=1 then 0 else if k=4 then 1 else if k=2\/k=3 then 2 else -1
theorem ji(k:Int):Pure prog 227 [AF k] (AF (CT k)):=by
 refine zP func227 12 rfl λwf=>?_;apply yW;simp;refine xS (yW ?_);simp;apply Bp;refine xS (yW ?_);simp;by_cases h0:k=0
 .subst h0;apply AQ;simp;apply xK;apply AQ;simp;apply yW;simp;refine Am ⟨_,_,ap,?_⟩;simp[CT]
 .apply AQ;simp[h0];apply yV;simp;by_cases h1:k=1
  .subst h1;apply AQ;simp;apply yW;simp;refine Am ⟨_,_,ap,?_⟩;simp[CT]
  .apply AQ;simp[h1];(repeat apply xS);apply yV;simp;by_cases g:k=4
   .subst g;apply AQ;simp;apply yW;simp;refine Am ⟨_,_,ap,?_⟩;simp[CT]
   .apply AQ;simp[g];refine xS (yW ?_);simp;by_cases h:k=2
    .subst h;apply AQ;simp;apply xK;apply AQ;simp;apply yW;simp;refine Am ⟨_,_,ap,?_⟩;simp[CT]
    .apply AQ;simp[h];apply yV;simp;by_cases i:k=3
     .subst i;apply AQ;simp;apply yW;simp;refine Am ⟨_,_,ap,?_⟩;simp[CT]
     .apply AQ;simp[i];apply B8;apply yW;simp;apply zT;simp[CT,h0,h1,g,h,i]
def JQ(u:List Bool)(i at_:Int):Option (List Bool):=if i<0\/at_<=i\/u.getD i.toNat am=J then none else al (u.set i.toNat J)
def TG(u:List Bool):Sg:=[.row J 1 [.row 1 (Z u)],.row J 1 (u.map λb=>.d (.bool b))]
abbrev gl:=@List.map_set
theorem WT(u:List Bool)(i at_:Int)(Dj:at_<=Z u):AH prog 226 [.d (AF i),.d (AF at_),.ptr 0 1 0 0] (TG u) (.d (.bool (JQ u i at_).isSome)) (TG ((JQ u i at_).getD u)):=by
 unfold TG;refine zC func226 22 rfl λwf _=>?_;(repeat apply xS);apply yV;simp;by_cases h:i<0
 .have k:JQ u i at_=none:=by simp[JQ,h]
  rw[k];refine xS (yS ?_);(iterate 10 (refine Cg (by simp) ?_;simp[h]));((refine FD rfl (by simp;try rfl) ?_);simp);((refine FD rfl (by simp;try rfl) ?_);simp);apply yJ;simp;apply AQ;simp;apply yW;simp;apply Am;refine⟨_,ap,?_⟩;simp[At]
 .by_cases g:at_<=i
  .have k:JQ u i at_=none:=by simp[JQ,g]
   rw[k];refine xS (yS ?_);(iterate 10 (refine Cg (by simp) ?_;simp[h,g]));((refine FD rfl (by simp;try rfl) ?_);simp);((refine FD rfl (by simp;try rfl) ?_);simp);apply yJ;simp;apply AQ;simp;apply yW;simp;apply Am;refine⟨_,ap,?_⟩;simp[At]
  .have h1:i<Z u:=by omega
   obtain⟨j,rfl⟩:∃j:Nat,i=j:=⟨i.toNat,by omega⟩;have m:j<Z u:=by omega
   refine xS (yW ?_);simp[h,g,h1,m];cases hb:u[j]with
   |true=>
    have k:JQ u j at_=none:=by simp[JQ,m,hb]
    rw[k];apply AQ;simp;apply yW;simp;apply Am;refine⟨_,ap,?_⟩;simp[At]
   |false=>
    have k:JQ u j at_=al (u.set j J):=by simp[JQ,m,hb];omega
    rw[k];apply AQ;simp;apply xK;apply yW;simp[m];apply yW;simp;apply Am;simp[sr];refine⟨_,ap,?_⟩;simp[At]
def XT(x:A7):Bool:=if x.kind=1 then decide (0<=x.lo)&&decide (x.lo<=x.hi)&&decide (x.hi<=255)else decide (0<=CT x.kind)&&decide (x.lo=0)&&decide (x.hi=0)
def GC(u:List Bool)(at_:Nat)(x:A7):Option (List Bool):=
 if XT x=am\/(CT x.kind<1/\x.a≠0)\/(CT x.kind<2/\x.b≠0)then none
 else if CT x.kind<1 then al u
 else(JQ u x.a at_).bind λv=>if CT x.kind<2 then al v else JQ v x.b at_
def HH(p:List A7):Nat->Option (List Bool)
 |0=>al (List.replicate (Z p) am)
 |i+1=>(HH p i).bind λu=>(p[i]?).bind λx=>GC u i x
def D8(p:List A7):Int:=
 if 512<Z p then 2 else
 match HH p (Z p) with
 |none=>40
 |some u=>if p=[]\/(u.take (Z p - 1)).any (λb=>!b)=J then 40 else 0
theorem Ek{u v:List Bool}{i at_:Int}(h:JQ u i at_=al v):Z v=Z u:=by
 unfold JQ at h;split at h
 .cases h
 .cases h;simp
abbrev abP:=@Option.bind_eq_some_iff
theorem To{u v:List Bool}{at_:Nat}{x:A7}(h:GC u at_ x=al v):Z v=Z u:=by
 unfold GC at h;split at h
 .cases h
 .split at h
  .cases h;rfl
  .obtain⟨w,h1,g⟩:=abP.1 h;split at g
   .cases g;exact Ek h1
   .rw[Ek g,Ek h1]
theorem MD{p:List A7}:∀{i:Nat} {u:List Bool},HH p i=al u->Z u=Z p
 |0,u,h=>by cases h;simp
 |i+1,u,h=>by
  obtain⟨v,h1,g⟩:=abP.1 h;obtain⟨x,_,j⟩:=abP.1 g;rw[To j,MD h1]
theorem Le{p:List A7}{i:Nat}(h:HH p i=none):∀k,HH p (i+k)=none
 |0=>h
 |k+1=>by rw[<-q7,HH,Le h k];rfl
theorem M4(k:Int):CT k= -1\/CT k=0\/CT k=1\/CT k=2:=by
 unfold CT;split
 .simp
 .split
  .simp
  .split<;>simp
theorem Xf{x:A7}(h:CT x.kind= -1):XT x=false:=by
 unfold XT;have:x.kind≠1:=by intro e;rw[e]at h;simp[CT]at h
 simp[this,h]
abbrev abz:=@Go.IntKind.wrap_i64
theorem Oa(p:List A7):Pure prog 186 [Av p] (AF (D8 p)):=by
 refine ip func186 rfl rfl (by simp) λwf=>?_;have N:Z p<=maxLen:=by simp[Bq,Da,Av]at wf;exact wf.1
 rw[ntmps186];apply yW;simp;refine xS (yW ?_);simp;by_cases z:512<Z p
 .have P:(512:Int)<Z p:=by omega
  apply AQ;simp[P];apply yW;simp;refine Am ⟨_,_,ap,?_⟩;simp[D8,z]
 .have P:¬(512:Int)<Z p:=by omega
  have zB:(Z p:Int)<=1073741824:=by omega
  apply AQ;simp[P];apply xK;apply yW;simp[zB];apply yW;simp;refine xS (yW ?_);simp;apply Bp;refine zL (Z p) (λi tm S=>(HH p i).isSome=J/\tm 0=.d (Av p)/\tm 3=.ptr 1 1 0 0/\tm 4=.fn (.func 226) [] [.ptr 1 1 0 0]/\tm 17=.d (Av p)/\tm 18=.d (AF (Z p))/\tm 19=.d (AF i)/\S=[.row J 1 (((HH p i).getD []).map λb=>.d (.bool b)),.row J 1 [.row 0 (Z p)]]) (by simp[HH]) ?_;rintro i tm S hi ⟨Q,t0,t3,t4,t17,t18,t19,rfl⟩;obtain⟨u,M⟩:=ol.1 Q;have o:=MD M;simp[M];apply yW;simp[t18,t19];apply xC;simp;refine⟨λB=>?_,λzf=>?_⟩
  .apply xK;apply xB;(repeat apply xS);apply yV;simp[t17,t19,B];have zy:(Av p)=.sl (p.map AS):=rfl;generalize hx:p[i]=x at *;apply yS;apply yJ;simp;refine Bz (ji x.kind) rfl (by simp) (yJ ?_);simp;apply yW;simp;refine nt (R:=λtm S=>tm 0=.d (Av p)/\tm 3=.ptr 1 1 0 0/\tm 4=.fn (.func 226) [] [.ptr 1 1 0 0]/\tm 5=.d (AF i)/\tm 6=.ptr 2 1 0 0/\tm 7=.d (AF (CT x.kind))/\tm 8=.d (.bool (XT x))/\tm 17=.d (Av p)/\tm 18=.d (AF (Z p))/\tm 19=.d (AF i)/\S=[.row J 1 (u.map λb=>.d (.bool b)),.row J 1 [.row 0 (Z p)],.row J 5 [.d (AS x)]]) ?_ ?_
   .apply Bp;(repeat apply xS);apply yV;simp[AS];by_cases h1:x.kind=1
    .apply AQ;simp[h1];apply yV;simp;unfold HQ;simp[XT,h1,CT,t0,t3,t4,t17,t18,t19]
    .apply AQ;simp[h1];apply yW;simp;(repeat apply xS);refine qr (t:=!(decide (x.lo=0)&&decide (x.hi=0))) ?_ (λhb=>?_) (λhb=>?_)
     .simp;rw[gI];simp
     .apply yV;simp;unfold HQ;simp at hb;have:XT x=false:=by simp[XT,h1];grind
      simp[this,t0,t3,t4,t17,t18,t19]
     .apply B8;simp at hb;have:XT x=decide (0<=CT x.kind):=by simp[XT,h1,hb]
      simp[this,t0,t3,t4,t17,t18,t19]
   .rintro tm S ⟨t0,t3,t4,t5,t6,t7,t8,t17,t18,t19,rfl⟩;have w:HH p (i+1)=GC u i x:=by simp[HH,M,B,hx]
    have q:GC u i x=none->D8 p=40:=λh=>by
     have h1:=Le (w.trans h) (Z p - (i+1));rw[Nat.add_sub_cancel' (by omega)]at h1;simp[D8,z,h1]
    by_cases zr:XT x=am\/(CT x.kind<1/\x.a≠0)\/(CT x.kind<2/\x.b≠0)
    .have C:GC u i x=none:=by simp[GC,b8 zr]
     have A:=q C;have T:XT x=am\/XT x=J/\CT x.kind=0/\x.a≠0\/XT x=J/\CT x.kind=0/\x.a=0/\x.b≠0\/XT x=J/\CT x.kind=1/\x.b≠0:=by
      have:=M4 x.kind;have:=@Xf x;grind
     rcases T with h|⟨h,n1,m⟩|⟨h,n1,m,F⟩|⟨h,n1,m⟩
     .skip;apply yS;apply yJ;simp[AS,t4,t5,t6,t7,t8,h];((refine FD rfl (by simp;try rfl) ?_);simp);apply yJ;simp[t4,t5,t6,t7];((refine FD rfl (by simp;try rfl) ?_);simp);apply yJ;simp;apply AQ;simp;apply yW;simp;refine Am ⟨_,_,ap,?_⟩;simp[A]
     .skip;apply yS;apply yJ;simp[AS,t4,t5,t6,t7,t8,h,n1,m];((refine FD rfl (by simp;try rfl) ?_);simp);apply yJ;simp[t4,t5,t6,t7,n1,m];((refine FD rfl (by simp;try rfl) ?_);simp);apply yJ;simp[m];apply AQ;simp[m];apply yW;simp;refine Am ⟨_,_,ap,?_⟩;simp[A]
     .skip;apply yS;apply yJ;simp[AS,t4,t5,t6,t7,t8,h,n1,m,F];((refine FD rfl (by simp;try rfl) ?_);simp);apply yJ;simp[t4,t5,t6,t7,n1,F];((refine FD rfl (by simp;try rfl) ?_);simp);apply yJ;simp[F];apply AQ;simp[F];apply yW;simp;refine Am ⟨_,_,ap,?_⟩;simp[A]
     .skip;apply yS;apply yJ;simp[AS,t4,t5,t6,t7,t8,h,n1,m];((refine FD rfl (by simp[m];try rfl) ?_);simp);apply yJ;simp[t4,t5,t6,t7,n1,m];((refine FD rfl (by simp;try rfl) ?_);simp);apply yJ;simp;apply AQ;simp;apply yW;simp;refine Am ⟨_,_,ap,?_⟩;simp[A]
    .have g:XT x=true:=by grind
     have hn:CT x.kind=0/\x.a=0/\x.b=0\/CT x.kind=1/\x.b=0\/CT x.kind=2:=by
      have:=M4 x.kind;have:=@Xf x;grind
     rcases hn with⟨n1,n2,n3⟩|⟨n1,n3⟩|n1
     .have C:GC u i x=al u:=by simp[GC,g,n1,n2,n3]
      apply yS;apply yJ;simp[AS,g,n1,n2,n3,t4,t5,t6,t7,t8];((refine FD rfl (by simp;try rfl) ?_);simp);apply yJ;simp[n1,t4,t5,t6,t7];((refine FD rfl (by simp;try rfl) ?_);simp);apply yJ;simp;apply AQ;simp;apply B8;apply yV;simp[t19];refine⟨B,_,_,ne 2 (by simp),?_⟩;rw[w,C];simp[clean,t0,t3,t4,t17,t18,AL B N]
     .have G:=o;apply yS;apply yJ;simp[AS,t4,t5,t6,t7,t8,g,n1,n3];refine AY.LQ (WT u x.a i (by omega)) [1,0] rfl rfl (by simp[TG,o];try rfl) ?_;simp[TG];cases s:JQ u x.a i with
      |none=>
       have A:=q (by simp[GC,g,n1,n3,s]);apply yJ;simp[t4,t5,t6,t7,n1];((refine FD rfl (by simp;try rfl) ?_);simp);apply yJ;simp;apply AQ;simp;apply yW;simp;refine Am ⟨_,_,ap,?_⟩;simp[A]
      |some v=>
       have C:GC u i x=al v:=by simp[GC,g,n1,n3,s]
       apply yJ;simp[t4,t5,t6,t7,n1];((refine FD rfl (by simp;try rfl) ?_);simp);apply yJ;simp;apply AQ;simp;apply B8;apply yV;simp[t19];refine⟨B,_,_,ne 2 (by simp),?_⟩;rw[w,C];simp[clean,t0,t3,t4,t17,t18,AL B N,Ek s,o]
     .apply yS;apply yJ;simp[AS,t4,t5,t6,t7,t8,g,n1];refine AY.LQ (WT u x.a i (by omega)) [1,0] rfl rfl (by simp[TG,o];try rfl) ?_;simp[TG];cases s:JQ u x.a i with
      |none=>
       have A:=q (by simp[GC,g,n1,s]);apply yJ;simp[t4,t5,t6,t7,n1];((refine FD rfl (by simp;try rfl) ?_);simp);apply yJ;simp;apply AQ;simp;apply yW;simp;refine Am ⟨_,_,ap,?_⟩;simp[A]
      |some v=>
       have G:=Ek s;apply yJ;simp[t4,t5,t6,t7,n1];refine AY.LQ (WT v x.b i (by omega)) [1,0] rfl rfl (by simp[TG,o,G];try rfl) ?_;simp[TG,o,G];cases H:JQ v x.b i with
       |none=>
        have A:=q (by simp[GC,g,n1,s,H]);apply yJ;simp;apply AQ;simp;apply yW;simp;refine Am ⟨_,_,ap,?_⟩;simp[A]
       |some v2=>
        have C:GC u i x=al v2:=by simp[GC,g,n1,s,H]
        apply yJ;simp;apply AQ;simp;apply B8;apply yV;simp[t19];refine⟨B,_,_,ne 2 (by simp),?_⟩;rw[w,C];simp[clean,t0,t3,t4,t17,t18,AL B N,Ek s,Ek H,o]
  .have zs:i=Z p:=by omega
   subst zs;have K:D8 p=if p=[]\/(u.take (Z p - 1)).any (λb=>!b)=J then 40 else 0:=by simp[D8,z,M]
   have hw:IntKind.wrap .i64 ((Z p:Int) - 1)=Z p - 1:=by rw[abz];omega
   apply Co;refine xS (yW ?_);simp[t0,hw];apply Bp;refine zL (Z p - 1) (λk tm S=>(∀j (h:j<k) (m:j<Z u),u[j]=J)/\tm 0=.d (Av p)/\tm 3=.ptr 1 1 0 0/\tm 104=.d (AF ((Z p:Int) - 1))/\tm 105=.d (AF k)/\S=[.row J 1 (u.map λb=>.d (.bool b)),.row J 1 [.row 0 (Z p)]]) (by simp[t0,t3]) ?_;rintro k tm S hk ⟨Y,t0,t3,t104,t105,rfl⟩;apply yW;simp[t104,t105];apply xC;simp;refine⟨λB=>?_,λzf=>?_⟩
   .have L:k<Z u:=by omega
    have U:k<Z p - 1:=by omega
    apply xK;apply xB;(repeat apply xS);apply yV;simp[t105];have W:k<Z p:=by omega
    (repeat apply xS);apply yV;simp[t3,W,o];cases hb:u[k]with
    |false=>
     apply AQ;simp;apply yW;simp;refine Am ⟨_,_,ap,?_⟩;have:(u.take (Z p - 1)).any (λb=>!b)=true:=by
      rw[Hs];exact⟨u[k],oi.2 ⟨k,by simp;omega,by simp⟩,by simp[hb]⟩
     simp[K,this]
    |true=>
     apply AQ;simp;apply B8;apply yV;simp[t105];refine⟨U,_,_,ap,?_⟩;simp[t0,t3,t104,AL L (by omega:Z u<=maxLen)];intro j hj X;by_cases e:j=k
     .subst e;exact hb
     .exact Y j (by omega) X
   .apply Co;refine xS (yW ?_);simp[t0];by_cases E:p=[]
    .subst E;apply AQ;simp;apply yW;simp;refine Am ⟨_,_,ap,?_⟩;simp[K]
    .have hp1:Z p≠0:=by simpa using E
     have hp2:¬(Z p:Int)=0:=by omega
     have C:(u.take (Z p - 1)).any (λb=>!b)=false:=by
      rw[E2];intro b hb;obtain⟨j,hj,rfl⟩:=oi.1 hb;simp at hj;simp[Y j (by omega) (by omega)]
     apply AQ;simp[E];apply xK;apply yW;simp;apply zT;simp[K,C,E]
def nR(w:Nat):D:=.int .u64 w
abbrev ac9:=@Go.IntKind.wrap_u64
theorem Pt(n:Nat):bv .u64 (n:Int)=((n % 18446744073709551616:Nat):Int):=by rw[ac9];omega
theorem dG{n:Nat}(h:n<2 ^ 64):bv .u64 (n:Int)=(n:Int):=by rw[Pt,ww (by omega)]
theorem u64_and(a b:Nat)(ha:a<2 ^ 64)(hb:b<2 ^ 64):bv .u64 ((a % 2 ^ IntKind.u64.bits&&& b % 2 ^ IntKind.u64.bits:Nat):Int)=((a&&& b:Nat):Int):=by
 have e:IntKind.u64.bits=64:=rfl;have g:a&&& b<2 ^ 64:=Nat.and_lt_two_pow _ (by omega);rw[e,ww ha,ww hb,Pt,ww (by omega)]
abbrev adY:=@Nat.or_lt_two_pow
theorem u64_or(a b:Nat)(ha:a<2 ^ 64)(hb:b<2 ^ 64):bv .u64 ((a % 2 ^ IntKind.u64.bits|||b % 2 ^ IntKind.u64.bits:Nat):Int)=((a|||b:Nat):Int):=by
 have e:IntKind.u64.bits=64:=rfl;have g:a|||b<2 ^ 64:=adY (by omega) (by omega);rw[e,ww ha,ww hb,Pt,ww (by omega)]
theorem mq{w:Nat}(g:w<2 ^ 64)(h0:w≠0):bv .u64 ((w % 2 ^ IntKind.u64.bits&&& (bv .u64 (-(w:Int)) % 2 ^ IntKind.u64.bits).toNat:Nat):Int)=((2 ^ Lib.ctz 64 w:Nat):Int):=by
 have h:(bv .u64 (-(w:Int)) % 2 ^ IntKind.u64.bits).toNat=(2 ^ 64 - w) % 2 ^ IntKind.u64.bits:=by
  have e:IntKind.u64.bits=64:=rfl;rw[e,ac9];omega
 rw[h,u64_and w (2 ^ 64 - w) g (by omega),(Lib.lowest_bit 64 w h0 g).1]
theorem qh(q:Nat):((q:Int).fdiv (2 ^ min 58 IntKind.u64.bits))=((q / 288230376151711744:Nat):Int):=by
 have e:min 58 IntKind.u64.bits=58:=by decide
 rw[e,abS _ (by decide)];have g:(2:Int) ^ 58=288230376151711744:=by decide
 rw[g];omega
theorem sW{j k:Nat}(h:Lib.deBruijn64tab.getD j 0=k):B0.getD (j:Int).toNat 0=(k:Int):=by
 have:B0=Lib.deBruijn64tab.map λ(n:Nat)=>(n:Int):=by decide
 rw[this,<-h,jw];simp;cases Lib.deBruijn64tab[j]?<;>rfl
theorem tS(w:Nat)(m:w<2 ^ 64):Pure prog 266 [nR w] (AF (Lib.ctz 64 w)):=by
 refine zP func266 14 rfl λwf=>?_;unfold nR;apply yW;simp;refine xS (yW ?_);simp;by_cases h0:w=0
 .subst h0;apply AQ;simp;apply yW;simp;refine Am ⟨_,_,ap,?_⟩;(try simp);simp[Lib.ctz]
 .have s:¬(w:Int)=0:=by omega
  apply AQ;simp[h0];apply xK;(repeat apply xS);apply yT;(repeat(refine Cg ?_ ?_;(·simp);simp));refine AY.neg (k:=.u64) (i:=w) rfl rfl (by simp) (by simp) ?_;simp;apply xO;simp;obtain⟨o,t⟩:=Lib.lowest_bit 64 w h0 m;obtain⟨hi,g⟩:=Lib.deBruijn64_at _ t;rw[mq m h0];generalize u:Lib.ctz 64 w=k at *;generalize v:2 ^ k=a at *;have z:bv .u64 ((a:Int) * 285870213051353865)=((a * 285870213051353865 % 18446744073709551616:Nat):Int):=by rw[ac9];omega
  apply xO;simp;rw[z];generalize A:a * 285870213051353865 % 18446744073709551616=q at *;apply xO;simp;rw[qh];generalize hj:q / 288230376151711744=j at *;(refine AY.sP (E:=5) (k:=.u64) (i:=j) rfl rfl rfl (by simp) (by simp) (by simp) (by simp) (by omega) (by omega) ?_);rw[sW g];simp;have h:bv .i64 (k:Int)=k:=by rw[abz];omega
  apply yJ;simp[h];apply zT;try simp
def F9(ws:List Nat):List V:=ws.map λ(w:Nat)=>.d (.int .u64 (w:Int))
def Dl(ws:List Nat):V:=.agg (F9 ws)
def Ii(ws:List Nat):Prop:=Z ws=8/\∀w∈ws,w<2 ^ 64
def Jj(ws:List Nat)(i:Nat):List Nat:=ws.set (i / 64) (ws.getD (i / 64) 0|||2 ^ (i % 64))
theorem Ii.get{ws:List Nat}(h:Ii ws)(k:Nat)(i:k<8):∃w,ws[k]?=al w/\w<2 ^ 64:=by
 have g:k<Z ws:=by rw[h.1];exact i
 exact⟨ws[k],by simp[g],h.2 _ (cF g)⟩
abbrev ach:=@List.mem_or_eq_of_mem_set
abbrev adE:=@Nat.pow_lt_pow_right
theorem Yo{ws:List Nat}(h:Ii ws)(i:Nat)(hi:i<512):Ii (Jj ws i):=by
 obtain⟨w,h1,k⟩:=h.get (i / 64) (by omega);refine⟨by simp[Jj,h.1],λx j=>?_⟩;unfold Jj at j;rcases ach j with g|g
 .exact h.2 _ g
 .rw[g];simp[h1];exact adY k (adE (by omega) (by omega))
theorem ce{α:Type}(a:α):∃b,a=b:=⟨_,rfl⟩
abbrev i7:=@Int.tmod_eq_emod_of_nonneg
abbrev adj:=@List.set_eq_take_append_cons_drop
theorem lX{els:List V}{k:Nat}{e:V}{ws:List Nat}(v:els[k]?=al e)(A:Aj e=F9 ws)(ha:Ap e=J)(K:Ii ws)(i:Nat)(hi:i<512):
  AH prog 233 [.ptr 0 (Z els) k 0,.d (AF i)] [.row J 8 els] (.CA []) [.row J 8 (els.set k (Dl (Jj ws i)))]:=by
 refine zC func233 16 rfl λwf _=>?_;obtain⟨w,F,M⟩:=K.get (i / 64) (by omega);have o:k<Z els:=by
  rcases x3 k (Z els) with h|h
  .exact h
  .rw[ut h]at v;cases v
 have s:Jj ws i=ws.set (i / 64) (ws.getD (i / 64) 0|||2 ^ (i % 64)):=rfl;obtain⟨q,L⟩:=ce (i / 64);obtain⟨r,N⟩:=ce (i % 64);rw[L]at F;rw[L,N]at s;have B:bv .i64 ((i:Int) / 64)=(q:Int):=by rw[abz];omega
 have C:(i:Int).tmod 64=(r:Int):=by rw[i7 (by omega)];omega
 have hj:q<8:=by omega
 have g:(q:Int)<8:=by omega
 have j:Z (F9 ws)=8:=by simp[F9,K.1]
 have E:(F9 ws)[q]?=al (.d (.int .u64 w)):=by simp[F9,F]
 have m:q<=7:=by omega
 obtain rfl:els[k]=e:=by rw[dl o]at v;exact wa v
 have G:bv .u64 (2 ^ min r IntKind.u64.bits)=((2 ^ r:Nat):Int):=by
  have e:min r IntKind.u64.bits=r:=by have:IntKind.u64.bits=64:=rfl;omega
  have:2 ^ r<2 ^ 64:=adE (by omega) (by omega);rw[e,<-dG this];simp
 have t:2 ^ r<2 ^ 64:=adE (by omega) (by omega);rw[s];generalize 2 ^ r=z at *;have H:=u64_or w z M t;refine yE (A3 12 [25]) (by kernel_rfl) ?_;simp;(iterate 10 (refine H3 (by simp[o,g,m,A,j,ha]) ?_;simp[B,C,o,A,E,G,H]));apply yA 1;simp[o,g];apply xX 4093 (by kernel_rfl);simp[o,g,m,A,j,ha,Aa];have u:List.take q (F9 ws)++V.d (D.int .u64 ((w|||z:Nat):Int))::List.drop (q+1) (F9 ws)=F9 (ws.set q (ws.getD q 0|||z)):=by
  rw[show F9 (ws.set q (ws.getD q 0|||z))=(F9 ws).set q (V.d (D.int .u64 ((w|||z:Nat):Int)))from by simp[F9,F],adj,b8 (by omega)]
 rw[u];apply xM;refine⟨_,ap,?_⟩;simp[At]
def LC(ss ts:List Nat):List Nat:=List.zipWith (·|||·) ss ts
theorem NV{ss ts:List Nat}(h:Ii ss)(g:Ii ts):Ii (LC ss ts):=by
 refine⟨by simp[LC,h.1,g.1],λx i=>?_⟩;obtain⟨j,hj,rfl⟩:=oi.1 i;simp[LC]at hj⊢;exact adY (h.2 _ (cF _)) (g.2 _ (cF _))
def Oe(ss ts:List Nat)(j:Nat):List Nat:=(LC ss ts).take j++ss.drop j
theorem ZC(ss ts:List Nat):Oe ss ts 0=ss:=by simp[Oe]
abbrev acO:=@List.drop_eq_nil_of_le
theorem jC{ss ts:List Nat}(h:Ii ss):Oe ss ts 8=LC ss ts:=by
 have h1:(LC ss ts).take 8=LC ss ts:=vq (by simp[LC,h.1];omega);have g:ss.drop 8=[]:=acO (by rw[h.1];exact ci _);simp[Oe,h1,g]
theorem ob{ss ts:List Nat}(h:Ii ss)(g:Ii ts)(j:Nat)(hj:j<=8):Ii (Oe ss ts j):=by
 refine⟨by simp[Oe,LC,h.1,g.1];omega,λx i=>?_⟩;rcases gc.1 i with h1|h1
 .exact(NV h g).2 _ (abr h1)
 .exact h.2 _ (ab7 h1)
theorem nS{ss ts:List Nat}(h:Ii ss)(g:Ii ts)(j:Nat)(hj:j<8):(Oe ss ts j)[j]?=ss[j]?:=by
 have:Z (List.take j (LC ss ts))=j:=by simp[LC,h.1,g.1];omega
 unfold Oe;rw[vp (by omega),this];simp
abbrev abQ:=@List.take_add_one
theorem bX{ss ts:List Nat}(h:Ii ss)(k:Ii ts){j w z:Nat}(hj:j<8)(i:ss[j]?=al w)(m:ts[j]?=al z):Oe ss ts (j+1)=(Oe ss ts j).set j (w|||z):=by
 have o:Z (List.take j (LC ss ts))=j:=by simp[LC,h.1,k.1];omega
 have q:(LC ss ts)[j]?=al (w|||z):=by simp[LC,List.getElem?_zipWith,i,m]
 have s:ss.drop j=w::ss.drop (j+1):=by
  have g:j<Z ss:=by rw[h.1];exact hj
  rw[GE g];have:ss[j]=w:=by rw[dl g]at i;exact wa i
  rw[this]
 unfold Oe;rw[abQ,q,s];rw[List.set_append_right _ _ (by omega),o];simp
theorem nL{ws:List Nat}{j w:Nat}(h:ws[j]?=al w):(F9 ws)[j]?=al (.d (.int .u64 (w:Int))):=by simp[F9,h]
theorem KL{ws:List Nat}{j w:Nat}(h:ws[j]?=al w)(g:j<Z (F9 ws)):(F9 ws)[j]=.d (.int .u64 (w:Int)):=by
 have:=nL h;rw[dl g]at this;exact wa this
theorem BO{ws:List Nat}(h:Ii ws):Z (F9 ws)=8:=by simp[F9,h.1]
theorem lP{ws:List Nat}{q z:Nat}(h:Ii ws)(g:q<8):List.take q (F9 ws)++V.d (D.int .u64 (z:Int))::List.drop (q+1) (F9 ws)=F9 (ws.set q z):=by
 rw[show F9 (ws.set q z)=(F9 ws).set q (V.d (D.int .u64 (z:Int)))from by simp[F9],adj,b8 (by rw[BO h];exact g)]
theorem Jx(n:Nat):∀g:List Nat,Au n (F9 g)=J
 |[]=>rfl
 |w::g=>by have:=Jx n g;simp only[F9,ii]at *;simp[Au]
theorem Nk(n:Nat)(ws:List Nat):AP n (Dl ws)=true:=by
 unfold Dl;exact Jx n ws
theorem Gi(n:Nat):∀g:List (List Nat),Au n (g.map Dl)=J
 |[]=>rfl
 |w::h=>by simp;simp[Nk];exact Gi n h
theorem eY{els:List V}{k:Nat}{ss ts:List Nat}(M:els[k]?=al (Dl ss))(A:Ii ss)(B:Ii ts)(U:∀v,AP 1 v=J->Au 1 (els.set k v)=J):
  AH prog 231 [.ptr 0 (Z els) k 0,Dl ts] [.row J 8 els] (.CA []) [.row J 8 (els.set k (Dl (LC ss ts)))]:=by
 refine j0 func231 (by kernel_rfl) rfl (by simp) λwf _=>?_;rw[ntmps231];have C:k<Z els:=by
  rcases x3 k (Z els) with h|h
  .exact h
  .rw[ut h]at M;cases M
 have N:els=els.set k (Dl ss):=by
  apply acr;intro j;by_cases E:k=j
  .subst E;rw[M];simp[C]
  .simp[E]
 have i:=BO B;refine xW λK m=>?_;simp[Dl,i];apply m;refine xW λK m=>?_;simp;apply m;refine Bp ?_;refine FH 8 (λj tm S=>tm 0=.ptr 0 (Z els) k 0/\tm 3=.ptr 1 1 0 0/\tm 5=.d (AF j)/\S=[.row J 8 (els.set k (Dl (Oe ss ts j))),.row J 8 [Dl ts]]) (i0:=0) (ed _) (by simp[ZC,Dl];exact N) ?_;rintro j tm S hj ⟨t0,t3,t5,rfl⟩;have F:=ob A B j hj;have o:=BO F;refine xW λK m=>?_;simp[t5];apply m;refine xC ?_;simp;refine⟨λH=>?_,λX=>?_⟩
 .have g:j<8:=by omega
  obtain⟨w,R,W⟩:=A.get j g;obtain⟨z,T,P⟩:=B.get j g;have G:=nS A B j g;rw[R]at G;have Q:=bX A B g R T;have L:=u64_or w z W P;have q:=KL G (by omega);have s:=KL T (by omega);have t:j<=7:=by omega
  have u:=lP (z:=w|||z) F g;rw[<-Q]at u;refine xK ?_;refine xB ?_;refine xW λK m=>?_;simp[t5];apply m;refine xE (A3 11 [23]) (by kernel_rfl) λK m=>?_;simp;(iterate 9 (refine H3 (by simp[t3,C,t,H,o,i,Dl]) ?_;simp[t0,t3,C,g,H,o,i,q,s,L,Dl]));refine xA 1 ?_;simp[C,H];refine xX 2045 (by kernel_rfl) ?_;simp[C,t,H,o,Aa];rw[u];refine xM (m _ _ ?_);refine xV λK m=>?_;simp[t5];apply m;refine⟨g,_,_,ap,?_⟩;simp[t0,t3,Dl];exact AL g (by simp[maxLen])
 .have g:j=8:=by omega
  subst g;refine Co ?_;rw[jC A];refine⟨_,ea 1 (by simp) (by simp) (by simp) (by simp;exact U _ (Nk _ _)),?_⟩;simp[At]
def Je(fs:List (List Nat)):O:=.row J 8 (fs.map Dl)
theorem N6{n:Nat}{v:V}(g:AP n v=J):∀{l:List V} {k:Nat},Au n l=J->Au n (l.set k v)=J
 |[],_,_=>rfl
 |x::l,0,h=>by simp[Au]at h⊢;exact⟨g,h.2⟩
 |x::l,k+1,h=>by simp[Au]at h⊢;exact⟨h.1,N6 g h.2⟩
theorem Xj{fs:List (List Nat)}{k:Nat}{ss ts:List Nat}(g:fs[k]?=al ss)(h:Ii ss)(i:Ii ts):
  AH prog 231 [.ptr 0 (Z fs) k 0,Dl ts] [Je fs] (.CA []) [Je (fs.set k (LC ss ts))]:=by
 have:=eY (els:=fs.map Dl) (k:=k) (by simp[g]) h i λv j=>N6 j (Gi _ _);simpa[Je,gl]using this
theorem YL{fs:List (List Nat)}{k:Nat}{ws:List Nat}(g:fs[k]?=al ws)(h:Ii ws)(i:Nat)(hi:i<512):
  AH prog 233 [.ptr 0 (Z fs) k 0,.d (AF i)] [Je fs] (.CA []) [Je (fs.set k (Jj ws i))]:=by
 have:=lX (els:=fs.map Dl) (k:=k) (e:=Dl ws) (ws:=ws) (by simp[g]) (by simp[Dl]) (by simp[Dl]) h i hi;simpa[Je,gl]using this
def LH(base w:Nat):List Nat:=((kv 64).filter λi=>w.testBit i).map (base+ ·)
abbrev acw:=@List.range_succ
abbrev ab4:=@List.filter_append
theorem NC{p q:Nat->Bool}{c:Nat}(i:p c=J)(k:q c=am)(g:∀j<c,p j=am/\q j=am)(m:∀j,c<j->p j=q j):∀n,c<n->(kv n).filter p=c::(kv n).filter q
 |0,h=>by omega
 |n+1,h=>by
  rw[acw,ab4,ab4];by_cases o:c<n
  .rw[NC i k g m n o];have:=m n o;simp[List.filter,this]
  .obtain rfl:c=n:=by omega
   have s:(kv c).filter p=[]:=ado.2 λj hj=>by simp[(g j (by simpa using hj)).1]
   have t:(kv c).filter q=[]:=ado.2 λj hj=>by simp[(g j (by simpa using hj)).2]
   simp[s,t,List.filter,i,k]
abbrev adO:=@Nat.two_pow_pos
abbrev adP:=@Nat.mul_add
abbrev ab5:=@Nat.testBit_two_pow_mul_add
abbrev adB:=@Nat.testBit_succ
theorem Xp{w:Nat}(k:w<2 ^ 64)(h0:w≠0):∃m,w=2 ^ Lib.ctz 64 w * (2 * m+1)/\w&&& (w - 1)=2 ^ Lib.ctz 64 w * (2 * m)/\Lib.ctz 64 w<64:=by
 obtain⟨m,h,o⟩:=Lib.ctzFrom_spec 64 w (by omega) k;have e:Lib.ctz 64 w=Lib.ctzFrom 64 w:=by simp[Lib.ctz,h0]
 rw[e];generalize Lib.ctzFrom 64 w=c at *;refine⟨m,h,?_,o⟩;have g:0<2 ^ c:=adO c;have h1:w - 1=2 ^ c * (2 * m)+(2 ^ c - 1):=by rw[h,adP];omega
 apply Nat.eq_of_testBit_eq;intro j;have t1:w.testBit j=if j<c then am else(2 * m+1).testBit (j - c):=by
  have:=ab5 (2 * m+1) (b:=0) (i:=c) g j;rw[zz,<-h]at this;simpa using this
 have t2:(w - 1).testBit j=if j<c then(2 ^ c - 1).testBit j else(2 * m).testBit (j - c):=by
  rw[h1];exact ab5 _ (by omega) j
 have t3:(2 ^ c * (2 * m)).testBit j=if j<c then am else(2 * m).testBit (j - c):=by
  have:=ab5 (2 * m) (b:=0) (i:=c) g j;simpa using this
 rw[Nat.testBit_and,t1,t2,t3];by_cases hj:j<c
 .simp[hj]
 .simp[hj];cases q:j - c with
  |zero=>simp
  |succ d=>rw[adB,adB];simp[show(2 * m+1) / 2=m by omega]
theorem WS(base:Nat):LH base 0=[]:=by
 simp[LH]
theorem WY(base:Nat){w:Nat}(k:w<2 ^ 64)(h0:w≠0):LH base w=(base+Lib.ctz 64 w)::LH base (w&&& (w - 1)):=by
 obtain⟨m,o,ha,s⟩:=Xp k h0;generalize Lib.ctz 64 w=c at *;have g:0<2 ^ c:=adO c;have t1:∀j,w.testBit j=if j<c then am else(2 * m+1).testBit (j - c):=λj=>by
  have:=ab5 (2 * m+1) (b:=0) (i:=c) g j;rw[zz,<-o]at this;simpa using this
 have t3:∀j,(2 ^ c * (2 * m)).testBit j=if j<c then am else(2 * m).testBit (j - c):=λj=>by
  have:=ab5 (2 * m) (b:=0) (i:=c) g j;simpa using this
 have:=NC (p:=λi=>w.testBit i) (q:=λi=>(2 ^ c * (2 * m)).testBit i) (c:=c) (by simp[t1]) (by simp[t3]) (λj hj=>by simp[t1,t3,hj]) (λj hj=>by
  have h:¬j<c:=by omega
  obtain⟨d,t⟩:∃d,j - c=d+1:=⟨j - c - 1,by omega⟩;simp[t1,t3,h,t];rw[adB,adB,show(2 * m+1) / 2=m by omega,show(2 * m) / 2=m by omega]) 64 s
 unfold LH;rw[ha,this];rfl
theorem eC{w:Nat}(g:w<2 ^ 64)(h0:w≠0):w&&& (w - 1)<w:=by
 have:=Nat.and_le_right (n:=w) (m:=w - 1);omega
def OU(ws:List Nat)(k:Nat):List Nat:=((kv 8).drop k).flatMap λk=>LH (64 * k) (ws.getD k 0)
def F0(ws:List Nat):List Nat:=OU ws 0
theorem Wd{ws:List Nat}{k w:Nat}(g:k<8)(h:ws[k]?=al w):OU ws k=LH (64 * k) w++OU ws (k+1):=by
 unfold OU;rw[GE (by simpa using g)];simp[h]
theorem bY(ws:List Nat):OU ws 8=[]:=rfl
def LU(ss ts:List Nat):Bool:=(List.zipWith (λa b=>a&&& b) ss ts).any λx=>!decide (x=0)
theorem j7{fs:List (List Nat)}{k:Nat}{ss ts:List Nat}(A:fs[k]?=al ss)(t:Ii ss)(u:Ii ts):
  AH prog 235 [.ptr 0 (Z fs) k 0,Dl ts] [Je fs] (.d (.bool (LU ss ts))) [Je fs]:=by
 refine zC func235 20 rfl λwf _=>?_;have M:k<Z fs:=by
  rcases x3 k (Z fs) with h|h
  .exact h
  .rw[ut h]at A;cases A
 obtain rfl:fs[k]=ss:=by rw[dl M]at A;exact wa A
 have v:=BO u;have E:=BO t;unfold Je;apply yW;simp[Dl,v];refine xS (yW ?_);simp;apply Bp;refine zL 8 (λj tm S=>tm 0=.ptr 0 (Z fs) k 0/\tm 3=.ptr 1 1 0 0/\tm 6=.d (AF j)/\S=[.row J 8 (fs.map Dl),.row J 8 [Dl ts]]/\(∀i (h:i<j),fs[k].getD i 0&&& ts.getD i 0=0)) (by simp[Dl]) ?_;rintro j tm S hj ⟨t0,t3,t6,rfl,N⟩;apply yW;simp[t6];apply xC;simp;refine⟨λP=>?_,λY=>?_⟩
 .have g:j<8:=by omega
  obtain⟨w,B,Q⟩:=t.get j g;obtain⟨z,C,F⟩:=u.get j g;have R:=u64_and w z Q F;have G:=KL B (by omega);have H:=KL C (by omega);have K:j<=7:=by omega
  have T:((((w&&& z:Nat):Int))!=0)=!decide (w&&& z=0):=by
   by_cases h:w&&& z=0
   .simp[h]
   .have:¬((w&&& z:Nat):Int)=0:=by omega
    simp[h]
  apply xK;apply xB;apply yW;simp[t6];(repeat apply xS);refine yE (A3 10 []) (by kernel_rfl) ?_;simp;apply yA 0;simp[t0,t3,M,g,K,P,E,v,G,H,R,Dl,T];by_cases m:w&&& z=0
  .apply AQ;simp[m];apply B8;apply yV;simp[t6];refine⟨g,_,_,ap,?_⟩;simp[t0,t3,AL g (by simp[maxLen])];intro i hi;by_cases e:i=j
   .subst e;simp[B,C,m]
   .exact N i (by omega)
  .apply AQ;simp[m];apply yW;simp;apply Am;have L:LU fs[k] ts=true:=by
    unfold LU;rw[Hs];have h1:j<Z (List.zipWith (λa b=>a&&& b) fs[k] ts):=by simp[t.1,u.1];omega
    refine⟨_,cF h1,?_⟩;have o:j<Z fs[k]:=by rw[t.1];exact g
    have q:j<Z ts:=by rw[u.1];exact g
    have U:fs[k][j]=w:=by rw[dl o]at B;exact wa B
    have W:ts[j]=z:=by rw[dl q]at C;exact wa C
    simp[U,W,m]
   rw[L];refine⟨_,ea 1 (by simp) (by simp) (by simp) (by simp;exact Gi _ _),?_⟩;simp[At,clean]
 .have g:j=8:=by omega
  subst g;apply Co;apply yW;simp;apply Am;have L:LU fs[k] ts=false:=by
   unfold LU;rw[E2];intro x X;obtain⟨i,hi,rfl⟩:=oi.1 X;have s:i<8:=by simp[t.1,u.1]at hi;exact hi
   have o:i<Z fs[k]:=by rw[t.1];exact s
   have q:i<Z ts:=by rw[u.1];exact s
   have:=N i s;simp[o,q]at this;simp[this]
  rw[L];refine⟨_,ea 1 (by simp) (by simp) (by simp) (by simp;exact Gi _ _),?_⟩;simp[At,clean]
def qG{σ:Type}(enc:σ->Sg)(Good:σ->Prop)(step:σ->Nat->σ)(target:σ)(all rem:List Nat)(S:Sg):Prop:=∃s,S=enc s/\Good s/\rem.foldl step s=target/\∀b∈rem,b∈all
theorem we{j c:Nat}(hj:j<8)(g:c<64):bv .i64 (bv .i64 (64 * (j:Int))+(c:Int))=((64 * j+c:Nat):Int):=by rw[abz,abz];omega
theorem wy{m:Nat}(g:m<2 ^ 64)(h0:m≠0):bv .u64 ((m:Int) - 1)=((m - 1:Nat):Int):=by rw[ac9];omega
abbrev abH:=@List.nil_append
abbrev acz:=@List.mem_cons_self
theorem YU{σ:Type}(enc:σ->Sg)(Good:σ->Prop)(step:σ->Nat->σ)(ws:List Nat)(H:Ii ws)(r:Nat)(f:FuncId)(k:List V)
  (v:∀s,Good s->(enc s)[r]?=al (.row J 8 [Dl ws])) (K:∀s b,b∈F0 ws->Good s->Good (step s b)/\AH prog f (.d (AF b)::k) (enc s) (.CA []) (enc (step s b))) (u:σ) (h0:Good u):
  AH prog 229 [.ptr r 1 0 0,.fn (.func f) [] k] (enc u) (.CA []) (enc ((F0 ws).foldl step u)):=by
 refine zC func229 27 rfl λwf _=>?_;have B:=BO H;apply yW;simp;apply Bp;refine zL 8 (λj tm S=>tm 1=.fn (.func f) [] k/\tm 6=.ptr r 1 0 0/\tm 7=.d (AF j)/\qG enc Good step ((F0 ws).foldl step u) (F0 ws) (OU ws j) S) (by simp;exact⟨u,rfl,h0,rfl,λ_ h=>h⟩) ?_;rintro j tm S hj ⟨t1,t6,t7,s,rfl,z,i,g⟩;apply yW;simp[t7];apply xC;simp;refine⟨λL=>?_,λY=>?_⟩
 .have o:j<8:=by omega
  have C:j<=7:=by omega
  obtain⟨w,A,M⟩:=H.get j o;have E:=KL A (by omega);have N:=v s z;apply xK;apply xB;refine yD (A3 6 []) (by kernel_rfl) ?_;simp;apply yA 0;simp[t6,t7,N,L,o,C,B,E,Dl];apply Bp;rw[Wd o A]at i g;refine aew (λm tm S=>m<2 ^ 64/\tm 1=.fn (.func f) [] k/\tm 4=.d (AF j)/\tm 6=.ptr r 1 0 0/\tm 7=.d (AF j)/\tm 5=.d (.int .u64 (m:Int))/\qG enc Good step ((F0 ws).foldl step u) (F0 ws) (LH (64 * j) m++OU ws (j+1)) S) ⟨w,_,_,ap,M,by simp[t1],by simp,by simp[t6],by simp[t7],by simp,s,rfl,z,i,g⟩ ?_;rintro m tm S ⟨q,t1,t4,t6,t7,t5,s,rfl,z,i,g⟩;refine xS (yW ?_);simp[t5];by_cases t:m=0
  .subst t;rw[WS,abH]at i g;apply AQ;simp;apply Co;apply yV;simp[t7];refine⟨o,_,_,ap,?_⟩;simp[t1,t6,AL o (by simp[maxLen])];exact⟨s,rfl,z,i,g⟩
  .have P:¬(m:Int)=0:=by omega
   rw[WY _ q t,GT]at i g;obtain⟨Q,R⟩:=K s (64 * j+Lib.ctz 64 m) (g _ acz) z;have F:=tS m q;have T:Lib.ctz 64 m<64:=(Xp q t).choose_spec.2.2;have G:m - 1<2 ^ 64:=by omega
   have U:=eC q t;generalize W:Lib.ctz 64 m=c at *;apply AQ;simp[t];apply xK;apply xB;apply yT;apply yJ;simp[t1,t4,t5];refine Bz (F) rfl (by simp[nR]) (yJ ?_);simp;rw[we o T];refine ms rfl rfl (by simp) (f:=f) (args:=.d (AF ((64 * j+c:Nat):Int))::k) (by simp;try rfl) (by simp) R (yJ ?_);simp;have h1:=wy q t;have X:=u64_and m (m - 1) q G;apply yV;simp[t5,h1,X];refine⟨m&&& (m - 1),eC q t,_,_,ap,?_⟩;simp[t1,t4,t6,t7];exact⟨Nat.lt_trans U q,step s (64 * j+c),rfl,Q,i,λb hb=>g b (abT _ hb)⟩
 .have o:j=8:=by omega
  subst o;rw[bY]at i;simp at i;apply Co;rw[<-i];refine⟨_,ap,?_⟩;simp[At]
end Go.Koi
open Go.Koi.D renaming int->bi
namespace Go.Koi
open Go.Proofs Tryz DT
def D6(n:Nat)(ws:List Nat):Prop:=Ii ws/\∀b∈F0 ws,b<n
def Hj(n:Nat)(B6:List (List Nat)):Prop:=Z B6=n/\∀g∈B6,D6 n g
theorem Ii.Oj{ws:List Nat}(h:Ii ws):∃a b c d e f g i,ws=[a,b,c,d,e,f,g,i]:=by
 obtain⟨h1,_⟩:=h;match ws,h1 with
 |[a,b,c,d,e,f,g,i],_=>exact⟨a,b,c,d,e,f,g,i,rfl⟩
@[simp] theorem um(ws:List Nat):Aj (Dl ws)=F9 ws:=rfl
@[simp] theorem xz(ws:List Nat):Ap (Dl ws)=true:=rfl
@[simp] theorem xn(ws:List Nat):Bu (Dl ws)=false:=rfl
@[simp] theorem vM(ws:List Nat):strip (Dl ws)=Dl ws:=rfl
@[simp] theorem wL(ws:List Nat):need (Dl ws)=True:=rfl
@[simp] theorem vJ(n:Nat)(ws:List Nat):AP n (Dl ws)=true:=Nk n ws
theorem NU(ρ:Nat->Nat):∀g:List Nat,CE ρ (F9 g)=F9 g
 |[]=>rfl
 |w::g=>by have:=NU ρ g;simp only[F9,ii]at *;simp[CE,this]
@[simp] theorem qT(ρ:Nat->Nat)(ws:List Nat):BU ρ (Dl ws)=Dl ws:=by
 have:=NU ρ ws;unfold Dl;simp[BU,this]
@[simp] theorem TY(ρ:Nat->Nat):∀g:List (List Nat),CE ρ (g.map Dl)=g.map Dl
 |[]=>rfl
 |x::g=>by have:=TY ρ g;simp[CE,qT,this]
@[simp] theorem uR(ρ:Nat->Nat)(fs:List (List Nat))(i:Nat)(x:List Nat):CE ρ ((fs.map Dl).set i (Dl x))=(fs.map Dl).set i (Dl x):=by
 rw[<-gl,TY]
@[simp] theorem Zi(n:Nat)(fs:List (List Nat)):Au n (fs.map Dl)=true:=Gi n fs
@[simp] theorem pf(n:Nat)(fs:List (List Nat))(i:Nat)(x:List Nat):Au n ((fs.map Dl).set i (Dl x))=true:=by
 rw[<-gl,Zi]
def mC(p:List A7)(g h:List Nat)(f n:Nat)(em:Bool):List V:=.d (Av p)::(F9 g++(F9 h++[.row f n,.d (.bool em)]))
def Ey(p:List A7)(g h:List Nat)(f n:Nat)(em:Bool):O:=.row J 19 [.agg (mC p g h f n em)]
abbrev th:=@List.mem_range
theorem az{base w b:Nat}:b∈LH base w↔∃i<64,w.testBit i=J/\b=base+i:=by
 simp[LH,fd];constructor
 .rintro⟨i,⟨h1,g⟩,rfl⟩;exact⟨i,h1,g,rfl⟩
 .rintro⟨i,h1,g,rfl⟩;exact⟨i,⟨h1,g⟩,rfl⟩
abbrev acp:=@List.drop_zero
theorem Kg{ws:List Nat}{b:Nat}:b∈F0 ws↔b<512/\(ws.getD (b / 64) 0).testBit (b % 64)=true:=by
 simp[F0,OU,List.mem_flatMap,az];constructor
 .rintro⟨k,o,i,hi,g,rfl⟩;have h:(64 * k+i) / 64=k:=by omega
  have j:(64 * k+i) % 64=i:=by omega
  rw[h,j];exact⟨by omega,g⟩
 .rintro⟨h1,m⟩;exact⟨b / 64,by omega,b % 64,by omega,m,by omega⟩
theorem ew{ss ts:List Nat}(i:Ii ss)(j:Ii ts){b:Nat}(h:b∈F0 (LC ss ts)):b∈F0 ss\/b∈F0 ts:=by
 rw[Kg]at h;simp[Kg];obtain⟨h1,g⟩:=h;obtain⟨w,k,_⟩:=i.get (b / 64) (by omega);obtain⟨z,m,_⟩:=j.get (b / 64) (by omega);simp[LC,List.getElem?_zipWith,k,m]at g⊢;rcases g with g|g
 .exact .inl ⟨h1,g⟩
 .exact .inr ⟨h1,g⟩
abbrev adp:=@of_decide_eq_true
abbrev abY:=@List.getElem?_set
theorem bM{ws:List Nat}(j:Ii ws){i b:Nat}(hi:i<512)(h:b∈F0 (Jj ws i)):b∈F0 ws\/b=i:=by
 rw[Kg]at h⊢;obtain⟨h1,g⟩:=h;obtain⟨w,k,_⟩:=j.get (i / 64) (by omega);by_cases e:b / 64=i / 64
 .have m:i / 64<Z ws:=by rw[j.1];omega
  simp[Jj,e,m]at g⊢;rcases g with g|g
  .exact .inl ⟨h1,g⟩
  .right;rw[Nat.testBit_two_pow]at g;have g:=adp g;omega
 .left;refine⟨h1,?_⟩;simp[Jj,ru e]at g⊢;exact g
def BN:List Nat:=[0,0,0,0,0,0,0,0]
theorem EG:V.agg [V.d (bi .u64 0),V.d (bi .u64 0),V.d (bi .u64 0),V.d (bi .u64 0),V.d (bi .u64 0),V.d (bi .u64 0),V.d (bi .u64 0),V.d (bi .u64 0)]=Dl BN:=rfl
theorem Br(n:Nat):D6 n BN:=by
 refine⟨⟨rfl,λw g=>by simp[BN]at g;subst g;decide⟩,λb hb=>?_⟩;rw[Kg]at hb;obtain⟨h1,h⟩:=hb;have:∀k<8,BN.getD k 0=0:=by decide
 rw[this _ (by omega)]at h;simp at h
theorem D6.or{n:Nat}{ss ts:List Nat}(g:D6 n ss)(h:D6 n ts):D6 n (LC ss ts):=
 ⟨NV g.1 h.1,λb hb=>(ew g.1 h.1 hb).elim (g.2 b) (h.2 b)⟩
theorem D6.add{n:Nat}{ws:List Nat}(g:D6 n ws){i:Nat}(hi:i<n)(hn:n<=512):D6 n (Jj ws i):=
 ⟨Yo g.1 i (by omega),λb hb=>(bM g.1 (by omega) hb).elim (g.2 b) λe=>by omega⟩
def OV(ts:List Nat)(B6:List (List Nat))(i:Nat):List (List Nat):=B6.set i (LC (B6.getD i []) ts)
def LM(B6:List (List Nat))(g h:List Nat):List (List Nat):=(F0 g).foldl (OV h) B6
theorem QN{n:Nat}{ts:List Nat}(m:D6 n ts){B6:List (List Nat)}(g:Hj n B6){i:Nat}(hi:i<n):Hj n (OV ts B6 i):=by
 refine⟨by simp[OV,g.1],λo j=>?_⟩;rcases ach j with h|h
 .exact g.2 _ h
 .have k:i<Z B6:=by rw[g.1];exact hi
  have:B6.getD i []=B6[i]:=by simp[k]
  rw[h,this];exact(g.2 _ (cF k)).or m
theorem PM{n:Nat}{ss ts:List Nat}(g:D6 n ss)(i:D6 n ts){B6:List (List Nat)}(j:Hj n B6):Hj n (LM B6 ss ts):=by
 unfold LM;have:∀(l:List Nat) (B6:List (List Nat)),(∀b∈l,b<n)->Hj n B6->Hj n (l.foldl (OV ts) B6):=λl=>by
  induction l with
  |nil=>intro B6 _ h;exact h
  |cons b l k=>intro B6 h1 m;exact k _ (λx o=>h1 x (abT _ o)) (QN i m (h1 b acz))
 exact this _ _ g.2 j
theorem dI(p:List A7)(j m:List Nat)(n:Nat)(em:Bool)(o:Ii j)(q:Ii m)(B6:List (List Nat))(ts:List Nat)(u:D6 n ts)(s:Hj n B6)(i:Nat)(hi:i<n):
  AH a8 230 [.d (AF i),.ptr 2 1 0 0,.ptr 3 1 0 0] [Je B6,Ey p j m 0 n em,.row J 1 [.ptr 1 1 0 0],Je [ts]] (.CA []) [Je (OV ts B6 i),Ey p j m 0 n em,.row J 1 [.ptr 1 1 0 0],Je [ts]]:=by
 obtain⟨w,z,A,B,C,E,F,G,rfl⟩:=o.Oj;obtain⟨H,K,L,M,N,P,Q,R,rfl⟩:=q.Oj;have h:i<Z B6:=by rw[s.1];exact hi
 have t:B6.getD i []=B6[i]:=by simp[h]
 have v:OV ts B6 i=B6.set i (LC B6[i] ts):=by unfold OV;rw[t]
 have hn:n=Z B6:=s.1.symm;subst hn;rw[v];have hj:=Xj (fs:=B6) (k:=i) (ss:=B6[i]) (ts:=ts) (by simp[h]) (s.2 _ (cF h)).1 u.1;unfold Je Ey mC F9;refine zC func230 12 rfl λwf _=>?_;have g:=BO u.1;refine yE (A3 7 [15]) (by kernel_rfl) ?_;simp;apply yA 1;simp[h,g];unfold Je at hj;refine AC (xT [1,1,0,0,0,0,0]) (hj) [0] (by kernel_rfl) rfl (by simp[h,g,Aa];try rfl) ?_;simp;apply xM;refine⟨_,rr (by simp),?_⟩;simp[At]
@[simp] theorem YE(ρ:Nat->Nat)(fs:List (List Nat)):DM ρ (Je fs)=Je fs:=by simp[Je]
@[simp] theorem ZD(n:Nat)(fs:List (List Nat)):Ao n (Je fs)=true:=by simp[Je]
@[simp] theorem bW(ρ:Nat->Nat):∀l m:List V,CE ρ (l++m)=CE ρ l++CE ρ m
 |[],m=>rfl
 |x::l,m=>by simp[CE,bW ρ l m]
theorem Oc(n:Nat):∀l m:List V,Au n (l++m)=(Au n l&&Au n m)
 |[],m=>by simp
 |x::l,m=>by have:=Oc n l m;simp[Au,this,ads]
@[simp] theorem xy(ρ:Nat->Nat)(p:List A7)(g h:List Nat)(f n:Nat)(em:Bool):DM ρ (Ey p g h f n em)=Ey p g h (ρ f) n em:=by
 simp[Ey,mC,NU]
theorem Bc(k:Nat)(p:List A7)(g h:List Nat)(f n:Nat)(em:Bool):Ao k (Ey p g h f n em)=decide (f<k):=by
 simp[Ey,mC,Jx]
theorem DU(ρ:Nat->Nat)(wr:Bool)(sz:Nat)(els:List V):DM ρ (.row wr sz els)=.row wr sz (CE ρ els):=rfl
theorem A0(k:Nat)(wr:Bool)(sz:Nat)(els:List V):Ao k (.row wr sz els)=Au k els:=rfl
def lG(p:List A7)(g h:List Nat)(n:Nat)(em:Bool)(B6:List (List Nat)):Sg:=[Je B6,Ey p g h 0 n em,.row J 1 [.ptr 1 1 0 0]]
theorem Yn(p:List A7)(g h:List Nat)(n:Nat)(em:Bool)(j:Ii g)(k:Ii h)(B6:List (List Nat))(ss ts:List Nat)(i:D6 n ss)(m:D6 n ts)(w:Hj n B6):
  AH a8 228 [Dl ss,Dl ts,.ptr 2 1 0 0] (lG p g h n em B6) (.CA []) (lG p g h n em (LM B6 ss ts)):=by
 have t:=YU (λB6=>lG p g h n em B6++[.row J 8 [Dl ss],.row J 8 [Dl ts]]) (Hj n) (OV ts) ss i.1 3 230 [.ptr 2 1 0 0,.ptr 4 1 0 0] (λs _=>by simp[lG]) (λs b hb u=>⟨QN m u (i.2 b hb),by
  have h1:=dI p g h n em j k s ts m u b (i.2 b hb);have v:=h1.Ee (S:=lG p g h n em s++[.row J 8 [Dl ss],.row J 8 [Dl ts]]) [0,1,2,4] (by simp[-DM,-Ao,lG,Bc,DU,A0];rfl) (by simp) (by simp);simp[-DM,-Ao,DU,lG]at v⊢;exact v⟩) B6 w
 have o:=BO i.1;have q:=BO m.1;refine zC func228 7 rfl λwf _=>?_;unfold lG at t⊢;apply yW;simp[o,q];apply yT;apply yJ;simp;refine xY (t) _ rfl rfl ?_;simp[-Ao,Bc,A0];apply yJ;simp;refine⟨_,ea 3 (by simp[LM]) (by simp) (by simp) (by simp[-Ao,Bc,A0]),?_⟩;simp[At]
def gA(p:List A7):Prop:=Z p<=512/\∀(i:Nat) (x:A7),p[i]?=some x->(x.kind=2\/x.kind=3\/x.kind=4->0<=x.a/\x.a<i)/\(x.kind=2\/x.kind=3->0<=x.b/\x.b<i)
structure WR where
 f:List Nat
 l:List Nat
 e:Bool
 B6:List (List Nat)
def IJ(p:List A7):Nat->Nat->List (List Nat)->WR
 |0,_,B6=>⟨BN,BN,J,B6⟩
 |k+1,i,B6=>match p[i]? with
  |none=>⟨BN,BN,J,B6⟩
  |some x=>
   if x.kind=1 then⟨Jj BN i,Jj BN i,am,B6⟩
   else if x.kind=2 then
    let r:=IJ p k x.a.toNat B6
    let q:=IJ p k x.b.toNat r.B6
    ⟨if r.e then LC r.f q.f else r.f,if q.e then LC q.l r.l else q.l,r.e&&q.e,LM q.B6 r.l q.f⟩
   else if x.kind=3 then
    let r:=IJ p k x.a.toNat B6
    let q:=IJ p k x.b.toNat r.B6
    ⟨LC r.f q.f,LC r.l q.l,r.e||q.e,q.B6⟩
   else if x.kind=4 then
    let r:=IJ p k x.a.toNat B6
    ⟨r.f,r.l,J,LM r.B6 r.l r.f⟩
   else⟨BN,BN,J,B6⟩
def Md(n:Nat)(r:WR):Prop:=D6 n r.f/\D6 n r.l/\Hj n r.B6
theorem DK{p:List A7}(hn:Z p<=512):∀(k i:Nat) (B6:List (List Nat)),Hj (Z p) B6->Md (Z p) (IJ p k i B6)
 |0,_,B6,h=>⟨Br _,Br _,h⟩
 |k+1,i,B6,h=>by
  unfold IJ;split
  .exact⟨Br _,Br _,h⟩
  .rename_i x q;have hi:i<Z p:=Ai q;split
   .exact⟨(Br _).add hi hn,(Br _).add hi hn,h⟩
   .split
    .obtain⟨r1,r2,g⟩:=DK hn k x.a.toNat B6 h;obtain⟨j,m,o⟩:=DK hn k x.b.toNat _ g;refine⟨?_,?_,PM r2 j o⟩
     .simp[];split
      .exact r1.or j
      .exact r1
     .simp[];split
      .exact m.or r2
      .exact m
    .split
     .obtain⟨r1,r2,g⟩:=DK hn k x.a.toNat B6 h;obtain⟨j,m,o⟩:=DK hn k x.b.toNat _ g;exact⟨r1.or j,r2.or m,o⟩
     .split
      .obtain⟨r1,r2,g⟩:=DK hn k x.a.toNat B6 h;exact⟨r1,r2,PM r2 r1 g⟩
      .exact⟨Br _,Br _,h⟩
def QX:List V:=[.ptr 0 1 0 0,.ptr 4 1 0 0,.ptr 5 1 0 0]
def Lc(p:List A7)(B6:List (List Nat)):Sg:=[.row J 1 [.d (Av p)],Je B6,Ey p BN BN 1 (Z p) am,.row J 1 [.ptr 2 1 0 0],.row J 1 [.fn (.func 232) [] QX],.row J 1 [.fn (.func 228) [] [.ptr 3 1 0 0]]]
def Zp(ws:List Nat):D:=.agg (ws.map λ(w:Nat)=>.int .u64 (w:Int))
theorem Eu(S:Sg):∀g:List Nat,Ed S (F9 g)=some (g.map λ(w:Nat)=>bi .u64 (w:Int))
 |[]=>rfl
 |w::g=>by have:=Eu S g;simp[F9]at *;simp[this]
@[simp] theorem xx(S:Sg)(ws:List Nat):BC S (Dl ws)=some (Zp ws):=by
 unfold Dl Zp;simp[Eu]
def j5(r:WR):V:=.CA [Dl r.f,Dl r.l,.d (.bool r.e)]
def YD(r:WR):D:=.CA [Zp r.f,Zp r.l,.bool r.e]
theorem Lw{f:FuncId}{args:List V}{S S':Sg}{r:WR}(h:AH a8 f args S (.d (YD r)) S'):AH a8 f args S (j5 r) S':=by
 have pl:∀(g:List Nat) (G:Gh) (w:World) (x:Value),CV G S' w (.d (Zp g)) x->CV G S' w (Dl g) x:=λg G w x h=>by
  have:=h.vo;simpa[Dl,F9,lm]using this
 refine h.conv λG w x k=>k.vB.iM rfl λi hi m v j=>?_
 match i,hi with
 |0,_=>exact pl _ _ _ _ j
 |1,_=>exact pl _ _ _ _ j
 |2,_=>exact j
theorem XX{p:List A7}{i:Nat}{x:A7}(m:p[i]?=some x)(s:x.kind=1)(hn:Z p<=512)(B6:List (List Nat)):
  AH a8 232 (.d (AF i)::QX) (Lc p B6) (.d (YD ⟨Jj BN i,Jj BN i,am,B6⟩)) (Lc p B6):=by
 have hi:i<Z p:=Ai m;have o:p[i]=x:=by rw[dl hi]at m;exact wa m
 have q:=(Br 1).1;have j:AH a8 233 [.ptr 0 1 0 0,.d (AF i)] [.row J 8 [Dl BN]] (.CA []) [.row J 8 [Dl (Jj BN i)]]:=by
  have:=YL (fs:=[BN]) (k:=0) (ws:=BN) rfl q i (by omega);simpa[Je]using this
 have g:=BO (Yo q i (by omega));have h:=BO q;unfold QX;refine zD func232 116 rfl λwf _=>?_;unfold Lc;apply yW;simp[EG,h];apply yW;simp[hi,o];refine xS (yW ?_);simp[s];apply Bp;apply yW;simp;apply AQ;simp;apply yS;apply yJ;simp;refine xF (j) [6] rfl ?_;simp[-DM,DU];apply yJ;simp;apply yW;simp[g,h];apply Am;refine⟨_,_,_,ap,?_,?_,ea 6 rfl (by simp) (by simp) (by simp[-Ao,Bc,A0,QX])⟩
 .simp[g]
 .simp[YD,g,Dl,Eu,Zp]
theorem V6{p:List A7}{i:Nat}{x:A7}(h:p[i]?=some x)(j:x.kind≠1)(q:x.kind≠2)(k:x.kind≠3)(m:x.kind≠4)(B6:List (List Nat)):
  AH a8 232 (.d (AF i)::QX) (Lc p B6) (.d (YD ⟨BN,BN,J,B6⟩)) (Lc p B6):=by
 have hi:i<Z p:=Ai h;have o:p[i]=x:=by rw[dl hi]at h;exact wa h
 have s:=(Br 1).1;have g:=BO s;unfold QX;refine zD func232 116 rfl λwf _=>?_;unfold Lc;apply yW;simp[EG,g];apply yW;simp[hi,o];refine xS (yW ?_);simp;apply Bp;apply yW;simp;apply AQ;simp[j];apply yW;simp;apply AQ;simp[q];apply yW;simp;apply AQ;simp[k];apply yW;simp;apply AQ;simp[m];apply B8;(repeat apply xS);refine yE [0,2,5,7,8] (by kernel_rfl) ?_;simp;(iterate 1 (refine H3 (by simp[g]) ?_;simp[g]));apply yA 1;simp[g];apply xX 2 (by kernel_rfl);simp[g,Aa];apply xX 1 (by kernel_rfl);simp[g,Aa];apply yA 0;simp;apply Am;refine⟨_,_,_,ap,?_,?_,ea 6 rfl (by simp) (by simp) (by simp[-Ao,Bc,A0,QX])⟩
 .simp[g]
 .simp[YD,g,Dl,Eu,Zp]
theorem UJ{ss ts:List Nat}(g:Ii ss)(h:Ii ts):AH a8 231 [.ptr 0 1 0 0,Dl ts] [.row J 8 [Dl ss]] (.CA []) [.row J 8 [Dl (LC ss ts)]]:=by
 have:=Xj (fs:=[ss]) (k:=0) (ss:=ss) (ts:=ts) rfl g h;simpa[Je]using this
theorem eK{p:List A7}{i:Nat}{x:A7}(v:p[i]?=some x)(B:x.kind=2){B6:List (List Nat)}{r q:WR}(C:Md (Z p) r)(E:Md (Z p) q)
  (c1:AH a8 232 (.d (AF x.a)::QX) (Lc p B6) (j5 r) (Lc p r.B6)) (c2:AH a8 232 (.d (AF x.b)::QX) (Lc p r.B6) (j5 q) (Lc p q.B6)):
  AH a8 232 (.d (AF i)::QX) (Lc p B6) (.d (YD ⟨if r.e then LC r.f q.f else r.f,if q.e then LC q.l r.l else q.l,r.e&&q.e,LM q.B6 r.l q.f⟩)) (Lc p (LM q.B6 r.l q.f)):=by
 have hi:i<Z p:=Ai v;have w:p[i]=x:=by rw[dl hi]at v;exact wa v
 have z:=(Br 1).1;have g:=BO z;obtain⟨r1,r2,H⟩:=C;obtain⟨u,A,F⟩:=E;have o:=Yn p BN BN (Z p) am z z q.B6 r.l q.f r2 u F;have G:=UJ r1.1 u.1;have s:=UJ A.1 r2.1;have l1:=BO r1.1;have l2:=BO r2.1;have h:=BO u.1;have j:=BO A.1;have k:=BO (NV r1.1 u.1);have m:=BO (NV A.1 r2.1);unfold QX at c1 c2⊢;refine zD func232 116 rfl λwf _=>?_;unfold Lc j5 at c1 c2;unfold Lc;unfold QX at *;unfold lG at o;apply yW;simp[EG,g];apply yW;simp[hi,w];refine xS (yW ?_);simp[B];apply Bp;apply yW;simp;apply AQ;simp;apply yW;simp;apply AQ;simp;apply yS;apply yJ;simp;refine xY (c1) _ rfl rfl ?_;simp[-Ao,Bc,A0];apply yJ;simp[l1,l2,EG,g];apply yS;apply yJ;simp;refine xY (c2) _ rfl rfl ?_;simp[-Ao,Bc,A0];apply yJ;simp[h,j,EG,g];apply yS;apply yJ;simp[l2,h];refine xF (o) [1,2,3] rfl ?_;simp[-DM,-Ao,DU,A0,Bc];apply yJ;simp;refine xS (yW ?_);simp;cases h1:r.e with
 |true=>
  apply AQ;simp;apply yT;apply yJ;simp[h];refine xF (G) [9] rfl ?_;simp[-DM,-Ao,DU,A0];apply yJ;simp;refine xS (yW ?_);simp;cases t:q.e with
  |true=>
   apply AQ;simp;apply yT;apply yJ;simp[l2];refine xF (s) [12] rfl ?_;simp[-DM,-Ao,DU,A0];apply yJ;simp;apply yW;simp[k,m,g];apply Am;refine⟨_,_,_,ap,?_,?_,ea 6 rfl (by simp) (by simp) (by simp[-Ao,Bc,A0])⟩
   .simp[k,m]
   .simp[YD,Dl,Eu,Zp,k,m]
  |false=>
   apply AQ;simp;apply xK;apply yW;simp[j,k,g];apply Am;refine⟨_,_,_,ap,?_,?_,ea 6 rfl (by simp) (by simp) (by simp[-Ao,Bc,A0])⟩
   .simp[j,k]
   .simp[YD,Dl,Eu,Zp,j,k]
 |false=>
  apply AQ;simp;apply xK;refine xS (yW ?_);simp;cases t:q.e with
  |true=>
   apply AQ;simp;apply yT;apply yJ;simp[l2];refine xF (s) [12] rfl ?_;simp[-DM,-Ao,DU,A0];apply yJ;simp;apply yW;simp[l1,m,g];apply Am;refine⟨_,_,_,ap,?_,?_,ea 6 rfl (by simp) (by simp) (by simp[-Ao,Bc,A0])⟩
   .simp[l1,m]
   .simp[YD,Dl,Eu,Zp,l1,m]
  |false=>
   apply AQ;simp;apply xK;apply yW;simp[l1,j,g];apply Am;refine⟨_,_,_,ap,?_,?_,ea 6 rfl (by simp) (by simp) (by simp[-Ao,Bc,A0])⟩
   .simp[l1,j]
   .simp[YD,Dl,Eu,Zp,l1,j]
theorem fK{p:List A7}{i:Nat}{x:A7}(k:p[i]?=some x)(w:x.kind=3){B6:List (List Nat)}{r q:WR}(z:Md (Z p) r)(A:Md (Z p) q)
  (c1:AH a8 232 (.d (AF x.a)::QX) (Lc p B6) (j5 r) (Lc p r.B6)) (c2:AH a8 232 (.d (AF x.b)::QX) (Lc p r.B6) (j5 q) (Lc p q.B6)):
  AH a8 232 (.d (AF i)::QX) (Lc p B6) (.d (YD ⟨LC r.f q.f,LC r.l q.l,r.e||q.e,q.B6⟩)) (Lc p q.B6):=by
 have hi:i<Z p:=Ai k;have m:p[i]=x:=by rw[dl hi]at k;exact wa k
 have B:=(Br 1).1;have g:=BO B;obtain⟨r1,r2,E⟩:=z;obtain⟨o,s,F⟩:=A;have C:=UJ r1.1 o.1;have t:=UJ r2.1 s.1;have l1:=BO r1.1;have l2:=BO r2.1;have h:=BO o.1;have j:=BO s.1;have u:=BO (NV r1.1 o.1);have v:=BO (NV r2.1 s.1);unfold QX at c1 c2⊢;refine zD func232 116 rfl λwf _=>?_;unfold Lc j5 at c1 c2;unfold Lc;unfold QX at *;apply yW;simp[EG,g];apply yW;simp[hi,m];refine xS (yW ?_);simp[w];apply Bp;apply yW;simp;apply AQ;simp;apply yW;simp;apply AQ;simp;apply yW;simp;apply AQ;simp;apply yS;apply yJ;simp;refine xY (c1) _ rfl rfl ?_;simp[-Ao,Bc,A0];apply yJ;simp[l1,l2,EG,g];apply yS;apply yJ;simp;refine xY (c2) _ rfl rfl ?_;simp[-Ao,Bc,A0];apply yJ;simp[h,j,EG,g];apply yS;apply yJ;simp[h];refine xF (C) [9] rfl ?_;simp[-DM,-Ao,DU,A0];apply yJ;simp;apply yS;apply yJ;simp[j];refine xF (t) [10] rfl ?_;simp[-DM,-Ao,DU,A0];apply yJ;simp;apply yW;simp[u,v,g];apply Am;refine⟨_,_,_,ap,?_,?_,ea 6 rfl (by simp) (by simp) (by simp[-Ao,Bc,A0])⟩
 .simp[u,v]
 .simp[YD,Dl,Eu,Zp,u,v]
theorem iH{p:List A7}{i:Nat}{x:A7}(j:p[i]?=some x)(o:x.kind=4){B6:List (List Nat)}{r:WR}(q:Md (Z p) r)
  (c1:AH a8 232 (.d (AF x.a)::QX) (Lc p B6) (j5 r) (Lc p r.B6)):
  AH a8 232 (.d (AF i)::QX) (Lc p B6) (.d (YD ⟨r.f,r.l,J,LM r.B6 r.l r.f⟩)) (Lc p (LM r.B6 r.l r.f)):=by
 have hi:i<Z p:=Ai j;have k:p[i]=x:=by rw[dl hi]at j;exact wa j
 have m:=(Br 1).1;have g:=BO m;obtain⟨r1,r2,s⟩:=q;have h:=Yn p BN BN (Z p) am m m r.B6 r.l r.f r2 r1 s;have l1:=BO r1.1;have l2:=BO r2.1;unfold QX at c1⊢;refine zD func232 116 rfl λwf _=>?_;unfold Lc j5 at c1;unfold Lc;unfold QX at *;unfold lG at h;apply yW;simp[EG,g];apply yW;simp[hi,k];refine xS (yW ?_);simp[o];apply Bp;apply yW;simp;apply AQ;simp;apply yW;simp;apply AQ;simp;apply yW;simp;apply AQ;simp;apply yW;simp;apply AQ;simp;apply yS;apply yJ;simp;refine xY (c1) _ rfl rfl ?_;simp[-Ao,Bc,A0];apply yJ;simp[l1,l2,EG,g];apply yS;apply yJ;simp[l1,l2];refine xF (h) [1,2,3] rfl ?_;simp[-DM,-Ao,DU,A0,Bc];apply yJ;simp;(repeat apply xS);refine yE [0,2,5,7,8] (by kernel_rfl) ?_;simp;(iterate 1 (refine H3 (by simp[l1]) ?_;simp[l1]));apply yA 1;simp[l2];apply xX 2 (by kernel_rfl);simp[g,l1,l2,Aa];apply xX 1 (by kernel_rfl);simp[g,l2,Aa];apply yA 0;simp;apply Am;refine⟨_,_,_,ap,?_,?_,ea 6 rfl (by simp) (by simp) (by simp[-Ao,Bc,A0])⟩
 .simp[l1,l2]
 .simp[YD,Dl,Eu,Zp,l1,l2]
abbrev acH:=@Int.toNat_of_nonneg
theorem Kv{p:List A7}(g:gA p):∀(k i:Nat) (B6:List (List Nat)),i<k->i<Z p->Hj (Z p) B6->AH a8 232 (.d (AF i)::QX) (Lc p B6) (j5 (IJ p k i B6)) (Lc p (IJ p k i B6).B6)
 |0,i,_,h,_,_=>by omega
 |k+1,i,B6,h,hi,o=>by
  obtain⟨x,m⟩:∃x,p[i]?=some x:=⟨p[i],dl hi⟩;obtain⟨ha,hb⟩:=g.2 i x m;unfold IJ;simp[m];by_cases k1:x.kind=1
  .rw[b8 k1];exact Lw (XX m k1 g.1 B6)
  .rw[a9 k1];by_cases k2:x.kind=2
   .rw[b8 k2];obtain⟨q,u⟩:=ha (.inl k2);obtain⟨s,v⟩:=hb (.inl k2);have j:=DK g.1 k x.a.toNat B6 o;have t:=DK g.1 k x.b.toNat _ j.2.2;have c1:=Kv g k x.a.toNat B6 (by omega) (by omega) o;have c2:=Kv g k x.b.toNat (IJ p k x.a.toNat B6).B6 (by omega) (by omega) j.2.2;rw[acH q]at c1;rw[acH s]at c2;exact Lw (eK m k2 j t c1 c2)
   .rw[a9 k2];by_cases k3:x.kind=3
    .rw[b8 k3];obtain⟨q,u⟩:=ha (.inr (.inl k3));obtain⟨s,v⟩:=hb (.inr k3);have j:=DK g.1 k x.a.toNat B6 o;have t:=DK g.1 k x.b.toNat _ j.2.2;have c1:=Kv g k x.a.toNat B6 (by omega) (by omega) o;have c2:=Kv g k x.b.toNat (IJ p k x.a.toNat B6).B6 (by omega) (by omega) j.2.2;rw[acH q]at c1;rw[acH s]at c2;exact Lw (fK m k3 j t c1 c2)
    .rw[a9 k3];by_cases k4:x.kind=4
     .rw[b8 k4];obtain⟨q,u⟩:=ha (.inr (.inr k4));have j:=DK g.1 k x.a.toNat B6 o;have c1:=Kv g k x.a.toNat B6 (by omega) (by omega) o;rw[acH q]at c1;exact Lw (iH m k4 j c1)
     .rw[a9 k4];exact Lw (V6 m k1 k2 k3 k4 B6)
def MW(p:List A7)(r:WR):Sg:=[.row J 1 [.d (Av p)],Je r.B6,Ey p r.f r.l 1 (Z p) r.e]
def J4(p:List A7):WR:=IJ p (Z p) (Z p - 1) (ke (Z p) BN)
theorem PO(n:Nat):Hj n (ke n BN):=⟨by simp,λg h=>by rw[List.eq_of_mem_replicate h];exact Br n⟩
theorem Rl(ρ:Nat->Nat)(n:Nat)(ws:List Nat):CE ρ (ke n (Dl ws))=ke n (Dl ws):=by
 have:=TY ρ (ke n ws);rwa [List.map_replicate]at this
theorem WW{p:List A7}(h:gA p)(h0:p≠[]):AH a8 187 [.d (Av p)] [] (.ptr 2 1 0 0) (MW p (J4 p)):=by
 have o:0<Z p:=adJ.2 h0;have i:(Z p:Int)<=1073741824:=by have:=h.1;omega
 have q:=DK h.1 (Z p) (Z p - 1) _ (PO (Z p));have j:=Kv h (Z p) (Z p - 1) (ke (Z p) BN) (by omega) (by omega) (PO _);have s:=BO (Br 1).1;refine j0 func187 (by kernel_rfl) rfl (by simp) λwf _=>?_;rw[ntmps187];apply yW;simp;refine PP (R:=λtm S=>tm 1=.ptr 0 1 0 0/\tm 3=.ptr 3 1 0 0/\S=[.row J 1 [.d (Av p)],Je (ke (Z p) BN),Ey p BN BN 1 (Z p) am,.row J 1 [.ptr 2 1 0 0]]) ?_ ?_
 .refine AW.regionF (by kernel_rfl) λK k=>?_;change Bf _ _ _ _ _ _ 8 (Array.replicate 8 am) _ _;refine ul 0 rfl (by kernel_rfl) ?_ ?_;(focus(simp;done));simp;refine ul 1 rfl (by kernel_rfl) ?_ ?_;(focus(simp;done));simp;refine ul 2 rfl (by kernel_rfl) ?_ ?_;(focus(simp;done));simp;refine Bf.jJ 3 6 [J,am,am] [am,am,am] (by kernel_rfl) rfl rfl (by kernel_rfl) (by kernel_rfl) ?_ ?_ ?_ ?_
  .simp[i,Aa]
  .simp[Aa]
  .simp;refine ul 4 rfl (by kernel_rfl) ?_ ?_;(focus(simp;done));simp;refine Bf.jJ 5 6 [J,am,am] [am,am,am] (by kernel_rfl) rfl rfl (by kernel_rfl) (by kernel_rfl) ?_ ?_ ?_ ?_
   .simp[Aa]
   .simp[Aa]
   .simp;refine Do 6 [am,am] (by kernel_rfl) rfl (by kernel_rfl) ?_ ?_;(focus(simp[Aa];done));simp;refine Do 7 [J,J] (by kernel_rfl) rfl (by kernel_rfl) ?_ ?_;(focus(simp[Aa];done));simp;refine aeB (by kernel_rfl) (k _ _ ⟨_,_,ap,?_⟩);simp[Je,Ey,mC,F9,BN,Dl]
   .simp;refine Do 5 [J,am,am] (by kernel_rfl) rfl (by kernel_rfl) ?_ ?_;(focus(simp[Aa];done));simp;refine Do 7 [J,J] (by kernel_rfl) rfl (by kernel_rfl) ?_ ?_;(focus(simp[Aa];done));simp;refine aeB (by kernel_rfl) (k _ _ ⟨_,_,AJ.perm (S':=[.row J 1 [.d (Av p)],Je (ke (Z p) BN),Ey p BN BN 1 (Z p) am,.row J 1 [.ptr 2 1 0 0]]) [0,1,3,2] (by decide) (by simp) (by simp) ?_ (by simp) [0,1,3,2] (by simp;decide) (by simp),?_⟩)
    .simp[Je,Ey,mC,F9,BN,EG,Rl]
    .simp
  .simp;refine Do 3 [J,am,am] (by kernel_rfl) rfl (by kernel_rfl) ?_ ?_;(focus(simp[i,Aa];done));simp;refine ul 4 rfl (by kernel_rfl) ?_ ?_;(focus(simp;done));simp;refine Do 5 [J,am,am] (by kernel_rfl) rfl (by kernel_rfl) ?_ ?_;(focus(simp[Aa];done));simp;refine Do 7 [J,J] (by kernel_rfl) rfl (by kernel_rfl) ?_ ?_;(focus(simp[Aa];done));simp;refine aeB (by kernel_rfl) (k _ _ ⟨_,_,AJ.perm (S':=[.row J 1 [.d (Av p)],Je (ke (Z p) BN),Ey p BN BN 1 (Z p) am,.row J 1 [.ptr 2 1 0 0]]) [0,3,1,2] (by decide) (by simp) (by simp) ?_ (by simp) [0,2,3,1] (by simp;decide) (by simp),?_⟩)
   .simp[Je,Ey,mC,F9,BN,EG,Rl]
   .simp
 .rintro tm S ⟨t1,t3,rfl⟩;unfold Lc j5 QX at j;apply yW;simp;apply yW;simp[t3];(repeat refine xS ?_);apply yV;simp[t1];(try simp only[yQ,reduceIte]);generalize t:IJ p (Z p) (Z p - 1) (ke (Z p) BN)=r at *;obtain⟨v,w,z,m⟩:=r;obtain⟨r1,r2,u⟩:=q;simp only[]at r1 r2 u j;have l1:=BO r1.1;have l2:=BO r2.1;obtain⟨A,B,C,E,F,G,H,L,rfl⟩:=r1.1.Oj;obtain⟨M,N,P,Q,T,U,W,X,rfl⟩:=r2.1.Oj;have g:bv .i64 ((Z p:Int) - 1)=((Z p - 1:Nat):Int):=by have:=h.1;rw[abz];omega
  refine yD (A3 7 [15,16,18,20,22,24,26,29,30,32,35,36,38,41]) (by kernel_rfl) ?_;simp;refine yA 1 ?_;simp[t1,t3,g];refine xL 9 _ (j) (by kernel_rfl) rfl rfl ?_;simp[-Ao,Bc,A0,Aa,t1,t3,g];refine yA 1 ?_;simp[Ey,mC,F9,BN];refine xX 1265 (by kernel_rfl) ?_;simp[F9,t1,t3,Aa];refine yA 1 ?_;simp;refine xX 85 (by kernel_rfl) ?_;simp[F9,t3,Aa];refine yA 1 ?_;simp;refine xX 29 (by kernel_rfl) ?_;simp[t3,Aa];apply xM;apply yW;simp[t3];refine Am ?_;(try simp only[yQ,reduceIte]);refine⟨_,ea 3 ?_ (by simp) (by simp) (by simp[-Ao,A0,ZD]),?_⟩
  .simp[MW,J4,t,Ey,mC,F9]
  .simp[At,clean]
def Gc(p:List A7)(B6:List (List Nat))(b:Int)(s:List Nat×List Nat)(i:Nat):List Nat×List Nat:=
 match p[i]? with
 |none=>s
 |some x=>if x.lo<=b/\b<=x.hi then(Jj s.1 i,LC s.2 (B6.getD i []))else s
def F7(s:ByteArray)(j:Nat):Int:=(s.get! j).toNat
def Y5(p:List A7)(g h:List Nat)(em:Bool)(B6:List (List Nat))(s:ByteArray)(j:Nat)(x:List Nat×List Nat):Sg:=
 [Je B6,Ey p g h 0 (Z p) em,.row J 1 [.ptr 1 1 0 0],.row J 1 [.d (.str s)],.row J 1 [.d (.int .i64 j)],.row J 8 [Dl x.1],.row J 8 [Dl x.2]]
theorem na{p:List A7}(Q:Z p<=512){u v:List Nat}(em:Bool)(w:Ii u)(z:Ii v){B6:List (List Nat)}(A:Hj (Z p) B6)(s:ByteArray){j:Nat}(hj:j<s.size){x:List Nat×List Nat}(h1:Ii x.1)(B:Ii x.2){i:Nat}(hi:i<Z p):
  AH a8 234 [.d (AF i),.ptr 3 1 0 0,.ptr 4 1 0 0,.ptr 2 1 0 0,.ptr 5 1 0 0,.ptr 6 1 0 0] (Y5 p u v em B6 s j x) (.CA []) (Y5 p u v em B6 s j (Gc p B6 (F7 s j) x i)):=by
 obtain⟨R,S,T,U,W,X,Y,a7,rfl⟩:=w.Oj;obtain⟨b0,b1,b2,b3,b4,b5,b6,b7,rfl⟩:=z.Oj;obtain⟨g,C⟩:=x;simp[]at h1 B;have K:Gc p B6 (F7 s j) (g,C) i=if p[i].lo<=F7 s j/\F7 s j<=p[i].hi then(Jj g i,LC C (B6.getD i []))else(g,C):=by simp[Gc,hi]
 rw[K];generalize L:p[i]=x at *;have h:i<Z B6:=by rw[A.1];exact hi
 have E:B6.getD i []=B6[i]:=by simp[h]
 rw[E];have m:=A.2 _ (cF h);have M:=UJ B m.1;have o:AH a8 233 [.ptr 0 1 0 0,.d (AF i)] [.row J 8 [Dl g]] (.CA []) [.row J 8 [Dl (Jj g i)]]:=by
  have:=YL (fs:=[g]) (k:=0) (ws:=g) rfl h1 i (by omega);simpa[Je]using this
 have F:bv .i64 (F7 s j)=F7 s j:=by
  unfold F7;have:=UInt8.toNat_lt (s.get! j);rw[abz];omega
 have G:(((s.get! j).toNat:Nat):Int)=F7 s j:=rfl;generalize F7 s j=q at *;have l1:=BO h1;have l2:=BO B;have N:=BO m.1;have H:Z B6=Z p:=A.1;unfold Y5 Ey mC F9;refine zC func234 44 rfl λwf _=>?_;apply yW;simp[hj,G,F];apply yS;apply yJ;simp[hi,L];(repeat apply xS);refine qr (t:=decide (x.lo<=q)&&decide (q<=x.hi)) ?_ (λhb=>?_) (λhb=>?_)
 .simp
 .simp at hb;rw[b8 hb];apply yS;apply yJ;simp;refine xF (o) [5] rfl ?_;simp[-DM,DU];apply yJ;simp;apply yT;apply yJ;simp[hi,H,Je,N];refine xF (M) [6] rfl ?_;simp[-DM,DU];apply yJ;simp;refine⟨_,rr (by simp),?_⟩;simp[At]
 .have P:¬(x.lo<=q/\q<=x.hi):=by simp at hb;omega
  rw[a9 P];apply B8;refine⟨_,rr (by simp),?_⟩;simp[At]
def UI(p:List A7)(r:WR)(s:ByteArray)(m:Bool):Sg:=MW p r++[.row J 1 [.d (.str s)],.row J 1 [.d (.bool m)]]
theorem oW(s:ByteArray)(m:Bool)(k:Int)(g:Bool):AH a8 189 [.d (AF k),.d (.bool g),.ptr 0 1 0 0,.ptr 1 1 0 0] [.row J 1 [.d (.str s)],.row J 1 [.d (.bool m)]] (.d (.bool J)) [.row J 1 [.d (.str s)],.row J 1 [.d (.bool (k==s.size&&g))]]:=by
 refine zC func189 14 rfl λwf _=>?_;apply yW;simp;apply yW;simp;apply yW;simp;apply Am;refine⟨_,rr (by simp),?_⟩;simp[At]
def UR(p:List A7)(r:WR)(s:ByteArray):Nat->Nat->List Nat->Bool->Bool
 |0,_,_,m=>m
 |k+1,j,g,m=>
  let x:=(F0 g).foldl (Gc p r.B6 (F7 s j)) (BN,BN)
  if x.1=BN then m else UR p r s k (j+1) x.2 (((j:Int)+1==s.size)&&LU x.1 r.l)
theorem Lz{p:List A7}(m:Z p<=512){B6:List (List Nat)}(k:Hj (Z p) B6)(b:Int){x:List Nat×List Nat}(h:D6 (Z p) x.1/\D6 (Z p) x.2){i:Nat}(hi:i<Z p):
  D6 (Z p) (Gc p B6 b x i).1/\D6 (Z p) (Gc p B6 b x i).2:=by
 have g:i<Z B6:=by rw[k.1];exact hi
 have j:B6.getD i []=B6[i]:=by simp[g]
 unfold Gc;simp only[dl hi,j];split
 .exact⟨h.1.add hi m,h.2.or (k.2 _ (cF g))⟩
 .exact h
theorem QI{σ:Type}{Good:σ->Prop}{step:σ->Nat->σ}{n:Nat}(g:∀s b,b<n->Good s->Good (step s b)):∀(l:List Nat) (s:σ),(∀b∈l,b<n)->Good s->Good (l.foldl step s)
 |[],_,_,h=>h
 |b::l,s,i,h=>QI g l _ (λx j=>i x (abT _ j)) (g s b (i b acz) h)
def xu(p:List A7)(r:WR)(s:ByteArray)(fin:Bool)(j:Nat)(S:Sg):Prop:=
 ∃g m,D6 (Z p) g/\UR p r s (s.size - j) j g m=fin/\S=UI p r s m++[.row J 1 [.ptr 2 1 0 0],.row J 1 [.d (.str s)],.row J 8 [Dl g]]
def Ug(p:List A7)(r:WR)(s:ByteArray)(m:Bool)(g:List Nat)(j:Nat)(x:List Nat×List Nat):Sg:=
 [.row J 1 [.d (Av p)],Je r.B6,Ey p r.f r.l 1 (Z p) r.e,.row J 1 [.d (.str s)],.row J 1 [.d (.bool m)],.row J 1 [.ptr 2 1 0 0],.row J 1 [.d (.str s)],.row J 8 [Dl g],.row J 1 [.d (.int .i64 j)],.row J 8 [Dl x.1],.row J 8 [Dl x.2]]
theorem Y9{p:List A7}(k:Z p<=512){r:WR}(h:Md (Z p) r)(s:ByteArray)(m:Bool){g:List Nat}(hn:D6 (Z p) g){j:Nat}(hj:j<s.size):
  AH a8 229 [.ptr 7 1 0 0,.fn (.func 234) [] [.ptr 6 1 0 0,.ptr 8 1 0 0,.ptr 5 1 0 0,.ptr 9 1 0 0,.ptr 10 1 0 0]] (Ug p r s m g j (BN,BN)) (.CA []) (Ug p r s m g j ((F0 g).foldl (Gc p r.B6 (F7 s j)) (BN,BN))):=
 YU (Ug p r s m g j) (λx=>D6 (Z p) x.1/\D6 (Z p) x.2) (Gc p r.B6 (F7 s j)) g hn.1 7 234 _ (λx _=>by simp[Ug]) (λx b hb i=>⟨Lz k h.2.2 _ i (hn.2 b hb),by
  have h1:=na k r.e h.1.1 h.2.1.1 h.2.2 s hj i.1.1 i.2.1 (hn.2 b hb);have o:=h1.Ee (S:=Ug p r s m g j x) [1,2,5,6,8,9,10] (by simp[-DM,-Ao,Ug,Y5,Bc,DU,A0]) (by simp[Y5]) (by simp);simp[-DM,-Ao,DU,Y5,Ug]at o⊢;exact o⟩) (BN,BN) ⟨Br _,Br _⟩
theorem tD{p:List A7}(hp:Z p<=512){r:WR}(X:Md (Z p) r)(s:ByteArray)(m:Bool):
  AH a8 188 [.ptr 2 1 0 0,.d (.str s),.fn (.func 189) [] [.ptr 3 1 0 0,.ptr 4 1 0 0]] (UI p r s m) (.CA []) (UI p r s (UR p r s s.size 0 r.f m)):=by
 refine j0 func188 (by kernel_rfl) rfl (by simp) λwf _=>?_;have a1:s.size<=maxLen:=by simp[HC,K0,Da]at wf;exact wf
 rw[ntmps188];have t:=BO (Br 1).1;have l1:=BO X.1.1;have Y:=X;obtain⟨rf,rl,re,q⟩:=r;obtain⟨r1,r2,r3⟩:=X;simp only[]at r1 r2 r3 l1;obtain⟨a0,u,a2,a3,a4,a5,a6,a7,rfl⟩:=r1.1.Oj;obtain⟨A,B,C,E,F,G,H,L,rfl⟩:=r2.1.Oj;have hfA:V.agg [V.d (bi .u64 (a0:Int)),V.d (bi .u64 (u:Int)),V.d (bi .u64 (a2:Int)),V.d (bi .u64 (a3:Int)),V.d (bi .u64 (a4:Int)),V.d (bi .u64 (a5:Int)),V.d (bi .u64 (a6:Int)),V.d (bi .u64 (a7:Int))]=Dl [a0,u,a2,a3,a4,a5,a6,a7]:=rfl;have M:V.agg [V.d (bi .u64 (A:Int)),V.d (bi .u64 (B:Int)),V.d (bi .u64 (C:Int)),V.d (bi .u64 (E:Int)),V.d (bi .u64 (F:Int)),V.d (bi .u64 (G:Int)),V.d (bi .u64 (H:Int)),V.d (bi .u64 (L:Int))]=Dl [A,B,C,E,F,G,H,L]:=rfl;generalize N:UR p _ s s.size 0 _ m=fin at *;unfold UI MW;refine xW λK h=>?_;simp;apply h;refine xW λK h=>?_;simp[Ey,mC,F9,hfA];apply h;refine xW λK h=>?_;simp;apply h;refine Bp ?_;refine FH s.size (λj tm S=>tm 2=.fn (.func 189) [] [.ptr 3 1 0 0,.ptr 4 1 0 0]/\tm 3=.ptr 5 1 0 0/\tm 4=.ptr 6 1 0 0/\tm 6=.ptr 7 1 0 0/\tm 15=.d (AF s.size)/\tm 16=.d (AF j)/\xu p ⟨[a0,u,a2,a3,a4,a5,a6,a7],[A,B,C,E,F,G,H,L],re,q⟩ s fin j S) (i0:=0) (ed _) (by simp;exact⟨_,m,r1,N,by simp[UI,MW,Ey,mC,F9]⟩) ?_;rintro j tm S hj ⟨t2,t3,t4,t6,t15,t16,P,m',i,o,rfl⟩;unfold UI MW;refine xW λK h=>?_;simp[t15,t16];apply h;refine xC ?_;simp;refine⟨λW=>?_,λzf=>?_⟩
 .have he:=Y9 hp Y s m' i W;have zg:s.size - j=(s.size - (j+1))+1:=by omega
  rw[zg]at o;simp only[UR]at o;have hxg:=QI (n:=Z p) (Good:=λx:List Nat×List Nat=>D6 (Z p) x.1/\D6 (Z p) x.2) (λx b hb hg=>Lz (p:=p) hp r3 (F7 s j) hg hb) (F0 P) (BN,BN) i.2 ⟨Br _,Br _⟩;generalize(F0 P).foldl (Gc p q (F7 s j)) (BN,BN)=x at *;obtain⟨w,nx⟩:=x;obtain⟨Q,g2⟩:=hxg;simp only[]at Q g2 o;have hm1:=oW s m' ((j:Int)+1) (LU w [A,B,C,E,F,G,H,L]);have R:=j7 (fs:=[w]) (k:=0) (ss:=w) (ts:=[A,B,C,E,F,G,H,L]) rfl Q.1 r2.1;have l2:=BO Q.1;have l3:=BO g2.1;have l4:=BO i.1;unfold Ug at he;simp only[gr,rc,Je,ii,aco]at R;refine xK ?_;refine xB ?_;refine xW λK h=>?_;simp[t16];apply h;refine xW λK h=>?_;simp[EG,t];apply h;(repeat refine xS ?_);refine H9 λK h=>?_;refine xJ ?_;simp[t3,t4];refine xY (he) _ rfl rfl ?_;simp[-Ao,Bc,A0,t6];refine xJ ?_;simp;refine CO (h _ _ ?_);(try simp only[xQ,reduceIte]);have T:∀S':Sg,CS ((Ed S' (F9 w)).getD []) [.int .u64 0,.int .u64 0,.int .u64 0,.int .u64 0,.int .u64 0,.int .u64 0,.int .u64 0,.int .u64 0]=decide (w=BN):=λS'=>by
   rw[Eu];obtain⟨c0,c1,c2,c3,c4,c5,c6,c7,rfl⟩:=Q.1.Oj;rw[gI];simp[CS,DY,BN]
  have U:bv .i64 ((j:Int)+1)=(j:Int)+1:=by rw[AL W a1];simp
  have hj2:s.size - (j+1)=s.size - j - 1:=by omega
  refine xS ?_;refine xD (A3 12 [25,26,28]) (by kernel_rfl) λK h=>?_;simp;(iterate 2 ((refine xG ?_ ?_);(focus(simp[l2,EG,t];done));simp[l2,EG]));refine Ad.uW (v:=.d (.bool (decide (w=BN)))) (λ_=>True) trivial (λS' _=>?_) ?_
  .obtain⟨c0,c1,c2,c3,c4,c5,c6,c7,rfl⟩:=Q.1.Oj;have z:=T [];simp[F9,Ed]at z;refine⟨by simp[Dl,F9,Ed,BN],?_,by simp⟩;simp[Dl,F9,Ed,BN];simp[BN]at z;exact z
  .simp;by_cases g:w=BN
   .rw[b8 g]at o;(iterate 8 (refine H3 (by simp[g,t3]) ?_;simp[g,t2,t3]));refine P4 rfl rfl (by simp) ?_;simp;refine Ad.vx [J,am,am,am,am,J,am,J,J,am,am,am] (by kernel_rfl) rfl (by simp) ?_;simp;refine xA 0 ?_;simp;refine xM (h _ _ ?_);(try simp only[xQ,reduceIte]);refine AQ ?_;simp;refine Am ?_;(try simp only[xQ,reduceIte]);rw[<-o];refine⟨_,ea 5 (by simp) (by simp) (by simp) (by simp[-Ao,Bc,A0]),?_⟩;simp[At]
   .rw[a9 g]at o;(iterate 8 ((refine xG ?_ ?_);(focus(simp[t3,Ey,mC,F9];done));simp[g,t2,t3,U,Ey,mC,F9]));rw[M];refine Ad.Xo R [9] rfl rfl (by simp;try rfl) ?_;simp;refine Ad.sO [J,am,am,am,am,J,am,J,J,am,am,am] hm1 [3,4] (by kernel_rfl) rfl rfl (by simp[Aa,t2,t3,M];try rfl) ?_;simp;refine xA 0 ?_;simp;refine xM (h _ _ ?_);refine AQ ?_;simp;refine xK ?_;refine xV λK h=>?_;simp[t6,l3,l4];apply h;refine xV λK h=>?_;simp[t16];apply h;refine⟨W,_,_,AJ.drop 8 (by simp) (by simp) (by simp[-Ao,A0]),?_⟩;simp[clean,t2,t3,t4,t6,t15,AL W a1];exact⟨nx,_,g2,o,by simp[UI,MW,Ey,mC,F9]⟩
 .have hje:j=s.size:=by omega
  subst hje;simp[UR]at o;subst o;refine Co ?_;refine⟨_,ea 5 (by simp) (by simp) (by simp) (by simp[-Ao,Bc,A0]),?_⟩;simp[At]
theorem SE{u v:List Bool}{i at_:Int}(h:JQ u i at_=some v):0<=i/\i<at_:=by
 unfold JQ at h;split at h
 .cases h
 .rename_i hn;omega
theorem WE{p:List A7}{i:Nat}(h:(HH p (i+1)).isSome=J):∃u v x,HH p i=some u/\p[i]?=some x/\GC u i x=some v:=by
 obtain⟨v,g⟩:=ol.1 h;obtain⟨u,h1,j⟩:=abP.1 g;obtain⟨x,k,m⟩:=abP.1 j;exact⟨u,v,x,h1,k,m⟩
theorem WO{p:List A7}{n:Nat}(h:(HH p n).isSome=J):∀i≤n,(HH p i).isSome=true:=λi hi=>by
 cases g:HH p i with
 |some u=>rfl
 |none=>
  have:=Le g (n - i);rw[Nat.add_sub_cancel' hi]at this;rw[this]at h;cases h
theorem TO{p:List A7}(h:D8 p=0):gA p/\p≠[]:=by
 unfold D8 at h;split at h
 .cases h
 .rename_i z;split at h
  .cases h
  .rename_i u s;split at h
   .cases h
   .rename_i t;refine⟨⟨by omega,λi x k=>?_⟩,λe=>t (.inl e)⟩;have hi:i<Z p:=Ai k;obtain⟨A,v,B,h1,m,g⟩:=WE (WO (n:=Z p) (by rw[s];rfl) (i+1) (by omega));rw[k]at m;cases m;unfold GC at g;split at g
    .cases g
    .constructor
     .intro j;have ha:¬CT x.kind<1:=by rcases j with e|e|e<;>rw[e]<;>decide
      rw[a9 ha]at g;obtain⟨w,o,_⟩:=abP.1 g;exact SE o
     .intro j;have ha:¬CT x.kind<1:=by rcases j with e|e<;>rw[e]<;>decide
      have hb:¬CT x.kind<2:=by rcases j with e|e<;>rw[e]<;>decide
      rw[a9 ha]at g;obtain⟨w,o,q⟩:=abP.1 g;rw[a9 hb]at q;exact SE q
def H2(p:List A7)(s:ByteArray):Bool:=
 if D8 p=0 then UR p (J4 p) s s.size 0 (J4 p).f (decide (s.size=0)&&(J4 p).e)else am
theorem Pk(p:List A7)(s:ByteArray):Pure a8 128 [Av p,BG s] (.bool (H2 p s)):=by
 refine zP func128 25 rfl λwf=>?_;apply yW;simp;refine xS (yS ?_);apply yJ;simp;refine Bz (Oa p) rfl (by simp) (yJ ?_);simp;by_cases g:D8 p=0
 .have i:decide (s.size=0)=decide (s=⟨#[]⟩):=by simp[LD]
  have j:H2 p s=UR p (J4 p) s s.size 0 (J4 p).f (decide (s=⟨#[]⟩)&&(J4 p).e):=by rw[<-i];unfold H2;rw[b8 g]
  rw[j];obtain⟨k,h0⟩:=TO g;have o:Md (Z p) (J4 p):=DK k.1 _ _ _ (PO _);have m:=WW k h0;have h:=tD k.1 o s (decide (s=⟨#[]⟩)&&(J4 p).e);generalize J4 p=r at *;obtain⟨v,w,z,q⟩:=r;obtain⟨r1,r2,t⟩:=o;simp at r1 r2 t;obtain⟨A,u,B,C,E,F,G,H,rfl⟩:=r1.1.Oj;obtain⟨K,L,M,N,P,Q,R,S,rfl⟩:=r2.1.Oj;apply AQ;simp[g];apply xK;apply yS;apply yJ;simp;refine xF (m) [] rfl ?_;simp[-DM,-Ao,DU,MW];apply yJ;simp;apply yW;simp[Ey,mC,F9];apply yS;apply yJ;simp;unfold UI MW at h;refine xF (h) [1,2,3,0,4] rfl ?_;simp[-DM,-Ao,DU,A0,Ey,mC,F9];apply yJ;simp;apply yW;simp;apply zT;try simp
 .have j:H2 p s=false:=by simp[H2,g]
  rw[j];apply AQ;simp[g];apply yW;simp;refine Am ⟨_,_,ap,?_⟩;try simp
end Go.Koi
open Go.Koi.D renaming int->bi
namespace Go.Koi
open Go.Proofs Tryz DT
def LO(t:Token):Bool:=
 if t.literal=⟨#[]⟩then(if D8 t.pattern=0 then(if t.cls=0 then !decide (t.Cy=⟨#[]⟩)&&H2 t.pattern t.Cy else decide (t.Cy=⟨#[]⟩))else am)
 else decide (t.Cy=⟨#[]⟩)&&decide (t.pattern=[])
noncomputable def Hu(n:Nat)(t:Token):Bool:=decide (0<=t.cls)&&decide (t.cls<=2)&&Cp t.cond n&&LO t
noncomputable def FC(g:AD):Bool:=DI [⟨#[]⟩] (g.AU.map (·.name))&&g.AU.all (Hu (Z g.conds))
abbrev abt:=@Bool.or_eq_false_iff
abbrev ab6:=@Bool.not_eq_false'
abbrev UV:=@decide_eq_false_iff_not
theorem Qp(g:AD):Pure prog 205 [AA g] (AF (if FC g then 0 else 51)):=by
 refine ip func205 (by kernel_rfl) rfl (by simp) λwf=>?_;have Q:Z g.AU<=maxLen:=by simp[Bq,Da,AA]at wf;exact wf.2.2.2.1.1
 rw[ntmps205];refine xW λK j=>?_;simp;apply j;refine Gb λK j=>?_;refine xJ ?_;simp;refine xF (L6) [] rfl ?_;simp;refine xJ ?_;simp;refine CO (j _ _ ?_);refine xS (xW λK j=>?_);simp[AA];apply j;refine Bp ?_;refine FH (Z g.AU) (λi tm S=>tm 1=.ptr 0 1 0 0/\tm 3=.fn (.func 272) [] [.ptr 2 1 0 0]/\tm 9=.d (C7 g.AU)/\tm 10=.d (AF (Z g.AU))/\tm 11=.d (AF i)/\(∀k (h:k<i) (Y:k<Z g.AU),Hu (Z g.conds) g.AU[k]=J/\Fm (Q4 (g.AU.map (·.name)) k) g.AU[k].name=am)/\S=[.row J 9 [.d (AA g)],E8 (Q4 (g.AU.map (·.name)) i),.row J 1 [.map 1]]) (i0:=0) (ed _) (by simp[YX,E8,AA,MJ]) ?_;rintro i tm S hi ⟨t1,t3,t9,t10,t11,B,rfl⟩;refine xW λK j=>?_;simp[t10,t11];apply j;refine xC ?_;simp;refine⟨λv=>?_,λzf=>?_⟩
 .have w:i<Z (g.AU.map (·.name)):=by simpa using v
  have F:=Kx (Q4 (g.AU.map (·.name)) i) g.AU[i].name;have m:=MN w;simp only[rg]at m;have T:=λh=>HS (L:=[⟨#[]⟩]) (l:=g.AU.map (·.name)) w (λk s=>by have:=(B k s (by omega)).2;simp only[rg];exact this) (by simp only[rg];exact h);have o:Hu (Z g.conds) g.AU[i]=am->FC g=false:=λh=>by
   have:g.AU.all (Hu (Z g.conds))=false:=by
    rw[acs];exact⟨_,cF v,by simp[h]⟩
   simp[FC,this]
  generalize N:Fm (Q4 (g.AU.map (·.name)) i) g.AU[i].name=P at *;generalize C:g.AU[i]=x at *;unfold E8;refine xK ?_;refine xB ?_;refine xW λK j=>?_;simp[t9,t11,v,C];apply j;refine xS (Gb λK j=>?_);refine xJ ?_;simp[t3];refine xF (F) [1,2] rfl ?_;simp[YX,E8];(repeat((refine Cg ?_ ?_);(focus(simp[t1];try(first|omega|(simp +contextual[AV,t1,AA];done)|grind);done));simp[t1,AA]));refine Fr (ds:=[AB x.cond,AF (Z g.conds)]) rfl rfl (by simp;rfl) (λ_=>Mb x.cond (Z g.conds)) (by simp[xN]) ?_;simp;(repeat((refine Cg ?_ ?_);(focus(simp;try(first|omega|(simp +contextual;done)|grind);done));simp));refine CO (j _ _ ?_);(try simp only[xQ,reduceIte]);(repeat refine xS ?_);refine qr (t:=P||decide (x.cls<0)||decide (2<x.cls)||!Cp x.cond (Z g.conds)) ?_ (λhb=>?_) (λhb=>?_)
  .simp
  .refine xW λK j=>?_;simp;apply j;refine Am ⟨_,_,ap,?_⟩;(try simp);cases P with
   |true=>have U:=T N;simp[FC,U]
   |false=>
    have:Hu (Z g.conds) x=false:=by simp[Hu];simp at hb;grind
    simp[o this]
  .simp only[abt,ab6,UV]at hb;obtain⟨⟨⟨rfl,zY⟩,zj⟩,G⟩:=hb;simp;refine xK ?_;refine xW λK j=>?_;simp;apply j;refine nt (R:=λtm S=>tm 1=.ptr 0 1 0 0/\tm 3=.fn (.func 272) [] [.ptr 2 1 0 0]/\tm 9=.d (C7 g.AU)/\tm 10=.d (AF (Z g.AU))/\tm 11=.d (AF i)/\tm 6=.d (.bool (LO x))/\S=[.row J 9 [.d (AA g)],E8 (Q4 (g.AU.map (·.name)) (i+1)),.row J 1 [.map 1],.row J 7 [.d (AV x)]]) ?_ ?_
   .refine Bp ?_;(repeat refine xS ?_);refine xV λK j=>?_;simp;refine j _ _ ?_;(try simp only[xQ,reduceIte]);by_cases u:x.literal=⟨#[]⟩
    .refine AQ ?_;simp[u];(repeat refine xS ?_);refine H9 λK j=>?_;refine xJ ?_;simp;refine Bz (Oa x.pattern) rfl (by simp) ?_;simp;refine xJ ?_;simp;refine CO (j _ _ ?_);(try simp only[xQ,reduceIte]);by_cases z:D8 x.pattern=0
     .refine AQ ?_;simp[z];(repeat refine xS ?_);refine xV λK j=>?_;simp;refine j _ _ ?_;(try simp only[xQ,reduceIte]);by_cases E:x.cls=0
      .refine AQ ?_;simp[E];refine H9 λK j=>?_;refine xJ ?_;simp;refine Fr (g:=!decide (x.Cy=⟨#[]⟩)) (ds:=[Av x.pattern,BG x.Cy]) rfl rfl (by simp<;>rfl) (λ_=>Pk x.pattern x.Cy) (by simp) ?_;simp;(repeat((refine Cg ?_ ?_);(focus(simp;try(first|omega|(simp +contextual;done)|grind);done));simp));refine CO (j _ _ ?_);simp[LO,u,z,E,t1,t3,t9,t10,t11,m,E8,AV,AA]
      .refine AQ ?_;simp[E];refine B8 ?_;simp[LO,u,z,E,t1,t3,t9,t10,t11,m,E8,AV,AA]
     .refine AQ ?_;simp[z];refine xV λK j=>?_;simp;apply j;simp[LO,u,z,t1,t3,t9,t10,t11,m,E8,AV,AA]
    .refine AQ ?_;simp[u];refine xV λK j=>?_;simp;apply j;have H:((Z x.pattern:Int)==0)=decide (x.pattern=[]):=by rw[gI];simp
     simp[LO,u,H,t1,t3,t9,t10,t11,m,E8,AV,AA]
   .rintro tm S ⟨t1,t3,t9,t10,t11,t6,rfl⟩;unfold E8;(repeat refine xS ?_);refine xV λK j=>?_;simp[t6];refine j _ _ ?_;(try simp only[xQ,reduceIte]);cases q:LO x with
    |false=>
     refine AQ ?_;simp;refine xW λK j=>?_;simp;apply j;refine Am ⟨_,_,ap,?_⟩;(try simp);have:Hu (Z g.conds) x=false:=by simp[Hu,q]
     simp[o this]
    |true=>
     refine AQ ?_;simp;refine B8 ?_;refine xV λK j=>?_;simp[t11];apply j;refine⟨v,_,_,ne 3 (by simp),?_⟩;simp[clean,t1,t3,t9,t10,AL v Q];intro k s M;by_cases e:k=i
     .subst e;rw[C];exact⟨by simp[Hu,q,G];omega,N⟩
     .exact B k (by omega) M
 .have W:i=Z g.AU:=by omega
  subst W;have A:=Ga (L:=[⟨#[]⟩]) (l:=g.AU.map (·.name)) λk s=>by have:=(B k (by simpa using s) (by simpa using s)).2;simp only[rg];exact this
  have X:g.AU.all (Hu (Z g.conds))=true:=by
   rw[de];intro x C;obtain⟨k,s,rfl⟩:=oi.1 C;exact(B k s s).1
  unfold E8;refine Co ?_;refine xW λK j=>?_;simp;apply j;refine Am ⟨_,_,ap,?_⟩;(try simp);simp[FC,A,X]
def Ez(g:AD)(s:Symbol):Bool:=
 if s.token then decide (0<=s.index)&&(match g.AU[s.index.toNat]? with|some t=>decide (t.cls=0)|none=>am)
 else decide (0<=s.index)&&decide (s.index<Z g.Ay)
theorem bI(g:AD)(s:Symbol):Pure prog 251 [AA g,AI s] (.bool (Ez g s)):=by
 refine zP func251 40 rfl λwf=>?_;apply yW;simp;refine xS (yW ?_);simp[AI];cases h:s.token with
 |false=>
  apply AQ;simp;(repeat apply xS);refine H9 λK j=>?_;(repeat((refine Cg ?_ ?_);(focus(simp[AA];try(first|omega|(simp +contextual[AI,AA];done)|grind);done));simp[AA]));refine CO (j _ _ ?_);refine Am ⟨_,_,ap,?_⟩;simp[Ez,h]
 |true=>
  apply AQ;simp;apply B8;by_cases h0:0<=s.index
  .by_cases h1:s.index<Z g.AU
   .have i:s.index.toNat<Z g.AU:=by omega
    apply yW;simp[AA,h0,h1,i,AV];apply zT;simp[Ez,h,h0,i];rw[gI];simp
   .have i:¬s.index.toNat<Z g.AU:=by omega
    have k:g.AU[s.index.toNat]?=none:=ut (by omega);(repeat apply xS);apply yT;(iterate 12 (refine Cg (by simp[AA]) ?_;simp[AA,h0,h1]));(repeat(refine FD rfl ?_ ?_;(·simp);simp));apply yJ;simp;apply zT;simp[Ez,h,k]
  ·(repeat apply xS);apply yT;(iterate 4 (refine Cg (by simp[AA]) ?_;simp[AA,h0]));(repeat(refine FD rfl ?_ ?_;(·simp);simp));(iterate 2 (refine Cg (by simp) ?_;simp));(repeat(refine FD rfl ?_ ?_;(·simp);simp));apply yJ;simp;apply zT;simp[Ez,h,h0]
theorem Vr(g:AD)(s:Symbol):AH prog 250 [.d (AI s),.ptr 0 1 0 0] [.row J 9 [.d (AA g)]] (.d (.bool (!Ez g s))) [.row J 9 [.d (AA g)]]:=by
 refine zC func250 8 rfl λwf _=>?_;apply yW;simp;(repeat apply xS);apply yT;apply yJ;simp[AI,AA];refine Bz (bI g s) rfl (by simp[AA,AI]) (yJ ?_);simp;apply Am;refine⟨_,ea 1 (by simp) (by simp) (by simp) (by simp),?_⟩;simp[At,clean]
def NT(p:AM)(i:Int):Bool:=decide (0<=i)&&decide (i<Z p.right)
theorem VB(p:AM)(i:Int):AH prog 276 [.d (AF i),.ptr 0 1 0 0] [.row J 13 [.d (AG p)]] (.d (.bool (NT p i))) [.row J 13 [.d (AG p)]]:=by
 refine zC func276 13 rfl λwf _=>?_;apply yW;simp;(repeat apply xS);refine H9 λK g=>?_;(repeat((refine Cg ?_ ?_);(focus(simp;try(first|omega|(simp +contextual[AG];done)|grind);done));simp[AG]));refine CO (g _ _ ?_);apply Am;refine⟨_,rr (by simp[AG]),?_⟩;simp[At,NT]
def Df(p:AM)(k v lo hi:Int):Bool:=
 if k=0 then decide (v=0)
 else decide (0<k)&&decide (k<=Z p.right)&&(match p.right[(k - 1).toNat]? with|some s=>s.token|none=>am)&&decide (lo<=v)&&decide (v<=hi)
theorem UX(p:AM)(k v lo hi:Int):AH prog 277 [.d (AF k),.d (AF v),.d (AF lo),.d (AF hi),.ptr 0 1 0 0] [.row J 13 [.d (AG p)]] (.d (.bool (Df p k v lo hi))) [.row J 13 [.d (AG p)]]:=by
 refine zC func277 42 rfl λwf _=>?_;apply yW;simp;refine xS (yW ?_);simp;by_cases j:k=0
 .apply AQ;simp[j];apply yW;simp;apply Am;refine⟨_,rr (by simp),?_⟩;simp[At,Df];left;rw[gI];simp
 .apply AQ;simp[j];apply B8;by_cases h0:0<k
  .by_cases h1:k<=Z p.right
   .obtain⟨m,rfl⟩:∃m:Nat,k=m+1:=⟨(k - 1).toNat,by omega⟩;have o:m<Z p.right:=by omega
    have q:bv .i64 (m:Int)=m:=by
     have:=wf.1;simp[K0,Da,IX]at this;rw[abz];omega
    have i:bv .i64 ((m:Int)+1 - 1)=m:=by rw[show(m:Int)+1 - 1=m by omega];exact q
    have g:(m:Int)+1<=Z p.right:=h1;have h:(0:Int)<(m:Int)+1:=h0;(repeat apply xS);refine H9 λK s=>?_;(repeat((refine Cg ?_ ?_);(focus(simp[o,AI];try(first|omega|(simp +contextual[AG,h,g,o,q,i,AI];done)|grind);done));simp[AG,h,g,o,q,AI]));refine CO (s _ _ ?_);apply Am;refine⟨_,rr (by simp[AG]),?_⟩;simp[At,Df,j,h,g,o]
   ·(repeat apply xS);apply yT;(iterate 10 (refine Cg (by simp) ?_;simp[AG,h0,h1]));(repeat(refine FD rfl ?_ ?_;(·simp);simp));(iterate 2 (refine Cg (by simp) ?_;simp));(repeat(refine FD rfl ?_ ?_;(·simp);simp));(iterate 2 (refine Cg (by simp) ?_;simp));(repeat(refine FD rfl ?_ ?_;(·simp);simp));apply yJ;simp;apply Am;refine⟨_,rr (by simp),?_⟩;simp[At,Df,j,h0,h1]
  ·(repeat apply xS);apply yT;(iterate 3 (refine Cg (by simp) ?_;simp[AG,h0]));(repeat(refine FD rfl ?_ ?_;(·simp);simp));(iterate 2 (refine Cg (by simp) ?_;simp));(repeat(refine FD rfl ?_ ?_;(·simp);simp));(iterate 2 (refine Cg (by simp) ?_;simp));(repeat(refine FD rfl ?_ ?_;(·simp);simp));(iterate 2 (refine Cg (by simp) ?_;simp));(repeat(refine FD rfl ?_ ?_;(·simp);simp));apply yJ;simp;apply Am;refine⟨_,rr (by simp),?_⟩;simp[At,Df,j,h0]
def M8(p:AM)(x:Fo):Bool:=decide (1<=x.kind)&&decide (x.kind<=4)&&NT p x.a&&NT p x.b&&!(decide (x.kind=1)&&!decide (x.b=0))
def Is(p:AM):Bool:=
 p.layout.all (M8 p)&&Df p p.scope.declares p.scope.kind 1 7&&Df p p.scope.Fk p.scope.allowed 0 255&&
 (!p.bracket||(decide (Z p.right=3)&&decide (p.EC=0)&&decide (p.layout=[])&&decide (p.scope=⟨am,0,0,0,0⟩)&&
  (match p.right with|[a,c,d]=>a.token&&decide (c=⟨am,p.left⟩)&&d.token|_=>am)))
theorem Wm(p:AM):Pure prog 253 [AG p] (.bool (Is p)):=by
 refine ip func253 rfl rfl (by simp) λwf=>?_;have K:Z p.layout<=maxLen:=by simp[Bq,Da,AG]at wf;omega
 rw[ntmps253];apply yW;simp;refine xS (yW ?_);simp[AG];apply Bp;refine zL (Z p.layout) (λi tm S=>tm 1=.ptr 0 1 0 0/\tm 9=.d (CX p.layout)/\tm 10=.d (AF (Z p.layout))/\tm 11=.d (AF i)/\(∀k (h:k<i) (N:k<Z p.layout),M8 p p.layout[k]=J)/\S=[.row J 13 [.d (AG p)]]) (by simp[AG]) ?_;rintro i tm S hi ⟨t1,t9,t10,t11,F,rfl⟩;apply yW;simp[t10,t11];apply xC;simp;refine⟨λq=>?_,λP=>?_⟩
 .have L:M8 p p.layout[i]=am->Is p=false:=λh=>by
   have:p.layout.all (M8 p)=false:=by
    rw[acs];exact⟨_,cF q,by simp[h]⟩
   simp[Is,this]
  generalize s:p.layout[i]=x at *;have u:=VB p x.a;have v:=VB p x.b;apply xK;apply xB;apply yW;simp[t9,t11,q,s];apply yW;simp[t1];apply yS;(repeat((refine Cg ?_ ?_);(focus(simp;try(first|omega|(simp +contextual[BF];done)|grind);done));simp));refine AY.SS (u) [0] rfl rfl (by simp;rfl) (by simp) (by simp +contextual;try rfl) (by simp;try rfl) ?_;simp;(repeat((refine Cg ?_ ?_);(focus(simp;try(first|omega|(simp +contextual;done)|grind);done));simp));refine AY.SS (v) [0] rfl rfl (by simp;rfl) (by simp) (by simp +contextual;try rfl) (by simp;try rfl) ?_;simp;(repeat((refine Cg ?_ ?_);(focus(simp;try(first|omega|(simp +contextual;done)|grind);done));simp));apply CO;(repeat apply xS);refine qr (t:=!M8 p x) ?_ (λhb=>?_) (λhb=>?_)
  .simp[M8];rw[gI];simp
  .apply yW;simp;refine Am ⟨_,_,ap,?_⟩;(try simp);simp at hb;simp[L hb]
  .simp at hb;apply B8;apply yV;simp[t11];refine⟨q,_,_,ne 1 (by simp),?_⟩;simp[clean,t1,t9,t10,AL q K];intro k w z;by_cases e:k=i
   .subst e;rw[s];exact hb
   .exact F k (by omega) z
 .have M:i=Z p.layout:=by omega
  subst M;have m:p.layout.all (M8 p)=true:=by
   rw[de];intro x s;obtain⟨k,w,rfl⟩:=oi.1 s;exact F k w w
  have A:=UX p p.scope.declares p.scope.kind 1 7;have B:=UX p p.scope.Fk p.scope.allowed 0 255;apply Co;apply yW;simp[t1];apply yW;simp[t1,AG];refine xS (yS ?_);apply yJ;simp;refine xF (A) [0] rfl ?_;simp[AG];(repeat((refine Cg ?_ ?_);(focus(simp;try(first|omega|(simp +contextual;done)|grind);done));simp));refine AY.SS (B) [0] rfl rfl (by simp;rfl) (by simp) (by simp +contextual[];try rfl) (by simp[AG];try rfl) ?_;simp;(repeat((refine Cg ?_ ?_);(focus(simp;try(first|omega|(simp +contextual;done)|grind);done));simp));apply CO;(repeat apply xS);refine qr (t:=!(Df p p.scope.declares p.scope.kind 1 7&&Df p p.scope.Fk p.scope.allowed 0 255)) ?_ (λhb=>?_) (λhb=>?_)
  .simp
  .apply yW;simp;refine Am ⟨_,_,ap,?_⟩;(try simp);have C:(Df p p.scope.declares p.scope.kind 1 7&&Df p p.scope.Fk p.scope.allowed 0 255)=false:=by simpa only[rx]using hb
   have:Is p=false:=by
    unfold Is;rw[m,x0,C,abZ]
   simp[this]
  .have C:(Df p p.scope.declares p.scope.kind 1 7&&Df p p.scope.Fk p.scope.allowed 0 255)=true:=by simpa only[ab6]using hb
   apply xK;refine xS (yW ?_);simp[t1];have g:Is p=(!p.bracket||(decide (Z p.right=3)&&decide (p.EC=0)&&decide (p.layout=[])&&decide (p.scope=⟨am,0,0,0,0⟩)&&
     (match p.right with|[a,c,d]=>a.token&&decide (c=⟨am,p.left⟩)&&d.token|_=>am))):=by
    unfold Is;rw[m,x0,C,x0]
   cases j:p.bracket with
   |false=>
    apply AQ;simp;apply yW;simp;refine Am ⟨_,_,ap,?_⟩;(try simp);simp[g,j]
   |true=>
    rw[j]at g;simp at g;apply AQ;simp;apply xK;refine xS (yS ?_);(repeat((refine Cg ?_ ?_);(focus(simp[t1];try(first|omega|(simp +contextual[t1,AG];done)|grind);done));simp[t1]));apply CO;have E:CS [D.bool p.scope.opens,bi .i64 p.scope.declares,bi .i64 p.scope.kind,bi .i64 p.scope.Fk,bi .i64 p.scope.allowed] [D.bool am,bi .i64 0,bi .i64 0,bi .i64 0,bi .i64 0]=decide (p.scope=⟨am,0,0,0,0⟩):=by
     cases p.scope;rw[gI];simp[CS,DY]
    (repeat apply xS);refine qr (t:=!(decide (Z p.right=3)&&decide (p.EC=0)&&decide (p.layout=[])&&decide (p.scope=⟨am,0,0,0,0⟩))) ?_ (λhb=>?_) (λhb=>?_)
    .simp[E];rw[gI];simp;have:(0<Z p.layout)↔¬p.layout=[]:=by cases p.layout<;>simp
     rw[this];have:((Z p.right:Int)=3)↔Z p.right=3:=by omega
     rw[this]
    .apply yW;simp;refine Am ⟨_,_,ap,?_⟩;(try simp);have o:(decide (Z p.right=3)&&decide (p.EC=0)&&decide (p.layout=[])&&decide (p.scope=⟨am,0,0,0,0⟩))=false:=by simpa only[rx]using hb
     rw[g,o,abZ]
    .have o:(decide (Z p.right=3)&&decide (p.EC=0)&&decide (p.layout=[])&&decide (p.scope=⟨am,0,0,0,0⟩))=true:=by simpa only[ab6]using hb
     rw[o,x0]at g;simp at o;obtain⟨⟨⟨G,_⟩,_⟩,_⟩:=o;rcases H:p.right with _|⟨a,_|⟨c,_|⟨d,_|⟨e,l⟩⟩⟩⟩<;>rw[H]at G<;>simp at G;rw[H]at g;simp at g;apply xK;(repeat apply xS);refine yE (A3 23 []) (by kernel_rfl) ?_;simp;apply yA 0;simp[t1,AI];apply zT;(try simp);rw[g];cases c;rw[gI];simp[CS,DY]
noncomputable def IU(g:AD)(p:AM):Bool:=Cp p.cond (Z g.conds)&&decide (-1<=p.EC)&&decide (p.EC<=1)&&Is p
def EW(g:AD)(p:AM):Bool:=Ez g ⟨am,p.left⟩&&p.right.all (Ez g)
noncomputable def Cx(g:AD):List ByteArray->List AM->Int
 |_,[]=>0
 |L,p::l=>if EW g p=am then 50 else if Fm L p.name=J\/IU g p=am then 52 else Cx g (L++[p.name]) l
theorem Ep{g:AD}:∀{l:List AM} {L:List ByteArray},Cx g L l=0->∀p∈l,EW g p=J/\IU g p=J
 |[],_,_=>λp k=>by simp at k
 |p::l,L,h=>by
  unfold Cx at h;split at h
  .cases h
  .rename_i h1;split at h
   .cases h
   .rename_i j;intro q i;rcases ge.1 i with rfl|i
    .exact⟨by simpa using h1,by simp at j;exact j.2⟩
    .exact Ep h q i
theorem Q3(g:AD):Pure prog 207 [AA g] (AF (Cx g [⟨#[]⟩] g.AE)):=by
 refine ip func207 rfl rfl (by simp) λwf=>?_;have A:Z g.AE<=maxLen:=by simp[Bq,Da,AA]at wf;omega
 generalize k:Cx g [⟨#[]⟩] g.AE=fin;rw[ntmps207];apply yW;simp;apply yS;apply yJ;simp;refine xF (L6) [] rfl ?_;simp;apply yJ;simp;refine xS (yW ?_);simp[AA];apply Bp;refine zL (Z g.AE) (λi tm S=>tm 1=.ptr 0 1 0 0/\tm 3=.fn (.func 272) [] [.ptr 2 1 0 0]/\tm 9=.d (Cd g.AE)/\tm 10=.d (AF (Z g.AE))/\tm 11=.d (AF i)/\Cx g (Q4 (g.AE.map (·.name)) i) (g.AE.drop i)=fin/\S=[.row J 9 [.d (AA g)],E8 (Q4 (g.AE.map (·.name)) i),.row J 1 [.map 1]]) (by simp[YX,E8,AA,MJ,k]) ?_;rintro i tm S hi ⟨t1,t3,t9,t10,t11,h,rfl⟩;apply yW;simp[t10,t11];apply xC;simp;refine⟨λm=>?_,λH=>?_⟩
 .have q:i<Z (g.AE.map (·.name)):=by simpa using m
  have u:=Kx (Q4 (g.AE.map (·.name)) i) g.AE[i].name;have j:=MN q;simp at j;rw[GE m]at h;unfold Cx at h;generalize K:Fm (Q4 (g.AE.map (·.name)) i) g.AE[i].name=o at *;generalize B:g.AE[i]=x at *;have v:=K5 x.right (λs=>!Ez g s) 250 [.ptr 0 1 0 0] [.row J 9 [.d (AA g)]] (λs _=>Vr g s);have z:=(Vr g ⟨am,x.left⟩).sM;simp at z;unfold E8;apply xK;apply xB;apply yW;simp[t9,t11,m,B];apply yW;simp[t1];refine xS (yS ?_);apply yJ;simp;refine xF (z) [0] rfl ?_;simp[AA];(repeat((refine Cg ?_ ?_);(focus(simp;try(first|omega|(simp +contextual[AG];done)|grind);done));simp));refine AY.SS (v) [0] rfl rfl (by simp;rfl) (by simp) (by simp +contextual[];try rfl) (by simp[AA];try rfl) ?_;simp;(repeat((refine Cg ?_ ?_);(focus(simp;try(first|omega|(simp +contextual;done)|grind);done));simp));apply CO;(repeat apply xS);refine qr (t:=!EW g x) ?_ (λhb=>?_) (λhb=>?_)
  .have:(x.right.any λs=>!Ez g s)=!x.right.all (Ez g):=by rw[List.not_all_eq_any_not]
   simp[EW,this]
  .apply yW;simp;refine Am ⟨_,_,ap,?_⟩;rw[<-h];simp at hb;simp[hb]
  .simp at hb;rw[hb]at h;simp[Bool.true_eq_false]at h;apply xK;apply yS;apply yJ;simp[t3];refine xF (u) [1,2] rfl ?_;simp[YX,E8];(repeat((refine Cg ?_ ?_);(focus(simp[t1];try(first|omega|(simp +contextual[AG,t1,AA];done)|grind);done));simp[t1]));refine Fr (g:=!o) (ds:=[AB x.cond,AF (Z g.conds)]) rfl rfl (by simp<;>rfl) (λ_=>Mb x.cond (Z g.conds)) (by simp[xN]) ?_;simp;(repeat((refine Cg ?_ ?_);(focus(simp;try(first|omega|(simp +contextual;done)|grind);done));simp));refine Fr (g:=!o&&Cp x.cond (Z g.conds)&&!decide (x.EC< -1)&&!decide (1<x.EC)) (ds:=[AG x]) rfl rfl (by simp<;>rfl) (λ_=>Wm x) (by simp[xN]) ?_;simp;(repeat((refine Cg ?_ ?_);(focus(simp;try(first|omega|(simp +contextual;done)|grind);done));simp));apply CO;(repeat apply xS);refine qr (t:=o||!IU g x) ?_ (λhb=>?_) (λhb=>?_)
   .simp[IU];have C:decide (x.EC< -1)=!decide (-1<=x.EC):=by rw[gI];simp
    have E:decide (1<x.EC)=!decide (x.EC<=1):=by rw[gI];simp
    rw[C,E];simp[Bool.or_assoc]
   .have w:o=J\/IU g x=false:=by simp at hb;grind
    rw[b8 w]at h;apply yW;simp;refine Am ⟨_,_,ap,?_⟩;simp[<-h]
   .simp at hb;obtain⟨rfl,F⟩:=hb;simp[F,Bool.true_eq_false,or_self]at h;rw[<-j]at h;apply B8;apply yV;simp[t11];refine⟨m,_,_,ne 3 (by simp),?_⟩;simp[clean,t1,t3,t9,t10,AL m A,j];rw[<-j];exact h
 .have G:i=Z g.AE:=by omega
  subst G;simp[Cx]at h;unfold E8;apply Co;apply yW;simp;apply zT;simp[<-h]
def Cc(N:Nat):List Int->List Int->Option (List Int)
 |u,[]=>some u
 |u,p::g=>if p<0\/(N:Int)<=p\/p∈u then none else Cc N (u++[p]) g
noncomputable def Ef(g:AD):List Int->List Level->Bool
 |_,[]=>J
 |u,l::h=>if decide (0<=l.assoc)&&decide (l.assoc<=3)&&Cp l.cond (Z g.conds) then(match Cc (Z g.AE) u l.AE with|none=>am|some v=>Ef g v h)else am
@[simp] theorem tY(l:List (Int×Bool))(k:Int)(x:Bool):Ej (BT (bi .i64) (λx=>V.d (.bool x)) l) (.int .i64 k) (.d (.bool x))=BT (bi .i64) (λx=>V.d (.bool x)) (Cu l k x):=EA (ev:=λx=>V.d (.bool x)) (by intro a b;rw[gI];simp[DY]) l k x
def UO(u:List Int):O:=.map (BT (bi .i64) (λx=>.d (.bool x)) (u.map λp=>(p,J)))
theorem oI(u:List Int)(p:Int):look (u.map λp=>(p,J)) p=if p∈u then some J else none:=by
 induction u with
 |nil=>rfl
 |cons x u g=>
  rw[ii,Cl,g];by_cases h:x=p
  .simp[h]
  .have:¬p=x:=λe=>h e.symm;simp[h,this]
def ym(g:AD)(fin:Bool)(i:Nat)(S:Sg):Prop:=∃u,Ef g u (g.levels.drop i)=fin/\S=[.row J 9 [.d (AA g)],UO u]
def yr(g:AD)(fin:Bool)(i:Nat)(l:Level)(j:Nat)(S:Sg):Prop:=
 ∃u,(match Cc (Z g.AE) u (l.AE.drop j)with|none=>am|some v=>Ef g v (g.levels.drop (i+1)))=fin/\S=[.row J 9 [.d (AA g)],UO u,.row J 4 [.d (Ak l)]]
theorem PI(g:AD):Pure prog 208 [AA g] (AF (if Ef g [] g.levels then 0 else 53)):=by
 refine ip func208 rfl rfl (by simp) λwf=>?_;have G:Z g.levels<=maxLen:=by simp[Bq,Da,AA]at wf;omega
 have A:∀l∈g.levels,Z l.AE<=maxLen:=by
  simp[Bq,Da,Dh,AA]at wf;intro l H;have:=wf.2.2.2.2.2.2.2.1.2 l H;exact this.1.1
 generalize q:Ef g [] g.levels=fin;rw[ntmps208];apply yW;simp;apply yW;simp;refine xS (yW ?_);simp[AA];apply Bp;refine zL (Z g.levels) (λi tm S=>tm 1=.ptr 0 1 0 0/\tm 3=.map 1/\tm 10=.d (Bl g.levels)/\tm 11=.d (AF (Z g.levels))/\tm 12=.d (AF i)/\ym g fin i S) (by simp;exact⟨[],q,by simp[UO,AA]⟩) ?_;rintro i tm S hi ⟨t1,t3,t10,t11,t12,u,k,rfl⟩;unfold UO;apply yW;simp[t11,t12];apply xC;simp;refine⟨λs=>?_,λT=>?_⟩
 .have K:Z g.levels[i].AE<=maxLen:=A _ (cF s);rw[GE s]at k;unfold Ef at k;generalize L:g.levels[i]=x at *;apply xK;apply xB;apply yW;simp[t10,t12,s,L];refine xS (yS ?_);(repeat((refine Cg ?_ ?_);(focus(simp[t1,AA];try(first|omega|(simp +contextual[Ak,t1,AA];done)|grind);done));simp[t1,AA]));refine Fr (ds:=[AB x.cond,AF (Z g.conds)]) rfl rfl (by simp;rfl) (λ_=>Mb x.cond (Z g.conds)) (by simp[xN]) ?_;simp;(repeat((refine Cg ?_ ?_);(focus(simp;try(first|omega|(simp +contextual;done)|grind);done));simp));apply CO;(repeat apply xS);refine qr (t:=!(decide (0<=x.assoc)&&decide (x.assoc<=3)&&Cp x.cond (Z g.conds))) ?_ (λhb=>?_) (λhb=>?_)
  .have M:decide (x.assoc<0)=!decide (0<=x.assoc):=by rw[gI];simp
   have N:decide (3<x.assoc)=!decide (x.assoc<=3):=by rw[gI];simp
   simp[M,N]
  .rw[a9 (by simpa only[rx,Bool.not_eq_true]using hb)]at k;apply yW;simp;refine Am ⟨_,_,ap,?_⟩;simp[<-k]
  .rw[b8 (by simpa only[ab6]using hb)]at k;apply xK;apply yW;simp;apply Bp;refine zL (Z x.AE) (λj tm S=>tm 1=.ptr 0 1 0 0/\tm 3=.map 1/\tm 10=.d (Bl g.levels)/\tm 11=.d (AF (Z g.levels))/\tm 12=.d (AF i)/\tm 34=.d (A2 x.AE)/\tm 35=.d (AF (Z x.AE))/\tm 36=.d (AF j)/\yr g fin i x j S) (by simp[t1,t3,t10,t11,t12];exact⟨u,by simpa using k,by simp[UO,AA,Ak]⟩) ?_;rintro j tm S hj ⟨t1,t3,t10,t11,t12,t34,t35,t36,v,m,rfl⟩;unfold UO;apply yW;simp[t35,t36];apply xC;simp;refine⟨λz=>?_,λE=>?_⟩
   .rw[GE z]at m;unfold Cc at m;generalize P:x.AE[j]=y at *;have o:=oI v y;apply xK;apply xB;apply yW;simp[t34,t36,z,P];refine xS (yS ?_);(repeat((refine Cg ?_ ?_);(focus(simp[t1];try(first|omega|(simp +contextual[t1,t3,AA];done)|grind);done));simp[t1,t3,AA]));rw[o];apply CO;(repeat apply xS);refine qr (t:=decide (y<0)||decide ((Z g.AE:Int)<=y)||decide (y∈v)) ?_ (λhb=>?_) (λhb=>?_)
    .simp;by_cases Q:y∈v<;>simp[Q]
    .have:y<0\/(Z g.AE:Int)<=y\/y∈v:=by simpa only[pw,cR,or_assoc]using hb
     rw[b8 this]at m;apply yW;simp;refine Am ⟨_,_,ap,?_⟩;simp[<-m]
    .have F:¬(y<0\/(Z g.AE:Int)<=y\/y∈v):=by simp at hb;grind
     rw[a9 F]at m;have B:y∉v:=λh=>F (.inr (.inr h));rw[a9 B]at o;have w:Cu (v.map λp=>(p,J)) y J=(v++[y]).map λp=>(p,J):=by rw[L5 _ (by simpa using o)];simp
     apply xK;apply yV;simp[t3,w];apply yV;simp[t36];refine⟨z,_,_,ap,?_⟩;simp[t1,t3,t10,t11,t12,t34,t35,AL z K];exact⟨v++[y],m,by simp[UO,AA]⟩
   .have C:j=Z x.AE:=by omega
    subst C;simp[Cc]at m;apply Co;apply yV;simp[t12];refine⟨s,_,_,ne 2 (by simp),?_⟩;simp[clean,t1,t3,t10,t11,AL s G];exact⟨v,m,by simp[UO]⟩
 .have R:i=Z g.levels:=by omega
  subst R;simp[Ef]at k;apply Co;apply yW;simp;apply zT;simp[<-k]
def K6(t:Token):Bool:=decide (t.cls=0)
def Ib(t:Token):Bool:=!decide (t.literal=⟨#[]⟩)
theorem V5(t:Token):Pure prog 254 [AV t] (.bool (K6 t)):=by
 refine zP func254 6 rfl λwf=>?_;apply yW;simp;apply yW;simp[AV];apply zT;(try simp);unfold K6;rw[gI];simp
theorem iD(t:Token):Pure prog 255 [AV t] (.bool (Ib t)):=by
 refine zP func255 6 rfl λwf=>?_;apply yW;simp;apply yW;simp[AV];apply zT;simp[Ib]
def F5(g:AD)(kind:Token->Bool)(l:List Int)(i:Nat):Bool:=
 decide (0<=l.getD i 0)&&decide (l.getD i 0<Z g.AU)&&!(decide (0<i)&&decide (l.getD i 0<=l.getD (i - 1) 0))&&(match g.AU[(l.getD i 0).toNat]? with|some t=>kind t|none=>am)
def H6(g:AD)(kind:Token->Bool)(l:List Int):Bool:=(List.range (Z l)).all (F5 g kind l)&&decide (0<Z l)
theorem JE(g:AD)(l:List Int)(k:FuncId)(kind:Token->Bool)(Q:∀t,Pure prog k [AV t] (.bool (kind t))):
  AH prog 257 [.d (AA g),.d (A2 l),.fn (.func k) [] []] [] (.d (.bool (H6 g kind l))) []:=by
 refine j0 func257 rfl rfl (by simp) λwf _=>?_;have K:Z l<=maxLen:=by have:=wf.2.1;simp[K0,Da,A2]at this;simpa using this.1
 rw[ntmps257];apply yW;simp;refine xS (yW ?_);simp;apply Bp;refine zL (Z l) (λi tm S=>tm 1=.d (A2 l)/\tm 2=.fn (.func k) [] []/\tm 3=.ptr 0 1 0 0/\tm 9=.d (A2 l)/\tm 10=.d (AF (Z l))/\tm 11=.d (AF i)/\S=[.row J 9 [.d (AA g)]]/\(∀j<i,F5 g kind l j=J)) (by simp[AA]) ?_;rintro i tm S hi ⟨t1,t2,t3,t9,t10,t11,rfl,P⟩;apply yW;simp[t10,t11];apply xC;simp;refine⟨λC=>?_,λY=>?_⟩
 .have E:F5 g kind l i=am->H6 g kind l=false:=λh=>by
   have:(List.range (Z l)).all (F5 g kind l)=false:=by
    rw[acs];exact⟨i,by simpa using C,by simp[h]⟩
   simp[H6,this]
  have L:l.getD i 0=l[i]:=by simp[C]
  have Dj:F5 g kind l i=(decide (0<=l[i])&&decide (l[i] <Z g.AU)&&!(decide (0<i)&&decide (l[i]<=l.getD (i - 1) 0))&&(match g.AU[(l[i]).toNat]? with|some t=>kind t|none=>am)):=by unfold F5;rw[L]
  generalize R:l[i]=x at *;apply xK;apply xB;(repeat apply xS);apply yV;simp[t9,t11,C,R];by_cases h0:x<0
  .have F:¬0<=x:=by omega
   apply yS;(iterate 3 (refine Cg (by simp) ?_;simp[h0]));(repeat(refine FD rfl ?_ ?_;(·simp);simp));(iterate 2 (refine Cg (by simp) ?_;simp));(repeat(refine FD rfl ?_ ?_;(·simp);simp));(iterate 2 (refine Cg (by simp) ?_;simp));(repeat(refine FD rfl ?_ ?_;(·simp);simp));apply yJ;simp;apply AQ;simp;apply yW;simp;apply Am;rw[E (by rw[Dj];simp[F])];refine⟨_,k6 0 (by simp),?_⟩;simp[At,clean]
  .have F:0<=x:=by omega
   obtain⟨m,rfl⟩:∃m:Nat,x=m:=⟨x.toNat,by omega⟩;by_cases h1:m<Z g.AU
   .have G:=Q g.AU[m];have z:¬(Z g.AU:Int)<=m:=by omega
    have o:¬Z g.AU<=m:=by omega
    cases i with
    |zero=>
     (repeat apply xS);apply yT;(iterate 13 (refine Cg (by simp[t3]) ?_;simp[h0,t3,z,AA]));(repeat(refine FD rfl ?_ ?_;(·simp);simp));(iterate 3 (refine Cg (by simp) ?_;simp));(iterate 6 (refine Cg (by simp[t3,h1,AV]) ?_;simp[t2,t3,h1,AV]));refine nc (G) rfl rfl (by simp[xN];try rfl) (yJ ?_);simp;cases v:kind g.AU[m]with
     |false=>
      apply AQ;simp;apply yW;simp;apply Am;rw[E (by rw[Dj];simp[h1,v])];refine⟨_,k6 0 (by simp),?_⟩;simp[At,clean]
     |true=>
      apply AQ;simp;apply B8;apply yV;simp[t11];refine⟨C,_,_,ap,?_⟩;have T:bv .i64 1=1:=by decide
      have M:F5 g kind l 0=true:=by rw[Dj];simp[h1,v]
      simp[t1,t2,t3,t9,t10,T,M]
    |succ q=>
     have H:q<Z l:=by omega
     have N:l.getD q 0=l[q]:=by simp[H]
     have A:bv .i64 ((q:Int)+1 - 1)=q:=by rw[show(q:Int)+1 - 1=q by omega,abz];unfold maxLen at K;omega
     have w:bv .i64 (q:Int)=q:=by rw[abz];unfold maxLen at K;omega
     have U:bv .i64 ((q:Int)+1+1)=(q:Int)+1+1:=by rw[abz];unfold maxLen at K;omega
     have B:(0:Int)<(q:Int)+1:=by omega
     simp only[Nat.add_sub_cancel,N]at Dj;by_cases s:(m:Int)<=l[q]
     .apply yS;(iterate 23 (refine Cg (by simp[t3,H]) ?_;simp[h0,t1,t3,z,AA,H,w,B,s]));(repeat(refine FD rfl ?_ ?_;(·simp);simp));apply yJ;simp;apply AQ;simp;apply yW;simp;apply Am;rw[E (by rw[Dj];simp[s])];refine⟨_,k6 0 (by simp),?_⟩;simp[At,clean]
     ·(repeat apply xS);apply yT;(iterate 23 (refine Cg (by simp[t3,H]) ?_;simp[h0,t1,t3,z,AA,H,w,B,s]));(iterate 6 (refine Cg (by simp[t3,h1,AV]) ?_;simp[t2,t3,h1,AV]));refine nc (G) rfl rfl (by simp[xN];try rfl) (yJ ?_);simp;cases v:kind g.AU[m]with
      |false=>
       apply AQ;simp;apply yW;simp;apply Am;rw[E (by rw[Dj];simp[h1,v])];refine⟨_,k6 0 (by simp),?_⟩;simp[At,clean]
      |true=>
       apply AQ;simp;apply B8;apply yV;simp[t11];refine⟨C,_,_,ap,?_⟩;simp[t1,t2,t3,t9,t10,U];intro j hj;by_cases e:j=q+1
       .subst e;rw[Dj];simp[h1,v,s]
       .exact P j (by omega)
   .have u:Z g.AU<=m:=by omega
    apply yS;(iterate 10 (refine Cg (by simp[t3]) ?_;simp[h0,t3,u,AA]));(repeat(refine FD rfl ?_ ?_;(·simp);simp));(iterate 2 (refine Cg (by simp) ?_;simp));(repeat(refine FD rfl ?_ ?_;(·simp);simp));apply yJ;simp;apply AQ;simp;apply yW;simp;apply Am;rw[E (by rw[Dj];simp[h1])];refine⟨_,k6 0 (by simp),?_⟩;simp[At,clean]
 .have W:i=Z l:=by omega
  subst W;have X:(List.range (Z l)).all (F5 g kind l)=true:=by
   rw[de];intro j hj;exact P j (by simpa using hj)
  apply Co;apply yW;simp[t1];apply Am;refine⟨_,k6 0 (by simp),?_⟩;simp[At,clean,H6,X]
def LG(g:AD)(f:Filter):Bool:=
 decide (0<=f.parent)&&decide (0<=f.child)&&decide (0<=f.at_)&&(match g.AE[f.parent.toNat]?,g.AE[f.child.toNat]? with
  |some p,some c=>(match p.right[f.at_.toNat]? with|some s=>decide (s=⟨am,c.left⟩)|none=>am)
  |_,_=>am)
theorem Yv(g:AD)(f:Filter):Pure prog 256 [AA g,AN f] (.bool (LG g f)):=by
 refine zP func256 63 rfl λwf=>?_;apply yW;simp;(repeat apply xS);refine H9 λK v=>?_;(repeat((refine Cg ?_ ?_);(focus(simp[AN,AA];try(first|omega|(simp +contextual[AN,AA];done)|grind);done));simp[AN,AA]));refine CO (v _ _ ?_);(repeat apply xS);refine qr (t:=decide (f.parent<0)||decide ((Z g.AE:Int)<=f.parent)||decide (f.child<0)||decide ((Z g.AE:Int)<=f.child)) ?_ (λhb=>?_) (λhb=>?_)
 .simp
 .have w:LG g f=false:=by
   simp at hb;unfold LG;rcases hb with((h|h)|h)|h
   .simp[show ¬0<=f.parent by omega]
   .by_cases h0:0<=f.parent
    .rw[ut (by omega)];simp
    .simp[h0]
   .simp[show ¬0<=f.child by omega]
   .by_cases h0:0<=f.child
    .rw[ut (i:=f.child.toNat) (by omega)];cases g.AE[f.parent.toNat]?<;>simp
    .simp[h0]
  apply yW;simp;refine Am ⟨_,_,ap,?_⟩;simp[w]
 .simp at hb;obtain⟨⟨⟨p0,p1⟩,c0⟩,c1⟩:=hb;obtain⟨a,ha⟩:∃a:Nat,f.parent=a:=⟨f.parent.toNat,by omega⟩;obtain⟨c,o⟩:∃c:Nat,f.child=c:=⟨f.child.toNat,by omega⟩;have j:a<Z g.AE:=by omega
  have q:c<Z g.AE:=by omega
  have k:LG g f=(decide (0<=f.at_)&&(match g.AE[a].right[f.at_.toNat]? with|some s=>decide (s=⟨am,g.AE[c].left⟩)|none=>am)):=by
   unfold LG;simp[ha,o,j,q]
  apply xK;(repeat apply xS);apply yV;simp[ha,j,AG];generalize z:g.AE[a].right=r at *;by_cases h0:0<=f.at_
  .by_cases h1:f.at_<Z r
   .obtain⟨b,m⟩:∃b:Nat,f.at_=b:=⟨f.at_.toNat,by omega⟩;have u:b<Z r:=by omega
    (repeat apply xS);refine yE (A3 27 []) (by kernel_rfl) ?_;simp;apply yA 0;simp[AG,m,u,o,q,AI];apply zT;rw[k,m];simp[u];cases r[b];rw[gI];simp[CS,DY]
   .have hn:r[f.at_.toNat]?=none:=ut (by omega);(repeat apply xS);refine yE (A3 27 []) (by kernel_rfl) ?_;simp;(iterate 11 (refine H3 (by simp) ?_;simp[h0,h1]));(repeat(refine P4 rfl rfl ?_ ?_;(·simp);simp));apply yA 0;simp;apply zT;rw[k,hn];simp
  ·(repeat apply xS);refine yE (A3 27 []) (by kernel_rfl) ?_;simp;(iterate 4 (refine H3 (by simp) ?_;simp[h0]));(repeat(refine P4 rfl rfl ?_ ?_;(·simp);simp));(iterate 2 (refine H3 (by simp) ?_;simp));(repeat(refine P4 rfl rfl ?_ ?_;(·simp);simp));apply yA 0;simp;apply zT;rw[k];simp[h0]
def IG(g:AD)(i:Int)(q:Token->Bool):Bool:=decide (0<=i)&&(match g.AU[i.toNat]? with|some t=>q t|none=>am)
noncomputable def FG(g:AD)(f:Filter):Bool:=
 if f.kind=1\/f.kind=2 then Cp f.cond (Z g.conds)&&LG g f
 else if f.kind=3\/f.kind=4 then Cp f.cond (Z g.conds)&&decide (0<=f.left)&&decide (f.left<Z g.Ay)&&H6 g K6 f.tokens
 else if f.kind=5 then Cp f.cond (Z g.conds)&&H6 g Ib f.tokens&&IG g f.token (λt=>K6 t&&!Ib t)
 else am
def Eg(f:Filter):Filter:=
 if f.kind=1\/f.kind=2 then {f with kind:=0,cond:=⟨[],0⟩,parent:=0,at_:=0,child:=0}
 else if f.kind=3\/f.kind=4 then {f with kind:=0,cond:=⟨[],0⟩,left:=0,tokens:=[]}
 else if f.kind=5 then {f with kind:=0,cond:=⟨[],0⟩,token:=0,tokens:=[]}
 else {f with kind:=0,cond:=⟨[],0⟩}
def NA(f:Filter):Bool:=decide (f.parent=0)&&decide (f.at_=0)&&decide (f.child=0)&&decide (f.left=0)&&decide (f.token=0)&&decide (f.tokens=[])
noncomputable def FQ(g:AD)(f:Filter):Bool:=FG g f&&NA (Eg f)
noncomputable def Ec(g:AD):Bool:=g.AT.all (FQ g)
def SM(f:Filter):V:=if f.kind=3\/f.kind=4\/f.kind=5 then .full []else .d (A2 f.tokens)
def mh(f:Filter)(g:V):V:=.agg [.d (AF 0),.d (AF f.parent),.d (AF f.at_),.d (AF f.child),.d (AF f.left),.d (AF f.token),g,.full [],.d (AF 0)]
theorem Oh(g:AD):Pure prog 209 [AA g] (AF (if Ec g then 0 else 53)):=by
 refine ip func209 rfl rfl (by simp) λwf=>?_;have N:Z g.AT<=ao:=by simp[Bq,Da,AA]at wf;omega
 rw[ntmps209];apply yW;simp;apply yW;simp;apply yW;simp;refine xS (yW ?_);simp[AA];apply Bp;refine zL (Z g.AT) (λi tm S=>tm 1=.ptr 0 1 0 0/\tm 3=.fn (.func 254) [] []/\tm 4=.fn (.func 255) [] []/\tm 10=.d (BR g.AT)/\tm 11=.d (AF (Z g.AT))/\tm 12=.d (AF i)/\S=[.row J 9 [.d (AA g)]]/\(∀j (h:j<i) (h':j<Z g.AT),FQ g g.AT[j]=J)) (by simp[AA]) ?_;rintro i tm S hi ⟨t1,t3,t4,t10,t11,t12,rfl,E⟩;apply yW;simp[t11,t12];apply xC;simp;refine⟨λz=>?_,λzf=>?_⟩
 .have P:FQ g g.AT[i]=am->Ec g=false:=λh=>by
   unfold Ec;rw[acs];exact⟨_,cF z,by simp[h]⟩
  generalize A:g.AT[i]=x at *;apply xK;apply xB;apply yW;simp[t10,t12,z,A];apply yS;(repeat((refine Cg ?_ ?_);(focus(simp[t1,AA];try(first|omega|(simp +contextual[AN,t1,AA];done)|grind);done));simp[t1,AA]));refine Bz (Mb x.cond (Z g.conds)) rfl (by simp[AB]) (yJ ?_);simp;apply yW;simp;apply yW;simp;refine nt (R:=λtm S=>tm 1=.ptr 0 1 0 0/\tm 3=.fn (.func 254) [] []/\tm 4=.fn (.func 255) [] []/\tm 10=.d (BR g.AT)/\tm 11=.d (AF (Z g.AT))/\tm 12=.d (AF i)/\tm 8=.ptr 2 1 0 0/\tm 7=.d (.bool (FG g x))/\S=[.row J 9 [.d (AA g)],.row J 9 [.d (AN x)],.row J 9 [mh (Eg x) (SM x)]]) ?_ ?_
  .apply yW;simp[AN];apply Bp;by_cases m:x.kind=1
   .refine xS (yW ?_);simp;apply AQ;simp[m];apply xK;apply AQ;simp;apply yW;simp;apply yT;apply yJ;simp[t1,AA];refine Fr (ds:=[AA g,AN x]) rfl rfl (by simp;rfl) (λ_=>Yv g x) (by simp[m,xN]) ?_;simp;(repeat((refine Cg ?_ ?_);(focus(simp;try(first|omega|(simp +contextual;done)|grind);done));simp));apply CO;unfold HQ;simp[t1,t3,t4,t10,t11,t12,FG,Eg,mh,SM,m]
   .by_cases F:x.kind=2
    .have m:=F;refine xS (yW ?_);simp;apply AQ;simp[m];apply yV;simp;apply AQ;simp;apply yW;simp;apply yT;apply yJ;simp[t1,AA];refine Fr (ds:=[AA g,AN x]) rfl rfl (by simp;rfl) (λ_=>Yv g x) (by simp[m,xN]) ?_;simp;(repeat((refine Cg ?_ ?_);(focus(simp;try(first|omega|(simp +contextual;done)|grind);done));simp));apply CO;unfold HQ;simp[t1,t3,t4,t10,t11,t12,FG,Eg,mh,SM,m]
    .by_cases s:x.kind=3
     .have m:=s;refine xS (yW ?_);simp;apply AQ;simp[m];apply yV;simp;apply AQ;simp;refine xS (yW ?_);simp;apply AQ;simp;apply xK;apply AQ;simp;apply yW;simp;apply yT;(repeat((refine Cg ?_ ?_);(focus(simp[t1];try(first|omega|(simp +contextual[t1,AA,AN];done)|grind);done));simp[t1,AA]));refine AY.XQ rfl rfl (by simp[t3];rfl) (λ_=>JE g x.tokens 254 K6 V5) (by simp +contextual[t3,AA];try rfl) ?_;simp[t3];(repeat((refine Cg ?_ ?_);(focus(simp;try(first|omega|(simp +contextual;done)|grind);done));simp));apply CO;unfold HQ;simp[t1,t3,t4,t10,t11,t12,FG,Eg,mh,SM,m]
     .by_cases u:x.kind=4
      .have m:=u;refine xS (yW ?_);simp;apply AQ;simp[m];apply yV;simp;apply AQ;simp;refine xS (yW ?_);simp;apply AQ;simp;apply yV;simp;apply AQ;simp;apply yW;simp;apply yT;(repeat((refine Cg ?_ ?_);(focus(simp[t1];try(first|omega|(simp +contextual[t1,AA,AN];done)|grind);done));simp[t1,AA]));refine AY.XQ rfl rfl (by simp[t3];rfl) (λ_=>JE g x.tokens 254 K6 V5) (by simp +contextual[t3,AA];try rfl) ?_;simp[t3];(repeat((refine Cg ?_ ?_);(focus(simp;try(first|omega|(simp +contextual;done)|grind);done));simp));apply CO;unfold HQ;simp[t1,t3,t4,t10,t11,t12,FG,Eg,mh,SM,m]
      .by_cases v:x.kind=5
       .have m:=v;refine xS (yW ?_);simp;apply AQ;simp[m];apply yV;simp;apply AQ;simp;refine xS (yW ?_);simp;apply AQ;simp;apply yV;simp;apply AQ;simp;apply yW;simp;apply AQ;simp;apply yW;simp;(repeat apply xS);apply yT;(repeat((refine Cg ?_ ?_);(focus(simp[t1];try(first|omega|(simp +contextual[t1,AA,AN,t4];done)|grind);done));simp[t1,AA,t4]));refine AY.XQ rfl rfl (by simp;rfl) (λ_=>JE g x.tokens 255 Ib iD) (by simp +contextual[AA];try rfl) ?_;simp;(repeat((refine Cg ?_ ?_);(focus(simp[t1];try(first|omega|(simp +contextual[t1,AA];done)|grind);done));simp[t1]));apply CO;generalize o:(Cp x.cond (Z g.conds)&&H6 g Ib x.tokens&&decide (0<=x.token)&&decide (x.token<Z g.AU))=Q;cases Q with
        |false=>
         have G:FG g x=false:=by
          have:(Cp x.cond (Z g.conds)&&H6 g Ib x.tokens&&IG g x.token λt=>K6 t&&!Ib t)=false:=by
           simp only[ady,UV]at o⊢;rcases o with((h|h)|h)|h
           .exact .inl (.inl h)
           .exact .inl (.inr h)
           .exact .inr (by simp[IG,h])
           .refine .inr ?_;unfold IG;by_cases h0:0<=x.token
            .rw[ut (by omega)];simp
            .simp[h0]
          unfold FG;simp[m,this]
         apply yT;(iterate 2 (refine Cg (by simp) ?_;simp));(repeat(refine FD rfl ?_ ?_;(·simp);simp));(iterate 2 (refine Cg (by simp) ?_;simp));(repeat(refine FD rfl ?_ ?_;(·simp);simp));apply yJ;simp;unfold HQ;simp[t1,t3,t4,t10,t11,t12,G,Eg,mh,SM,m]
        |true=>
         simp at o;obtain⟨⟨⟨H,K⟩,T⟩,U⟩:=o;obtain⟨b,hb⟩:∃b:Nat,x.token=b:=⟨x.token.toNat,by omega⟩;have L:b<Z g.AU:=by omega
         have G:FG g x=(K6 g.AU[b]&&!Ib g.AU[b]):=by
          unfold FG IG;simp[m,H,K,hb,L]
         have W:=V5 g.AU[b];have X:=iD g.AU[b];apply yT;apply yJ;simp[t1,t3,hb,L];refine nc (W) rfl rfl (by simp[xN];try rfl) (yJ ?_);simp[t1,t4,L];refine Fr (g:=K6 g.AU[b]) (ds:=[AV g.AU[b]]) rfl rfl (by simp<;>rfl) (λ_=>X) (by simp[xN]) ?_;simp;(repeat((refine Cg ?_ ?_);(focus(simp;try(first|omega|(simp +contextual;done)|grind);done));simp));apply CO;unfold HQ;simp[t1,t3,t4,t10,t11,t12,G,Eg,mh,SM,m,hb]
       .refine xS (yW ?_);simp;apply AQ;simp[m];apply yV;simp;apply AQ;simp[F];refine xS (yW ?_);simp;apply AQ;simp[s];apply yV;simp;apply AQ;simp[u];apply yW;simp;apply AQ;simp[v];apply yV;simp;unfold HQ;simp[t1,t3,t4,t10,t11,t12,FG,Eg,mh,SM,m,F,s,u,v,AA]
  .rintro tm S ⟨t1,t3,t4,t10,t11,t12,t8,t7,rfl⟩;have Y:(Eg x).tokens=if x.kind=3\/x.kind=4\/x.kind=5 then []else x.tokens:=by
    unfold Eg;by_cases k1:x.kind=1\/x.kind=2
    .have:¬(x.kind=3\/x.kind=4\/x.kind=5):=by omega
     simp[k1,this]
    .by_cases k2:x.kind=3\/x.kind=4
     .have:x.kind=3\/x.kind=4\/x.kind=5:=by omega
      simp[k1,k2,this]
     .by_cases k3:x.kind=5
      .simp[k3]
      .have:¬(x.kind=3\/x.kind=4\/x.kind=5):=by omega
       simp[k1,k2,k3]
   have B:NA (Eg x)=(decide ((Eg x).parent=0)&&decide ((Eg x).at_=0)&&decide ((Eg x).child=0)&&decide ((Eg x).left=0)&&decide ((Eg x).token=0)&&decide ((Eg x).tokens=[])):=rfl;rw[Y]at B;generalize q:Eg x=r at *;unfold mh SM;by_cases k3:x.kind=3\/x.kind=4\/x.kind=5
   .rw[b8 k3]at B;simp[b8 k3];apply yS;(repeat((refine Cg ?_ ?_);(focus(simp[t8];try(first|omega|(simp +contextual[t7,t8];done)|grind);done));simp[t7,t8]));apply CO;(repeat apply xS);refine qr (t:=!(FG g x&&NA r)) ?_ (λhb=>?_) (λhb=>?_)
    .rw[B];simp;rw[gI];simp[or_assoc]
    .apply yW;simp;refine Am ⟨_,_,ap,?_⟩;have:FQ g x=false:=by unfold FQ;rw[q];simpa only[rx]using hb
     simp[P this]
    .have M:FQ g x=true:=by unfold FQ;rw[q];simpa only[ab6]using hb
     apply B8;apply yV;simp[t12];refine⟨z,_,_,ne 1 (by simp),?_⟩;simp[clean,t1,t3,t4,t10,t11,AL z N,AA];intro j hj w;by_cases e:j=i
     .subst e;rw[A];exact M
     .exact E j (by omega) w
   .rw[a9 k3]at B;simp[a9 k3];apply yS;(repeat((refine Cg ?_ ?_);(focus(simp[t8];try(first|omega|(simp +contextual[t7,t8];done)|grind);done));simp[t7,t8]));apply CO;(repeat apply xS);refine qr (t:=!(FG g x&&NA r)) ?_ (λhb=>?_) (λhb=>?_)
    .rw[B];simp;have C:0<Z x.tokens↔¬x.tokens=[]:=by cases x.tokens<;>simp
     rw[gI];simp[or_assoc,C]
    .apply yW;simp;refine Am ⟨_,_,ap,?_⟩;have:FQ g x=false:=by unfold FQ;rw[q];simpa only[rx]using hb
     simp[P this]
    .have M:FQ g x=true:=by unfold FQ;rw[q];simpa only[ab6]using hb
     apply B8;apply yV;simp[t12];refine⟨z,_,_,ne 1 (by simp),?_⟩;simp[clean,t1,t3,t4,t10,t11,AL z N,AA];intro j hj w;by_cases e:j=i
     .subst e;rw[A];exact M
     .exact E j (by omega) w
 .have zs:i=Z g.AT:=by omega
  subst zs;have zJ:Ec g=true:=by
   unfold Ec;rw[de];intro x A;obtain⟨k,m,rfl⟩:=oi.1 A;exact E k m m
  apply Co;apply yW;simp;apply zT;simp[zJ]
noncomputable def Ds(g:AD):List Int:=[if Fu g then 0 else 54,if FC g then 0 else 51,if IF g then 0 else 50,Cx g [⟨#[]⟩] g.AE,if Ef g [] g.levels then 0 else 53,if Ec g then 0 else 53]
def HA:List Int->Int
 |[]=>0
 |e::l=>if e=0 then HA l else e
theorem OE:∀{l:List Int},HA l=0->∀e∈l,e=0
 |[],_,_,h=>by simp at h
 |a::l,h,e,g=>by
  unfold HA at h;split at h
  .rcases ge.1 g with rfl|g
   .assumption
   .exact OE h e g
  .rename_i hn;exact absurd h hn
theorem Pp:∀{l:List Int},(∀e∈l,e=0)->HA l=0
 |[],_=>rfl
 |a::l,h=>by simp[HA,h a acz];exact Pp λe g=>h e (abT _ g)
theorem Rt:∀{l:List Int} {i:Nat} (hi:i<Z l),(∀j (h:j<i),l[j]'(by omega)=0)->l[i]≠0->HA l=l[i]
 |a::l,0,_,_,h=>by simp at h;simp[HA,h]
 |a::l,i+1,hi,h0,h=>by
  have:a=0:=by simpa using h0 0 (by omega)
  simp[HA,this];exact Rt (by simpa using hi) (λj hj=>by simpa using h0 (j+1) (by omega)) (by simpa using h)
noncomputable def B4(g:AD):Int:=if Cz g then 2 else HA (Ds g)
def tu:List V:=[.fn (.func 204) [] [],.fn (.func 205) [] [],.fn (.func 206) [] [],.fn (.func 207) [] [],.fn (.func 208) [] [],.fn (.func 209) [] []]
theorem qz(g:AD){i:Nat}(hi:i<6):∃(k:FuncId) (h:i<Z (Ds g)),tu[i]?=some (.fn (.func k) [] [])/\Pure prog k [AA g] (AF (Ds g)[i]):=by
 match i,hi with
 |0,_=>exact⟨204,by simp[Ds],rfl,VQ g⟩
 |1,_=>exact⟨205,by simp[Ds],rfl,Qp g⟩
 |2,_=>exact⟨206,by simp[Ds],rfl,Us g⟩
 |3,_=>exact⟨207,by simp[Ds],rfl,Q3 g⟩
 |4,_=>exact⟨208,by simp[Ds],rfl,PI g⟩
 |5,_=>exact⟨209,by simp[Ds],rfl,Oh g⟩
theorem Ru(g:AD):Pure prog 151 [AA g] (AF (B4 g)):=by
 refine zP func151 23 rfl λwf=>?_;apply yW;simp;refine xS (yS ?_);apply yJ;simp[AA];refine Bz (dc g) rfl (by simp[AA]) (yJ ?_);simp;cases q:Cz g with
 |true=>
  apply AQ;simp;apply yW;simp;refine Am ⟨_,_,ap,?_⟩;simp[B4,q]
 |false=>
  apply AQ;simp;apply xK;apply yS;((refine AY.I3 rfl ?_ ?_);(focus(simp[FR,ao];done));simp);apply yJ;simp;refine xS (yW ?_);simp;apply Bp;refine zL 6 (λi tm S=>tm 1=.ptr 0 1 0 0/\tm 10=.row 1 6/\tm 11=.d (AF 6)/\tm 12=.d (AF i)/\S=[.row J 9 [.d (AA g)],.row J 1 tu]/\(∀j (h:j<i) (G:j<Z (Ds g)),(Ds g)[j]=0)) (by simp[AA,tu]) ?_;rintro i tm S hi ⟨t1,t10,t11,t12,rfl,v⟩;apply yW;simp[t11,t12];apply xC;simp;refine⟨λA=>?_,λH=>?_⟩
  .have m:i<6:=by omega
   obtain⟨k,B,s,C⟩:=qz g m;have Dj:=Rt B (λj hj=>v j hj (by omega));generalize E:(Ds g)[i]=e at *;have t:Z tu=6:=rfl;have w:i<Z tu:=by rw[t];exact m
   have u:tu[i]=.fn (.func k) [] []:=by rw[dl w]at s;exact wa s
   apply xK;apply xB;apply yS;apply yJ;simp[t10,t12,m,A,t,u];apply yS;apply yJ;simp[t1,AA];refine Bz (C) rfl (by simp[AA]) (yJ ?_);simp;(repeat apply xS);apply yV;simp;by_cases o:e=0
   .apply AQ;simp[o];apply B8;apply yV;simp[t12];refine⟨m,_,_,ap,?_⟩;simp[t1,t10,t11];refine⟨AL m (by simp[ao]),λj hj z=>?_⟩;by_cases F:j=i
    .subst F;rw[E];exact o
    .exact v j (by omega) z
   .apply AQ;simp[o];apply yW;simp;refine Am ⟨_,_,ap,?_⟩;simp[B4,q,Dj o]
  .have m:i=6:=by omega
   subst m;have h0:HA (Ds g)=0:=Pp λe o=>by
    obtain⟨j,hj,rfl⟩:=oi.1 o;exact v j (by simpa[Ds]using hj) hj
   apply Co;apply yW;simp;apply zT;simp[B4,q,h0]
theorem Bt{g:AD}(h:B4 g=0):Cz g=am/\Fu g=J/\FC g=J/\IF g=J/\Cx g [⟨#[]⟩] g.AE=0/\Ef g [] g.levels=J/\Ec g=true:=by
 unfold B4 at h;split at h
 .cases h
 .rename_i j;have i:=OE h;have h1:=i (if Fu g then 0 else 54) (by simp[Ds]);have k:=i (if FC g then 0 else 51) (by simp[Ds]);have m:=i (if IF g then 0 else 50) (by simp[Ds]);have o:=i (Cx g [⟨#[]⟩] g.AE) (by simp[Ds]);have q:=i (if Ef g [] g.levels then 0 else 53) (by simp[Ds]);have s:=i (if Ec g then 0 else 53) (by simp[Ds]);refine⟨by simpa using j,?_,?_,?_,o,?_,?_⟩
  .cases h:Fu g<;>simp[h]at h1⊢
  .cases h:FC g<;>simp[h]at k⊢
  .cases h:IF g<;>simp[h]at m⊢
  .cases h:Ef g [] g.levels<;>simp[h]at q⊢
  .cases h:Ec g<;>simp[h]at s⊢
theorem Xv{c:Nat}:∀{l:List AM},(∀p∈l,Z p.right<=c)->(l.map (·.right.length)).sum<=Z l * c
 |[],_=>by simp
 |p::l,h=>by
  have h1:=h p acz;have i:=Xv λq g=>h q (abT _ g);simp[Nat.succ_mul];omega
theorem Mf{g:AD}(hn:Z g.conds<=12)(h:B4 g=0):uM g:=by
 obtain⟨h0,h1,m,w,q,z,A⟩:=Bt h;simp[Cz,MZ]at h0;obtain⟨⟨⟨⟨⟨⟨l1,l2⟩,B⟩,C⟩,E⟩,F⟩,u⟩:=h0;have i:=Ep q;refine⟨hn,?_,λt k=>?_,λp j=>?_,λp j s v k=>?_,by omega,?_⟩
 .simp[Fu]at h1;exact FL h1.1.2
 .simp[FC]at m;have:=m.2 t k;simp[Hu]at this;exact FL this.1.2
 .have:=(i p j).2;simp[IU]at this;exact FL this.1.1.1
 .have:=(i p j).1;simp[EW]at this;have:=this.2 s v;simp[Ez,k]at this;refine⟨this.1,?_⟩;rcases x3 s.index.toNat (Z g.AU) with o|o
  .omega
  .rw[ut o]at this;simp at this
 .have:=Xv (c:=16) λp j=>(show Z p.right<=16 by have:=(u p j).1;omega);unfold Fits;have:Z g.AE * 16<=2000 * 16:=abg _ (by omega);omega
noncomputable def RU(g:AD):Int:=rh g (B4 g)
theorem Sq(g:AD)(hn:Z g.conds<=12):BL prog 22 [.d (AA g)] [] (yU g (B4 g)):=Z1 g (B4 g) (Ru g) λh=>Mf hn h
theorem AH.Lt{f:FuncId}{α:Type}{enc:α->D}{xs:List α}{wr:Bool}{sz:Nat}(h:AH prog f [.d (.sl (xs.map enc))] [] (.row 0 (Z xs)) [.row wr sz (xs.map λx=>.d (enc x))]):Pure prog f [.sl (xs.map enc)] (.sl (xs.map enc)):=by
 have g:AH prog f [.d (.sl (xs.map enc))] [] (.row 0 (Z (xs.map enc))) [.row wr sz ((xs.map enc).map .d)]:=by
  simpa[lm]using h
 exact g.np
def JB(d:AO):Prop:=Z d.nodes<=2 ^ 30
theorem P7(d:AO)(h:JB d):Pure prog 107 [AB d] (AB d):=by
 have i:=(Th d.nodes h).Lt;refine ip func107 (by kernel_rfl) rfl (by simp) λwf=>?_;rw[ntmps107];refine xW λK g=>?_;simp;apply g;(repeat refine xS ?_);refine xE (A3 6 [13]) (by kernel_rfl) λK g=>?_;simp;refine xA 0 ?_;simp[AB];refine kt (i) rfl (by simp) ?_;simp;refine xA 0 ?_;simp;refine xX 63 (by kernel_rfl) ?_;simp;refine xM (g _ _ ?_);(try simp only[xQ,reduceIte]);refine Am ⟨_,_,ap,?_⟩;(try simp);simp[AB]
structure Qh(g:AD):Prop where
 conds:Z g.conds<=2 ^ 30
 fam:JB g.fam
 Ay:Z g.Ay<=2 ^ 30
 AU:Z g.AU<=2 ^ 30/\∀t∈g.AU,Z t.pattern<=2 ^ 30/\JB t.cond
 AE:Z g.AE<=2 ^ 30/\∀p∈g.AE,Z p.right<=2 ^ 30/\Z p.layout<=2 ^ 30/\JB p.cond
 levels:Z g.levels<=2 ^ 30/\∀l∈g.levels,Z l.AE<=2 ^ 30/\JB l.cond
 AT:Z g.AT<=2 ^ 30/\∀f∈g.AT,Z f.tokens<=2 ^ 30/\JB f.cond
theorem Be{S:Sg}:∀{l:List V} {ds:List D},DR S l=some ds↔l.map (BC S)=ds.map some
 |[],ds=>by cases ds<;>simp[DR]
 |x::l,ds=>by
  simp only[DR,ii];generalize BC S x=o;cases g:DR S l with
  |none=>
   constructor
   .intro h;cases o<;>cases h
   .intro h;cases ds with
    |nil=>cases h
    |cons d ds=>
     simp at h;rw[Be.2 h.2]at g;cases g
  |some i=>
   have j:=Be.1 g;cases o with
   |none=>
    constructor
    .intro h;cases h
    .intro h;cases ds with
     |nil=>cases h
     |cons d ds=>simp at h
   |some d0=>
    rw[j];constructor
    .intro h;cases h;rfl
    .intro h;cases ds with
     |nil=>cases h
     |cons d ds=>
      simp at h;rw[h.1,(List.map_inj_right (λ_ _ h=>wa h)).1 h.2]
theorem MV{S:Sg}{l:List V}{ds:List D}{i:Nat}{v:V}{d:D}(h:DR S l=some ds)(g:ds[i]?=some d)(k:BC S v=some d):DR S (l.set i v)=some ds:=by
 rw[Be]at h⊢;rw[gl,h,k];apply acr;intro j;by_cases e:i=j
 .subst e;have hi:i<Z ds:=Ai g;rw[dl hi]at g;simp[hi,wa g]
 .simp[e]
def SF(g:AD):Sg:=[.row J 9 [.d (AA g)],.row J 9 [.agg [.full [],.full [],.d (AF 0),.full [],.full [],.full [],.d (AF 0),.full [],.full []]],.row J 9 [.agg [.row 3 (Z g.conds),.d (AX g.fam.nodes),.d (AF g.fam.root),.row 5 (Z g.AU),.row 4 (Z g.Ay),.row 6 (Z g.AE),.d (AF g.start),.row 7 (Z g.levels),.row 8 (Z g.AT)]],.row (!g.conds.isEmpty) 1 (g.conds.map λx=>.d (D.str x)),.row (!g.Ay.isEmpty) 1 (g.Ay.map λx=>.d (D.str x)),.row (!g.AU.isEmpty) 7 (g.AU.map λx=>.d (AV x)),.row (!g.AE.isEmpty) 13 (g.AE.map λx=>.d (AG x)),.row (!g.levels.isEmpty) 4 (g.levels.map λx=>.d (Ak x)),.row (!g.AT.isEmpty) 9 (g.AT.map λx=>.d (AN x))]
def pC(g:AD):V:=.agg [.row 3 (Z g.conds),.d (AX g.fam.nodes),.d (AF g.fam.root),.row 5 (Z g.AU),.row 4 (Z g.Ay),.row 6 (Z g.AE),.d (AF g.start),.row 7 (Z g.levels),.row 8 (Z g.AT)]
def ZN(g:AD):Sg:=[.row J 9 [.d (AA g)],.row J 9 [pC g],.row J 9 [pC g],.row (!g.conds.isEmpty) 1 (g.conds.map λx=>.d (D.str x)),.row (!g.Ay.isEmpty) 1 (g.Ay.map λx=>.d (D.str x)),.row (!g.AU.isEmpty) 7 (g.AU.map λx=>.d (AV x)),.row (!g.AE.isEmpty) 13 (g.AE.map λx=>.d (AG x)),.row (!g.levels.isEmpty) 4 (g.levels.map λx=>.d (Ak x)),.row (!g.AT.isEmpty) 9 (g.AT.map λx=>.d (AN x))]
theorem aO(g:AD)(s:Qh g):AH prog 24 [.d (AA g)] [] (pC g) (ZN g):=by
 have c1:=Rw g.conds s.conds;have c2:=Rw g.Ay s.Ay;have B:=ba g.AU s.AU.1;have C:=XC g.AE s.AE.1;have E:=UL g.levels s.levels.1;have F:=TU g.AT s.AT.1;have G:=P7 g.fam s.fam;refine j0 func24 (by kernel_rfl) rfl (by simp) λwf _=>?_;rw[ntmps24];refine xW λK j=>?_;simp;apply j;refine xW λK j=>?_;simp[AA];apply j;refine xD [0,2,6,8,12,14,5,18,11,16,21,22,25,26,29] (by kernel_rfl) λK j=>?_;simp;refine xA 1 ?_;simp;refine AC (xT [0,0,0,0,1,0]) (c1) [] (by kernel_rfl) rfl (by simp[Aa];try rfl) ?_;simp;refine xA 1 ?_;simp;refine AC (xT [0,0,0,1,0,0]) (c2) [] (by kernel_rfl) rfl (by simp[Aa];try rfl) ?_;simp;refine Bs (G) rfl (by simp[AB]) ?_;simp[AB];refine xA 1 ?_;simp;refine xX 35 (by kernel_rfl) ?_;simp[Aa,Ag];refine xA 1 ?_;simp;refine xX 9 (by kernel_rfl) ?_;simp[Aa];refine xA 1 ?_;simp;refine xX 7 (by kernel_rfl) ?_;simp[Aa];refine xM (j _ _ ?_);refine xD [0,2,6,8,5,12,11,15,16,19] (by kernel_rfl) λK j=>?_;simp;refine xA 1 ?_;simp;refine AC (xT [0,0,1,0]) (B) [] (by kernel_rfl) rfl (by simp[Aa];try rfl) ?_;simp;refine xA 1 ?_;simp;refine AC (xT [0,1,0,0]) (C) [] (by kernel_rfl) rfl (by simp[Aa];try rfl) ?_;simp;refine xX 5 (by kernel_rfl) ?_;simp[Aa];refine xA 1 ?_;simp;refine xX 3 (by kernel_rfl) ?_;simp[Aa];refine xM (j _ _ ?_);refine xD [0,2,6,8,5,12,11,15,16,19] (by kernel_rfl) λK j=>?_;simp;refine xA 1 ?_;simp;refine AC (xT [0,0,1,0]) (E) [] (by kernel_rfl) rfl (by simp[Aa];try rfl) ?_;simp;refine xA 1 ?_;simp;refine AC (xT [0,1,0,0]) (F) [] (by kernel_rfl) rfl (by simp[Aa];try rfl) ?_;simp;refine xX 5 (by kernel_rfl) ?_;simp[Aa];refine xA 1 ?_;simp;refine xX 3 (by kernel_rfl) ?_;simp[Aa];refine xM (j _ _ ?_);refine nt (R:=λtm S=>tm 2=.ptr 1 1 0 0/\tm 3=.ptr 2 1 0 0/\S=SF g) ?_ ?_
 .refine xW λK j=>?_;simp;apply j;refine Bp ?_;refine FH (Z g.AU) (λi tm S=>tm 2=.ptr 1 1 0 0/\tm 3=.ptr 2 1 0 0/\tm 43=.d (AF (Z g.AU))/\tm 44=.d (AF i)/\S=SF g) (i0:=0) (ed _) (by simp[SF,AA]) ?_;rintro i tm S hi ⟨t2,t3,t43,t44,rfl⟩;refine xW λK j=>?_;simp[t43,t44];apply j;refine xC ?_;simp;refine⟨λk=>?_,λw=>?_⟩
  .have q:g.AU.isEmpty=false:=by cases h:g.AU<;>simp[h]at k⊢
   obtain⟨z,A⟩:=s.AU.2 _ (cF k);generalize m:g.AU[i]=x at *;have H:=(VA x.pattern z).Lt;have cS:=P7 x.cond A;unfold SF;refine xK ?_;refine xB ?_;refine xW λK j=>?_;simp[t44];apply j;(repeat refine xS ?_);refine xV λK j=>?_;simp[t3,k];refine j _ _ ?_;(try simp only[xQ,reduceIte]);have o:=AV.eq_1 x;refine xE (A3 14 [29,30,32,35]) (by kernel_rfl) λK j=>?_;simp;refine xA 1 ?_;simp[k,m,o];refine Bs (H) rfl (by simp[xN]) ?_;simp;refine xA 1 ?_;simp[k,m,o];refine Bs (cS) rfl (by simp[AB,xN]) ?_;simp[AB];refine xA 1 ?_;simp[k];refine xX 12173 (by kernel_rfl) ?_;simp[k,m,q,Aa,Ag,o];refine xA 1 ?_;simp[k];refine xX 125 (by kernel_rfl) ?_;simp[k,Aa];refine xM (j _ _ ?_);refine xV λK j=>?_;simp[t44];apply j;refine⟨k,_,_,jp 5 rfl (MV (Ck _ AV g.AU) (d:=AV x) (by simp[k,m]) (by simp[o])),?_⟩;simp[t2,t3,t43,AL k (by have:=s.AU.1;unfold ao;omega:Z g.AU<=ao),q,lm]
  .have u:i=Z g.AU:=by omega
   subst u;refine Co ?_;(try simp only[C8,Bh,reduceIte]);exact⟨t2,t3,trivial⟩
 .rintro tm S ⟨t2,t3,rfl⟩;refine nt (R:=λtm S=>tm 2=.ptr 1 1 0 0/\tm 3=.ptr 2 1 0 0/\S=SF g) ?_ ?_
  .skip;refine xW λK j=>?_;simp[t3,SF];apply j;refine Bp ?_;refine FH (Z g.AE) (λi tm S=>tm 2=.ptr 1 1 0 0/\tm 3=.ptr 2 1 0 0/\tm 70=.d (AF (Z g.AE))/\tm 71=.d (AF i)/\S=SF g) (i0:=0) (ed _) (by simp[SF,AA,t2,t3]) ?_;rintro i tm S hi ⟨t2,t3,tl,ti,rfl⟩;refine xW λK j=>?_;simp[tl,ti];apply j;refine xC ?_;simp;refine⟨λk=>?_,λw=>?_⟩
   .have q:g.AE.isEmpty=false:=by cases h:g.AE<;>simp[h]at k⊢
    have t:=s.AE.2 _ (cF k);generalize m:g.AE[i]=x at *;have v:=(JH x.right t.1).Lt;have L:=(TS x.layout t.2.1).Lt;have cS:=P7 x.cond t.2.2;unfold SF;refine xK ?_;refine xB ?_;refine xW λK j=>?_;simp[ti];apply j;(repeat refine xS ?_);refine xV λK j=>?_;simp[t3,k];refine j _ _ ?_;(try simp only[xQ,reduceIte]);have o:=AG.eq_1 x;refine xE (A3 20 [41,42,44,47,48,50,53]) (by kernel_rfl) λK j=>?_;simp;refine xA 1 ?_;simp[k,m,o];refine Bs (v) rfl (by simp[xN]) ?_;simp;refine xA 1 ?_;simp[k,m,o];refine Bs (L) rfl (by simp[xN]) ?_;simp;refine xA 1 ?_;simp[k,m,o];refine Bs (cS) rfl (by simp[AB,xN]) ?_;simp[AB];refine xA 1 ?_;simp[k];refine xX 651661 (by kernel_rfl) ?_;simp[k,m,q,Aa,Ag,o];refine xA 1 ?_;simp[k];refine xX 1477 (by kernel_rfl) ?_;simp[k,Aa];refine xA 1 ?_;simp[k];refine xX 125 (by kernel_rfl) ?_;simp[k,Aa];refine xM (j _ _ ?_);refine xV λK j=>?_;simp[ti];apply j;refine⟨k,_,_,jp 6 rfl (MV (Ck _ AG g.AE) (d:=AG x) (by simp[k,m]) (by simp[o])),?_⟩;simp[t2,t3,tl,AL k (by have:=s.AE.1;unfold ao;omega:Z g.AE<=ao),q,lm]
   .have u:i=Z g.AE:=by omega
    subst u;refine Co ?_;(try simp only[C8,Bh,reduceIte]);exact⟨t2,t3,trivial⟩
  .rintro tm S ⟨t2,t3,rfl⟩;refine nt (R:=λtm S=>tm 2=.ptr 1 1 0 0/\tm 3=.ptr 2 1 0 0/\S=SF g) ?_ ?_
   .skip;refine xW λK j=>?_;simp[t3,SF];apply j;refine Bp ?_;refine FH (Z g.levels) (λi tm S=>tm 2=.ptr 1 1 0 0/\tm 3=.ptr 2 1 0 0/\tm 105=.d (AF (Z g.levels))/\tm 106=.d (AF i)/\S=SF g) (i0:=0) (ed _) (by simp[SF,AA,t2,t3]) ?_;rintro i tm S hi ⟨t2,t3,tl,ti,rfl⟩;refine xW λK j=>?_;simp[tl,ti];apply j;refine xC ?_;simp;refine⟨λk=>?_,λw=>?_⟩
    .have q:g.levels.isEmpty=false:=by cases h:g.levels<;>simp[h]at k⊢
     have t:=s.levels.2 _ (cF k);generalize m:g.levels[i]=x at *;have v:=(RS x.AE t.1).Lt;have cS:=P7 x.cond t.2;unfold SF;refine xK ?_;refine xB ?_;refine xW λK j=>?_;simp[ti];apply j;(repeat refine xS ?_);refine xV λK j=>?_;simp[t3,k];refine j _ _ ?_;(try simp only[xQ,reduceIte]);have o:=Ak.eq_1 x;refine xE (A3 14 [29,30,32,35]) (by kernel_rfl) λK j=>?_;simp;refine xA 1 ?_;simp[k,m,o];refine Bs (v) rfl (by simp[xN]) ?_;simp;refine xA 1 ?_;simp[k,m,o];refine Bs (cS) rfl (by simp[AB,xN]) ?_;simp[AB];refine xA 1 ?_;simp[k];refine xX 12173 (by kernel_rfl) ?_;simp[k,m,q,Aa,Ag,o];refine xA 1 ?_;simp[k];refine xX 125 (by kernel_rfl) ?_;simp[k,Aa];refine xM (j _ _ ?_);refine xV λK j=>?_;simp[ti];apply j;refine⟨k,_,_,jp 7 rfl (MV (Ck _ Ak g.levels) (d:=Ak x) (by simp[k,m]) (by simp[o])),?_⟩;simp[t2,t3,tl,AL k (by have:=s.levels.1;unfold ao;omega:Z g.levels<=ao),q,lm]
    .have u:i=Z g.levels:=by omega
     subst u;refine Co ?_;(try simp only[C8,Bh,reduceIte]);exact⟨t2,t3,trivial⟩
   .rintro tm S ⟨t2,t3,rfl⟩;refine nt (R:=λtm S=>tm 2=.ptr 1 1 0 0/\tm 3=.ptr 2 1 0 0/\S=SF g) ?_ ?_
    .skip;refine xW λK j=>?_;simp[t3,SF];apply j;refine Bp ?_;refine FH (Z g.AT) (λi tm S=>tm 2=.ptr 1 1 0 0/\tm 3=.ptr 2 1 0 0/\tm 132=.d (AF (Z g.AT))/\tm 133=.d (AF i)/\S=SF g) (i0:=0) (ed _) (by simp[SF,AA,t2,t3]) ?_;rintro i tm S hi ⟨t2,t3,tl,ti,rfl⟩;refine xW λK j=>?_;simp[tl,ti];apply j;refine xC ?_;simp;refine⟨λk=>?_,λw=>?_⟩
     .have q:g.AT.isEmpty=false:=by cases h:g.AT<;>simp[h]at k⊢
      have t:=s.AT.2 _ (cF k);generalize m:g.AT[i]=x at *;have v:=(RS x.tokens t.1).Lt;have cS:=P7 x.cond t.2;unfold SF;refine xK ?_;refine xB ?_;refine xW λK j=>?_;simp[ti];apply j;(repeat refine xS ?_);refine xV λK j=>?_;simp[t3,k];refine j _ _ ?_;(try simp only[xQ,reduceIte]);have o:=AN.eq_1 x;refine xE (A3 14 [29,30,32,35]) (by kernel_rfl) λK j=>?_;simp;refine xA 1 ?_;simp[k,m,o];refine Bs (v) rfl (by simp[xN]) ?_;simp;refine xA 1 ?_;simp[k,m,o];refine Bs (cS) rfl (by simp[AB,xN]) ?_;simp[AB];refine xA 1 ?_;simp[k];refine xX 12173 (by kernel_rfl) ?_;simp[k,m,q,Aa,Ag,o];refine xA 1 ?_;simp[k];refine xX 125 (by kernel_rfl) ?_;simp[k,Aa];refine xM (j _ _ ?_);refine xV λK j=>?_;simp[ti];apply j;refine⟨k,_,_,jp 8 rfl (MV (Ck _ AN g.AT) (d:=AN x) (by simp[k,m]) (by simp[o])),?_⟩;simp[t2,t3,tl,AL k (by have:=s.AT.1;unfold ao;omega:Z g.AT<=ao),q,lm]
     .have u:i=Z g.AT:=by omega
      subst u;refine Co ?_;(try simp only[C8,Bh,reduceIte]);exact⟨t2,t3,trivial⟩
    .rintro tm S ⟨t2,t3,rfl⟩;unfold SF;refine xW λK j=>?_;simp[t2,t3];apply j;refine Am ?_;(try simp only[xQ,reduceIte]);refine⟨_,rr (by simp[ZN,pC]),?_⟩;simp[At,t2,ZN,pC]
def hV(g:AD):V:=.agg [.row 0 (Z g.conds),.d (AX g.fam.nodes),.d (AF g.fam.root),.row 1 (Z g.AU),.row 2 (Z g.Ay),.row 3 (Z g.AE),.d (AF g.start),.d (Bl g.levels),.d (BR g.AT)]
def hS(g:AD):Sg:=[.row (!g.conds.isEmpty) 1 (g.conds.map λx=>.d (D.str x)),.row (!g.AU.isEmpty) 7 (g.AU.map λx=>.d (AV x)),.row (!g.Ay.isEmpty) 1 (g.Ay.map λx=>.d (D.str x)),.row (!g.AE.isEmpty) 13 (g.AE.map λx=>.d (AG x))]
theorem UK(g:AD)(o:Qh g):AH prog 24 [.d (AA g)] [] (hV g) (hS g):=
 (aO g o).ghost λtm h0=>by
  let j:Sg:=[.row J 9 [.d (AA g)],.row J 9 [pC g],.row J 9 [pC g],.row (!g.conds.isEmpty) 1 (g.conds.map λx=>.d (D.str x)),.row (!g.Ay.isEmpty) 1 (g.Ay.map λx=>.d (D.str x)),.row (!g.AU.isEmpty) 7 (g.AU.map λx=>.d (AV x)),.row (!g.AE.isEmpty) 13 (g.AE.map λx=>.d (AG x)),.BQ (g.levels.map Ak),.BQ (g.AT.map AN)];have q:AJ prog 1 0 tm (ZN g) tm j:=
   (fc 7 (S:=ZN g) rfl (Ck _ Ak g.levels)).trans (fc 8 (S:=(ZN g).set 7 (.BQ (g.levels.map Ak))) rfl (Ck _ AN g.AT))
  let k:V:=.agg [.row 3 (Z g.conds),.d (AX g.fam.nodes),.d (AF g.fam.root),.row 5 (Z g.AU),.row 4 (Z g.Ay),.row 6 (Z g.AE),.d (AF g.start),.d (Bl g.levels),.d (BR g.AT)];have s:AJ prog 1 0 tm j (ER tm 0 k) j:=AJ.wg 0 h0 rfl λi h t=>by
   match i,t with
   |0,_=>exact .inl rfl
   |1,_=>exact .inl rfl
   |2,_=>exact .inl rfl
   |3,_=>exact .inl rfl
   |4,_=>exact .inl rfl
   |5,_=>exact .inl rfl
   |6,_=>exact .inl rfl
   |7,_=>exact .inr ⟨.sl (g.levels.map Ak),by simp[j,BC,CZ],rfl⟩
   |8,_=>exact .inr ⟨.sl (g.AT.map AN),by simp[j,BC,CZ],rfl⟩
  have u:∀(ρ:Nat->Nat) {α:Type} (f:α->D) (l:List α),CE ρ (l.map λx=>V.d (f x))=l.map λx=>V.d (f x):=λρ α f l=>by
   induction l with
   |nil=>rfl
   |cons x l v=>simp[CE,v]
  let m:Sg:=hS g++[.row J 9 [.d (AA g)],.row J 9 [BU (nameOf [4,5,6,0,2,1,3,7,8]) (pC g)],.row J 9 [BU (nameOf [4,5,6,0,2,1,3,7,8]) (pC g)],.BQ (g.levels.map Ak),.BQ (g.AT.map AN)];have w:=AJ.perm (P:=prog) (n:=1) (b:=0) (tm:=ER tm 0 k) (S:=j) (S':=m) [4,5,6,0,2,1,3,7,8] (by decide) rfl rfl (by simp[j,m,hS,DM,u,CE]) (λi h=>by omega) [3,5,4,6,0,1,2,7,8] rfl rfl;refine⟨_,(q.trans (s.trans w)).trans (ea 4 (S':=hS g) rfl (ed _) (by simp[m,hS]) (by simp[m,hS])),?_⟩;simp[clean,ER,k,hV,nameOf]
def UC(d:AO):Bool:=((Z d.nodes:Int)==0)&&(d.root==0)
theorem SY(d:AO):Pure prog 116 [AB d] (.bool (UC d)):=by
 refine zP func116 12 rfl λwf=>?_;apply yW;simp;(repeat apply xS);refine H9 λK g=>?_;(repeat((refine Cg ?_ ?_);(focus(simp[AB];try(first|omega|(simp +contextual[AB];done)|grind);done));simp[AB]));refine CO (g _ _ ?_);apply zT;simp[UC]
def vh(x:AR):Bool:=(x.number==0)&&(x.at_==0)&&(x.to==0)&&decide (x.name=⟨#[]⟩)&&!x.value&&UC x.cond
def v9(x:AR):Bool:=((Z x.levels:Int)==0)&&((Z x.AT:Int)==0)&&((Z x.Ah:Int)==0)
def vf(t:Token):Bool:=decide (t.name=⟨#[]⟩)&&(t.cls==0)&&decide (t.literal=⟨#[]⟩)&&((Z t.pattern:Int)==0)&&decide (t.Cy=⟨#[]⟩)&&UC t.cond
def vL(p:AM):Bool:=decide (p.name=⟨#[]⟩)&&(p.left==0)&&((Z p.right:Int)==0)&&UC p.cond&&!p.bracket&&(p.EC==0)&&((Z p.layout:Int)==0)&&decide (p.scope=⟨am,0,0,0,0⟩)
def E3(x:AR):Bool:=vh x&&v9 x&&vf x.token&&vL x.prod
theorem SR(x:AR):Pure prog 25 [AK x] (.bool (E3 x)):=by
 refine ip func25 (by kernel_rfl) rfl (by simp) λwf=>?_;rw[ntmps25];have g:=AK.eq_1 x;have h:=AV.eq_1 x.token;have i:=AG.eq_1 x.prod;have j:CS [D.bool x.prod.scope.opens,D.int .i64 x.prod.scope.declares,D.int .i64 x.prod.scope.kind,D.int .i64 x.prod.scope.Fk,D.int .i64 x.prod.scope.allowed] [D.bool am,D.int .i64 0,D.int .i64 0,D.int .i64 0,D.int .i64 0]=decide (x.prod.scope=⟨am,0,0,0,0⟩):=by
  cases x.prod.scope;rw[gI];simp[CS,DY]
 apply yW;simp;refine PP (R:=λtm S=>tm 1=.ptr 0 1 0 0/\tm 3=.ptr 1 1 0 0/\tm 4=.ptr 2 1 0 0/\S=[.row J 31 [.d (AK x)],.row J 7 [.agg (Aj (.d (AV x.token)))],.row J 13 [.agg (Aj (.d (AG x.prod)))]]) ?_ ?_
 .refine AW.regionF (by kernel_rfl) λK k=>?_;change Bf _ _ _ _ _ _ 8 (Array.replicate 8 am) _ _;refine ul 0 rfl (by kernel_rfl) ?_ ?_;(focus(simp[g];done));simp;refine ul 1 rfl (by kernel_rfl) ?_ ?_;(focus(simp[g];done));simp[g];refine ul 2 rfl (by kernel_rfl) ?_ ?_;(focus(simp;done));simp;refine ul 3 rfl (by kernel_rfl) ?_ ?_;(focus(simp;done));simp;refine Bf.jJ 4 5 [am,am,am,am] [am,am,am,am] (by kernel_rfl) rfl rfl (by kernel_rfl) (by kernel_rfl) ?_ ?_ ?_ ?_
  .simp[Aa]
  .simp[Aa]
  .simp;refine Do 5 [am,am,am,am] (by kernel_rfl) rfl (by kernel_rfl) ?_ ?_;(focus(simp[Aa];done));simp;refine Do 6 [am,am,J,J] (by kernel_rfl) rfl (by kernel_rfl) ?_ ?_;(focus(simp[Aa];done));simp;refine Do 7 [J,J] (by kernel_rfl) rfl (by kernel_rfl) ?_ ?_;(focus(simp[Aa];done));simp;refine aeB (by kernel_rfl) (k _ _ ⟨_,_,ap,?_⟩);simp[g,h,i]
  .simp;refine Do 4 [am,am,am,am] (by kernel_rfl) rfl (by kernel_rfl) ?_ ?_;(focus(simp[Aa];done));simp;refine Do 6 [am,am,J,J] (by kernel_rfl) rfl (by kernel_rfl) ?_ ?_;(focus(simp[Aa];done));simp;refine Do 7 [J,J] (by kernel_rfl) rfl (by kernel_rfl) ?_ ?_;(focus(simp[Aa];done));simp;refine aeB (by kernel_rfl) (k _ _ ⟨_,_,AJ.perm (S':=[.row J 31 [.d (AK x)],.row J 7 [.agg (Aj (.d (AV x.token)))],.row J 13 [.agg (Aj (.d (AG x.prod)))]]) [0,2,1] (by decide) (by simp) (by simp) ?_ (by simp) [0,2,1] (by simp;decide) (by simp),?_⟩)
   .simp[g,h,i]
   .simp
 .rintro tm S ⟨t1,t3,t4,rfl⟩;apply yS;(repeat((refine Cg ?_ ?_);(focus(simp[t1,g];try(first|omega|(simp +contextual[t1,g];done)|grind);done));simp[t1,g]));refine Fr (ds:=[AB x.cond]) rfl rfl (by simp;rfl) (λ_=>SY x.cond) (by simp[xN]) ?_;simp;(repeat((refine Cg ?_ ?_);(focus(simp;try(first|omega|(simp +contextual;done)|grind);done));simp));apply CO;(repeat refine xS ?_);refine H9 λK k=>?_;(repeat((refine Cg ?_ ?_);(focus(simp[t1];try(first|omega|(simp +contextual[t1,g];done)|grind);done));simp[t1]));refine CO (k _ _ ?_);(try simp only[yQ,reduceIte]);apply yS;(repeat((refine Cg ?_ ?_);(focus(simp[t3];try(first|omega|(simp +contextual[t3];done)|grind);done));simp[t3]));refine Fr (ds:=[AB x.token.cond]) rfl rfl (by simp;rfl) (λ_=>SY x.token.cond) (by simp[xN]) ?_;simp;(repeat((refine Cg ?_ ?_);(focus(simp;try(first|omega|(simp +contextual;done)|grind);done));simp));apply CO;apply yS;(repeat((refine Cg ?_ ?_);(focus(simp[t4];try(first|omega|(simp +contextual[t4];done)|grind);done));simp[t4]));refine Fr (ds:=[AB x.prod.cond]) rfl rfl (by simp;rfl) (λ_=>SY x.prod.cond) (by simp[xN]) ?_;simp;(repeat((refine Cg ?_ ?_);(focus(simp[t4];try(first|omega|(simp +contextual[t4,j];done)|grind);done));simp[t4,j]));apply CO;(repeat refine xS ?_);refine H9 λK k=>?_;(repeat((refine Cg ?_ ?_);(focus(simp;try(first|omega|(simp +contextual;done)|grind);done));simp));refine CO (k _ _ ?_);(try simp only[yQ,reduceIte]);refine Am ⟨_,_,ap,?_⟩;simp[E3,vh,v9,vf,vL,ads]
def Hg:Token:=⟨⟨#[]⟩,0,⟨#[]⟩,[],⟨#[]⟩,⟨[],0⟩⟩
def EY:AM:=⟨⟨#[]⟩,0,[],⟨[],0⟩,am,0,[],⟨am,0,0,0,0⟩⟩
theorem DV:ByteArray.empty=⟨#[]⟩:=rfl
def XD(x:AR):Sg:=[.row J 31 [.d (AK x)]]
def Ym(f:FuncId)(c:AR->AR):Prop:=∀x,AH prog f [.ptr 0 1 0 0] (XD x) (.CA []) (XD (c x))
theorem QR:Ym 68 (λx=>{x with number:=0,name:=⟨#[]⟩}):=λx=>by
 have g:=AK.eq_1 x;unfold XD;refine zC func68 8 rfl λwf _=>?_;apply yT;apply yJ;simp[g];refine⟨_,jp 0 (xs:=[AK {x with number:=0,name:=⟨#[]⟩}]) rfl (by simp[DR,AK]),?_⟩;simp[At]
theorem ie:Ym 69 (λx=>{x with number:=0,at_:=0,to:=0,name:=⟨#[]⟩}):=λx=>by
 have g:=AK.eq_1 x;unfold XD;refine zC func69 14 rfl λwf _=>?_;apply yT;apply yJ;simp[g];refine⟨_,jp 0 (xs:=[AK {x with number:=0,at_:=0,to:=0,name:=⟨#[]⟩}]) rfl (by simp[DR,AK]),?_⟩;simp[At]
theorem ef:Ym 79 (λx=>{x with name:=⟨#[]⟩}):=λx=>by
 have g:=AK.eq_1 x;unfold XD;refine zC func79 5 rfl λwf _=>?_;apply yT;apply yJ;simp[g];refine⟨_,jp 0 (xs:=[AK {x with name:=⟨#[]⟩}]) rfl (by simp[DR,AK]),?_⟩;simp[At]
theorem iq:Ym 81 (λx=>{x with number:=0,value:=false}):=λx=>by
 have g:=AK.eq_1 x;unfold XD;refine zC func81 8 rfl λwf _=>?_;apply yT;apply yJ;simp[g];refine⟨_,jp 0 (xs:=[AK {x with number:=0,value:=false}]) rfl (by simp[DR,AK]),?_⟩;simp[At]
theorem gn:Ym 83 (λx=>{x with number:=0,cond:=⟨[],0⟩}):=λx=>by
 have g:=AK.eq_1 x;unfold XD;refine zC func83 9 rfl λwf _=>?_;apply yT;apply yJ;simp[g];refine⟨_,jp 0 (xs:=[AK {x with number:=0,cond:=⟨[],0⟩}]) rfl (by simp[DR,AK]),?_⟩;simp[At]
theorem iL:Ym 88 (λx=>{x with number:=0,at_:=0}):=λx=>by
 have g:=AK.eq_1 x;unfold XD;refine zC func88 8 rfl λwf _=>?_;apply yT;apply yJ;simp[g];refine⟨_,jp 0 (xs:=[AK {x with number:=0,at_:=0}]) rfl (by simp[DR,AK]),?_⟩;simp[At]
theorem dJ:Ym 94 (λx=>{x with number:=0,at_:=0,name:=⟨#[]⟩}):=λx=>by
 have g:=AK.eq_1 x;unfold XD;refine zC func94 11 rfl λwf _=>?_;apply yT;apply yJ;simp[g];refine⟨_,jp 0 (xs:=[AK {x with number:=0,at_:=0,name:=⟨#[]⟩}]) rfl (by simp[DR,AK]),?_⟩;simp[At]
theorem gY:Ym 96 (λx=>{x with levels:=[]}):=λx=>by
 have g:=AK.eq_1 x;unfold XD;refine zC func96 5 rfl λwf _=>?_;apply yT;apply yJ;simp[g];refine⟨_,jp 0 (xs:=[AK {x with levels:=[]}]) rfl (by simp[DR,AK]),?_⟩;simp[At]
theorem fF:Ym 98 (λx=>{x with AT:=[]}):=λx=>by
 have g:=AK.eq_1 x;unfold XD;refine zC func98 5 rfl λwf _=>?_;apply yT;apply yJ;simp[g];refine⟨_,jp 0 (xs:=[AK {x with AT:=[]}]) rfl (by simp[DR,AK]),?_⟩;simp[At]
theorem fW:Ym 100 (λx=>{x with token:=Hg}):=λx=>by
 have g:=AK.eq_1 x;unfold XD;refine zC func100 6 rfl λwf _=>?_;apply yT;apply yJ;simp[g];refine⟨_,jp 0 (xs:=[AK {x with token:=Hg}]) rfl (by simp[DR,AK,Hg,DV]),?_⟩;simp[At]
theorem dZ:Ym 102 (λx=>{x with prod:=EY}):=λx=>by
 have g:=AK.eq_1 x;unfold XD;refine zC func102 6 rfl λwf _=>?_;apply yT;apply yJ;simp[g];refine⟨_,jp 0 (xs:=[AK {x with prod:=EY}]) rfl (by simp[DR,AK,EY,DV]),?_⟩;simp[At]
theorem aL:Ym 104 (λx=>{x with number:=0,prod:=EY,Ah:=[]}):=λx=>by
 have g:=AK.eq_1 x;unfold XD;refine zC func104 12 rfl λwf _=>?_;apply yT;apply yJ;simp[g];refine⟨_,jp 0 (xs:=[AK {x with number:=0,prod:=EY,Ah:=[]}]) rfl (by simp[DR,AK,EY,DV]),?_⟩;simp[At]
end Go.Koi
