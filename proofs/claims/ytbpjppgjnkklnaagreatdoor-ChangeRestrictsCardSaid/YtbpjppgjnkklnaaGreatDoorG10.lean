/-
  Part 11 of the proof that the law ChangeRestricts returns true for every input.
-/
import Derived.Test.YtbpjppgjnkklnaaGreatDoorG09
import Derived.Laws.Bits64b
import Derived.Lib.TrailingZeros
set_option maxHeartbeats 64000000
set_option maxRecDepth 100000
open List renaming length->Z,range->i6,replicate->lw
open Go.IntKind renaming wrap->b8
open Bool renaming true->J,false->ap
open Option renaming some->am
open Go.Proofs.Tryz renaming prog->ao
namespace Go.Koi
open Go renaming maxLen->a8
open Go.Proofs Tryz DT
def CZ(k:Int):Int:=if k=0\/k=1 then 0 else if k=4 then 1 else if k=2\/k=3 then 2 else -1
theorem jJ(k:Int):Pure prog 245 [encI k] (encI (CZ k)):=by
 refine zP func245 12 rfl λwf=>?_;apply yW;simp;refine xS (yW ?_);simp;apply Bo;refine xS (yW ?_);simp;by_cases h0:k=0
 .subst h0;apply AP;simp;apply xK;apply AP;simp;apply yW;simp;refine Aj ⟨_,_,a9,?_⟩;simp[CZ]
 .apply AP;simp[h0];apply yV;simp;by_cases g:k=1
  .subst g;apply AP;simp;apply yW;simp;refine Aj ⟨_,_,a9,?_⟩;simp[CZ]
  .apply AP;simp[g];(repeat apply xS);apply yV;simp;by_cases h:k=4
   .subst h;apply AP;simp;apply yW;simp;refine Aj ⟨_,_,a9,?_⟩;simp[CZ]
   .apply AP;simp[h];refine xS (yW ?_);simp;by_cases i:k=2
    .subst i;apply AP;simp;apply xK;apply AP;simp;apply yW;simp;refine Aj ⟨_,_,a9,?_⟩;simp[CZ]
    .apply AP;simp[i];apply yV;simp;by_cases j:k=3
     .subst j;apply AP;simp;apply yW;simp;refine Aj ⟨_,_,a9,?_⟩;simp[CZ]
     .apply AP;simp[j];apply CF;apply yW;simp;apply zT;simp[CZ,h0,g,h,i,j]
def I3(u:List Bool)(i at_:Int):Option (List Bool):=if i<0\/at_<=i\/u.getD i.toNat ap=J then none else am (u.set i.toNat J)
def Sb(u:List Bool):Sg:=[.row J 1 [.row 1 (Z u)],.row J 1 (u.map λb=>.d (.bool b))]
abbrev g9:=@List.map_set
theorem Wg(u:List Bool)(i at_:Int)(q:at_<=Z u):AG prog 244 [.d (encI i),.d (encI at_),.ptr 0 1 0 0] (Sb u) (.d (.bool (I3 u i at_).isSome)) (Sb ((I3 u i at_).getD u)):=by
 unfold Sb;refine zC func244 22 rfl λwf _=>?_;(repeat apply xS);apply yV;simp;by_cases h:i<0
 .have k:I3 u i at_=none:=by simp[I3,h]
  rw[k];refine xS (yS ?_);(iterate 10 (refine Cc (by simp) ?_;simp[h]));((refine FI rfl (by simp;try rfl) ?_);simp);((refine FI rfl (by simp;try rfl) ?_);simp);apply yJ;simp;apply AP;simp;apply yW;simp;apply Aj;refine⟨_,a9,?_⟩;simp[Aq]
 .by_cases g:at_<=i
  .have k:I3 u i at_=none:=by simp[I3,g]
   rw[k];refine xS (yS ?_);(iterate 10 (refine Cc (by simp) ?_;simp[h,g]));((refine FI rfl (by simp;try rfl) ?_);simp);((refine FI rfl (by simp;try rfl) ?_);simp);apply yJ;simp;apply AP;simp;apply yW;simp;apply Aj;refine⟨_,a9,?_⟩;simp[Aq]
  .have o:i<Z u:=by omega
   obtain⟨j,rfl⟩:∃j:Nat,i=j:=⟨i.toNat,by omega⟩;have m:j<Z u:=by omega
   refine xS (yW ?_);simp[h,g,o,m];cases hb:u[j]with
   |true=>
    have k:I3 u j at_=none:=by simp[I3,m,hb]
    rw[k];apply AP;simp;apply yW;simp;apply Aj;refine⟨_,a9,?_⟩;simp[Aq]
   |false=>
    have k:I3 u j at_=am (u.set j J):=by simp[I3,m,hb];omega
    rw[k];apply AP;simp;apply xK;apply yW;simp[m];apply yW;simp;apply Aj;simp[qT];refine⟨_,a9,?_⟩;simp[Aq]
def VP(x:A8):Bool:=if x.kind=1 then decide (0<=x.lo)&&decide (x.lo<=x.hi)&&decide (x.hi<=255)else decide (0<=CZ x.kind)&&decide (x.lo=0)&&decide (x.hi=0)
def F6(u:List Bool)(at_:Nat)(x:A8):Option (List Bool):=
 if VP x=ap\/(CZ x.kind<1/\x.a≠0)\/(CZ x.kind<2/\x.b≠0)then none
 else if CZ x.kind<1 then am u
 else(I3 u x.a at_).bind λv=>if CZ x.kind<2 then am v else I3 v x.b at_
def Gt(p:List A8):Nat->Option (List Bool)
 |0=>am (List.replicate (Z p) ap)
 |i+1=>(Gt p i).bind λu=>(p[i]?).bind λx=>F6 u i x
def D8(p:List A8):Int:=
 if 512<Z p then 2 else
 match Gt p (Z p) with
 |none=>40
 |some u=>if p=[]\/(u.take (Z p - 1)).any (λb=>!b)=J then 40 else 0
theorem Er{u v:List Bool}{i at_:Int}(h:I3 u i at_=am v):Z v=Z u:=by
 unfold I3 at h;split at h
 .cases h
 .cases h;simp
abbrev abM:=@Option.bind_eq_some_iff
theorem Rz{u v:List Bool}{at_:Nat}{x:A8}(h:F6 u at_ x=am v):Z v=Z u:=by
 unfold F6 at h;split at h
 .cases h
 .split at h
  .cases h;rfl
  .obtain⟨w,i,g⟩:=abM.1 h;split at g
   .cases g;exact Er i
   .rw[Er g,Er i]
theorem MQ{p:List A8}:∀{i:Nat} {u:List Bool},Gt p i=am u->Z u=Z p
 |0,u,h=>by cases h;simp
 |i+1,u,h=>by
  obtain⟨v,g,j⟩:=abM.1 h;obtain⟨x,_,k⟩:=abM.1 j;rw[Rz k,MQ g]
theorem LJ{p:List A8}{i:Nat}(h:Gt p i=none):∀k,Gt p (i+k)=none
 |0=>h
 |k+1=>by rw[<-py,Gt,LJ h k];rfl
theorem Mf(k:Int):CZ k= -1\/CZ k=0\/CZ k=1\/CZ k=2:=by
 unfold CZ;split
 .simp
 .split
  .simp
  .split<;>simp
theorem YZ{x:A8}(h:CZ x.kind= -1):VP x=false:=by
 unfold VP;have:x.kind≠1:=by intro e;rw[e]at h;simp[CZ]at h
 simp[this,h]
abbrev UV:=@Go.IntKind.wrap_i64
theorem Np(p:List A8):Pure prog 190 [Av p] (encI (D8 p)):=by
 refine hW func190 rfl rfl (by simp) λwf=>?_;have X:Z p<=maxLen:=by simp[Bm,DY,Av]at wf;exact wf.1
 rw[ntmps190];apply yW;simp;refine xS (yW ?_);simp;by_cases B:512<Z p
 .have M:(512:Int)<Z p:=by omega
  apply AP;simp[M];apply yW;simp;refine Aj ⟨_,_,a9,?_⟩;simp[D8,B]
 .have M:¬(512:Int)<Z p:=by omega
  have Y:(Z p:Int)<=1073741824:=by omega
  apply AP;simp[M];apply xK;apply yW;simp[Y];apply yW;simp;refine xS (yW ?_);simp;apply Bo;refine zL (Z p) (λi tm S=>(Gt p i).isSome=J/\tm 0=.d (Av p)/\tm 3=.ptr 1 1 0 0/\tm 4=.fn (.func 244) [] [.ptr 1 1 0 0]/\tm 17=.d (Av p)/\tm 18=.d (encI (Z p))/\tm 19=.d (encI i)/\S=[.row J 1 (((Gt p i).getD []).map λb=>.d (.bool b)),.row J 1 [.row 0 (Z p)]]) (by simp[Gt]) ?_;rintro i tm S hi ⟨hsc,t0,t3,t4,t17,t18,t19,rfl⟩;obtain⟨u,W⟩:=md.1 hsc;have o:=MQ W;simp[W];apply yW;simp[t18,t19];apply xC;simp;refine⟨λE=>?_,λzu=>?_⟩
  .apply xK;apply xB;(repeat apply xS);apply yV;simp[t17,t19,E];have hget:(Av p)=.sl (p.map AQ):=rfl;generalize hx:p[i]=x at *;apply yS;apply yJ;simp;refine Bq (jJ x.kind) rfl (by simp) (yJ ?_);simp;apply yW;simp;refine m7 (R:=λtm S=>tm 0=.d (Av p)/\tm 3=.ptr 1 1 0 0/\tm 4=.fn (.func 244) [] [.ptr 1 1 0 0]/\tm 5=.d (encI i)/\tm 6=.ptr 2 1 0 0/\tm 7=.d (encI (CZ x.kind))/\tm 8=.d (.bool (VP x))/\tm 17=.d (Av p)/\tm 18=.d (encI (Z p))/\tm 19=.d (encI i)/\S=[.row J 1 (u.map λb=>.d (.bool b)),.row J 1 [.row 0 (Z p)],.row J 5 [.d (AQ x)]]) ?_ ?_
   .apply Bo;(repeat apply xS);apply yV;simp[AQ];by_cases H:x.kind=1
    .apply AP;simp[H];apply yV;simp;unfold HQ;simp[VP,H,CZ,t0,t3,t4,t17,t18,t19]
    .apply AP;simp[H];apply yW;simp;(repeat apply xS);refine m8 (t:=!(decide (x.lo=0)&&decide (x.hi=0))) ?_ (λhb=>?_) (λhb=>?_)
     .simp;rw[gI];simp
     .apply yV;simp;unfold HQ;simp at hb;have:VP x=false:=by simp[VP,H];grind
      simp[this,t0,t3,t4,t17,t18,t19]
     .apply CF;simp at hb;have:VP x=decide (0<=CZ x.kind):=by simp[VP,H,hb]
      simp[this,t0,t3,t4,t17,t18,t19]
   .rintro tm S ⟨t0,t3,t4,t5,t6,t7,t8,t17,t18,t19,rfl⟩;have A:Gt p (i+1)=F6 u i x:=by simp[Gt,W,E,hx]
    have q:F6 u i x=none->D8 p=40:=λh=>by
     have H:=LJ (A.trans h) (Z p - (i+1));rw[Nat.add_sub_cancel' (by omega)]at H;simp[D8,B,H]
    by_cases T:VP x=ap\/(CZ x.kind<1/\x.a≠0)\/(CZ x.kind<2/\x.b≠0)
    .have F:F6 u i x=none:=by simp[F6,ca T]
     have C:=q F;have hcs:VP x=ap\/VP x=J/\CZ x.kind=0/\x.a≠0\/VP x=J/\CZ x.kind=0/\x.a=0/\x.b≠0\/VP x=J/\CZ x.kind=1/\x.b≠0:=by
      have:=Mf x.kind;have:=@YZ x;grind
     rcases hcs with h|⟨h,n1,m⟩|⟨h,n1,m,K⟩|⟨h,n1,m⟩
     .skip;apply yS;apply yJ;simp[AQ,t4,t5,t6,t7,t8,h];((refine FI rfl (by simp;try rfl) ?_);simp);apply yJ;simp[t4,t5,t6,t7];((refine FI rfl (by simp;try rfl) ?_);simp);apply yJ;simp;apply AP;simp;apply yW;simp;refine Aj ⟨_,_,a9,?_⟩;simp[C]
     .skip;apply yS;apply yJ;simp[AQ,t4,t5,t6,t7,t8,h,n1,m];((refine FI rfl (by simp;try rfl) ?_);simp);apply yJ;simp[t4,t5,t6,t7,n1,m];((refine FI rfl (by simp;try rfl) ?_);simp);apply yJ;simp[m];apply AP;simp[m];apply yW;simp;refine Aj ⟨_,_,a9,?_⟩;simp[C]
     .skip;apply yS;apply yJ;simp[AQ,t4,t5,t6,t7,t8,h,n1,m,K];((refine FI rfl (by simp;try rfl) ?_);simp);apply yJ;simp[t4,t5,t6,t7,n1,K];((refine FI rfl (by simp;try rfl) ?_);simp);apply yJ;simp[K];apply AP;simp[K];apply yW;simp;refine Aj ⟨_,_,a9,?_⟩;simp[C]
     .skip;apply yS;apply yJ;simp[AQ,t4,t5,t6,t7,t8,h,n1,m];((refine FI rfl (by simp[m];try rfl) ?_);simp);apply yJ;simp[t4,t5,t6,t7,n1,m];((refine FI rfl (by simp;try rfl) ?_);simp);apply yJ;simp;apply AP;simp;apply yW;simp;refine Aj ⟨_,_,a9,?_⟩;simp[C]
    .have g:VP x=true:=by grind
     have hn:CZ x.kind=0/\x.a=0/\x.b=0\/CZ x.kind=1/\x.b=0\/CZ x.kind=2:=by
      have:=Mf x.kind;have:=@YZ x;grind
     rcases hn with⟨n1,L,n3⟩|⟨n1,n3⟩|n1
     .have F:F6 u i x=am u:=by simp[F6,g,n1,L,n3]
      apply yS;apply yJ;simp[AQ,g,n1,L,n3,t4,t5,t6,t7,t8];((refine FI rfl (by simp;try rfl) ?_);simp);apply yJ;simp[n1,t4,t5,t6,t7];((refine FI rfl (by simp;try rfl) ?_);simp);apply yJ;simp;apply AP;simp;apply CF;apply yV;simp[t19];refine⟨E,_,_,l6 2 (by simp),?_⟩;rw[A,F];simp[clean,t0,t3,t4,t17,t18,AK E X]
     .have N:=o;apply yS;apply yJ;simp[AQ,t4,t5,t6,t7,t8,g,n1,n3];refine AS.PJ (Wg u x.a i (by omega)) [1,0] rfl rfl (by simp[Sb,o];try rfl) ?_;simp[Sb];cases w:I3 u x.a i with
      |none=>
       have C:=q (by simp[F6,g,n1,n3,w]);apply yJ;simp[t4,t5,t6,t7,n1];((refine FI rfl (by simp;try rfl) ?_);simp);apply yJ;simp;apply AP;simp;apply yW;simp;refine Aj ⟨_,_,a9,?_⟩;simp[C]
      |some v=>
       have F:F6 u i x=am v:=by simp[F6,g,n1,n3,w]
       apply yJ;simp[t4,t5,t6,t7,n1];((refine FI rfl (by simp;try rfl) ?_);simp);apply yJ;simp;apply AP;simp;apply CF;apply yV;simp[t19];refine⟨E,_,_,l6 2 (by simp),?_⟩;rw[A,F];simp[clean,t0,t3,t4,t17,t18,AK E X,Er w,o]
     .apply yS;apply yJ;simp[AQ,t4,t5,t6,t7,t8,g,n1];refine AS.PJ (Wg u x.a i (by omega)) [1,0] rfl rfl (by simp[Sb,o];try rfl) ?_;simp[Sb];cases w:I3 u x.a i with
      |none=>
       have C:=q (by simp[F6,g,n1,w]);apply yJ;simp[t4,t5,t6,t7,n1];((refine FI rfl (by simp;try rfl) ?_);simp);apply yJ;simp;apply AP;simp;apply yW;simp;refine Aj ⟨_,_,a9,?_⟩;simp[C]
      |some v=>
       have N:=Er w;apply yJ;simp[t4,t5,t6,t7,n1];refine AS.PJ (Wg v x.b i (by omega)) [1,0] rfl rfl (by simp[Sb,o,N];try rfl) ?_;simp[Sb,o,N];cases P:I3 v x.b i with
       |none=>
        have C:=q (by simp[F6,g,n1,w,P]);apply yJ;simp;apply AP;simp;apply yW;simp;refine Aj ⟨_,_,a9,?_⟩;simp[C]
       |some v2=>
        have F:F6 u i x=am v2:=by simp[F6,g,n1,w,P]
        apply yJ;simp;apply AP;simp;apply CF;apply yV;simp[t19];refine⟨E,_,_,l6 2 (by simp),?_⟩;rw[A,F];simp[clean,t0,t3,t4,t17,t18,AK E X,Er w,Er P,o]
  .have hil:i=Z p:=by omega
   subst hil;have Q:D8 p=if p=[]\/(u.take (Z p - 1)).any (λb=>!b)=J then 40 else 0:=by simp[D8,B,W]
   have hw:IntKind.wrap .i64 ((Z p:Int) - 1)=Z p - 1:=by rw[UV];omega
   apply Ci;refine xS (yW ?_);simp[t0,hw];apply Bo;refine zL (Z p - 1) (λk tm S=>(∀j (h:j<k) (m:j<Z u),u[j]=J)/\tm 0=.d (Av p)/\tm 3=.ptr 1 1 0 0/\tm 104=.d (encI ((Z p:Int) - 1))/\tm 105=.d (encI k)/\S=[.row J 1 (u.map λb=>.d (.bool b)),.row J 1 [.row 0 (Z p)]]) (by simp[t0,t3]) ?_;rintro k tm S hk ⟨zj,t0,t3,t104,t105,rfl⟩;apply yW;simp[t104,t105];apply xC;simp;refine⟨λE=>?_,λzu=>?_⟩
   .have U:k<Z u:=by omega
    have hk1:k<Z p - 1:=by omega
    apply xK;apply xB;(repeat apply xS);apply yV;simp[t105];have hkq:k<Z p:=by omega
    (repeat apply xS);apply yV;simp[t3,hkq,o];cases hb:u[k]with
    |false=>
     apply AP;simp;apply yW;simp;refine Aj ⟨_,_,a9,?_⟩;have:(u.take (Z p - 1)).any (λb=>!b)=true:=by
      rw[abT];exact⟨u[k],lm.2 ⟨k,by simp;omega,by simp⟩,by simp[hb]⟩
     simp[Q,this]
    |true=>
     apply AP;simp;apply CF;apply yV;simp[t105];refine⟨hk1,_,_,a9,?_⟩;simp[t0,t3,t104,AK U (by omega:Z u<=maxLen)];intro j hj hj';by_cases e:j=k
     .subst e;exact hb
     .exact zj j (by omega) hj'
   .apply Ci;refine xS (yW ?_);simp[t0];by_cases G:p=[]
    .subst G;apply AP;simp;apply yW;simp;refine Aj ⟨_,_,a9,?_⟩;simp[Q]
    .have hp1:Z p≠0:=by simpa using G
     have hp2:¬(Z p:Int)=0:=by omega
     have F:(u.take (Z p - 1)).any (λb=>!b)=false:=by
      rw[tg];intro b hb;obtain⟨j,hj,rfl⟩:=lm.1 hb;simp at hj;simp[zj j (by omega) (by omega)]
     apply AP;simp[G];apply xK;apply yW;simp;apply zT;simp[Q,F,G]
def lN(w:Nat):D:=.int .u64 w
abbrev ac6:=@Go.IntKind.wrap_u64
theorem P9(n:Nat):b8 .u64 (n:Int)=((n % 18446744073709551616:Nat):Int):=by rw[ac6];omega
theorem iJ{n:Nat}(h:n<2 ^ 64):b8 .u64 (n:Int)=(n:Int):=by rw[P9,sw (by omega)]
theorem u64_and(a b:Nat)(ha:a<2 ^ 64)(hb:b<2 ^ 64):b8 .u64 ((a % 2 ^ IntKind.u64.bits&&& b % 2 ^ IntKind.u64.bits:Nat):Int)=((a&&& b:Nat):Int):=by
 have e:IntKind.u64.bits=64:=rfl;have g:a&&& b<2 ^ 64:=Nat.and_lt_two_pow _ (by omega);rw[e,sw ha,sw hb,P9,sw (by omega)]
abbrev adT:=@Nat.or_lt_two_pow
theorem u64_or(a b:Nat)(ha:a<2 ^ 64)(hb:b<2 ^ 64):b8 .u64 ((a % 2 ^ IntKind.u64.bits|||b % 2 ^ IntKind.u64.bits:Nat):Int)=((a|||b:Nat):Int):=by
 have e:IntKind.u64.bits=64:=rfl;have g:a|||b<2 ^ 64:=adT (by omega) (by omega);rw[e,sw ha,sw hb,P9,sw (by omega)]
theorem mW{w:Nat}(g:w<2 ^ 64)(h0:w≠0):b8 .u64 ((w % 2 ^ IntKind.u64.bits&&& (b8 .u64 (-(w:Int)) % 2 ^ IntKind.u64.bits).toNat:Nat):Int)=((2 ^ Lib.ctz 64 w:Nat):Int):=by
 have h:(b8 .u64 (-(w:Int)) % 2 ^ IntKind.u64.bits).toNat=(2 ^ 64 - w) % 2 ^ IntKind.u64.bits:=by
  have e:IntKind.u64.bits=64:=rfl;rw[e,ac6];omega
 rw[h,u64_and w (2 ^ 64 - w) g (by omega),(Lib.lowest_bit 64 w h0 g).1]
theorem rY(q:Nat):((q:Int).fdiv (2 ^ min 58 IntKind.u64.bits))=((q / 288230376151711744:Nat):Int):=by
 have e:min 58 IntKind.u64.bits=58:=by decide
 rw[e,abO _ (by decide)];have g:(2:Int) ^ 58=288230376151711744:=by decide
 rw[g];omega
theorem rh{j k:Nat}(h:Lib.deBruijn64tab.getD j 0=k):Bw.getD (j:Int).toNat 0=(k:Int):=by
 have:Bw=Lib.deBruijn64tab.map λ(n:Nat)=>(n:Int):=by decide
 rw[this,<-h,ne];simp;cases Lib.deBruijn64tab[j]?<;>rfl
theorem sg(w:Nat)(m:w<2 ^ 64):Pure prog 299 [lN w] (encI (Lib.ctz 64 w)):=by
 refine zP func299 14 rfl λwf=>?_;unfold lN;apply yW;simp;refine xS (yW ?_);simp;by_cases h0:w=0
 .subst h0;apply AP;simp;apply yW;simp;refine Aj ⟨_,_,a9,?_⟩;(try simp);simp[Lib.ctz]
 .have u:¬(w:Int)=0:=by omega
  apply AP;simp[h0];apply xK;(repeat apply xS);apply yT;(repeat(refine Cc ?_ ?_;(·simp);simp));refine AS.neg (k:=.u64) (i:=w) rfl rfl (by simp) (by simp) ?_;simp;apply xO;simp;obtain⟨o,v⟩:=Lib.lowest_bit 64 w h0 m;obtain⟨hi,g⟩:=Lib.deBruijn64_at _ v;rw[mW m h0];generalize A:Lib.ctz 64 w=k at *;generalize B:2 ^ k=a at *;have C:b8 .u64 ((a:Int) * 285870213051353865)=((a * 285870213051353865 % 18446744073709551616:Nat):Int):=by rw[ac6];omega
  apply xO;simp;rw[C];generalize F:a * 285870213051353865 % 18446744073709551616=q at *;apply xO;simp;rw[rY];generalize hj:q / 288230376151711744=j at *;(refine AS.sV (E:=5) (k:=.u64) (i:=j) rfl rfl rfl (by simp) (by simp) (by simp) (by simp) (by omega) (by omega) ?_);rw[rh g];simp;have h:b8 .i64 (k:Int)=k:=by rw[UV];omega
  apply yJ;simp[h];apply zT;try simp
def F3(ws:List Nat):List V:=ws.map λ(w:Nat)=>.d (.int .u64 (w:Int))
def Dn(ws:List Nat):V:=.agg (F3 ws)
def IK(ws:List Nat):Prop:=Z ws=8/\∀w∈ws,w<2 ^ 64
def JO(ws:List Nat)(i:Nat):List Nat:=ws.set (i / 64) (ws.getD (i / 64) 0|||2 ^ (i % 64))
theorem IK.get{ws:List Nat}(h:IK ws)(k:Nat)(i:k<8):∃w,ws[k]?=am w/\w<2 ^ 64:=by
 have g:k<Z ws:=by rw[h.1];exact i
 exact⟨ws[k],by simp[g],h.2 _ (cL g)⟩
abbrev abx:=@List.mem_or_eq_of_mem_set
abbrev adx:=@Nat.pow_lt_pow_right
theorem X2{ws:List Nat}(h:IK ws)(i:Nat)(hi:i<512):IK (JO ws i):=by
 obtain⟨w,k,m⟩:=h.get (i / 64) (by omega);refine⟨by simp[JO,h.1],λx j=>?_⟩;unfold JO at j;rcases abx j with g|g
 .exact h.2 _ g
 .rw[g];simp[k];exact adT m (adx (by omega) (by omega))
theorem ce{α:Type}(a:α):∃b,a=b:=⟨_,rfl⟩
abbrev ge:=@Int.tmod_eq_emod_of_nonneg
abbrev ade:=@List.set_eq_take_append_cons_drop
theorem oW{els:List V}{k:Nat}{e:V}{ws:List Nat}(C:els[k]?=am e)(E:Ae e=F3 ws)(ha:Ap e=J)(N:IK ws)(i:Nat)(hi:i<512):
  AG prog 286 [.ptr 0 (Z els) k 0,.d (encI i)] [.row J 8 els] (.CX []) [.row J 8 (els.set k (Dn (JO ws i)))]:=by
 refine zC func286 16 rfl λwf _=>?_;obtain⟨w,o,K⟩:=N.get (i / 64) (by omega);have u:k<Z els:=by
  rcases s9 k (Z els) with h|h
  .exact h
  .rw[pu h]at C;cases C
 have v:JO ws i=ws.set (i / 64) (ws.getD (i / 64) 0|||2 ^ (i % 64)):=rfl;obtain⟨q,P⟩:=ce (i / 64);obtain⟨r,Q⟩:=ce (i % 64);rw[P]at o;rw[P,Q]at v;have F:b8 .i64 ((i:Int) / 64)=(q:Int):=by rw[UV];omega
 have G:(i:Int).tmod 64=(r:Int):=by rw[ge (by omega)];omega
 have hj:q<8:=by omega
 have g:(q:Int)<8:=by omega
 have j:Z (F3 ws)=8:=by simp[F3,N.1]
 have H:(F3 ws)[q]?=am (.d (.int .u64 w)):=by simp[F3,o]
 have m:q<=7:=by omega
 obtain rfl:els[k]=e:=by rw[ej u]at C;exact nu C
 have L:b8 .u64 (2 ^ min r IntKind.u64.bits)=((2 ^ r:Nat):Int):=by
  have e:min r IntKind.u64.bits=r:=by have:IntKind.u64.bits=64:=rfl;omega
  have:2 ^ r<2 ^ 64:=adx (by omega) (by omega);rw[e,<-iJ this];simp
 have A:2 ^ r<2 ^ 64:=adx (by omega) (by omega);rw[v];generalize 2 ^ r=z at *;have M:=u64_or w z K A;refine yE (A7 12 [25]) (by kernel_rfl) ?_;simp;(iterate 10 (refine Hs (by simp[u,g,m,E,j,ha]) ?_;simp[F,G,u,E,H,L,M]));apply yA 1;simp[u,g];apply xX 4093 (by kernel_rfl);simp[u,g,m,E,j,ha,AY];have B:List.take q (F3 ws)++V.d (D.int .u64 ((w|||z:Nat):Int))::List.drop (q+1) (F3 ws)=F3 (ws.set q (ws.getD q 0|||z)):=by
  rw[show F3 (ws.set q (ws.getD q 0|||z))=(F3 ws).set q (V.d (D.int .u64 ((w|||z:Nat):Int)))from by simp[F3,o],ade,ca (by omega)]
 rw[B];apply xM;refine⟨_,a9,?_⟩;simp[Aq]
def Kb(ss ts:List Nat):List Nat:=List.zipWith (·|||·) ss ts
theorem Mx{ss ts:List Nat}(h:IK ss)(g:IK ts):IK (Kb ss ts):=by
 refine⟨by simp[Kb,h.1,g.1],λx i=>?_⟩;obtain⟨j,hj,rfl⟩:=lm.1 i;simp[Kb]at hj⊢;exact adT (h.2 _ (cL _)) (g.2 _ (cL _))
def OI(ss ts:List Nat)(j:Nat):List Nat:=(Kb ss ts).take j++ss.drop j
theorem Ye(ss ts:List Nat):OI ss ts 0=ss:=by simp[OI]
abbrev adl:=@List.drop_eq_nil_of_le
theorem ig{ss ts:List Nat}(h:IK ss):OI ss ts 8=Kb ss ts:=by
 have g:(Kb ss ts).take 8=Kb ss ts:=PP (by simp[Kb,h.1];omega);have i:ss.drop 8=[]:=adl (by rw[h.1];exact c9 _);simp[OI,g,i]
theorem lE{ss ts:List Nat}(h:IK ss)(i:IK ts)(j:Nat)(hj:j<=8):IK (OI ss ts j):=by
 refine⟨by simp[OI,Kb,h.1,i.1];omega,λx k=>?_⟩;rcases fi.1 k with g|g
 .exact(Mx h i).2 _ (ab2 g)
 .exact h.2 _ (acZ g)
theorem lA{ss ts:List Nat}(h:IK ss)(g:IK ts)(j:Nat)(hj:j<8):(OI ss ts j)[j]?=ss[j]?:=by
 have:Z (List.take j (Kb ss ts))=j:=by simp[Kb,h.1,g.1];omega
 unfold OI;rw[z9 (by omega),this];simp
abbrev abN:=@List.take_add_one
theorem ZN{ss ts:List Nat}(h:IK ss)(k:IK ts){j w z:Nat}(hj:j<8)(i:ss[j]?=am w)(m:ts[j]?=am z):OI ss ts (j+1)=(OI ss ts j).set j (w|||z):=by
 have o:Z (List.take j (Kb ss ts))=j:=by simp[Kb,h.1,k.1];omega
 have q:(Kb ss ts)[j]?=am (w|||z):=by simp[Kb,List.getElem?_zipWith,i,m]
 have u:ss.drop j=w::ss.drop (j+1):=by
  have g:j<Z ss:=by rw[h.1];exact hj
  rw[Hh g];have:ss[j]=w:=by rw[ej g]at i;exact nu i
  rw[this]
 unfold OI;rw[abN,q,u];rw[List.set_append_right _ _ (by omega),o];simp
theorem nr{ws:List Nat}{j w:Nat}(h:ws[j]?=am w):(F3 ws)[j]?=am (.d (.int .u64 (w:Int))):=by simp[F3,h]
theorem Jr{ws:List Nat}{j w:Nat}(h:ws[j]?=am w)(g:j<Z (F3 ws)):(F3 ws)[j]=.d (.int .u64 (w:Int)):=by
 have:=nr h;rw[ej g]at this;exact nu this
theorem BR{ws:List Nat}(h:IK ws):Z (F3 ws)=8:=by simp[F3,h.1]
theorem lR{ws:List Nat}{q z:Nat}(h:IK ws)(g:q<8):List.take q (F3 ws)++V.d (D.int .u64 (z:Int))::List.drop (q+1) (F3 ws)=F3 (ws.set q z):=by
 rw[show F3 (ws.set q z)=(F3 ws).set q (V.d (D.int .u64 (z:Int)))from by simp[F3],ade,ca (by rw[BR h];exact g)]
theorem Je(n:Nat):∀ws:List Nat,Au n (F3 ws)=J
 |[]=>rfl
 |w::ws=>by have:=Je n ws;simp only[F3,ii]at *;simp[Au]
theorem M7(n:Nat)(ws:List Nat):AJ n (Dn ws)=true:=by
 unfold Dn;exact Je n ws
theorem GX(n:Nat):∀g:List (List Nat),Au n (g.map Dn)=J
 |[]=>rfl
 |w::ws=>by simp;simp[M7];exact GX n ws
theorem dm{els:List V}{k:Nat}{ss ts:List Nat}(P:els[k]?=am (Dn ss))(C:IK ss)(E:IK ts)(Q:∀v,AJ 1 v=J->Au 1 (els.set k v)=J):
  AG prog 284 [.ptr 0 (Z els) k 0,Dn ts] [.row J 8 els] (.CX []) [.row J 8 (els.set k (Dn (Kb ss ts)))]:=by
 refine oF func284 (by kernel_rfl) rfl (by simp) λwf _=>?_;rw[ntmps284];have F:k<Z els:=by
  rcases s9 k (Z els) with h|h
  .exact h
  .rw[pu h]at P;cases P
 have R:els=els.set k (Dn ss):=by
  apply acx;intro j;by_cases G:k=j
  .subst G;rw[P];simp[F]
  .simp[G]
 have i:=BR E;refine xW λK m=>?_;simp[Dn,i];apply m;refine xW λK m=>?_;simp;apply m;refine Bo ?_;refine FO 8 (λj tm S=>tm 0=.ptr 0 (Z els) k 0/\tm 3=.ptr 1 1 0 0/\tm 5=.d (encI j)/\S=[.row J 8 (els.set k (Dn (OI ss ts j))),.row J 8 [Dn ts]]) (i0:=0) (er _) (by simp[Ye,Dn];exact R) ?_;rintro j tm S hj ⟨t0,t3,t5,rfl⟩;have H:=lE C E j hj;have o:=BR H;refine xW λK m=>?_;simp[t5];apply m;refine xC ?_;simp;refine⟨λM=>?_,λzu=>?_⟩
 .have g:j<8:=by omega
  obtain⟨w,X,T⟩:=C.get j g;obtain⟨z,Y,U⟩:=E.get j g;have L:=lA C E j g;rw[X]at L;have W:=ZN C E g X Y;have N:=u64_or w z T U;have q:=Jr L (by omega);have u:=Jr Y (by omega);have A:j<=7:=by omega
  have B:=lR (z:=w|||z) H g;rw[<-W]at B;refine xK ?_;refine xB ?_;refine xW λK m=>?_;simp[t5];apply m;refine xE (A7 11 [23]) (by kernel_rfl) λK m=>?_;simp;(iterate 9 (refine Hs (by simp[t3,F,A,M,o,i,Dn]) ?_;simp[t0,t3,F,g,M,o,i,q,u,N,Dn]));refine xA 1 ?_;simp[F,M];refine xX 2045 (by kernel_rfl) ?_;simp[F,A,M,o,AY];rw[B];refine xM (m _ _ ?_);refine xV λK m=>?_;simp[t5];apply m;refine⟨g,_,_,a9,?_⟩;simp[t0,t3,Dn];exact AK g (by simp[maxLen])
 .have g:j=8:=by omega
  subst g;refine Ci ?_;rw[ig C];refine⟨_,fd 1 (by simp) (by simp) (by simp) (by simp;exact Q _ (M7 _ _)),?_⟩;simp[Aq]
def JK(fs:List (List Nat)):O:=.row J 8 (fs.map Dn)
theorem N6{n:Nat}{v:V}(g:AJ n v=J):∀{l:List V} {k:Nat},Au n l=J->Au n (l.set k v)=J
 |[],_,_=>rfl
 |x::l,0,h=>by simp[Au]at h⊢;exact⟨g,h.2⟩
 |x::l,k+1,h=>by simp[Au]at h⊢;exact⟨h.1,N6 g h.2⟩
theorem Xb{fs:List (List Nat)}{k:Nat}{ss ts:List Nat}(g:fs[k]?=am ss)(h:IK ss)(i:IK ts):
  AG prog 284 [.ptr 0 (Z fs) k 0,Dn ts] [JK fs] (.CX []) [JK (fs.set k (Kb ss ts))]:=by
 have:=dm (els:=fs.map Dn) (k:=k) (by simp[g]) h i λv j=>N6 j (GX _ _);simpa[JK,g9]using this
theorem XT{fs:List (List Nat)}{k:Nat}{ws:List Nat}(g:fs[k]?=am ws)(h:IK ws)(i:Nat)(hi:i<512):
  AG prog 286 [.ptr 0 (Z fs) k 0,.d (encI i)] [JK fs] (.CX []) [JK (fs.set k (JO ws i))]:=by
 have:=oW (els:=fs.map Dn) (k:=k) (e:=Dn ws) (ws:=ws) (by simp[g]) (by simp[Dn]) (by simp[Dn]) h i hi;simpa[JK,g9]using this
def Ku(base w:Nat):List Nat:=((i6 64).filter λi=>w.testBit i).map (base+ ·)
abbrev acf:=@List.range_succ
abbrev acr:=@List.filter_append
theorem MI{p q:Nat->Bool}{c:Nat}(i:p c=J)(k:q c=ap)(g:∀j<c,p j=ap/\q j=ap)(m:∀j,c<j->p j=q j):∀n,c<n->(i6 n).filter p=c::(i6 n).filter q
 |0,h=>by omega
 |n+1,h=>by
  rw[acf,acr,acr];by_cases o:c<n
  .rw[MI i k g m n o];have:=m n o;simp[List.filter,this]
  .obtain rfl:c=n:=by omega
   have u:(i6 c).filter p=[]:=adk.2 λj hj=>by simp[(g j (by simpa using hj)).1]
   have v:(i6 c).filter q=[]:=adk.2 λj hj=>by simp[(g j (by simpa using hj)).2]
   simp[u,v,List.filter,i,k]
abbrev adL:=@Nat.two_pow_pos
abbrev ab0:=@Nat.testBit_two_pow_mul_add
abbrev adv:=@Nat.testBit_succ
theorem Xi{w:Nat}(k:w<2 ^ 64)(h0:w≠0):∃m,w=2 ^ Lib.ctz 64 w * (2 * m+1)/\w&&& (w - 1)=2 ^ Lib.ctz 64 w * (2 * m)/\Lib.ctz 64 w<64:=by
 obtain⟨m,h,o⟩:=Lib.ctzFrom_spec 64 w (by omega) k;have e:Lib.ctz 64 w=Lib.ctzFrom 64 w:=by simp[Lib.ctz,h0]
 rw[e];generalize Lib.ctzFrom 64 w=c at *;refine⟨m,h,?_,o⟩;have g:0<2 ^ c:=adL c;have q:w - 1=2 ^ c * (2 * m)+(2 ^ c - 1):=by rw[h,Nat.mul_add];omega
 apply Nat.eq_of_testBit_eq;intro j;have t1:w.testBit j=if j<c then ap else(2 * m+1).testBit (j - c):=by
  have:=ab0 (2 * m+1) (b:=0) (i:=c) g j;rw[tl,<-h]at this;simpa using this
 have t2:(w - 1).testBit j=if j<c then(2 ^ c - 1).testBit j else(2 * m).testBit (j - c):=by
  rw[q];exact ab0 _ (by omega) j
 have t3:(2 ^ c * (2 * m)).testBit j=if j<c then ap else(2 * m).testBit (j - c):=by
  have:=ab0 (2 * m) (b:=0) (i:=c) g j;simpa using this
 rw[Nat.testBit_and,t1,t2,t3];by_cases hj:j<c
 .simp[hj]
 .simp[hj];cases u:j - c with
  |zero=>simp
  |succ d=>rw[adv,adv];simp[show(2 * m+1) / 2=m by omega]
theorem Wi(base:Nat):Ku base 0=[]:=by
 simp[Ku]
theorem V4(base:Nat){w:Nat}(k:w<2 ^ 64)(h0:w≠0):Ku base w=(base+Lib.ctz 64 w)::Ku base (w&&& (w - 1)):=by
 obtain⟨m,o,ha,u⟩:=Xi k h0;generalize Lib.ctz 64 w=c at *;have g:0<2 ^ c:=adL c;have t1:∀j,w.testBit j=if j<c then ap else(2 * m+1).testBit (j - c):=λj=>by
  have:=ab0 (2 * m+1) (b:=0) (i:=c) g j;rw[tl,<-o]at this;simpa using this
 have t3:∀j,(2 ^ c * (2 * m)).testBit j=if j<c then ap else(2 * m).testBit (j - c):=λj=>by
  have:=ab0 (2 * m) (b:=0) (i:=c) g j;simpa using this
 have:=MI (p:=λi=>w.testBit i) (q:=λi=>(2 ^ c * (2 * m)).testBit i) (c:=c) (by simp[t1]) (by simp[t3]) (λj hj=>by simp[t1,t3,hj]) (λj hj=>by
  have h:¬j<c:=by omega
  obtain⟨d,v⟩:∃d,j - c=d+1:=⟨j - c - 1,by omega⟩;simp[t1,t3,h,v];rw[adv,adv,show(2 * m+1) / 2=m by omega,show(2 * m) / 2=m by omega]) 64 u
 unfold Ku;rw[ha,this];rfl
theorem iY{w:Nat}(g:w<2 ^ 64)(h0:w≠0):w&&& (w - 1)<w:=by
 have:=Nat.and_le_right (n:=w) (m:=w - 1);omega
def Ny(ws:List Nat)(k:Nat):List Nat:=((i6 8).drop k).flatMap λk=>Ku (64 * k) (ws.getD k 0)
def Fq(ws:List Nat):List Nat:=Ny ws 0
theorem Wt{ws:List Nat}{k w:Nat}(g:k<8)(h:ws[k]?=am w):Ny ws k=Ku (64 * k) w++Ny ws (k+1):=by
 unfold Ny;rw[Hh (by simpa using g)];simp[h]
theorem Zz(ws:List Nat):Ny ws 8=[]:=rfl
def Lc(ss ts:List Nat):Bool:=(List.zipWith (λa b=>a&&& b) ss ts).any λx=>!decide (x=0)
theorem dp{fs:List (List Nat)}{k:Nat}{ss ts:List Nat}(C:fs[k]?=am ss)(v:IK ss)(A:IK ts):
  AG prog 288 [.ptr 0 (Z fs) k 0,Dn ts] [JK fs] (.d (.bool (Lc ss ts))) [JK fs]:=by
 refine zC func288 20 rfl λwf _=>?_;have Q:k<Z fs:=by
  rcases s9 k (Z fs) with h|h
  .exact h
  .rw[pu h]at C;cases C
 obtain rfl:fs[k]=ss:=by rw[ej Q]at C;exact nu C
 have B:=BR A;have G:=BR v;unfold JK;apply yW;simp[Dn,B];refine xS (yW ?_);simp;apply Bo;refine zL 8 (λj tm S=>tm 0=.ptr 0 (Z fs) k 0/\tm 3=.ptr 1 1 0 0/\tm 6=.d (encI j)/\S=[.row J 8 (fs.map Dn),.row J 8 [Dn ts]]/\(∀i (h:i<j),fs[k].getD i 0&&& ts.getD i 0=0)) (by simp[Dn]) ?_;rintro j tm S hj ⟨t0,t3,t6,rfl,R⟩;apply yW;simp[t6];apply xC;simp;refine⟨λT=>?_,λzu=>?_⟩
 .have g:j<8:=by omega
  obtain⟨w,E,H⟩:=v.get j g;obtain⟨z,F,K⟩:=A.get j g;have U:=u64_and w z H K;have L:=Jr E (by omega);have M:=Jr F (by omega);have N:j<=7:=by omega
  have W:((((w&&& z:Nat):Int))!=0)=!decide (w&&& z=0):=by
   by_cases h:w&&& z=0
   .simp[h]
   .have:¬((w&&& z:Nat):Int)=0:=by omega
    simp[h]
  apply xK;apply xB;apply yW;simp[t6];(repeat apply xS);refine yE (A7 10 []) (by kernel_rfl) ?_;simp;apply yA 0;simp[t0,t3,Q,g,N,T,G,B,L,M,U,Dn,W];by_cases m:w&&& z=0
  .apply AP;simp[m];apply CF;apply yV;simp[t6];refine⟨g,_,_,a9,?_⟩;simp[t0,t3,AK g (by simp[maxLen])];intro i hi;by_cases e:i=j
   .subst e;simp[E,F,m]
   .exact R i (by omega)
  .apply AP;simp[m];apply yW;simp;apply Aj;have P:Lc fs[k] ts=true:=by
    unfold Lc;rw[abT];have X:j<Z (List.zipWith (λa b=>a&&& b) fs[k] ts):=by simp[v.1,A.1];omega
    refine⟨_,cL X,?_⟩;have o:j<Z fs[k]:=by rw[v.1];exact g
    have q:j<Z ts:=by rw[A.1];exact g
    have Y:fs[k][j]=w:=by rw[ej o]at E;exact nu E
    have e2:ts[j]=z:=by rw[ej q]at F;exact nu F
    simp[Y,e2,m]
   rw[P];refine⟨_,fd 1 (by simp) (by simp) (by simp) (by simp;exact GX _ _),?_⟩;simp[Aq,clean]
 .have g:j=8:=by omega
  subst g;apply Ci;apply yW;simp;apply Aj;have P:Lc fs[k] ts=false:=by
   unfold Lc;rw[tg];intro x hx;obtain⟨i,hi,rfl⟩:=lm.1 hx;have u:i<8:=by simp[v.1,A.1]at hi;exact hi
   have o:i<Z fs[k]:=by rw[v.1];exact u
   have q:i<Z ts:=by rw[A.1];exact u
   have:=R i u;simp[o,q]at this;simp[this]
  rw[P];refine⟨_,fd 1 (by simp) (by simp) (by simp) (by simp;exact GX _ _),?_⟩;simp[Aq,clean]
def o8{σ:Type}(enc:σ->Sg)(Good:σ->Prop)(step:σ->Nat->σ)(target:σ)(all rem:List Nat)(S:Sg):Prop:=∃s,S=enc s/\Good s/\rem.foldl step s=target/\∀b∈rem,b∈all
theorem x7{j c:Nat}(hj:j<8)(g:c<64):b8 .i64 (b8 .i64 (64 * (j:Int))+(c:Int))=((64 * j+c:Nat):Int):=by rw[UV,UV];omega
theorem yG{m:Nat}(g:m<2 ^ 64)(h0:m≠0):b8 .u64 ((m:Int) - 1)=((m - 1:Nat):Int):=by rw[ac6];omega
abbrev K1:=@List.nil_append
abbrev acJ:=@List.mem_cons_self
theorem X8{σ:Type}(enc:σ->Sg)(Good:σ->Prop)(step:σ->Nat->σ)(ws:List Nat)(M:IK ws)(r:Nat)(f:FuncId)(caps:List V)
  (v:∀s,Good s->(enc s)[r]?=am (.row J 8 [Dn ws])) (N:∀s b,b∈Fq ws->Good s->Good (step s b)/\AG prog f (.d (encI b)::caps) (enc s) (.CX []) (enc (step s b))) (u:σ) (h0:Good u):
  AG prog 282 [.ptr r 1 0 0,.fn (.func f) [] caps] (enc u) (.CX []) (enc ((Fq ws).foldl step u)):=by
 refine zC func282 27 rfl λwf _=>?_;have E:=BR M;apply yW;simp;apply Bo;refine zL 8 (λj tm S=>tm 1=.fn (.func f) [] caps/\tm 6=.ptr r 1 0 0/\tm 7=.d (encI j)/\o8 enc Good step ((Fq ws).foldl step u) (Fq ws) (Ny ws j) S) (by simp;exact⟨u,rfl,h0,rfl,λ_ h=>h⟩) ?_;rintro j tm S hj ⟨t1,t6,t7,s,rfl,A,i,g⟩;apply yW;simp[t7];apply xC;simp;refine⟨λP=>?_,λzu=>?_⟩
 .have k:j<8:=by omega
  have F:j<=7:=by omega
  obtain⟨w,B,G⟩:=M.get j k;have H:=Jr B (by omega);have Q:=v s A;apply xK;apply xB;refine yD (A7 6 []) (by kernel_rfl) ?_;simp;apply yA 0;simp[t6,t7,Q,P,k,F,E,H,Dn];apply Bo;rw[Wt k B]at i g;refine aes (λm tm S=>m<2 ^ 64/\tm 1=.fn (.func f) [] caps/\tm 4=.d (encI j)/\tm 6=.ptr r 1 0 0/\tm 7=.d (encI j)/\tm 5=.d (.int .u64 (m:Int))/\o8 enc Good step ((Fq ws).foldl step u) (Fq ws) (Ku (64 * j) m++Ny ws (j+1)) S) ⟨w,_,_,a9,G,by simp[t1],by simp,by simp[t6],by simp[t7],by simp,s,rfl,A,i,g⟩ ?_;rintro m tm S ⟨q,t1,t4,t6,t7,t5,s,rfl,A,i,g⟩;refine xS (yW ?_);simp[t5];by_cases o:m=0
  .subst o;rw[Wi,K1]at i g;apply AP;simp;apply Ci;apply yV;simp[t7];refine⟨k,_,_,a9,?_⟩;simp[t1,t6,AK k (by simp[maxLen])];exact⟨s,rfl,A,i,g⟩
  .have R:¬(m:Int)=0:=by omega
   rw[V4 _ q o,x3]at i g;obtain⟨T,U⟩:=N s (64 * j+Lib.ctz 64 m) (g _ acJ) A;have K:=sg m q;have W:Lib.ctz 64 m<64:=(Xi q o).choose_spec.2.2;have L:m - 1<2 ^ 64:=by omega
   have C:=iY q o;generalize X:Lib.ctz 64 m=c at *;apply AP;simp[o];apply xK;apply xB;apply yT;apply yJ;simp[t1,t4,t5];refine Bq (K) rfl (by simp[lN]) (yJ ?_);simp;rw[x7 k W];refine i9 rfl rfl (by simp) (f:=f) (args:=.d (encI ((64 * j+c:Nat):Int))::caps) (by simp;try rfl) (by simp) U (yJ ?_);simp;have Y:=yG q o;have h3:=u64_and m (m - 1) q L;apply yV;simp[t5,Y,h3];refine⟨m&&& (m - 1),iY q o,_,_,a9,?_⟩;simp[t1,t4,t6,t7];exact⟨Nat.lt_trans C q,step s (64 * j+c),rfl,T,i,λb hb=>g b (ab1 _ hb)⟩
 .have k:j=8:=by omega
  subst k;rw[Zz]at i;simp at i;apply Ci;rw[<-i];refine⟨_,a9,?_⟩;simp[Aq]
end Go.Koi
open Go.Koi.D renaming int->br
namespace Go.Koi
open Go.Proofs Tryz DT
def EC(n:Nat)(ws:List Nat):Prop:=IK ws/\∀b∈Fq ws,b<n
def HU(n:Nat)(CA:List (List Nat)):Prop:=Z CA=n/\∀ws∈CA,EC n ws
theorem IK.OG{ws:List Nat}(h:IK ws):∃a b c d e f g i,ws=[a,b,c,d,e,f,g,i]:=by
 obtain⟨j,_⟩:=h;match ws,j with
 |[a,b,c,d,e,f,g,i],_=>exact⟨a,b,c,d,e,f,g,i,rfl⟩
@[simp] theorem vq(ws:List Nat):Ae (Dn ws)=F3 ws:=rfl
@[simp] theorem xI(ws:List Nat):Ap (Dn ws)=true:=rfl
@[simp] theorem xw(ws:List Nat):Bp (Dn ws)=false:=rfl
@[simp] theorem ug(ws:List Nat):strip (Dn ws)=Dn ws:=rfl
@[simp] theorem wH(ws:List Nat):need (Dn ws)=True:=rfl
@[simp] theorem vU(n:Nat)(ws:List Nat):AJ n (Dn ws)=true:=M7 n ws
theorem Mr(ρ:Nat->Nat):∀ws:List Nat,CN ρ (F3 ws)=F3 ws
 |[]=>rfl
 |w::ws=>by have:=Mr ρ ws;simp only[F3,ii]at *;simp[CN,this]
@[simp] theorem sj(ρ:Nat->Nat)(ws:List Nat):BW ρ (Dn ws)=Dn ws:=by
 have:=Mr ρ ws;unfold Dn;simp[BW,this]
@[simp] theorem Rt(ρ:Nat->Nat):∀g:List (List Nat),CN ρ (g.map Dn)=g.map Dn
 |[]=>rfl
 |x::g=>by have:=Rt ρ g;simp[CN,sj,this]
@[simp] theorem uR(ρ:Nat->Nat)(fs:List (List Nat))(i:Nat)(x:List Nat):CN ρ ((fs.map Dn).set i (Dn x))=(fs.map Dn).set i (Dn x):=by
 rw[<-g9,Rt]
@[simp] theorem ZA(n:Nat)(fs:List (List Nat)):Au n (fs.map Dn)=true:=GX n fs
@[simp] theorem pf(n:Nat)(fs:List (List Nat))(i:Nat)(x:List Nat):Au n ((fs.map Dn).set i (Dn x))=true:=by
 rw[<-g9,ZA]
def mC(p:List A8)(g h:List Nat)(f n:Nat)(em:Bool):List V:=.d (Av p)::(F3 g++(F3 h++[.row f n,.d (.bool em)]))
def E7(p:List A8)(g h:List Nat)(f n:Nat)(em:Bool):O:=.row J 19 [.agg (mC p g h f n em)]
abbrev rv:=@List.mem_range
theorem Zp{base w b:Nat}:b∈Ku base w↔∃i<64,w.testBit i=J/\b=base+i:=by
 simp[Ku,g7];constructor
 .rintro⟨i,⟨g,h⟩,rfl⟩;exact⟨i,g,h,rfl⟩
 .rintro⟨i,g,h,rfl⟩;exact⟨i,⟨g,h⟩,rfl⟩
abbrev adQ:=@List.drop_zero
theorem KO{ws:List Nat}{b:Nat}:b∈Fq ws↔b<512/\(ws.getD (b / 64) 0).testBit (b % 64)=true:=by
 simp[Fq,Ny,List.mem_flatMap,Zp];constructor
 .rintro⟨k,o,i,hi,g,rfl⟩;have h:(64 * k+i) / 64=k:=by omega
  have j:(64 * k+i) % 64=i:=by omega
  rw[h,j];exact⟨by omega,g⟩
 .rintro⟨q,m⟩;exact⟨b / 64,by omega,b % 64,by omega,m,by omega⟩
theorem dR{ss ts:List Nat}(j:IK ss)(k:IK ts){b:Nat}(h:b∈Fq (Kb ss ts)):b∈Fq ss\/b∈Fq ts:=by
 rw[KO]at h;simp[KO];obtain⟨i,g⟩:=h;obtain⟨w,m,_⟩:=j.get (b / 64) (by omega);obtain⟨z,o,_⟩:=k.get (b / 64) (by omega);simp[Kb,List.getElem?_zipWith,m,o]at g⊢;rcases g with g|g
 .exact .inl ⟨i,g⟩
 .exact .inr ⟨i,g⟩
abbrev adm:=@of_decide_eq_true
abbrev acY:=@List.getElem?_set
theorem Y9{ws:List Nat}(j:IK ws){i b:Nat}(hi:i<512)(h:b∈Fq (JO ws i)):b∈Fq ws\/b=i:=by
 rw[KO]at h⊢;obtain⟨k,g⟩:=h;obtain⟨w,m,_⟩:=j.get (i / 64) (by omega);by_cases e:b / 64=i / 64
 .have o:i / 64<Z ws:=by rw[j.1];omega
  simp[JO,e,o]at g⊢;rcases g with g|g
  .exact .inl ⟨k,g⟩
  .right;rw[Nat.testBit_two_pow]at g;have g:=adm g;omega
 .left;refine⟨k,?_⟩;simp[JO,n7 e]at g⊢;exact g
def BP:List Nat:=[0,0,0,0,0,0,0,0]
theorem EP:V.agg [V.d (br .u64 0),V.d (br .u64 0),V.d (br .u64 0),V.d (br .u64 0),V.d (br .u64 0),V.d (br .u64 0),V.d (br .u64 0),V.d (br .u64 0)]=Dn BP:=rfl
theorem Bt(n:Nat):EC n BP:=by
 refine⟨⟨rfl,λw g=>by simp[BP]at g;subst g;decide⟩,λb hb=>?_⟩;rw[KO]at hb;obtain⟨i,h⟩:=hb;have:∀k<8,BP.getD k 0=0:=by decide
 rw[this _ (by omega)]at h;simp at h
theorem EC.or{n:Nat}{ss ts:List Nat}(g:EC n ss)(h:EC n ts):EC n (Kb ss ts):=
 ⟨Mx g.1 h.1,λb hb=>(dR g.1 h.1 hb).elim (g.2 b) (h.2 b)⟩
theorem EC.add{n:Nat}{ws:List Nat}(g:EC n ws){i:Nat}(hi:i<n)(h:n<=512):EC n (JO ws i):=
 ⟨X2 g.1 i (by omega),λb hb=>(Y9 g.1 (by omega) hb).elim (g.2 b) λe=>by omega⟩
def OB(ts:List Nat)(CA:List (List Nat))(i:Nat):List (List Nat):=CA.set i (Kb (CA.getD i []) ts)
def K5(CA:List (List Nat))(g h:List Nat):List (List Nat):=(Fq g).foldl (OB h) CA
theorem P0{n:Nat}{ts:List Nat}(m:EC n ts){CA:List (List Nat)}(g:HU n CA){i:Nat}(hi:i<n):HU n (OB ts CA i):=by
 refine⟨by simp[OB,g.1],λws j=>?_⟩;rcases abx j with h|h
 .exact g.2 _ h
 .have k:i<Z CA:=by rw[g.1];exact hi
  have:CA.getD i []=CA[i]:=by simp[k]
  rw[h,this];exact(g.2 _ (cL k)).or m
theorem Ow{n:Nat}{ss ts:List Nat}(i:EC n ss)(j:EC n ts){CA:List (List Nat)}(k:HU n CA):HU n (K5 CA ss ts):=by
 unfold K5;have:∀(l:List Nat) (CA:List (List Nat)),(∀b∈l,b<n)->HU n CA->HU n (l.foldl (OB ts) CA):=λl=>by
  induction l with
  |nil=>intro CA _ h;exact h
  |cons b l m=>intro CA g o;exact m _ (λx q=>g x (ab1 _ q)) (P0 j o (g b acJ))
 exact this _ _ i.2 k
theorem iz(p:List A8)(j m:List Nat)(n:Nat)(em:Bool)(o:IK j)(q:IK m)(CA:List (List Nat))(ts:List Nat)(w:EC n ts)(u:HU n CA)(i:Nat)(hi:i<n):
  AG ao 283 [.d (encI i),.ptr 2 1 0 0,.ptr 3 1 0 0] [JK CA,E7 p j m 0 n em,.row J 1 [.ptr 1 1 0 0],JK [ts]] (.CX []) [JK (OB ts CA i),E7 p j m 0 n em,.row J 1 [.ptr 1 1 0 0],JK [ts]]:=by
 obtain⟨a0,C,E,F,G,H,K,L,rfl⟩:=o.OG;obtain⟨M,b1,N,P,Q,R,S,T,rfl⟩:=q.OG;have h:i<Z CA:=by rw[u.1];exact hi
 have v:CA.getD i []=CA[i]:=by simp[h]
 have A:OB ts CA i=CA.set i (Kb CA[i] ts):=by unfold OB;rw[v]
 have B:n=Z CA:=u.1.symm;subst B;rw[A];have hj:=Xb (fs:=CA) (k:=i) (ss:=CA[i]) (ts:=ts) (by simp[h]) (u.2 _ (cL h)).1 w.1;unfold JK E7 mC F3;refine zC func283 12 rfl λwf _=>?_;have g:=BR w.1;refine yE (A7 7 [15]) (by kernel_rfl) ?_;simp;apply yA 1;simp[h,g];unfold JK at hj;refine ul (xT [1,1,0,0,0,0,0]) (hj) [0] (by kernel_rfl) rfl (by simp[h,g,AY];try rfl) ?_;simp;apply xM;refine⟨_,rc (by simp),?_⟩;simp[Aq]
@[simp] theorem YA(ρ:Nat->Nat)(fs:List (List Nat)):DM ρ (JK fs)=JK fs:=by simp[JK]
@[simp] theorem Zo(n:Nat)(fs:List (List Nat)):Ao n (JK fs)=true:=by simp[JK]
@[simp] theorem ZF(ρ:Nat->Nat):∀l m:List V,CN ρ (l++m)=CN ρ l++CN ρ m
 |[],m=>rfl
 |x::l,m=>by simp[CN,ZF ρ l m]
theorem No(n:Nat):∀l m:List V,Au n (l++m)=(Au n l&&Au n m)
 |[],m=>by simp
 |x::l,m=>by have:=No n l m;simp[Au,this,ac1]
@[simp] theorem xk(ρ:Nat->Nat)(p:List A8)(g h:List Nat)(f n:Nat)(em:Bool):DM ρ (E7 p g h f n em)=E7 p g h (ρ f) n em:=by
 simp[E7,mC,Mr]
theorem Bi(k:Nat)(p:List A8)(g h:List Nat)(f n:Nat)(em:Bool):Ao k (E7 p g h f n em)=decide (f<k):=by
 simp[E7,mC,Je]
theorem DU(ρ:Nat->Nat)(wr:Bool)(sz:Nat)(els:List V):DM ρ (.row wr sz els)=.row wr sz (CN ρ els):=rfl
theorem A3(k:Nat)(wr:Bool)(sz:Nat)(els:List V):Ao k (.row wr sz els)=Au k els:=rfl
def kK(p:List A8)(g h:List Nat)(n:Nat)(em:Bool)(CA:List (List Nat)):Sg:=[JK CA,E7 p g h 0 n em,.row J 1 [.ptr 1 1 0 0]]
theorem XV(p:List A8)(g h:List Nat)(n:Nat)(em:Bool)(j:IK g)(k:IK h)(CA:List (List Nat))(ss ts:List Nat)(i:EC n ss)(m:EC n ts)(A:HU n CA):
  AG ao 281 [Dn ss,Dn ts,.ptr 2 1 0 0] (kK p g h n em CA) (.CX []) (kK p g h n em (K5 CA ss ts)):=by
 have u:=X8 (λCA=>kK p g h n em CA++[.row J 8 [Dn ss],.row J 8 [Dn ts]]) (HU n) (OB ts) ss i.1 3 283 [.ptr 2 1 0 0,.ptr 4 1 0 0] (λs _=>by simp[kK]) (λs b hb v=>⟨P0 m v (i.2 b hb),by
  have B:=iz p g h n em j k s ts m v b (i.2 b hb);have w:=B.Ef (S:=kK p g h n em s++[.row J 8 [Dn ss],.row J 8 [Dn ts]]) [0,1,2,4] (by simp[-DM,-Ao,kK,Bi,DU,A3];rfl) (by simp) (by simp);simp[-DM,-Ao,DU,kK]at w⊢;exact w⟩) CA A
 have o:=BR i.1;have q:=BR m.1;refine zC func281 7 rfl λwf _=>?_;unfold kK at u⊢;apply yW;simp[o,q];apply yT;apply yJ;simp;refine xY (u) _ rfl rfl ?_;simp[-Ao,Bi,A3];apply yJ;simp;refine⟨_,fd 3 (by simp[K5]) (by simp) (by simp) (by simp[-Ao,Bi,A3]),?_⟩;simp[Aq]
def fF(p:List A8):Prop:=Z p<=512/\∀(i:Nat) (x:A8),p[i]?=some x->(x.kind=2\/x.kind=3\/x.kind=4->0<=x.a/\x.a<i)/\(x.kind=2\/x.kind=3->0<=x.b/\x.b<i)
structure WR where
 f:List Nat
 l:List Nat
 e:Bool
 CA:List (List Nat)
def Hz(p:List A8):Nat->Nat->List (List Nat)->WR
 |0,_,CA=>⟨BP,BP,J,CA⟩
 |k+1,i,CA=>match p[i]? with
  |none=>⟨BP,BP,J,CA⟩
  |some x=>
   if x.kind=1 then⟨JO BP i,JO BP i,ap,CA⟩
   else if x.kind=2 then
    let r:=Hz p k x.a.toNat CA
    let q:=Hz p k x.b.toNat r.CA
    ⟨if r.e then Kb r.f q.f else r.f,if q.e then Kb q.l r.l else q.l,r.e&&q.e,K5 q.CA r.l q.f⟩
   else if x.kind=3 then
    let r:=Hz p k x.a.toNat CA
    let q:=Hz p k x.b.toNat r.CA
    ⟨Kb r.f q.f,Kb r.l q.l,r.e||q.e,q.CA⟩
   else if x.kind=4 then
    let r:=Hz p k x.a.toNat CA
    ⟨r.f,r.l,J,K5 r.CA r.l r.f⟩
   else⟨BP,BP,J,CA⟩
def Lv(n:Nat)(r:WR):Prop:=EC n r.f/\EC n r.l/\HU n r.CA
theorem DK{p:List A8}(g:Z p<=512):∀(k i:Nat) (CA:List (List Nat)),HU (Z p) CA->Lv (Z p) (Hz p k i CA)
 |0,_,CA,h=>⟨Bt _,Bt _,h⟩
 |k+1,i,CA,h=>by
  unfold Hz;split
  .exact⟨Bt _,Bt _,h⟩
  .rename_i x u;have hi:i<Z p:=Ag u;split
   .exact⟨(Bt _).add hi g,(Bt _).add hi g,h⟩
   .split
    .obtain⟨r1,r2,j⟩:=DK g k x.a.toNat CA h;obtain⟨m,o,q⟩:=DK g k x.b.toNat _ j;refine⟨?_,?_,Ow r2 m q⟩
     .simp[];split
      .exact r1.or m
      .exact r1
     .simp[];split
      .exact o.or r2
      .exact o
    .split
     .obtain⟨r1,r2,j⟩:=DK g k x.a.toNat CA h;obtain⟨m,o,q⟩:=DK g k x.b.toNat _ j;exact⟨r1.or m,r2.or o,q⟩
     .split
      .obtain⟨r1,r2,j⟩:=DK g k x.a.toNat CA h;exact⟨r1,r2,Ow r2 r1 j⟩
      .exact⟨Bt _,Bt _,h⟩
def Pw:List V:=[.ptr 0 1 0 0,.ptr 4 1 0 0,.ptr 5 1 0 0]
def La(p:List A8)(CA:List (List Nat)):Sg:=[.row J 1 [.d (Av p)],JK CA,E7 p BP BP 1 (Z p) ap,.row J 1 [.ptr 2 1 0 0],.row J 1 [.fn (.func 285) [] Pw],.row J 1 [.fn (.func 281) [] [.ptr 3 1 0 0]]]
def Zt(ws:List Nat):D:=.agg (ws.map λ(w:Nat)=>.int .u64 (w:Int))
theorem Ev(S:Sg):∀ws:List Nat,DL S (F3 ws)=some (ws.map λ(w:Nat)=>br .u64 (w:Int))
 |[]=>rfl
 |w::ws=>by have:=Ev S ws;simp[F3]at *;simp[this]
@[simp] theorem xj(S:Sg)(ws:List Nat):BO S (Dn ws)=some (Zt ws):=by
 unfold Dn Zt;simp[Ev]
def iB(r:WR):V:=.CX [Dn r.f,Dn r.l,.d (.bool r.e)]
def YX(r:WR):D:=.CX [Zt r.f,Zt r.l,.bool r.e]
theorem Lk{f:FuncId}{args:List V}{S S':Sg}{r:WR}(h:AG ao f args S (.d (YX r)) S'):AG ao f args S (iB r) S':=by
 have pl:∀(ws:List Nat) (G:Gh) (w:World) (x:Value),CV G S' w (.d (Zt ws)) x->CV G S' w (Dn ws) x:=λws G w x h=>by
  have:=h.ub;simpa[Dn,F3,nc]using this
 refine h.conv λG w x j=>j.ua.gC rfl λi hi k v g=>?_
 match i,hi with
 |0,_=>exact pl _ _ _ _ g
 |1,_=>exact pl _ _ _ _ g
 |2,_=>exact g
theorem Va{p:List A8}{i:Nat}{x:A8}(m:p[i]?=some x)(u:x.kind=1)(v:Z p<=512)(CA:List (List Nat)):
  AG ao 285 (.d (encI i)::Pw) (La p CA) (.d (YX ⟨JO BP i,JO BP i,ap,CA⟩)) (La p CA):=by
 have hi:i<Z p:=Ag m;have o:p[i]=x:=by rw[ej hi]at m;exact nu m
 have q:=(Bt 1).1;have j:AG ao 286 [.ptr 0 1 0 0,.d (encI i)] [.row J 8 [Dn BP]] (.CX []) [.row J 8 [Dn (JO BP i)]]:=by
  have:=XT (fs:=[BP]) (k:=0) (ws:=BP) rfl q i (by omega);simpa[JK]using this
 have g:=BR (X2 q i (by omega));have h:=BR q;unfold Pw;refine zD func285 116 rfl λwf _=>?_;unfold La;apply yW;simp[EP,h];apply yW;simp[hi,o];refine xS (yW ?_);simp[u];apply Bo;apply yW;simp;apply AP;simp;apply yS;apply yJ;simp;refine xF (j) [6] rfl ?_;simp[-DM,DU];apply yJ;simp;apply yW;simp[g,h];apply Aj;refine⟨_,_,_,a9,?_,?_,fd 6 rfl (by simp) (by simp) (by simp[-Ao,Bi,A3,Pw])⟩
 .simp[g]
 .simp[YX,g,Dn,Ev,Zt]
theorem Wm{p:List A8}{i:Nat}{x:A8}(h:p[i]?=some x)(j:x.kind≠1)(k:x.kind≠2)(m:x.kind≠3)(o:x.kind≠4)(CA:List (List Nat)):
  AG ao 285 (.d (encI i)::Pw) (La p CA) (.d (YX ⟨BP,BP,J,CA⟩)) (La p CA):=by
 have hi:i<Z p:=Ag h;have q:p[i]=x:=by rw[ej hi]at h;exact nu h
 have u:=(Bt 1).1;have g:=BR u;unfold Pw;refine zD func285 116 rfl λwf _=>?_;unfold La;apply yW;simp[EP,g];apply yW;simp[hi,q];refine xS (yW ?_);simp;apply Bo;apply yW;simp;apply AP;simp[j];apply yW;simp;apply AP;simp[k];apply yW;simp;apply AP;simp[m];apply yW;simp;apply AP;simp[o];apply CF;(repeat apply xS);refine yE [0,2,5,7,8] (by kernel_rfl) ?_;simp;(iterate 1 (refine Hs (by simp[g]) ?_;simp[g]));apply yA 1;simp[g];apply xX 2 (by kernel_rfl);simp[g,AY];apply xX 1 (by kernel_rfl);simp[g,AY];apply yA 0;simp;apply Aj;refine⟨_,_,_,a9,?_,?_,fd 6 rfl (by simp) (by simp) (by simp[-Ao,Bi,A3,Pw])⟩
 .simp[g]
 .simp[YX,g,Dn,Ev,Zt]
theorem Uz{ss ts:List Nat}(g:IK ss)(h:IK ts):AG ao 284 [.ptr 0 1 0 0,Dn ts] [.row J 8 [Dn ss]] (.CX []) [.row J 8 [Dn (Kb ss ts)]]:=by
 have:=Xb (fs:=[ss]) (k:=0) (ss:=ss) (ts:=ts) rfl g h;simpa[JK]using this
theorem jT{p:List A8}{i:Nat}{x:A8}(A:p[i]?=some x)(K:x.kind=2){CA:List (List Nat)}{r q:WR}(L:Lv (Z p) r)(M:Lv (Z p) q)
  (c1:AG ao 285 (.d (encI x.a)::Pw) (La p CA) (iB r) (La p r.CA)) (B:AG ao 285 (.d (encI x.b)::Pw) (La p r.CA) (iB q) (La p q.CA)):
  AG ao 285 (.d (encI i)::Pw) (La p CA) (.d (YX ⟨if r.e then Kb r.f q.f else r.f,if q.e then Kb q.l r.l else q.l,r.e&&q.e,K5 q.CA r.l q.f⟩)) (La p (K5 q.CA r.l q.f)):=by
 have hi:i<Z p:=Ag A;have C:p[i]=x:=by rw[ej hi]at A;exact nu A
 have E:=(Bt 1).1;have g:=BR E;obtain⟨r1,r2,P⟩:=L;obtain⟨w,F,N⟩:=M;have o:=XV p BP BP (Z p) ap E E q.CA r.l q.f r2 w N;have G:=Uz r1.1 w.1;have u:=Uz F.1 r2.1;have l1:=BR r1.1;have l2:=BR r2.1;have h:=BR w.1;have j:=BR F.1;have k:=BR (Mx r1.1 w.1);have m:=BR (Mx F.1 r2.1);unfold Pw at c1 B⊢;refine zD func285 116 rfl λwf _=>?_;unfold La iB at c1 B;unfold La;unfold Pw at *;unfold kK at o;apply yW;simp[EP,g];apply yW;simp[hi,C];refine xS (yW ?_);simp[K];apply Bo;apply yW;simp;apply AP;simp;apply yW;simp;apply AP;simp;apply yS;apply yJ;simp;refine xY (c1) _ rfl rfl ?_;simp[-Ao,Bi,A3];apply yJ;simp[l1,l2,EP,g];apply yS;apply yJ;simp;refine xY (B) _ rfl rfl ?_;simp[-Ao,Bi,A3];apply yJ;simp[h,j,EP,g];apply yS;apply yJ;simp[l2,h];refine xF (o) [1,2,3] rfl ?_;simp[-DM,-Ao,DU,A3,Bi];apply yJ;simp;refine xS (yW ?_);simp;cases H:r.e with
 |true=>
  apply AP;simp;apply yT;apply yJ;simp[h];refine xF (G) [9] rfl ?_;simp[-DM,-Ao,DU,A3];apply yJ;simp;refine xS (yW ?_);simp;cases v:q.e with
  |true=>
   apply AP;simp;apply yT;apply yJ;simp[l2];refine xF (u) [12] rfl ?_;simp[-DM,-Ao,DU,A3];apply yJ;simp;apply yW;simp[k,m,g];apply Aj;refine⟨_,_,_,a9,?_,?_,fd 6 rfl (by simp) (by simp) (by simp[-Ao,Bi,A3])⟩
   .simp[k,m]
   .simp[YX,Dn,Ev,Zt,k,m]
  |false=>
   apply AP;simp;apply xK;apply yW;simp[j,k,g];apply Aj;refine⟨_,_,_,a9,?_,?_,fd 6 rfl (by simp) (by simp) (by simp[-Ao,Bi,A3])⟩
   .simp[j,k]
   .simp[YX,Dn,Ev,Zt,j,k]
 |false=>
  apply AP;simp;apply xK;refine xS (yW ?_);simp;cases v:q.e with
  |true=>
   apply AP;simp;apply yT;apply yJ;simp[l2];refine xF (u) [12] rfl ?_;simp[-DM,-Ao,DU,A3];apply yJ;simp;apply yW;simp[l1,m,g];apply Aj;refine⟨_,_,_,a9,?_,?_,fd 6 rfl (by simp) (by simp) (by simp[-Ao,Bi,A3])⟩
   .simp[l1,m]
   .simp[YX,Dn,Ev,Zt,l1,m]
  |false=>
   apply AP;simp;apply xK;apply yW;simp[l1,j,g];apply Aj;refine⟨_,_,_,a9,?_,?_,fd 6 rfl (by simp) (by simp) (by simp[-Ao,Bi,A3])⟩
   .simp[l1,j]
   .simp[YX,Dn,Ev,Zt,l1,j]
theorem jM{p:List A8}{i:Nat}{x:A8}(k:p[i]?=some x)(E:x.kind=3){CA:List (List Nat)}{r q:WR}(F:Lv (Z p) r)(G:Lv (Z p) q)
  (c1:AG ao 285 (.d (encI x.a)::Pw) (La p CA) (iB r) (La p r.CA)) (m:AG ao 285 (.d (encI x.b)::Pw) (La p r.CA) (iB q) (La p q.CA)):
  AG ao 285 (.d (encI i)::Pw) (La p CA) (.d (YX ⟨Kb r.f q.f,Kb r.l q.l,r.e||q.e,q.CA⟩)) (La p q.CA):=by
 have hi:i<Z p:=Ag k;have o:p[i]=x:=by rw[ej hi]at k;exact nu k
 have H:=(Bt 1).1;have g:=BR H;obtain⟨r1,r2,K⟩:=F;obtain⟨u,v,L⟩:=G;have w:=Uz r1.1 u.1;have A:=Uz r2.1 v.1;have l1:=BR r1.1;have l2:=BR r2.1;have h:=BR u.1;have j:=BR v.1;have B:=BR (Mx r1.1 u.1);have C:=BR (Mx r2.1 v.1);unfold Pw at c1 m⊢;refine zD func285 116 rfl λwf _=>?_;unfold La iB at c1 m;unfold La;unfold Pw at *;apply yW;simp[EP,g];apply yW;simp[hi,o];refine xS (yW ?_);simp[E];apply Bo;apply yW;simp;apply AP;simp;apply yW;simp;apply AP;simp;apply yW;simp;apply AP;simp;apply yS;apply yJ;simp;refine xY (c1) _ rfl rfl ?_;simp[-Ao,Bi,A3];apply yJ;simp[l1,l2,EP,g];apply yS;apply yJ;simp;refine xY (m) _ rfl rfl ?_;simp[-Ao,Bi,A3];apply yJ;simp[h,j,EP,g];apply yS;apply yJ;simp[h];refine xF (w) [9] rfl ?_;simp[-DM,-Ao,DU,A3];apply yJ;simp;apply yS;apply yJ;simp[j];refine xF (A) [10] rfl ?_;simp[-DM,-Ao,DU,A3];apply yJ;simp;apply yW;simp[B,C,g];apply Aj;refine⟨_,_,_,a9,?_,?_,fd 6 rfl (by simp) (by simp) (by simp[-Ao,Bi,A3])⟩
 .simp[B,C]
 .simp[YX,Dn,Ev,Zt,B,C]
theorem eX{p:List A8}{i:Nat}{x:A8}(j:p[i]?=some x)(o:x.kind=4){CA:List (List Nat)}{r:WR}(q:Lv (Z p) r)
  (c1:AG ao 285 (.d (encI x.a)::Pw) (La p CA) (iB r) (La p r.CA)):
  AG ao 285 (.d (encI i)::Pw) (La p CA) (.d (YX ⟨r.f,r.l,J,K5 r.CA r.l r.f⟩)) (La p (K5 r.CA r.l r.f)):=by
 have hi:i<Z p:=Ag j;have k:p[i]=x:=by rw[ej hi]at j;exact nu j
 have m:=(Bt 1).1;have g:=BR m;obtain⟨r1,r2,u⟩:=q;have h:=XV p BP BP (Z p) ap m m r.CA r.l r.f r2 r1 u;have l1:=BR r1.1;have l2:=BR r2.1;unfold Pw at c1⊢;refine zD func285 116 rfl λwf _=>?_;unfold La iB at c1;unfold La;unfold Pw at *;unfold kK at h;apply yW;simp[EP,g];apply yW;simp[hi,k];refine xS (yW ?_);simp[o];apply Bo;apply yW;simp;apply AP;simp;apply yW;simp;apply AP;simp;apply yW;simp;apply AP;simp;apply yW;simp;apply AP;simp;apply yS;apply yJ;simp;refine xY (c1) _ rfl rfl ?_;simp[-Ao,Bi,A3];apply yJ;simp[l1,l2,EP,g];apply yS;apply yJ;simp[l1,l2];refine xF (h) [1,2,3] rfl ?_;simp[-DM,-Ao,DU,A3,Bi];apply yJ;simp;(repeat apply xS);refine yE [0,2,5,7,8] (by kernel_rfl) ?_;simp;(iterate 1 (refine Hs (by simp[l1]) ?_;simp[l1]));apply yA 1;simp[l2];apply xX 2 (by kernel_rfl);simp[g,l1,l2,AY];apply xX 1 (by kernel_rfl);simp[g,l2,AY];apply yA 0;simp;apply Aj;refine⟨_,_,_,a9,?_,?_,fd 6 rfl (by simp) (by simp) (by simp[-Ao,Bi,A3])⟩
 .simp[l1,l2]
 .simp[YX,Dn,Ev,Zt,l1,l2]
abbrev acC:=@Int.toNat_of_nonneg
theorem KI{p:List A8}(g:fF p):∀(k i:Nat) (CA:List (List Nat)),i<k->i<Z p->HU (Z p) CA->AG ao 285 (.d (encI i)::Pw) (La p CA) (iB (Hz p k i CA)) (La p (Hz p k i CA).CA)
 |0,i,_,h,_,_=>by omega
 |k+1,i,CA,h,hi,o=>by
  obtain⟨x,m⟩:∃x,p[i]?=some x:=⟨p[i],ej hi⟩;obtain⟨ha,hb⟩:=g.2 i x m;unfold Hz;simp[m];by_cases k1:x.kind=1
  .rw[ca k1];exact Lk (Va m k1 g.1 CA)
  .rw[bv k1];by_cases k2:x.kind=2
   .rw[ca k2];obtain⟨a0,w⟩:=ha (.inl k2);obtain⟨u,b1⟩:=hb (.inl k2);have j:=DK g.1 k x.a.toNat CA o;have v:=DK g.1 k x.b.toNat _ j.2.2;have c1:=KI g k x.a.toNat CA (by omega) (by omega) o;have q:=KI g k x.b.toNat (Hz p k x.a.toNat CA).CA (by omega) (by omega) j.2.2;rw[acC a0]at c1;rw[acC u]at q;exact Lk (jT m k2 j v c1 q)
   .rw[bv k2];by_cases k3:x.kind=3
    .rw[ca k3];obtain⟨a0,w⟩:=ha (.inr (.inl k3));obtain⟨u,b1⟩:=hb (.inr k3);have j:=DK g.1 k x.a.toNat CA o;have v:=DK g.1 k x.b.toNat _ j.2.2;have c1:=KI g k x.a.toNat CA (by omega) (by omega) o;have q:=KI g k x.b.toNat (Hz p k x.a.toNat CA).CA (by omega) (by omega) j.2.2;rw[acC a0]at c1;rw[acC u]at q;exact Lk (jM m k3 j v c1 q)
    .rw[bv k3];by_cases k4:x.kind=4
     .rw[ca k4];obtain⟨a0,w⟩:=ha (.inr (.inr k4));have j:=DK g.1 k x.a.toNat CA o;have c1:=KI g k x.a.toNat CA (by omega) (by omega) o;rw[acC a0]at c1;exact Lk (eX m k4 j c1)
     .rw[bv k4];exact Lk (Wm m k1 k2 k3 k4 CA)
def MC(p:List A8)(r:WR):Sg:=[.row J 1 [.d (Av p)],JK r.CA,E7 p r.f r.l 1 (Z p) r.e]
def Ju(p:List A8):WR:=Hz p (Z p) (Z p - 1) (lw (Z p) BP)
theorem QF(n:Nat):HU n (lw n BP):=⟨by simp,λws h=>by rw[List.eq_of_mem_replicate h];exact Bt n⟩
theorem Rh(ρ:Nat->Nat)(n:Nat)(ws:List Nat):CN ρ (lw n (Dn ws))=lw n (Dn ws):=by
 have:=Rt ρ (lw n ws);rwa [List.map_replicate]at this
theorem XB{p:List A8}(i:fF p)(h0:p≠[]):AG ao 246 [.d (Av p)] [] (.ptr 2 1 0 0) (MC p (Ju p)):=by
 have o:0<Z p:=adH.2 h0;have h:(Z p:Int)<=1073741824:=by have:=i.1;omega
 have q:=DK i.1 (Z p) (Z p - 1) _ (QF (Z p));have j:=KI i (Z p) (Z p - 1) (lw (Z p) BP) (by omega) (by omega) (QF _);have u:=BR (Bt 1).1;refine oF func246 (by kernel_rfl) rfl (by simp) λwf _=>?_;rw[ntmps246];apply yW;simp;refine AW.Jp (R:=λtm S=>tm 1=.ptr 0 1 0 0/\tm 3=.ptr 3 1 0 0/\S=[.row J 1 [.d (Av p)],JK (lw (Z p) BP),E7 p BP BP 1 (Z p) ap,.row J 1 [.ptr 2 1 0 0]]) ?_ ?_
 .refine AW.regionF (by kernel_rfl) λK k=>?_;change Bj _ _ _ _ _ _ 8 (Array.replicate 8 ap) _ _;refine qr 0 rfl (by kernel_rfl) ?_ ?_;(focus(simp;done));simp;refine qr 1 rfl (by kernel_rfl) ?_ ?_;(focus(simp;done));simp;refine qr 2 rfl (by kernel_rfl) ?_ ?_;(focus(simp;done));simp;refine Bj.fY 3 6 [J,ap,ap] [ap,ap,ap] (by kernel_rfl) rfl rfl (by kernel_rfl) (by kernel_rfl) ?_ ?_ ?_ ?_
  .simp[h,AY]
  .simp[AY]
  .simp;refine qr 4 rfl (by kernel_rfl) ?_ ?_;(focus(simp;done));simp;refine Bj.fY 5 6 [J,ap,ap] [ap,ap,ap] (by kernel_rfl) rfl rfl (by kernel_rfl) (by kernel_rfl) ?_ ?_ ?_ ?_
   .simp[AY]
   .simp[AY]
   .simp;refine un 6 [ap,ap] (by kernel_rfl) rfl (by kernel_rfl) ?_ ?_;(focus(simp[AY];done));simp;refine un 7 [J,J] (by kernel_rfl) rfl (by kernel_rfl) ?_ ?_;(focus(simp[AY];done));simp;refine aeC (by kernel_rfl) (k _ _ ⟨_,_,a9,?_⟩);simp[JK,E7,mC,F3,BP,Dn]
   .simp;refine un 5 [J,ap,ap] (by kernel_rfl) rfl (by kernel_rfl) ?_ ?_;(focus(simp[AY];done));simp;refine un 7 [J,J] (by kernel_rfl) rfl (by kernel_rfl) ?_ ?_;(focus(simp[AY];done));simp;refine aeC (by kernel_rfl) (k _ _ ⟨_,_,AI.perm (S':=[.row J 1 [.d (Av p)],JK (lw (Z p) BP),E7 p BP BP 1 (Z p) ap,.row J 1 [.ptr 2 1 0 0]]) [0,1,3,2] (by decide) (by simp) (by simp) ?_ (by simp) [0,1,3,2] (by simp;decide) (by simp),?_⟩)
    .simp[JK,E7,mC,F3,BP,EP,Rh]
    .simp
  .simp;refine un 3 [J,ap,ap] (by kernel_rfl) rfl (by kernel_rfl) ?_ ?_;(focus(simp[h,AY];done));simp;refine qr 4 rfl (by kernel_rfl) ?_ ?_;(focus(simp;done));simp;refine un 5 [J,ap,ap] (by kernel_rfl) rfl (by kernel_rfl) ?_ ?_;(focus(simp[AY];done));simp;refine un 7 [J,J] (by kernel_rfl) rfl (by kernel_rfl) ?_ ?_;(focus(simp[AY];done));simp;refine aeC (by kernel_rfl) (k _ _ ⟨_,_,AI.perm (S':=[.row J 1 [.d (Av p)],JK (lw (Z p) BP),E7 p BP BP 1 (Z p) ap,.row J 1 [.ptr 2 1 0 0]]) [0,3,1,2] (by decide) (by simp) (by simp) ?_ (by simp) [0,2,3,1] (by simp;decide) (by simp),?_⟩)
   .simp[JK,E7,mC,F3,BP,EP,Rh]
   .simp
 .rintro tm S ⟨t1,t3,rfl⟩;unfold La iB Pw at j;apply yW;simp;apply yW;simp[t3];(repeat refine xS ?_);apply yV;simp[t1];(try simp only[yQ,reduceIte]);generalize v:Hz p (Z p) (Z p - 1) (lw (Z p) BP)=r at *;obtain⟨A,B,C,m⟩:=r;obtain⟨r1,r2,w⟩:=q;simp only[]at r1 r2 w j;have l1:=BR r1.1;have l2:=BR r2.1;obtain⟨a0,E,F,G,H,L,M,N,rfl⟩:=r1.1.OG;obtain⟨P,b1,Q,T,U,W,X,Y,rfl⟩:=r2.1.OG;have g:b8 .i64 ((Z p:Int) - 1)=((Z p - 1:Nat):Int):=by have:=i.1;rw[UV];omega
  refine yD (A7 7 [15,16,18,20,22,24,26,29,30,32,35,36,38,41]) (by kernel_rfl) ?_;simp;refine yA 1 ?_;simp[t1,t3,g];refine xL 9 _ (j) (by kernel_rfl) rfl rfl ?_;simp[-Ao,Bi,A3,AY,t1,t3,g];refine yA 1 ?_;simp[E7,mC,F3,BP];refine xX 1265 (by kernel_rfl) ?_;simp[F3,t1,t3,AY];refine yA 1 ?_;simp;refine xX 85 (by kernel_rfl) ?_;simp[F3,t3,AY];refine yA 1 ?_;simp;refine xX 29 (by kernel_rfl) ?_;simp[t3,AY];apply xM;apply yW;simp[t3];refine Aj ?_;(try simp only[yQ,reduceIte]);refine⟨_,fd 3 ?_ (by simp) (by simp) (by simp[-Ao,A3,Zo]),?_⟩
  .simp[MC,Ju,v,E7,mC,F3]
  .simp[Aq,clean]
def GL(p:List A8)(CA:List (List Nat))(b:Int)(s:List Nat×List Nat)(i:Nat):List Nat×List Nat:=
 match p[i]? with
 |none=>s
 |some x=>if x.lo<=b/\b<=x.hi then(JO s.1 i,Kb s.2 (CA.getD i []))else s
def Fs(s:ByteArray)(j:Nat):Int:=(s.get! j).toNat
def av(p:List A8)(g h:List Nat)(em:Bool)(CA:List (List Nat))(s:ByteArray)(j:Nat)(x:List Nat×List Nat):Sg:=
 [JK CA,E7 p g h 0 (Z p) em,.row J 1 [.ptr 1 1 0 0],.row J 1 [.d (.str s)],.row J 1 [.d (.int .i64 j)],.row J 8 [Dn x.1],.row J 8 [Dn x.2]]
theorem mo{p:List A8}(S:Z p<=512){u v:List Nat}(em:Bool)(w:IK u)(A:IK v){CA:List (List Nat)}(B:HU (Z p) CA)(s:ByteArray){j:Nat}(hj:j<s.size){x:List Nat×List Nat}(C:IK x.1)(E:IK x.2){i:Nat}(hi:i<Z p):
  AG ao 287 [.d (encI i),.ptr 3 1 0 0,.ptr 4 1 0 0,.ptr 2 1 0 0,.ptr 5 1 0 0,.ptr 6 1 0 0] (av p u v em CA s j x) (.CX []) (av p u v em CA s j (GL p CA (Fs s j) x i)):=by
 obtain⟨a0,T,U,W,X,Y,a6,a7,rfl⟩:=w.OG;obtain⟨b0,b1,b2,b3,b4,b5,b6,b7,rfl⟩:=A.OG;obtain⟨g,F⟩:=x;simp[]at C E;have P:GL p CA (Fs s j) (g,F) i=if p[i].lo<=Fs s j/\Fs s j<=p[i].hi then(JO g i,Kb F (CA.getD i []))else(g,F):=by simp[GL,hi]
 rw[P];generalize Q:p[i]=x at *;have h:i<Z CA:=by rw[B.1];exact hi
 have G:CA.getD i []=CA[i]:=by simp[h]
 rw[G];have m:=B.2 _ (cL h);have H:=Uz E m.1;have o:AG ao 286 [.ptr 0 1 0 0,.d (encI i)] [.row J 8 [Dn g]] (.CX []) [.row J 8 [Dn (JO g i)]]:=by
  have:=XT (fs:=[g]) (k:=0) (ws:=g) rfl C i (by omega);simpa[JK]using this
 have K:b8 .i64 (Fs s j)=Fs s j:=by
  unfold Fs;have:=UInt8.toNat_lt (s.get! j);rw[UV];omega
 have L:(((s.get! j).toNat:Nat):Int)=Fs s j:=rfl;generalize Fs s j=q at *;have l1:=BR C;have l2:=BR E;have R:=BR m.1;have M:Z CA=Z p:=B.1;unfold av E7 mC F3;refine zC func287 44 rfl λwf _=>?_;apply yW;simp[hj,L,K];apply yS;apply yJ;simp[hi,Q];(repeat apply xS);refine m8 (t:=decide (x.lo<=q)&&decide (q<=x.hi)) ?_ (λhb=>?_) (λhb=>?_)
 .simp
 .simp at hb;rw[ca hb];apply yS;apply yJ;simp;refine xF (o) [5] rfl ?_;simp[-DM,DU];apply yJ;simp;apply yT;apply yJ;simp[hi,M,JK,R];refine xF (H) [6] rfl ?_;simp[-DM,DU];apply yJ;simp;refine⟨_,rc (by simp),?_⟩;simp[Aq]
 .have N:¬(x.lo<=q/\q<=x.hi):=by simp at hb;omega
  rw[bv N];apply CF;refine⟨_,rc (by simp),?_⟩;simp[Aq]
def Tz(p:List A8)(r:WR)(s:ByteArray)(m:Bool):Sg:=MC p r++[.row J 1 [.d (.str s)],.row J 1 [.d (.bool m)]]
theorem oD(s:ByteArray)(m:Bool)(k:Int)(g:Bool):AG ao 248 [.d (encI k),.d (.bool g),.ptr 0 1 0 0,.ptr 1 1 0 0] [.row J 1 [.d (.str s)],.row J 1 [.d (.bool m)]] (.d (.bool J)) [.row J 1 [.d (.str s)],.row J 1 [.d (.bool (k==s.size&&g))]]:=by
 refine zC func248 14 rfl λwf _=>?_;apply yW;simp;apply yW;simp;apply yW;simp;apply Aj;refine⟨_,rc (by simp),?_⟩;simp[Aq]
def U2(p:List A8)(r:WR)(s:ByteArray):Nat->Nat->List Nat->Bool->Bool
 |0,_,_,m=>m
 |k+1,j,g,m=>
  let x:=(Fq g).foldl (GL p r.CA (Fs s j)) (BP,BP)
  if x.1=BP then m else U2 p r s k (j+1) x.2 (((j:Int)+1==s.size)&&Lc x.1 r.l)
theorem Md{p:List A8}(m:Z p<=512){CA:List (List Nat)}(k:HU (Z p) CA)(b:Int){x:List Nat×List Nat}(h:EC (Z p) x.1/\EC (Z p) x.2){i:Nat}(hi:i<Z p):
  EC (Z p) (GL p CA b x i).1/\EC (Z p) (GL p CA b x i).2:=by
 have g:i<Z CA:=by rw[k.1];exact hi
 have j:CA.getD i []=CA[i]:=by simp[g]
 unfold GL;simp only[ej hi,j];split
 .exact⟨h.1.add hi m,h.2.or (k.2 _ (cL g))⟩
 .exact h
theorem PN{σ:Type}{Good:σ->Prop}{step:σ->Nat->σ}{n:Nat}(g:∀s b,b<n->Good s->Good (step s b)):∀(l:List Nat) (s:σ),(∀b∈l,b<n)->Good s->Good (l.foldl step s)
 |[],_,_,h=>h
 |b::l,s,i,h=>PN g l _ (λx j=>i x (ab1 _ j)) (g s b (i b acJ) h)
def xy(p:List A8)(r:WR)(s:ByteArray)(fin:Bool)(j:Nat)(S:Sg):Prop:=
 ∃g m,EC (Z p) g/\U2 p r s (s.size - j) j g m=fin/\S=Tz p r s m++[.row J 1 [.ptr 2 1 0 0],.row J 1 [.d (.str s)],.row J 8 [Dn g]]
def To(p:List A8)(r:WR)(s:ByteArray)(m:Bool)(g:List Nat)(j:Nat)(x:List Nat×List Nat):Sg:=
 [.row J 1 [.d (Av p)],JK r.CA,E7 p r.f r.l 1 (Z p) r.e,.row J 1 [.d (.str s)],.row J 1 [.d (.bool m)],.row J 1 [.ptr 2 1 0 0],.row J 1 [.d (.str s)],.row J 8 [Dn g],.row J 1 [.d (.int .i64 j)],.row J 8 [Dn x.1],.row J 8 [Dn x.2]]
theorem ay{p:List A8}(o:Z p<=512){r:WR}(h:Lv (Z p) r)(s:ByteArray)(m:Bool){g:List Nat}(i:EC (Z p) g){j:Nat}(hj:j<s.size):
  AG ao 282 [.ptr 7 1 0 0,.fn (.func 287) [] [.ptr 6 1 0 0,.ptr 8 1 0 0,.ptr 5 1 0 0,.ptr 9 1 0 0,.ptr 10 1 0 0]] (To p r s m g j (BP,BP)) (.CX []) (To p r s m g j ((Fq g).foldl (GL p r.CA (Fs s j)) (BP,BP))):=
 X8 (To p r s m g j) (λx=>EC (Z p) x.1/\EC (Z p) x.2) (GL p r.CA (Fs s j)) g i.1 7 287 _ (λx _=>by simp[To]) (λx b hb k=>⟨Md o h.2.2 _ k (i.2 b hb),by
  have u:=mo o r.e h.1.1 h.2.1.1 h.2.2 s hj k.1.1 k.2.1 (i.2 b hb);have q:=u.Ef (S:=To p r s m g j x) [1,2,5,6,8,9,10] (by simp[-DM,-Ao,To,av,Bi,DU,A3]) (by simp[av]) (by simp);simp[-DM,-Ao,DU,av,To]at q⊢;exact q⟩) (BP,BP) ⟨Bt _,Bt _⟩
theorem rT{p:List A8}(hp:Z p<=512){r:WR}(Y:Lv (Z p) r)(s:ByteArray)(m:Bool):
  AG ao 247 [.ptr 2 1 0 0,.d (.str s),.fn (.func 248) [] [.ptr 3 1 0 0,.ptr 4 1 0 0]] (Tz p r s m) (.CX []) (Tz p r s (U2 p r s s.size 0 r.f m)):=by
 refine oF func247 (by kernel_rfl) rfl (by simp) λwf _=>?_;have a1:s.size<=maxLen:=by simp[Gk,Ij,DY]at wf;exact wf
 rw[ntmps247];have u:=BR (Bt 1).1;have l1:=BR Y.1.1;have hr0:=Y;obtain⟨rf,rl,re,q⟩:=r;obtain⟨r1,r2,r3⟩:=Y;simp only[]at r1 r2 r3 l1;obtain⟨a0,w,a2,a3,a4,a5,a6,a7,rfl⟩:=r1.1.OG;obtain⟨C,b1,E,F,G,H,L,M,rfl⟩:=r2.1.OG;have hfA:V.agg [V.d (br .u64 (a0:Int)),V.d (br .u64 (w:Int)),V.d (br .u64 (a2:Int)),V.d (br .u64 (a3:Int)),V.d (br .u64 (a4:Int)),V.d (br .u64 (a5:Int)),V.d (br .u64 (a6:Int)),V.d (br .u64 (a7:Int))]=Dn [a0,w,a2,a3,a4,a5,a6,a7]:=rfl;have N:V.agg [V.d (br .u64 (C:Int)),V.d (br .u64 (b1:Int)),V.d (br .u64 (E:Int)),V.d (br .u64 (F:Int)),V.d (br .u64 (G:Int)),V.d (br .u64 (H:Int)),V.d (br .u64 (L:Int)),V.d (br .u64 (M:Int))]=Dn [C,b1,E,F,G,H,L,M]:=rfl;generalize P:U2 p _ s s.size 0 _ m=fin at *;unfold Tz MC;refine xW λK h=>?_;simp;apply h;refine xW λK h=>?_;simp[E7,mC,F3,hfA];apply h;refine xW λK h=>?_;simp;apply h;refine Bo ?_;refine FO s.size (λj tm S=>tm 2=.fn (.func 248) [] [.ptr 3 1 0 0,.ptr 4 1 0 0]/\tm 3=.ptr 5 1 0 0/\tm 4=.ptr 6 1 0 0/\tm 6=.ptr 7 1 0 0/\tm 15=.d (encI s.size)/\tm 16=.d (encI j)/\xy p ⟨[a0,w,a2,a3,a4,a5,a6,a7],[C,b1,E,F,G,H,L,M],re,q⟩ s fin j S) (i0:=0) (er _) (by simp;exact⟨_,m,r1,P,by simp[Tz,MC,E7,mC,F3]⟩) ?_;rintro j tm S hj ⟨t2,t3,t4,t6,t15,t16,Q,m',i,o,rfl⟩;unfold Tz MC;refine xW λK h=>?_;simp[t15,t16];apply h;refine xC ?_;simp;refine⟨λX=>?_,λzu=>?_⟩
 .have he:=ay hp hr0 s m' i X;have zp:s.size - j=(s.size - (j+1))+1:=by omega
  rw[zp]at o;simp only[U2]at o;have hxg:=PN (n:=Z p) (Good:=λx:List Nat×List Nat=>EC (Z p) x.1/\EC (Z p) x.2) (λx b hb hg=>Md (p:=p) hp r3 (Fs s j) hg hb) (Fq Q) (BP,BP) i.2 ⟨Bt _,Bt _⟩;generalize(Fq Q).foldl (GL p q (Fs s j)) (BP,BP)=x at *;obtain⟨A,nx⟩:=x;obtain⟨R,g2⟩:=hxg;simp only[]at R g2 o;have hm1:=oD s m' ((j:Int)+1) (Lc A [C,b1,E,F,G,H,L,M]);have T:=dp (fs:=[A]) (k:=0) (ss:=A) (ts:=[C,b1,E,F,G,H,L,M]) rfl R.1 r2.1;have l2:=BR R.1;have l3:=BR g2.1;have l4:=BR i.1;unfold To at he;simp only[gr,mp,JK,ii,W2]at T;refine xK ?_;refine xB ?_;refine xW λK h=>?_;simp[t16];apply h;refine xW λK h=>?_;simp[EP,u];apply h;(repeat refine xS ?_);refine FG λK h=>?_;refine xJ ?_;simp[t3,t4];refine xY (he) _ rfl rfl ?_;simp[-Ao,Bi,A3,t6];refine xJ ?_;simp;refine BY (h _ _ ?_);(try simp only[xQ,reduceIte]);have U:∀S':Sg,CT ((DL S' (F3 A)).getD []) [.int .u64 0,.int .u64 0,.int .u64 0,.int .u64 0,.int .u64 0,.int .u64 0,.int .u64 0,.int .u64 0]=decide (A=BP):=λS'=>by
   rw[Ev];obtain⟨c0,c1,c2,c3,c4,c5,c6,c7,rfl⟩:=R.1.OG;rw[gI];simp[CT,DZ,BP]
  have W:b8 .i64 ((j:Int)+1)=(j:Int)+1:=by rw[AK X a1];simp
  have hj2:s.size - (j+1)=s.size - j - 1:=by omega
  refine xS ?_;refine xD (A7 12 [25,26,28]) (by kernel_rfl) λK h=>?_;simp;(iterate 2 ((refine xG ?_ ?_);(focus(simp[l2,EP,u];done));simp[l2,EP]));refine Ab.uM (v:=.d (.bool (decide (A=BP)))) (λ_=>True) trivial (λS' _=>?_) ?_
  .obtain⟨c0,c1,c2,c3,c4,c5,c6,c7,rfl⟩:=R.1.OG;have B:=U [];simp[F3,DL]at B;refine⟨by simp[Dn,F3,DL,BP],?_,by simp⟩;simp[Dn,F3,DL,BP];simp[BP]at B;exact B
  .simp;by_cases g:A=BP
   .rw[ca g]at o;(iterate 8 (refine Hs (by simp[g,t3]) ?_;simp[g,t2,t3]));refine PW rfl rfl (by simp) ?_;simp;refine Ab.u5 [J,ap,ap,ap,ap,J,ap,J,J,ap,ap,ap] (by kernel_rfl) rfl (by simp) ?_;simp;refine xA 0 ?_;simp;refine xM (h _ _ ?_);(try simp only[xQ,reduceIte]);refine AP ?_;simp;refine Aj ?_;(try simp only[xQ,reduceIte]);rw[<-o];refine⟨_,fd 5 (by simp) (by simp) (by simp) (by simp[-Ao,Bi,A3]),?_⟩;simp[Aq]
   .rw[bv g]at o;(iterate 8 ((refine xG ?_ ?_);(focus(simp[t3,E7,mC,F3];done));simp[g,t2,t3,W,E7,mC,F3]));rw[N];refine Ab.Ob T [9] rfl rfl (by simp;try rfl) ?_;simp;refine Ab.rK [J,ap,ap,ap,ap,J,ap,J,J,ap,ap,ap] hm1 [3,4] (by kernel_rfl) rfl rfl (by simp[AY,t2,t3,N];try rfl) ?_;simp;refine xA 0 ?_;simp;refine xM (h _ _ ?_);refine AP ?_;simp;refine xK ?_;refine xV λK h=>?_;simp[t6,l3,l4];apply h;refine xV λK h=>?_;simp[t16];apply h;refine⟨X,_,_,AI.drop 8 (by simp) (by simp) (by simp[-Ao,A3]),?_⟩;simp[clean,t2,t3,t4,t6,t15,AK X a1];exact⟨nx,_,g2,o,by simp[Tz,MC,E7,mC,F3]⟩
 .have hje:j=s.size:=by omega
  subst hje;simp[U2]at o;subst o;refine Ci ?_;refine⟨_,fd 5 (by simp) (by simp) (by simp) (by simp[-Ao,Bi,A3]),?_⟩;simp[Aq]
theorem RB{u v:List Bool}{i at_:Int}(h:I3 u i at_=some v):0<=i/\i<at_:=by
 unfold I3 at h;split at h
 .cases h
 .rename_i g;omega
theorem W4{p:List A8}{i:Nat}(h:(Gt p (i+1)).isSome=J):∃u v x,Gt p i=some u/\p[i]?=some x/\F6 u i x=some v:=by
 obtain⟨v,g⟩:=md.1 h;obtain⟨u,j,k⟩:=abM.1 g;obtain⟨x,m,o⟩:=abM.1 k;exact⟨u,v,x,j,m,o⟩
theorem XA{p:List A8}{n:Nat}(h:(Gt p n).isSome=J):∀i≤n,(Gt p i).isSome=true:=λi hi=>by
 cases g:Gt p i with
 |some u=>rfl
 |none=>
  have:=LJ g (n - i);rw[Nat.add_sub_cancel' hi]at this;rw[this]at h;cases h
theorem SZ{p:List A8}(h:D8 p=0):fF p/\p≠[]:=by
 unfold D8 at h;split at h
 .cases h
 .rename_i C;split at h
  .cases h
  .rename_i u w;split at h
   .cases h
   .rename_i A;refine⟨⟨by omega,λi x k=>?_⟩,λe=>A (.inl e)⟩;have hi:i<Z p:=Ag k;obtain⟨E,v,F,G,m,g⟩:=W4 (XA (n:=Z p) (by rw[w];rfl) (i+1) (by omega));rw[k]at m;cases m;unfold F6 at g;split at g
    .cases g
    .constructor
     .intro j;have ha:¬CZ x.kind<1:=by rcases j with e|e|e<;>rw[e]<;>decide
      rw[bv ha]at g;obtain⟨B,o,_⟩:=abM.1 g;exact RB o
     .intro j;have ha:¬CZ x.kind<1:=by rcases j with e|e<;>rw[e]<;>decide
      have hb:¬CZ x.kind<2:=by rcases j with e|e<;>rw[e]<;>decide
      rw[bv ha]at g;obtain⟨B,o,q⟩:=abM.1 g;rw[bv hb]at q;exact RB q
def He(p:List A8)(s:ByteArray):Bool:=
 if D8 p=0 then U2 p (Ju p) s s.size 0 (Ju p).f (decide (s.size=0)&&(Ju p).e)else ap
theorem QJ(p:List A8)(s:ByteArray):Pure ao 191 [Av p,BQ s] (.bool (He p s)):=by
 refine zP func191 25 rfl λwf=>?_;apply yW;simp;refine xS (yS ?_);apply yJ;simp;refine Bq (Np p) rfl (by simp) (yJ ?_);simp;by_cases g:D8 p=0
 .have i:decide (s.size=0)=decide (s=⟨#[]⟩):=by simp[Kt]
  have j:He p s=U2 p (Ju p) s s.size 0 (Ju p).f (decide (s=⟨#[]⟩)&&(Ju p).e):=by rw[<-i];unfold He;rw[ca g]
  rw[j];obtain⟨k,h0⟩:=SZ g;have o:Lv (Z p) (Ju p):=DK k.1 _ _ _ (QF _);have m:=XB k h0;have h:=rT k.1 o s (decide (s=⟨#[]⟩)&&(Ju p).e);generalize Ju p=r at *;obtain⟨w,A,B,q⟩:=r;obtain⟨r1,r2,u⟩:=o;simp at r1 r2 u;obtain⟨a0,v,C,E,F,G,H,K,rfl⟩:=r1.1.OG;obtain⟨L,b1,M,N,P,Q,R,S,rfl⟩:=r2.1.OG;apply AP;simp[g];apply xK;apply yS;apply yJ;simp;refine xF (m) [] rfl ?_;simp[-DM,-Ao,DU,MC];apply yJ;simp;apply yW;simp[E7,mC,F3];apply yS;apply yJ;simp;unfold Tz MC at h;refine xF (h) [1,2,3,0,4] rfl ?_;simp[-DM,-Ao,DU,A3,E7,mC,F3];apply yJ;simp;apply yW;simp;apply zT;try simp
 .have j:He p s=false:=by simp[He,g]
  rw[j];apply AP;simp[g];apply yW;simp;refine Aj ⟨_,_,a9,?_⟩;try simp
end Go.Koi
open Go.Koi.D renaming int->br
namespace Go.Koi
open Go renaming maxLen->a8
open Go.Proofs Tryz DT
def Kr(t:Token):Bool:=
 if t.literal=⟨#[]⟩then(if D8 t.pattern=0 then(if t.cls=0 then !decide (t.C6=⟨#[]⟩)&&He t.pattern t.C6 else decide (t.C6=⟨#[]⟩))else ap)
 else decide (t.C6=⟨#[]⟩)&&decide (t.pattern=[])
noncomputable def Hg(n:Nat)(t:Token):Bool:=decide (0<=t.cls)&&decide (t.cls<=2)&&B1 t.cond n&&Kr t
noncomputable def Eh(g:AE):Bool:=DH [⟨#[]⟩] (g.AT.map (·.name))&&g.AT.all (Hg (Z g.conds))
abbrev SS:=@Bool.or_eq_false_iff
abbrev acg:=@Bool.not_eq_false'
abbrev Pi:=@decide_eq_false_iff_not
theorem PD(g:AE):Pure prog 119 [AA g] (encI (if Eh g then 0 else 51)):=by
 refine hW func119 (by kernel_rfl) rfl (by simp) λwf=>?_;have a1:Z g.AT<=maxLen:=by simp[Bm,DY,AA]at wf;exact wf.2.2.2.1.1
 rw[ntmps119];refine xW λK j=>?_;simp;apply j;refine E5 λK j=>?_;refine xJ ?_;simp;refine xF (Le) [] rfl ?_;simp;refine xJ ?_;simp;refine BY (j _ _ ?_);refine xS (xW λK j=>?_);simp[AA];apply j;refine Bo ?_;refine FO (Z g.AT) (λi tm S=>tm 1=.ptr 0 1 0 0/\tm 3=.fn (.func 241) [] [.ptr 2 1 0 0]/\tm 9=.d (Cm g.AT)/\tm 10=.d (encI (Z g.AT))/\tm 11=.d (encI i)/\(∀k (h:k<i) (h':k<Z g.AT),Hg (Z g.conds) g.AT[k]=J/\Fm (Qj (g.AT.map (·.name)) k) g.AT[k].name=ap)/\S=[.row J 9 [.d (AA g)],FD (Qj (g.AT.map (·.name)) i),.row J 1 [.map 1]]) (i0:=0) (er _) (by simp[Xj,FD,AA,Lj]) ?_;rintro i tm S hi ⟨t1,t3,t9,t10,t11,G,rfl⟩;refine xW λK j=>?_;simp[t10,t11];apply j;refine xC ?_;simp;refine⟨λA=>?_,λzu=>?_⟩
 .have B:i<Z (g.AT.map (·.name)):=by simpa using A
  have N:=KS (Qj (g.AT.map (·.name)) i) g.AT[i].name;have m:=Lw B;simp only[m6]at m;have C:=λh=>HA (L:=[⟨#[]⟩]) (l:=g.AT.map (·.name)) B (λk u=>by have:=(G k u (by omega)).2;simp only[m6];exact this) (by simp only[m6];exact h);have o:Hg (Z g.conds) g.AT[i]=ap->Eh g=false:=λh=>by
   have:g.AT.all (Hg (Z g.conds))=false:=by
    rw[ab7];exact⟨_,cL A,by simp[h]⟩
   simp[Eh,this]
  generalize X:Fm (Qj (g.AT.map (·.name)) i) g.AT[i].name=Y at *;generalize H:g.AT[i]=x at *;unfold FD;refine xK ?_;refine xB ?_;refine xW λK j=>?_;simp[t9,t11,A,H];apply j;refine xS (E5 λK j=>?_);refine xJ ?_;simp[t3];refine xF (N) [1,2] rfl ?_;simp[Xj,FD];(repeat((refine Cc ?_ ?_);(focus(simp[t1];try(first|omega|(simp +contextual[AX,t1,AA];done)|grind);done));simp[t1,AA]));refine vj (ds:=[AB x.cond,encI (Z g.conds)]) rfl rfl (by simp;rfl) (λ_=>MF x.cond (Z g.conds)) (by simp[xN]) ?_;simp;(repeat((refine Cc ?_ ?_);(focus(simp;try(first|omega|(simp +contextual;done)|grind);done));simp));refine BY (j _ _ ?_);(try simp only[xQ,reduceIte]);(repeat refine xS ?_);refine m8 (t:=Y||decide (x.cls<0)||decide (2<x.cls)||!B1 x.cond (Z g.conds)) ?_ (λhb=>?_) (λhb=>?_)
  .simp
  .refine xW λK j=>?_;simp;apply j;refine Aj ⟨_,_,a9,?_⟩;(try simp);cases Y with
   |true=>have P:=C X;simp[Eh,P]
   |false=>
    have:Hg (Z g.conds) x=false:=by simp[Hg];simp at hb;grind
    simp[o this]
  .simp only[SS,acg,Pi]at hb;obtain⟨⟨⟨rfl,hc1⟩,zt⟩,Q⟩:=hb;simp;refine xK ?_;refine xW λK j=>?_;simp;apply j;refine m7 (R:=λtm S=>tm 1=.ptr 0 1 0 0/\tm 3=.fn (.func 241) [] [.ptr 2 1 0 0]/\tm 9=.d (Cm g.AT)/\tm 10=.d (encI (Z g.AT))/\tm 11=.d (encI i)/\tm 6=.d (.bool (Kr x))/\S=[.row J 9 [.d (AA g)],FD (Qj (g.AT.map (·.name)) (i+1)),.row J 1 [.map 1],.row J 7 [.d (AX x)]]) ?_ ?_
   .refine Bo ?_;(repeat refine xS ?_);refine xV λK j=>?_;simp;refine j _ _ ?_;(try simp only[xQ,reduceIte]);by_cases w:x.literal=⟨#[]⟩
    .refine AP ?_;simp[w];(repeat refine xS ?_);refine FG λK j=>?_;refine xJ ?_;simp;refine Bq (Np x.pattern) rfl (by simp) ?_;simp;refine xJ ?_;simp;refine BY (j _ _ ?_);(try simp only[xQ,reduceIte]);by_cases E:D8 x.pattern=0
     .refine AP ?_;simp[E];(repeat refine xS ?_);refine xV λK j=>?_;simp;refine j _ _ ?_;(try simp only[xQ,reduceIte]);by_cases M:x.cls=0
      .refine AP ?_;simp[M];refine FG λK j=>?_;refine xJ ?_;simp;refine vj (g:=!decide (x.C6=⟨#[]⟩)) (ds:=[Av x.pattern,BQ x.C6]) rfl rfl (by simp<;>rfl) (λ_=>QJ x.pattern x.C6) (by simp) ?_;simp;(repeat((refine Cc ?_ ?_);(focus(simp;try(first|omega|(simp +contextual;done)|grind);done));simp));refine BY (j _ _ ?_);simp[Kr,w,E,M,t1,t3,t9,t10,t11,m,FD,AX,AA]
      .refine AP ?_;simp[M];refine CF ?_;simp[Kr,w,E,M,t1,t3,t9,t10,t11,m,FD,AX,AA]
     .refine AP ?_;simp[E];refine xV λK j=>?_;simp;apply j;simp[Kr,w,E,t1,t3,t9,t10,t11,m,FD,AX,AA]
    .refine AP ?_;simp[w];refine xV λK j=>?_;simp;apply j;have T:((Z x.pattern:Int)==0)=decide (x.pattern=[]):=by rw[gI];simp
     simp[Kr,w,T,t1,t3,t9,t10,t11,m,FD,AX,AA]
   .rintro tm S ⟨t1,t3,t9,t10,t11,t6,rfl⟩;unfold FD;(repeat refine xS ?_);refine xV λK j=>?_;simp[t6];refine j _ _ ?_;(try simp only[xQ,reduceIte]);cases q:Kr x with
    |false=>
     refine AP ?_;simp;refine xW λK j=>?_;simp;apply j;refine Aj ⟨_,_,a9,?_⟩;(try simp);have:Hg (Z g.conds) x=false:=by simp[Hg,q]
     simp[o this]
    |true=>
     refine AP ?_;simp;refine CF ?_;refine xV λK j=>?_;simp[t11];apply j;refine⟨A,_,_,l6 3 (by simp),?_⟩;simp[clean,t1,t3,t9,t10,AK A a1];intro k u U;by_cases e:k=i
     .subst e;rw[H];exact⟨by simp[Hg,q,Q];omega,X⟩
     .exact G k (by omega) U
 .have W:i=Z g.AT:=by omega
  subst W;have F:=GN (L:=[⟨#[]⟩]) (l:=g.AT.map (·.name)) λk u=>by have:=(G k (by simpa using u) (by simpa using u)).2;simp only[m6];exact this
  have v:g.AT.all (Hg (Z g.conds))=true:=by
   rw[ed];intro x H;obtain⟨k,u,rfl⟩:=lm.1 H;exact(G k u u).1
  unfold FD;refine Ci ?_;refine xW λK j=>?_;simp;apply j;refine Aj ⟨_,_,a9,?_⟩;(try simp);simp[Eh,F,v]
def Fi(g:AE)(s:Symbol):Bool:=
 if s.token then decide (0<=s.index)&&(match g.AT[s.index.toNat]? with|some t=>decide (t.cls=0)|none=>ap)
 else decide (0<=s.index)&&decide (s.index<Z g.A0)
theorem Yg(g:AE)(s:Symbol):Pure prog 193 [AA g,AH s] (.bool (Fi g s)):=by
 refine zP func193 40 rfl λwf=>?_;apply yW;simp;refine xS (yW ?_);simp[AH];cases h:s.token with
 |false=>
  apply AP;simp;(repeat apply xS);refine FG λK k=>?_;(repeat((refine Cc ?_ ?_);(focus(simp[AA];try(first|omega|(simp +contextual[AH,AA];done)|grind);done));simp[AA]));refine BY (k _ _ ?_);refine Aj ⟨_,_,a9,?_⟩;simp[Fi,h]
 |true=>
  apply AP;simp;apply CF;by_cases h0:0<=s.index
  .by_cases i:s.index<Z g.AT
   .have j:s.index.toNat<Z g.AT:=by omega
    apply yW;simp[AA,h0,i,j,AX];apply zT;simp[Fi,h,h0,j];rw[gI];simp
   .have j:¬s.index.toNat<Z g.AT:=by omega
    have m:g.AT[s.index.toNat]?=none:=pu (by omega);(repeat apply xS);apply yT;(iterate 12 (refine Cc (by simp[AA]) ?_;simp[AA,h0,i]));(repeat(refine FI rfl ?_ ?_;(·simp);simp));apply yJ;simp;apply zT;simp[Fi,h,m]
  ·(repeat apply xS);apply yT;(iterate 4 (refine Cc (by simp[AA]) ?_;simp[AA,h0]));(repeat(refine FI rfl ?_ ?_;(·simp);simp));(iterate 2 (refine Cc (by simp) ?_;simp));(repeat(refine FI rfl ?_ ?_;(·simp);simp));apply yJ;simp;apply zT;simp[Fi,h,h0]
theorem Tg(g:AE)(s:Symbol):AG prog 192 [.d (AH s),.ptr 0 1 0 0] [.row J 9 [.d (AA g)]] (.d (.bool (!Fi g s))) [.row J 9 [.d (AA g)]]:=by
 refine zC func192 8 rfl λwf _=>?_;apply yW;simp;(repeat apply xS);apply yT;apply yJ;simp[AH,AA];refine Bq (Yg g s) rfl (by simp[AA,AH]) (yJ ?_);simp;apply Aj;refine⟨_,fd 1 (by simp) (by simp) (by simp) (by simp),?_⟩;simp[Aq,clean]
def My(p:AO)(i:Int):Bool:=decide (0<=i)&&decide (i<Z p.right)
theorem Tu(p:AO)(i:Int):AG prog 250 [.d (encI i),.ptr 0 1 0 0] [.row J 13 [.d (AF p)]] (.d (.bool (My p i))) [.row J 13 [.d (AF p)]]:=by
 refine zC func250 13 rfl λwf _=>?_;apply yW;simp;(repeat apply xS);refine FG λK g=>?_;(repeat((refine Cc ?_ ?_);(focus(simp;try(first|omega|(simp +contextual[AF];done)|grind);done));simp[AF]));refine BY (g _ _ ?_);apply Aj;refine⟨_,rc (by simp[AF]),?_⟩;simp[Aq,My]
def Dj(p:AO)(k v lo hi:Int):Bool:=
 if k=0 then decide (v=0)
 else decide (0<k)&&decide (k<=Z p.right)&&(match p.right[(k - 1).toNat]? with|some s=>s.token|none=>ap)&&decide (lo<=v)&&decide (v<=hi)
theorem Th(p:AO)(k v lo hi:Int):AG prog 251 [.d (encI k),.d (encI v),.d (encI lo),.d (encI hi),.ptr 0 1 0 0] [.row J 13 [.d (AF p)]] (.d (.bool (Dj p k v lo hi))) [.row J 13 [.d (AF p)]]:=by
 refine zC func251 42 rfl λwf _=>?_;apply yW;simp;refine xS (yW ?_);simp;by_cases o:k=0
 .apply AP;simp[o];apply yW;simp;apply Aj;refine⟨_,rc (by simp),?_⟩;simp[Aq,Dj];left;rw[gI];simp
 .apply AP;simp[o];apply CF;by_cases h0:0<k
  .by_cases g:k<=Z p.right
   .obtain⟨m,rfl⟩:∃m:Nat,k=m+1:=⟨(k - 1).toNat,by omega⟩;have q:m<Z p.right:=by omega
    have u:b8 .i64 (m:Int)=m:=by
     have:=wf.1;simp[Ij,DY,GZ]at this;rw[UV];omega
    have j:b8 .i64 ((m:Int)+1 - 1)=m:=by rw[show(m:Int)+1 - 1=m by omega];exact u
    have h:(m:Int)+1<=Z p.right:=g;have i:(0:Int)<(m:Int)+1:=h0;(repeat apply xS);refine FG λK w=>?_;(repeat((refine Cc ?_ ?_);(focus(simp[q,AH];try(first|omega|(simp +contextual[AF,i,h,q,u,j,AH];done)|grind);done));simp[AF,i,h,q,u,AH]));refine BY (w _ _ ?_);apply Aj;refine⟨_,rc (by simp[AF]),?_⟩;simp[Aq,Dj,o,i,h,q]
   ·(repeat apply xS);apply yT;(iterate 10 (refine Cc (by simp) ?_;simp[AF,h0,g]));(repeat(refine FI rfl ?_ ?_;(·simp);simp));(iterate 2 (refine Cc (by simp) ?_;simp));(repeat(refine FI rfl ?_ ?_;(·simp);simp));(iterate 2 (refine Cc (by simp) ?_;simp));(repeat(refine FI rfl ?_ ?_;(·simp);simp));apply yJ;simp;apply Aj;refine⟨_,rc (by simp),?_⟩;simp[Aq,Dj,o,h0,g]
  ·(repeat apply xS);apply yT;(iterate 3 (refine Cc (by simp) ?_;simp[AF,h0]));(repeat(refine FI rfl ?_ ?_;(·simp);simp));(iterate 2 (refine Cc (by simp) ?_;simp));(repeat(refine FI rfl ?_ ?_;(·simp);simp));(iterate 2 (refine Cc (by simp) ?_;simp));(repeat(refine FI rfl ?_ ?_;(·simp);simp));(iterate 2 (refine Cc (by simp) ?_;simp));(repeat(refine FI rfl ?_ ?_;(·simp);simp));apply yJ;simp;apply Aj;refine⟨_,rc (by simp),?_⟩;simp[Aq,Dj,o,h0]
def Lq(p:AO)(x:Fl):Bool:=decide (1<=x.kind)&&decide (x.kind<=4)&&My p x.a&&My p x.b&&!(decide (x.kind=1)&&!decide (x.b=0))
def IQ(p:AO):Bool:=
 p.layout.all (Lq p)&&Dj p p.scope.declares p.scope.kind 1 7&&Dj p p.scope.Fh p.scope.allowed 0 255&&
 (!p.bracket||(decide (Z p.right=3)&&decide (p.EB=0)&&decide (p.layout=[])&&decide (p.scope=⟨ap,0,0,0,0⟩)&&
  (match p.right with|[a,c,d]=>a.token&&decide (c=⟨ap,p.left⟩)&&d.token|_=>ap)))
theorem Vt(p:AO):Pure prog 195 [AF p] (.bool (IQ p)):=by
 refine hW func195 rfl rfl (by simp) λwf=>?_;have P:Z p.layout<=maxLen:=by simp[Bm,DY,AF]at wf;omega
 rw[ntmps195];apply yW;simp;refine xS (yW ?_);simp[AF];apply Bo;refine zL (Z p.layout) (λi tm S=>tm 1=.ptr 0 1 0 0/\tm 9=.d (CY p.layout)/\tm 10=.d (encI (Z p.layout))/\tm 11=.d (encI i)/\(∀k (h:k<i) (Q:k<Z p.layout),Lq p p.layout[k]=J)/\S=[.row J 13 [.d (AF p)]]) (by simp[AF]) ?_;rintro i tm S hi ⟨t1,t9,t10,t11,L,rfl⟩;apply yW;simp[t10,t11];apply xC;simp;refine⟨λv=>?_,λR=>?_⟩
 .have u:Lq p p.layout[i]=ap->IQ p=false:=λh=>by
   have:p.layout.all (Lq p)=false:=by
    rw[ab7];exact⟨_,cL v,by simp[h]⟩
   simp[IQ,this]
  generalize w:p.layout[i]=x at *;have A:=Tu p x.a;have B:=Tu p x.b;apply xK;apply xB;apply yW;simp[t9,t11,v,w];apply yW;simp[t1];apply yS;(repeat((refine Cc ?_ ?_);(focus(simp;try(first|omega|(simp +contextual[BC];done)|grind);done));simp));refine AS.Rv (A) [0] rfl rfl (by simp;rfl) (by simp) (by simp +contextual;try rfl) (by simp;try rfl) ?_;simp;(repeat((refine Cc ?_ ?_);(focus(simp;try(first|omega|(simp +contextual;done)|grind);done));simp));refine AS.Rv (B) [0] rfl rfl (by simp;rfl) (by simp) (by simp +contextual;try rfl) (by simp;try rfl) ?_;simp;(repeat((refine Cc ?_ ?_);(focus(simp;try(first|omega|(simp +contextual;done)|grind);done));simp));apply BY;(repeat apply xS);refine m8 (t:=!Lq p x) ?_ (λhb=>?_) (λhb=>?_)
  .simp[Lq];rw[gI];simp
  .apply yW;simp;refine Aj ⟨_,_,a9,?_⟩;(try simp);simp at hb;simp[u hb]
  .simp at hb;apply CF;apply yV;simp[t11];refine⟨v,_,_,l6 1 (by simp),?_⟩;simp[clean,t1,t9,t10,AK v P];intro k C E;by_cases e:k=i
   .subst e;rw[w];exact hb
   .exact L k (by omega) E
 .have F:i=Z p.layout:=by omega
  subst F;have o:p.layout.all (Lq p)=true:=by
   rw[ed];intro x w;obtain⟨k,C,rfl⟩:=lm.1 w;exact L k C C
  have G:=Th p p.scope.declares p.scope.kind 1 7;have H:=Th p p.scope.Fh p.scope.allowed 0 255;apply Ci;apply yW;simp[t1];apply yW;simp[t1,AF];refine xS (yS ?_);apply yJ;simp;refine xF (G) [0] rfl ?_;simp[AF];(repeat((refine Cc ?_ ?_);(focus(simp;try(first|omega|(simp +contextual;done)|grind);done));simp));refine AS.Rv (H) [0] rfl rfl (by simp;rfl) (by simp) (by simp +contextual[];try rfl) (by simp[AF];try rfl) ?_;simp;(repeat((refine Cc ?_ ?_);(focus(simp;try(first|omega|(simp +contextual;done)|grind);done));simp));apply BY;(repeat apply xS);refine m8 (t:=!(Dj p p.scope.declares p.scope.kind 1 7&&Dj p p.scope.Fh p.scope.allowed 0 255)) ?_ (λhb=>?_) (λhb=>?_)
  .simp
  .apply yW;simp;refine Aj ⟨_,_,a9,?_⟩;(try simp);have q:(Dj p p.scope.declares p.scope.kind 1 7&&Dj p p.scope.Fh p.scope.allowed 0 255)=false:=by simpa only[ol]using hb
   have:IQ p=false:=by
    unfold IQ;rw[o,rx,q,W1]
   simp[this]
  .have q:(Dj p p.scope.declares p.scope.kind 1 7&&Dj p p.scope.Fh p.scope.allowed 0 255)=true:=by simpa only[acg]using hb
   apply xK;refine xS (yW ?_);simp[t1];have g:IQ p=(!p.bracket||(decide (Z p.right=3)&&decide (p.EB=0)&&decide (p.layout=[])&&decide (p.scope=⟨ap,0,0,0,0⟩)&&
     (match p.right with|[a,c,d]=>a.token&&decide (c=⟨ap,p.left⟩)&&d.token|_=>ap))):=by
    unfold IQ;rw[o,rx,q,rx]
   cases m:p.bracket with
   |false=>
    apply AP;simp;apply yW;simp;refine Aj ⟨_,_,a9,?_⟩;(try simp);simp[g,m]
   |true=>
    rw[m]at g;simp at g;apply AP;simp;apply xK;refine xS (yS ?_);(repeat((refine Cc ?_ ?_);(focus(simp[t1];try(first|omega|(simp +contextual[t1,AF];done)|grind);done));simp[t1]));apply BY;have K:CT [D.bool p.scope.opens,br .i64 p.scope.declares,br .i64 p.scope.kind,br .i64 p.scope.Fh,br .i64 p.scope.allowed] [D.bool ap,br .i64 0,br .i64 0,br .i64 0,br .i64 0]=decide (p.scope=⟨ap,0,0,0,0⟩):=by
     cases p.scope;rw[gI];simp[CT,DZ]
    (repeat apply xS);refine m8 (t:=!(decide (Z p.right=3)&&decide (p.EB=0)&&decide (p.layout=[])&&decide (p.scope=⟨ap,0,0,0,0⟩))) ?_ (λhb=>?_) (λhb=>?_)
    .simp[K];rw[gI];simp;have:(0<Z p.layout)↔¬p.layout=[]:=by cases p.layout<;>simp
     rw[this];have:((Z p.right:Int)=3)↔Z p.right=3:=by omega
     rw[this]
    .apply yW;simp;refine Aj ⟨_,_,a9,?_⟩;(try simp);have j:(decide (Z p.right=3)&&decide (p.EB=0)&&decide (p.layout=[])&&decide (p.scope=⟨ap,0,0,0,0⟩))=false:=by simpa only[ol]using hb
     rw[g,j,W1]
    .have j:(decide (Z p.right=3)&&decide (p.EB=0)&&decide (p.layout=[])&&decide (p.scope=⟨ap,0,0,0,0⟩))=true:=by simpa only[acg]using hb
     rw[j,rx]at g;simp at j;obtain⟨⟨⟨M,_⟩,_⟩,_⟩:=j;rcases N:p.right with _|⟨a,_|⟨c,_|⟨d,_|⟨e,l⟩⟩⟩⟩<;>rw[N]at M<;>simp at M;rw[N]at g;simp at g;apply xK;(repeat apply xS);refine yE (A7 23 []) (by kernel_rfl) ?_;simp;apply yA 0;simp[t1,AH];apply zT;(try simp);rw[g];cases c;rw[gI];simp[CT,DZ]
noncomputable def HR(g:AE)(p:AO):Bool:=B1 p.cond (Z g.conds)&&decide (-1<=p.EB)&&decide (p.EB<=1)&&IQ p
def Es(g:AE)(p:AO):Bool:=Fi g ⟨ap,p.left⟩&&p.right.all (Fi g)
noncomputable def Cs(g:AE):List ByteArray->List AO->Int
 |_,[]=>0
 |L,p::l=>if Es g p=ap then 50 else if Fm L p.name=J\/HR g p=ap then 52 else Cs g (L++[p.name]) l
theorem Eu{g:AE}:∀{l:List AO} {L:List ByteArray},Cs g L l=0->∀p∈l,Es g p=J/\HR g p=J
 |[],_,_=>λp k=>by simp at k
 |p::l,L,h=>by
  unfold Cs at h;split at h
  .cases h
  .rename_i m;split at h
   .cases h
   .rename_i j;intro q i;rcases ke.1 i with rfl|i
    .exact⟨by simpa using m,by simp at j;exact j.2⟩
    .exact Eu h q i
theorem Qc(g:AE):Pure prog 121 [AA g] (encI (Cs g [⟨#[]⟩] g.AD)):=by
 refine hW func121 rfl rfl (by simp) λwf=>?_;have C:Z g.AD<=maxLen:=by simp[Bm,DY,AA]at wf;omega
 generalize k:Cs g [⟨#[]⟩] g.AD=fin;rw[ntmps121];apply yW;simp;apply yS;apply yJ;simp;refine xF (Le) [] rfl ?_;simp;apply yJ;simp;refine xS (yW ?_);simp[AA];apply Bo;refine zL (Z g.AD) (λi tm S=>tm 1=.ptr 0 1 0 0/\tm 3=.fn (.func 241) [] [.ptr 2 1 0 0]/\tm 9=.d (CJ g.AD)/\tm 10=.d (encI (Z g.AD))/\tm 11=.d (encI i)/\Cs g (Qj (g.AD.map (·.name)) i) (g.AD.drop i)=fin/\S=[.row J 9 [.d (AA g)],FD (Qj (g.AD.map (·.name)) i),.row J 1 [.map 1]]) (by simp[Xj,FD,AA,Lj,k]) ?_;rintro i tm S hi ⟨t1,t3,t9,t10,t11,h,rfl⟩;apply yW;simp[t10,t11];apply xC;simp;refine⟨λm=>?_,λK=>?_⟩
 .have q:i<Z (g.AD.map (·.name)):=by simpa using m
  have u:=KS (Qj (g.AD.map (·.name)) i) g.AD[i].name;have j:=Lw q;simp at j;rw[Hh m]at h;unfold Cs at h;generalize L:Fm (Qj (g.AD.map (·.name)) i) g.AD[i].name=o at *;generalize E:g.AD[i]=x at *;have v:=Ki x.right (λs=>!Fi g s) 192 [.ptr 0 1 0 0] [.row J 9 [.d (AA g)]] (λs _=>Tg g s);have B:=(Tg g ⟨ap,x.left⟩).rJ;simp at B;unfold FD;apply xK;apply xB;apply yW;simp[t9,t11,m,E];apply yW;simp[t1];refine xS (yS ?_);apply yJ;simp;refine xF (B) [0] rfl ?_;simp[AA];(repeat((refine Cc ?_ ?_);(focus(simp;try(first|omega|(simp +contextual[AF];done)|grind);done));simp));refine AS.Rv (v) [0] rfl rfl (by simp;rfl) (by simp) (by simp +contextual[];try rfl) (by simp[AA];try rfl) ?_;simp;(repeat((refine Cc ?_ ?_);(focus(simp;try(first|omega|(simp +contextual;done)|grind);done));simp));apply BY;(repeat apply xS);refine m8 (t:=!Es g x) ?_ (λhb=>?_) (λhb=>?_)
  .have:(x.right.any λs=>!Fi g s)=!x.right.all (Fi g):=by rw[List.not_all_eq_any_not]
   simp[Es,this]
  .apply yW;simp;refine Aj ⟨_,_,a9,?_⟩;rw[<-h];simp at hb;simp[hb]
  .simp at hb;rw[hb]at h;simp[Bool.true_eq_false]at h;apply xK;apply yS;apply yJ;simp[t3];refine xF (u) [1,2] rfl ?_;simp[Xj,FD];(repeat((refine Cc ?_ ?_);(focus(simp[t1];try(first|omega|(simp +contextual[AF,t1,AA];done)|grind);done));simp[t1]));refine vj (g:=!o) (ds:=[AB x.cond,encI (Z g.conds)]) rfl rfl (by simp<;>rfl) (λ_=>MF x.cond (Z g.conds)) (by simp[xN]) ?_;simp;(repeat((refine Cc ?_ ?_);(focus(simp;try(first|omega|(simp +contextual;done)|grind);done));simp));refine vj (g:=!o&&B1 x.cond (Z g.conds)&&!decide (x.EB< -1)&&!decide (1<x.EB)) (ds:=[AF x]) rfl rfl (by simp<;>rfl) (λ_=>Vt x) (by simp[xN]) ?_;simp;(repeat((refine Cc ?_ ?_);(focus(simp;try(first|omega|(simp +contextual;done)|grind);done));simp));apply BY;(repeat apply xS);refine m8 (t:=o||!HR g x) ?_ (λhb=>?_) (λhb=>?_)
   .simp[HR];have F:decide (x.EB< -1)=!decide (-1<=x.EB):=by rw[gI];simp
    have G:decide (1<x.EB)=!decide (x.EB<=1):=by rw[gI];simp
    rw[F,G];simp[Bool.or_assoc]
   .have w:o=J\/HR g x=false:=by simp at hb;grind
    rw[ca w]at h;apply yW;simp;refine Aj ⟨_,_,a9,?_⟩;simp[<-h]
   .simp at hb;obtain⟨rfl,H⟩:=hb;simp[H,Bool.true_eq_false,or_self]at h;rw[<-j]at h;apply CF;apply yV;simp[t11];refine⟨m,_,_,l6 3 (by simp),?_⟩;simp[clean,t1,t3,t9,t10,AK m C,j];rw[<-j];exact h
 .have A:i=Z g.AD:=by omega
  subst A;simp[Cs]at h;unfold FD;apply Ci;apply yW;simp;apply zT;simp[<-h]
def Ch(N:Nat):List Int->List Int->Option (List Int)
 |u,[]=>some u
 |u,p::g=>if p<0\/(N:Int)<=p\/p∈u then none else Ch N (u++[p]) g
noncomputable def EH(g:AE):List Int->List Level->Bool
 |_,[]=>J
 |u,l::h=>if decide (0<=l.assoc)&&decide (l.assoc<=3)&&B1 l.cond (Z g.conds) then(match Ch (Z g.AD) u l.AD with|none=>ap|some v=>EH g v h)else ap
@[simp] theorem uB(l:List (Int×Bool))(k:Int)(x:Bool):Ep (BV (br .i64) (λx=>V.d (.bool x)) l) (.int .i64 k) (.d (.bool x))=BV (br .i64) (λx=>V.d (.bool x)) (Cx l k x):=EA (ev:=λx=>V.d (.bool x)) (by intro a b;rw[gI];simp[DZ]) l k x
def Uo(u:List Int):O:=.map (BV (br .i64) (λx=>.d (.bool x)) (u.map λp=>(p,J)))
theorem ly(u:List Int)(p:Int):look (u.map λp=>(p,J)) p=if p∈u then some J else none:=by
 induction u with
 |nil=>rfl
 |cons x u g=>
  rw[ii,Cn,g];by_cases h:x=p
  .simp[h]
  .have:¬p=x:=λe=>h e.symm;simp[h,this]
def yt(g:AE)(fin:Bool)(i:Nat)(S:Sg):Prop:=∃u,EH g u (g.levels.drop i)=fin/\S=[.row J 9 [.d (AA g)],Uo u]
def zG(g:AE)(fin:Bool)(i:Nat)(l:Level)(j:Nat)(S:Sg):Prop:=
 ∃u,(match Ch (Z g.AD) u (l.AD.drop j)with|none=>ap|some v=>EH g v (g.levels.drop (i+1)))=fin/\S=[.row J 9 [.d (AA g)],Uo u,.row J 4 [.d (Af l)]]
abbrev adw:=@Bool.not_eq_true
theorem O9(g:AE):Pure prog 122 [AA g] (encI (if EH g [] g.levels then 0 else 53)):=by
 refine hW func122 rfl rfl (by simp) λwf=>?_;have L:Z g.levels<=maxLen:=by simp[Bm,DY,AA]at wf;omega
 have C:∀l∈g.levels,Z l.AD<=maxLen:=by
  simp[Bm,DY,Di,AA]at wf;intro l M;have:=wf.2.2.2.2.2.2.2.1.2 l M;exact this.1.1
 generalize w:EH g [] g.levels=fin;rw[ntmps122];apply yW;simp;apply yW;simp;refine xS (yW ?_);simp[AA];apply Bo;refine zL (Z g.levels) (λi tm S=>tm 1=.ptr 0 1 0 0/\tm 3=.map 1/\tm 10=.d (Be g.levels)/\tm 11=.d (encI (Z g.levels))/\tm 12=.d (encI i)/\yt g fin i S) (by simp;exact⟨[],w,by simp[Uo,AA]⟩) ?_;rintro i tm S hi ⟨t1,t3,t10,t11,t12,u,m,rfl⟩;unfold Uo;apply yW;simp[t11,t12];apply xC;simp;refine⟨λA=>?_,λW=>?_⟩
 .have N:Z g.levels[i].AD<=maxLen:=C _ (cL A);rw[Hh A]at m;unfold EH at m;generalize P:g.levels[i]=x at *;apply xK;apply xB;apply yW;simp[t10,t12,A,P];refine xS (yS ?_);(repeat((refine Cc ?_ ?_);(focus(simp[t1,AA];try(first|omega|(simp +contextual[Af,t1,AA];done)|grind);done));simp[t1,AA]));refine vj (ds:=[AB x.cond,encI (Z g.conds)]) rfl rfl (by simp;rfl) (λ_=>MF x.cond (Z g.conds)) (by simp[xN]) ?_;simp;(repeat((refine Cc ?_ ?_);(focus(simp;try(first|omega|(simp +contextual;done)|grind);done));simp));apply BY;(repeat apply xS);refine m8 (t:=!(decide (0<=x.assoc)&&decide (x.assoc<=3)&&B1 x.cond (Z g.conds))) ?_ (λhb=>?_) (λhb=>?_)
  .have Q:decide (x.assoc<0)=!decide (0<=x.assoc):=by rw[gI];simp
   have R:decide (3<x.assoc)=!decide (x.assoc<=3):=by rw[gI];simp
   simp[Q,R]
  .rw[bv (by simpa only[ol,adw]using hb)]at m;apply yW;simp;refine Aj ⟨_,_,a9,?_⟩;simp[<-m]
  .rw[ca (by simpa only[acg]using hb)]at m;apply xK;apply yW;simp;apply Bo;refine zL (Z x.AD) (λj tm S=>tm 1=.ptr 0 1 0 0/\tm 3=.map 1/\tm 10=.d (Be g.levels)/\tm 11=.d (encI (Z g.levels))/\tm 12=.d (encI i)/\tm 34=.d (BZ x.AD)/\tm 35=.d (encI (Z x.AD))/\tm 36=.d (encI j)/\zG g fin i x j S) (by simp[t1,t3,t10,t11,t12];exact⟨u,by simpa using m,by simp[Uo,AA,Af]⟩) ?_;rintro j tm S hj ⟨t1,t3,t10,t11,t12,t34,t35,t36,v,o,rfl⟩;unfold Uo;apply yW;simp[t35,t36];apply xC;simp;refine⟨λk=>?_,λH=>?_⟩
   .rw[Hh k]at o;unfold Ch at o;generalize T:x.AD[j]=y at *;have q:=ly v y;apply xK;apply xB;apply yW;simp[t34,t36,k,T];refine xS (yS ?_);(repeat((refine Cc ?_ ?_);(focus(simp[t1];try(first|omega|(simp +contextual[t1,t3,AA];done)|grind);done));simp[t1,t3,AA]));rw[q];apply BY;(repeat apply xS);refine m8 (t:=decide (y<0)||decide ((Z g.AD:Int)<=y)||decide (y∈v)) ?_ (λhb=>?_) (λhb=>?_)
    .simp;by_cases U:y∈v<;>simp[U]
    .have:y<0\/(Z g.AD:Int)<=y\/y∈v:=by simpa only[ru,fc,or_assoc]using hb
     rw[ca this]at o;apply yW;simp;refine Aj ⟨_,_,a9,?_⟩;simp[<-o]
    .have K:¬(y<0\/(Z g.AD:Int)<=y\/y∈v):=by simp at hb;grind
     rw[bv K]at o;have E:y∉v:=λh=>K (.inr (.inr h));rw[bv E]at q;have B:Cx (v.map λp=>(p,J)) y J=(v++[y]).map λp=>(p,J):=by rw[Lt _ (by simpa using q)];simp
     apply xK;apply yV;simp[t3,B];apply yV;simp[t36];refine⟨k,_,_,a9,?_⟩;simp[t1,t3,t10,t11,t12,t34,t35,AK k N];exact⟨v++[y],o,by simp[Uo,AA]⟩
   .have F:j=Z x.AD:=by omega
    subst F;simp[Ch]at o;apply Ci;apply yV;simp[t12];refine⟨A,_,_,l6 2 (by simp),?_⟩;simp[clean,t1,t3,t10,t11,AK A L];exact⟨v,o,by simp[Uo]⟩
 .have G:i=Z g.levels:=by omega
  subst G;simp[EH]at m;apply Ci;apply yW;simp;apply zT;simp[<-m]
def Km(t:Token):Bool:=decide (t.cls=0)
def IG(t:Token):Bool:=!decide (t.literal=⟨#[]⟩)
theorem WQ(t:Token):Pure prog 196 [AX t] (.bool (Km t)):=by
 refine zP func196 6 rfl λwf=>?_;apply yW;simp;apply yW;simp[AX];apply zT;(try simp);unfold Km;rw[gI];simp
theorem jx(t:Token):Pure prog 197 [AX t] (.bool (IG t)):=by
 refine zP func197 6 rfl λwf=>?_;apply yW;simp;apply yW;simp[AX];apply zT;simp[IG]
def FZ(g:AE)(kind:Token->Bool)(l:List Int)(i:Nat):Bool:=
 decide (0<=l.getD i 0)&&decide (l.getD i 0<Z g.AT)&&!(decide (0<i)&&decide (l.getD i 0<=l.getD (i - 1) 0))&&(match g.AT[(l.getD i 0).toNat]? with|some t=>kind t|none=>ap)
def Gn(g:AE)(kind:Token->Bool)(l:List Int):Bool:=(List.range (Z l)).all (FZ g kind l)&&decide (0<Z l)
theorem Is(g:AE)(l:List Int)(k:FuncId)(kind:Token->Bool)(hk:∀t,Pure prog k [AX t] (.bool (kind t))):
  AG prog 199 [.d (AA g),.d (BZ l),.fn (.func k) [] []] [] (.d (.bool (Gn g kind l))) []:=by
 refine oF func199 rfl rfl (by simp) λwf _=>?_;have Q:Z l<=maxLen:=by have:=wf.2.1;simp[Ij,DY,BZ]at this;simpa using this.1
 rw[ntmps199];apply yW;simp;refine xS (yW ?_);simp;apply Bo;refine zL (Z l) (λi tm S=>tm 1=.d (BZ l)/\tm 2=.fn (.func k) [] []/\tm 3=.ptr 0 1 0 0/\tm 9=.d (BZ l)/\tm 10=.d (encI (Z l))/\tm 11=.d (encI i)/\S=[.row J 9 [.d (AA g)]]/\(∀j<i,FZ g kind l j=J)) (by simp[AA]) ?_;rintro i tm S hi ⟨t1,t2,t3,t9,t10,t11,rfl,zj⟩;apply yW;simp[t10,t11];apply xC;simp;refine⟨λL=>?_,λzu=>?_⟩
 .have B:FZ g kind l i=ap->Gn g kind l=false:=λh=>by
   have:(List.range (Z l)).all (FZ g kind l)=false:=by
    rw[ab7];exact⟨i,by simpa using L,by simp[h]⟩
   simp[Gn,this]
  have R:l.getD i 0=l[i]:=by simp[L]
  have H:FZ g kind l i=(decide (0<=l[i])&&decide (l[i] <Z g.AT)&&!(decide (0<i)&&decide (l[i]<=l.getD (i - 1) 0))&&(match g.AT[(l[i]).toNat]? with|some t=>kind t|none=>ap)):=by unfold FZ;rw[R]
  generalize hx:l[i]=x at *;apply xK;apply xB;(repeat apply xS);apply yV;simp[t9,t11,L,hx];by_cases h0:x<0
  .have M:¬0<=x:=by omega
   apply yS;(iterate 3 (refine Cc (by simp) ?_;simp[h0]));(repeat(refine FI rfl ?_ ?_;(·simp);simp));(iterate 2 (refine Cc (by simp) ?_;simp));(repeat(refine FI rfl ?_ ?_;(·simp);simp));(iterate 2 (refine Cc (by simp) ?_;simp));(repeat(refine FI rfl ?_ ?_;(·simp);simp));apply yJ;simp;apply AP;simp;apply yW;simp;apply Aj;rw[B (by rw[H];simp[M])];refine⟨_,j1 0 (by simp),?_⟩;simp[Aq,clean]
  .have M:0<=x:=by omega
   obtain⟨m,rfl⟩:∃m:Nat,x=m:=⟨x.toNat,by omega⟩;by_cases u:m<Z g.AT
   .have N:=hk g.AT[m];have E:¬(Z g.AT:Int)<=m:=by omega
    have o:¬Z g.AT<=m:=by omega
    cases i with
    |zero=>
     (repeat apply xS);apply yT;(iterate 13 (refine Cc (by simp[t3]) ?_;simp[h0,t3,E,AA]));(repeat(refine FI rfl ?_ ?_;(·simp);simp));(iterate 3 (refine Cc (by simp) ?_;simp));(iterate 6 (refine Cc (by simp[t3,u,AX]) ?_;simp[t2,t3,u,AX]));refine li (N) rfl rfl (by simp[xN];try rfl) (yJ ?_);simp;cases A:kind g.AT[m]with
     |false=>
      apply AP;simp;apply yW;simp;apply Aj;rw[B (by rw[H];simp[u,A])];refine⟨_,j1 0 (by simp),?_⟩;simp[Aq,clean]
     |true=>
      apply AP;simp;apply CF;apply yV;simp[t11];refine⟨L,_,_,a9,?_⟩;have T:b8 .i64 1=1:=by decide
      have U:FZ g kind l 0=true:=by rw[H];simp[u,A]
      simp[t1,t2,t3,t9,t10,T,U]
    |succ q=>
     have P:q<Z l:=by omega
     have W:l.getD q 0=l[q]:=by simp[P]
     have F:b8 .i64 ((q:Int)+1 - 1)=q:=by rw[show(q:Int)+1 - 1=q by omega,UV];unfold maxLen at Q;omega
     have C:b8 .i64 (q:Int)=q:=by rw[UV];unfold maxLen at Q;omega
     have X:b8 .i64 ((q:Int)+1+1)=(q:Int)+1+1:=by rw[UV];unfold maxLen at Q;omega
     have G:(0:Int)<(q:Int)+1:=by omega
     simp only[Nat.add_sub_cancel,W]at H;by_cases v:(m:Int)<=l[q]
     .apply yS;(iterate 23 (refine Cc (by simp[t3,P]) ?_;simp[h0,t1,t3,E,AA,P,C,G,v]));(repeat(refine FI rfl ?_ ?_;(·simp);simp));apply yJ;simp;apply AP;simp;apply yW;simp;apply Aj;rw[B (by rw[H];simp[v])];refine⟨_,j1 0 (by simp),?_⟩;simp[Aq,clean]
     ·(repeat apply xS);apply yT;(iterate 23 (refine Cc (by simp[t3,P]) ?_;simp[h0,t1,t3,E,AA,P,C,G,v]));(iterate 6 (refine Cc (by simp[t3,u,AX]) ?_;simp[t2,t3,u,AX]));refine li (N) rfl rfl (by simp[xN];try rfl) (yJ ?_);simp;cases A:kind g.AT[m]with
      |false=>
       apply AP;simp;apply yW;simp;apply Aj;rw[B (by rw[H];simp[u,A])];refine⟨_,j1 0 (by simp),?_⟩;simp[Aq,clean]
      |true=>
       apply AP;simp;apply CF;apply yV;simp[t11];refine⟨L,_,_,a9,?_⟩;simp[t1,t2,t3,t9,t10,X];intro j hj;by_cases e:j=q+1
       .subst e;rw[H];simp[u,A,v]
       .exact zj j (by omega)
   .have w:Z g.AT<=m:=by omega
    apply yS;(iterate 10 (refine Cc (by simp[t3]) ?_;simp[h0,t3,w,AA]));(repeat(refine FI rfl ?_ ?_;(·simp);simp));(iterate 2 (refine Cc (by simp) ?_;simp));(repeat(refine FI rfl ?_ ?_;(·simp);simp));apply yJ;simp;apply AP;simp;apply yW;simp;apply Aj;rw[B (by rw[H];simp[u])];refine⟨_,j1 0 (by simp),?_⟩;simp[Aq,clean]
 .have Y:i=Z l:=by omega
  subst Y;have K:(List.range (Z l)).all (FZ g kind l)=true:=by
   rw[ed];intro j hj;exact zj j (by simpa using hj)
  apply Ci;apply yW;simp[t1];apply Aj;refine⟨_,j1 0 (by simp),?_⟩;simp[Aq,clean,Gn,K]
def JU(g:AE)(f:Filter):Bool:=
 decide (0<=f.parent)&&decide (0<=f.child)&&decide (0<=f.at_)&&(match g.AD[f.parent.toNat]?,g.AD[f.child.toNat]? with
  |some p,some c=>(match p.right[f.at_.toNat]? with|some s=>decide (s=⟨ap,c.left⟩)|none=>ap)
  |_,_=>ap)
theorem Xd(g:AE)(f:Filter):Pure prog 198 [AA g,AM f] (.bool (JU g f)):=by
 refine zP func198 63 rfl λwf=>?_;apply yW;simp;(repeat apply xS);refine FG λK w=>?_;(repeat((refine Cc ?_ ?_);(focus(simp[AM,AA];try(first|omega|(simp +contextual[AM,AA];done)|grind);done));simp[AM,AA]));refine BY (w _ _ ?_);(repeat apply xS);refine m8 (t:=decide (f.parent<0)||decide ((Z g.AD:Int)<=f.parent)||decide (f.child<0)||decide ((Z g.AD:Int)<=f.child)) ?_ (λhb=>?_) (λhb=>?_)
 .simp
 .have A:JU g f=false:=by
   simp at hb;unfold JU;rcases hb with((h|h)|h)|h
   .simp[show ¬0<=f.parent by omega]
   .by_cases h0:0<=f.parent
    .rw[pu (by omega)];simp
    .simp[h0]
   .simp[show ¬0<=f.child by omega]
   .by_cases h0:0<=f.child
    .rw[pu (i:=f.child.toNat) (by omega)];cases g.AD[f.parent.toNat]?<;>simp
    .simp[h0]
  apply yW;simp;refine Aj ⟨_,_,a9,?_⟩;simp[A]
 .simp at hb;obtain⟨⟨⟨p0,p1⟩,c0⟩,c1⟩:=hb;obtain⟨a,ha⟩:∃a:Nat,f.parent=a:=⟨f.parent.toNat,by omega⟩;obtain⟨c,v⟩:∃c:Nat,f.child=c:=⟨f.child.toNat,by omega⟩;have j:a<Z g.AD:=by omega
  have m:c<Z g.AD:=by omega
  have k:JU g f=(decide (0<=f.at_)&&(match g.AD[a].right[f.at_.toNat]? with|some s=>decide (s=⟨ap,g.AD[c].left⟩)|none=>ap)):=by
   unfold JU;simp[ha,v,j,m]
  apply xK;(repeat apply xS);apply yV;simp[ha,j,AF];generalize C:g.AD[a].right=r at *;by_cases h0:0<=f.at_
  .by_cases o:f.at_<Z r
   .obtain⟨b,q⟩:∃b:Nat,f.at_=b:=⟨f.at_.toNat,by omega⟩;have u:b<Z r:=by omega
    (repeat apply xS);refine yE (A7 27 []) (by kernel_rfl) ?_;simp;apply yA 0;simp[AF,q,u,v,m,AH];apply zT;rw[k,q];simp[u];cases r[b];rw[gI];simp[CT,DZ]
   .have B:r[f.at_.toNat]?=none:=pu (by omega);(repeat apply xS);refine yE (A7 27 []) (by kernel_rfl) ?_;simp;(iterate 11 (refine Hs (by simp) ?_;simp[h0,o]));(repeat(refine PW rfl rfl ?_ ?_;(·simp);simp));apply yA 0;simp;apply zT;rw[k,B];simp
  ·(repeat apply xS);refine yE (A7 27 []) (by kernel_rfl) ?_;simp;(iterate 4 (refine Hs (by simp) ?_;simp[h0]));(repeat(refine PW rfl rfl ?_ ?_;(·simp);simp));(iterate 2 (refine Hs (by simp) ?_;simp));(repeat(refine PW rfl rfl ?_ ?_;(·simp);simp));apply yA 0;simp;apply zT;rw[k];simp[h0]
def Gd(g:AE)(i:Int)(q:Token->Bool):Bool:=decide (0<=i)&&(match g.AT[i.toNat]? with|some t=>q t|none=>ap)
noncomputable def FB(g:AE)(f:Filter):Bool:=
 if f.kind=1\/f.kind=2 then B1 f.cond (Z g.conds)&&JU g f
 else if f.kind=3\/f.kind=4 then B1 f.cond (Z g.conds)&&decide (0<=f.left)&&decide (f.left<Z g.A0)&&Gn g Km f.tokens
 else if f.kind=5 then B1 f.cond (Z g.conds)&&Gn g IG f.tokens&&Gd g f.token (λt=>Km t&&!IG t)
 else ap
def Ej(f:Filter):Filter:=
 if f.kind=1\/f.kind=2 then {f with kind:=0,cond:=⟨[],0⟩,parent:=0,at_:=0,child:=0}
 else if f.kind=3\/f.kind=4 then {f with kind:=0,cond:=⟨[],0⟩,left:=0,tokens:=[]}
 else if f.kind=5 then {f with kind:=0,cond:=⟨[],0⟩,token:=0,tokens:=[]}
 else {f with kind:=0,cond:=⟨[],0⟩}
def Lz(f:Filter):Bool:=decide (f.parent=0)&&decide (f.at_=0)&&decide (f.child=0)&&decide (f.left=0)&&decide (f.token=0)&&decide (f.tokens=[])
noncomputable def Ek(g:AE)(f:Filter):Bool:=FB g f&&Lz (Ej f)
noncomputable def Du(g:AE):Bool:=g.AR.all (Ek g)
def SR(f:Filter):V:=if f.kind=3\/f.kind=4\/f.kind=5 then .full []else .d (BZ f.tokens)
def oQ(f:Filter)(g:V):V:=.agg [.d (encI 0),.d (encI f.parent),.d (encI f.at_),.d (encI f.child),.d (encI f.left),.d (encI f.token),g,.full [],.d (encI 0)]
theorem OM(g:AE):Pure prog 123 [AA g] (encI (if Du g then 0 else 53)):=by
 refine hW func123 rfl rfl (by simp) λwf=>?_;have X:Z g.AR<=a8:=by simp[Bm,DY,AA]at wf;omega
 rw[ntmps123];apply yW;simp;apply yW;simp;apply yW;simp;refine xS (yW ?_);simp[AA];apply Bo;refine zL (Z g.AR) (λi tm S=>tm 1=.ptr 0 1 0 0/\tm 3=.fn (.func 196) [] []/\tm 4=.fn (.func 197) [] []/\tm 10=.d (BL g.AR)/\tm 11=.d (encI (Z g.AR))/\tm 12=.d (encI i)/\S=[.row J 9 [.d (AA g)]]/\(∀j (h:j<i) (h':j<Z g.AR),Ek g g.AR[j]=J)) (by simp[AA]) ?_;rintro i tm S hi ⟨t1,t3,t4,t10,t11,t12,rfl,M⟩;apply yW;simp[t11,t12];apply xC;simp;refine⟨λG=>?_,λzu=>?_⟩
 .have u:Ek g g.AR[i]=ap->Du g=false:=λh=>by
   unfold Du;rw[ab7];exact⟨_,cL G,by simp[h]⟩
  generalize H:g.AR[i]=x at *;apply xK;apply xB;apply yW;simp[t10,t12,G,H];apply yS;(repeat((refine Cc ?_ ?_);(focus(simp[t1,AA];try(first|omega|(simp +contextual[AM,t1,AA];done)|grind);done));simp[t1,AA]));refine Bq (MF x.cond (Z g.conds)) rfl (by simp[AB]) (yJ ?_);simp;apply yW;simp;apply yW;simp;refine m7 (R:=λtm S=>tm 1=.ptr 0 1 0 0/\tm 3=.fn (.func 196) [] []/\tm 4=.fn (.func 197) [] []/\tm 10=.d (BL g.AR)/\tm 11=.d (encI (Z g.AR))/\tm 12=.d (encI i)/\tm 8=.ptr 2 1 0 0/\tm 7=.d (.bool (FB g x))/\S=[.row J 9 [.d (AA g)],.row J 9 [.d (AM x)],.row J 9 [oQ (Ej x) (SR x)]]) ?_ ?_
  .apply yW;simp[AM];apply Bo;by_cases m:x.kind=1
   .refine xS (yW ?_);simp;apply AP;simp[m];apply xK;apply AP;simp;apply yW;simp;apply yT;apply yJ;simp[t1,AA];refine vj (ds:=[AA g,AM x]) rfl rfl (by simp;rfl) (λ_=>Xd g x) (by simp[m,xN]) ?_;simp;(repeat((refine Cc ?_ ?_);(focus(simp;try(first|omega|(simp +contextual;done)|grind);done));simp));apply BY;unfold HQ;simp[t1,t3,t4,t10,t11,t12,FB,Ej,oQ,SR,m]
   .by_cases v:x.kind=2
    .have m:=v;refine xS (yW ?_);simp;apply AP;simp[m];apply yV;simp;apply AP;simp;apply yW;simp;apply yT;apply yJ;simp[t1,AA];refine vj (ds:=[AA g,AM x]) rfl rfl (by simp;rfl) (λ_=>Xd g x) (by simp[m,xN]) ?_;simp;(repeat((refine Cc ?_ ?_);(focus(simp;try(first|omega|(simp +contextual;done)|grind);done));simp));apply BY;unfold HQ;simp[t1,t3,t4,t10,t11,t12,FB,Ej,oQ,SR,m]
    .by_cases w:x.kind=3
     .have m:=w;refine xS (yW ?_);simp;apply AP;simp[m];apply yV;simp;apply AP;simp;refine xS (yW ?_);simp;apply AP;simp;apply xK;apply AP;simp;apply yW;simp;apply yT;(repeat((refine Cc ?_ ?_);(focus(simp[t1];try(first|omega|(simp +contextual[t1,AA,AM];done)|grind);done));simp[t1,AA]));refine AS.Vb rfl rfl (by simp[t3];rfl) (λ_=>Is g x.tokens 196 Km WQ) (by simp +contextual[t3,AA];try rfl) ?_;simp[t3];(repeat((refine Cc ?_ ?_);(focus(simp;try(first|omega|(simp +contextual;done)|grind);done));simp));apply BY;unfold HQ;simp[t1,t3,t4,t10,t11,t12,FB,Ej,oQ,SR,m]
     .by_cases A:x.kind=4
      .have m:=A;refine xS (yW ?_);simp;apply AP;simp[m];apply yV;simp;apply AP;simp;refine xS (yW ?_);simp;apply AP;simp;apply yV;simp;apply AP;simp;apply yW;simp;apply yT;(repeat((refine Cc ?_ ?_);(focus(simp[t1];try(first|omega|(simp +contextual[t1,AA,AM];done)|grind);done));simp[t1,AA]));refine AS.Vb rfl rfl (by simp[t3];rfl) (λ_=>Is g x.tokens 196 Km WQ) (by simp +contextual[t3,AA];try rfl) ?_;simp[t3];(repeat((refine Cc ?_ ?_);(focus(simp;try(first|omega|(simp +contextual;done)|grind);done));simp));apply BY;unfold HQ;simp[t1,t3,t4,t10,t11,t12,FB,Ej,oQ,SR,m]
      .by_cases B:x.kind=5
       .have m:=B;refine xS (yW ?_);simp;apply AP;simp[m];apply yV;simp;apply AP;simp;refine xS (yW ?_);simp;apply AP;simp;apply yV;simp;apply AP;simp;apply yW;simp;apply AP;simp;apply yW;simp;(repeat apply xS);apply yT;(repeat((refine Cc ?_ ?_);(focus(simp[t1];try(first|omega|(simp +contextual[t1,AA,AM,t4];done)|grind);done));simp[t1,AA,t4]));refine AS.Vb rfl rfl (by simp;rfl) (λ_=>Is g x.tokens 197 IG jx) (by simp +contextual[AA];try rfl) ?_;simp;(repeat((refine Cc ?_ ?_);(focus(simp[t1];try(first|omega|(simp +contextual[t1,AA];done)|grind);done));simp[t1]));apply BY;generalize o:(B1 x.cond (Z g.conds)&&Gn g IG x.tokens&&decide (0<=x.token)&&decide (x.token<Z g.AT))=Y;cases Y with
        |false=>
         have N:FB g x=false:=by
          have:(B1 x.cond (Z g.conds)&&Gn g IG x.tokens&&Gd g x.token λt=>Km t&&!IG t)=false:=by
           simp only[ads,Pi]at o⊢;rcases o with((h|h)|h)|h
           .exact .inl (.inl h)
           .exact .inl (.inr h)
           .exact .inr (by simp[Gd,h])
           .refine .inr ?_;unfold Gd;by_cases h0:0<=x.token
            .rw[pu (by omega)];simp
            .simp[h0]
          unfold FB;simp[m,this]
         apply yT;(iterate 2 (refine Cc (by simp) ?_;simp));(repeat(refine FI rfl ?_ ?_;(·simp);simp));(iterate 2 (refine Cc (by simp) ?_;simp));(repeat(refine FI rfl ?_ ?_;(·simp);simp));apply yJ;simp;unfold HQ;simp[t1,t3,t4,t10,t11,t12,N,Ej,oQ,SR,m]
        |true=>
         simp at o;obtain⟨⟨⟨P,Q⟩,hf3⟩,hf4⟩:=o;obtain⟨b,hb⟩:∃b:Nat,x.token=b:=⟨x.token.toNat,by omega⟩;have C:b<Z g.AT:=by omega
         have N:FB g x=(Km g.AT[b]&&!IG g.AT[b]):=by
          unfold FB Gd;simp[m,P,Q,hb,C]
         have ho:=WQ g.AT[b];have hl:=jx g.AT[b];apply yT;apply yJ;simp[t1,t3,hb,C];refine li (ho) rfl rfl (by simp[xN];try rfl) (yJ ?_);simp[t1,t4,C];refine vj (g:=Km g.AT[b]) (ds:=[AX g.AT[b]]) rfl rfl (by simp<;>rfl) (λ_=>hl) (by simp[xN]) ?_;simp;(repeat((refine Cc ?_ ?_);(focus(simp;try(first|omega|(simp +contextual;done)|grind);done));simp));apply BY;unfold HQ;simp[t1,t3,t4,t10,t11,t12,N,Ej,oQ,SR,m,hb]
       .refine xS (yW ?_);simp;apply AP;simp[m];apply yV;simp;apply AP;simp[v];refine xS (yW ?_);simp;apply AP;simp[w];apply yV;simp;apply AP;simp[A];apply yW;simp;apply AP;simp[B];apply yV;simp;unfold HQ;simp[t1,t3,t4,t10,t11,t12,FB,Ej,oQ,SR,m,v,w,A,B,AA]
  .rintro tm S ⟨t1,t3,t4,t10,t11,t12,t8,t7,rfl⟩;have T:(Ej x).tokens=if x.kind=3\/x.kind=4\/x.kind=5 then []else x.tokens:=by
    unfold Ej;by_cases k1:x.kind=1\/x.kind=2
    .have:¬(x.kind=3\/x.kind=4\/x.kind=5):=by omega
     simp[k1,this]
    .by_cases k2:x.kind=3\/x.kind=4
     .have:x.kind=3\/x.kind=4\/x.kind=5:=by omega
      simp[k1,k2,this]
     .by_cases k3:x.kind=5
      .simp[k3]
      .have:¬(x.kind=3\/x.kind=4\/x.kind=5):=by omega
       simp[k1,k2,k3]
   have K:Lz (Ej x)=(decide ((Ej x).parent=0)&&decide ((Ej x).at_=0)&&decide ((Ej x).child=0)&&decide ((Ej x).left=0)&&decide ((Ej x).token=0)&&decide ((Ej x).tokens=[])):=rfl;rw[T]at K;generalize q:Ej x=r at *;unfold oQ SR;by_cases k3:x.kind=3\/x.kind=4\/x.kind=5
   .rw[ca k3]at K;simp[ca k3];apply yS;(repeat((refine Cc ?_ ?_);(focus(simp[t8];try(first|omega|(simp +contextual[t7,t8];done)|grind);done));simp[t7,t8]));apply BY;(repeat apply xS);refine m8 (t:=!(FB g x&&Lz r)) ?_ (λhb=>?_) (λhb=>?_)
    .rw[K];simp;rw[gI];simp[or_assoc]
    .apply yW;simp;refine Aj ⟨_,_,a9,?_⟩;have:Ek g x=false:=by unfold Ek;rw[q];simpa only[ol]using hb
     simp[u this]
    .have U:Ek g x=true:=by unfold Ek;rw[q];simpa only[acg]using hb
     apply CF;apply yV;simp[t12];refine⟨G,_,_,l6 1 (by simp),?_⟩;simp[clean,t1,t3,t4,t10,t11,AK G X,AA];intro j hj E;by_cases e:j=i
     .subst e;rw[H];exact U
     .exact M j (by omega) E
   .rw[bv k3]at K;simp[bv k3];apply yS;(repeat((refine Cc ?_ ?_);(focus(simp[t8];try(first|omega|(simp +contextual[t7,t8];done)|grind);done));simp[t7,t8]));apply BY;(repeat apply xS);refine m8 (t:=!(FB g x&&Lz r)) ?_ (λhb=>?_) (λhb=>?_)
    .rw[K];simp;have L:0<Z x.tokens↔¬x.tokens=[]:=by cases x.tokens<;>simp
     rw[gI];simp[or_assoc,L]
    .apply yW;simp;refine Aj ⟨_,_,a9,?_⟩;have:Ek g x=false:=by unfold Ek;rw[q];simpa only[ol]using hb
     simp[u this]
    .have U:Ek g x=true:=by unfold Ek;rw[q];simpa only[acg]using hb
     apply CF;apply yV;simp[t12];refine⟨G,_,_,l6 1 (by simp),?_⟩;simp[clean,t1,t3,t4,t10,t11,AK G X,AA];intro j hj E;by_cases e:j=i
     .subst e;rw[H];exact U
     .exact M j (by omega) E
 .have W:i=Z g.AR:=by omega
  subst W;have F:Du g=true:=by
   unfold Du;rw[ed];intro x H;obtain⟨k,m,rfl⟩:=lm.1 H;exact M k m m
  apply Ci;apply yW;simp;apply zT;simp[F]
noncomputable def DN(g:AE):List Int:=[if En g then 0 else 54,if Eh g then 0 else 51,if Hp g then 0 else 50,Cs g [⟨#[]⟩] g.AD,if EH g [] g.levels then 0 else 53,if Du g then 0 else 53]
def FY:List Int->Int
 |[]=>0
 |e::l=>if e=0 then FY l else e
theorem OC:∀{l:List Int},FY l=0->∀e∈l,e=0
 |[],_,_,h=>by simp at h
 |a::l,h,e,g=>by
  unfold FY at h;split at h
  .rcases ke.1 g with rfl|g
   .assumption
   .exact OC h e g
  .rename_i i;exact absurd h i
theorem Pd:∀{l:List Int},(∀e∈l,e=0)->FY l=0
 |[],_=>rfl
 |a::l,h=>by simp[FY,h a acJ];exact Pd λe g=>h e (ab1 _ g)
theorem Re:∀{l:List Int} {i:Nat} (hi:i<Z l),(∀j (h:j<i),l[j]'(by omega)=0)->l[i]≠0->FY l=l[i]
 |a::l,0,_,_,h=>by simp at h;simp[FY,h]
 |a::l,i+1,hi,h0,h=>by
  have:a=0:=by simpa using h0 0 (by omega)
  simp[FY,this];exact Re (by simpa using hi) (λj hj=>by simpa using h0 (j+1) (by omega)) (by simpa using h)
noncomputable def B3(g:AE):Int:=if Cq g then 2 else FY (DN g)
def tY:List V:=[.fn (.func 118) [] [],.fn (.func 119) [] [],.fn (.func 120) [] [],.fn (.func 121) [] [],.fn (.func 122) [] [],.fn (.func 123) [] []]
theorem rI(g:AE){i:Nat}(hi:i<6):∃(k:FuncId) (h:i<Z (DN g)),tY[i]?=some (.fn (.func k) [] [])/\Pure prog k [AA g] (encI (DN g)[i]):=by
 match i,hi with
 |0,_=>exact⟨118,by simp[DN],rfl,Uc g⟩
 |1,_=>exact⟨119,by simp[DN],rfl,PD g⟩
 |2,_=>exact⟨120,by simp[DN],rfl,T1 g⟩
 |3,_=>exact⟨121,by simp[DN],rfl,Qc g⟩
 |4,_=>exact⟨122,by simp[DN],rfl,O9 g⟩
 |5,_=>exact⟨123,by simp[DN],rfl,OM g⟩
theorem Rc(g:AE):Pure prog 32 [AA g] (encI (B3 g)):=by
 refine zP func32 23 rfl λwf=>?_;apply yW;simp;refine xS (yS ?_);apply yJ;simp[AA];refine Bq (fG g) rfl (by simp[AA]) (yJ ?_);simp;cases q:Cq g with
 |true=>
  apply AP;simp;apply yW;simp;refine Aj ⟨_,_,a9,?_⟩;simp[B3,q]
 |false=>
  apply AP;simp;apply xK;apply yS;((refine AS.J7 rfl ?_ ?_);(focus(simp[F2,a8];done));simp);apply yJ;simp;refine xS (yW ?_);simp;apply Bo;refine zL 6 (λi tm S=>tm 1=.ptr 0 1 0 0/\tm 10=.row 1 6/\tm 11=.d (encI 6)/\tm 12=.d (encI i)/\S=[.row J 9 [.d (AA g)],.row J 1 tY]/\(∀j (h:j<i) (M:j<Z (DN g)),(DN g)[j]=0)) (by simp[AA,tY]) ?_;rintro i tm S hi ⟨t1,t10,t11,t12,rfl,A⟩;apply yW;simp[t11,t12];apply xC;simp;refine⟨λG=>?_,λN=>?_⟩
  .have m:i<6:=by omega
   obtain⟨k,B,u,C⟩:=rI g m;have H:=Re B (λj hj=>A j hj (by omega));generalize K:(DN g)[i]=e at *;have v:Z tY=6:=rfl;have E:i<Z tY:=by rw[v];exact m
   have w:tY[i]=.fn (.func k) [] []:=by rw[ej E]at u;exact nu u
   apply xK;apply xB;apply yS;apply yJ;simp[t10,t12,m,G,v,w];apply yS;apply yJ;simp[t1,AA];refine Bq (C) rfl (by simp[AA]) (yJ ?_);simp;(repeat apply xS);apply yV;simp;by_cases o:e=0
   .apply AP;simp[o];apply CF;apply yV;simp[t12];refine⟨m,_,_,a9,?_⟩;simp[t1,t10,t11];refine⟨AK m (by simp[a8]),λj hj F=>?_⟩;by_cases L:j=i
    .subst L;rw[K];exact o
    .exact A j (by omega) F
   .apply AP;simp[o];apply yW;simp;refine Aj ⟨_,_,a9,?_⟩;simp[B3,q,H o]
  .have m:i=6:=by omega
   subst m;have h0:FY (DN g)=0:=Pd λe o=>by
    obtain⟨j,hj,rfl⟩:=lm.1 o;exact A j (by simpa[DN]using hj) hj
   apply Ci;apply yW;simp;apply zT;simp[B3,q,h0]
theorem Bx{g:AE}(h:B3 g=0):Cq g=ap/\En g=J/\Eh g=J/\Hp g=J/\Cs g [⟨#[]⟩] g.AD=0/\EH g [] g.levels=J/\Du g=true:=by
 unfold B3 at h;split at h
 .cases h
 .rename_i j;have i:=OC h;have k:=i (if En g then 0 else 54) (by simp[DN]);have m:=i (if Eh g then 0 else 51) (by simp[DN]);have o:=i (if Hp g then 0 else 50) (by simp[DN]);have q:=i (Cs g [⟨#[]⟩] g.AD) (by simp[DN]);have u:=i (if EH g [] g.levels then 0 else 53) (by simp[DN]);have v:=i (if Du g then 0 else 53) (by simp[DN]);refine⟨by simpa using j,?_,?_,?_,q,?_,?_⟩
  .cases h:En g<;>simp[h]at k⊢
  .cases h:Eh g<;>simp[h]at m⊢
  .cases h:Hp g<;>simp[h]at o⊢
  .cases h:EH g [] g.levels<;>simp[h]at u⊢
  .cases h:Du g<;>simp[h]at v⊢
theorem YR{c:Nat}:∀{l:List AO},(∀p∈l,Z p.right<=c)->(l.map (·.right.length)).sum<=Z l * c
 |[],_=>by simp
 |p::l,h=>by
  have i:=h p acJ;have j:=YR λq g=>h q (ab1 _ g);simp[Nat.succ_mul];omega
theorem L4{g:AE}(u:Z g.conds<=12)(h:B3 g=0):ta g:=by
 obtain⟨h0,m,o,B,v,C,E⟩:=Bx h;simp[Cq,MB]at h0;obtain⟨⟨⟨⟨⟨⟨l1,l2⟩,F⟩,G⟩,H⟩,K⟩,w⟩:=h0;have i:=Eu v;refine⟨u,?_,λt k=>?_,λp j=>?_,λp j s A k=>?_,by omega,?_⟩
 .simp[En]at m;exact FM m.1.2
 .simp[Eh]at o;have:=o.2 t k;simp[Hg]at this;exact FM this.1.2
 .have:=(i p j).2;simp[HR]at this;exact FM this.1.1.1
 .have:=(i p j).1;simp[Es]at this;have:=this.2 s A;simp[Fi,k]at this;refine⟨this.1,?_⟩;rcases s9 s.index.toNat (Z g.AT) with q|q
  .omega
  .rw[pu q]at this;simp at this
 .have:=YR (c:=16) λp j=>(show Z p.right<=16 by have:=(w p j).1;omega);unfold Fits;have:Z g.AD * 16<=2000 * 16:=At _ (by omega);omega
noncomputable def MD(g:AE):Int:=pB g (B3 g)
theorem SF(g:AE)(i:Z g.conds<=12):BH prog 22 [.d (AA g)] [] (yj g (B3 g)):=ZS g (B3 g) (Rc g) λh=>L4 i h
theorem AG.LS{f:FuncId}{α:Type}{enc:α->D}{xs:List α}{wr:Bool}{sz:Nat}(h:AG prog f [.d (.sl (xs.map enc))] [] (.row 0 (Z xs)) [.row wr sz (xs.map λx=>.d (enc x))]):Pure prog f [.sl (xs.map enc)] (.sl (xs.map enc)):=by
 have g:AG prog f [.d (.sl (xs.map enc))] [] (.row 0 (Z (xs.map enc))) [.row wr sz ((xs.map enc).map .d)]:=by
  simpa[nc]using h
 exact g.oA
def Iq(d:AL):Prop:=Z d.nodes<=2 ^ 30
theorem PY(d:AL)(h:Iq d):Pure prog 100 [AB d] (AB d):=by
 have i:=(Si d.nodes h).LS;refine hW func100 (by kernel_rfl) rfl (by simp) λwf=>?_;rw[ntmps100];refine xW λK g=>?_;simp;apply g;(repeat refine xS ?_);refine xE (A7 6 [13]) (by kernel_rfl) λK g=>?_;simp;refine xA 0 ?_;simp[AB];refine j0 (i) rfl (by simp) ?_;simp;refine xA 0 ?_;simp;refine xX 63 (by kernel_rfl) ?_;simp;refine xM (g _ _ ?_);(try simp only[xQ,reduceIte]);refine Aj ⟨_,_,a9,?_⟩;(try simp);simp[AB]
structure Pt(g:AE):Prop where
 conds:Z g.conds<=2 ^ 30
 fam:Iq g.fam
 A0:Z g.A0<=2 ^ 30
 AT:Z g.AT<=2 ^ 30/\∀t∈g.AT,Z t.pattern<=2 ^ 30/\Iq t.cond
 AD:Z g.AD<=2 ^ 30/\∀p∈g.AD,Z p.right<=2 ^ 30/\Z p.layout<=2 ^ 30/\Iq p.cond
 levels:Z g.levels<=2 ^ 30/\∀l∈g.levels,Z l.AD<=2 ^ 30/\Iq l.cond
 AR:Z g.AR<=2 ^ 30/\∀f∈g.AR,Z f.tokens<=2 ^ 30/\Iq f.cond
theorem CH{S:Sg}:∀{l:List V} {ds:List D},Df S l=some ds↔l.map (BO S)=ds.map some
 |[],ds=>by cases ds<;>simp[Df]
 |x::l,ds=>by
  simp only[Df,ii];generalize BO S x=o;cases g:Df S l with
  |none=>
   constructor
   .intro h;cases o<;>cases h
   .intro h;cases ds with
    |nil=>cases h
    |cons d ds=>
     simp at h;rw[CH.2 h.2]at g;cases g
  |some i=>
   have j:=CH.1 g;cases o with
   |none=>
    constructor
    .intro h;cases h
    .intro h;cases ds with
     |nil=>cases h
     |cons d ds=>simp at h
   |some d0=>
    rw[j];constructor
    .intro h;cases h;rfl
    .intro h;cases ds with
     |nil=>cases h
     |cons d ds=>
      simp at h;rw[h.1,(List.map_inj_right (λ_ _ h=>nu h)).1 h.2]
theorem Lo{S:Sg}{l:List V}{ds:List D}{i:Nat}{v:V}{d:D}(h:Df S l=some ds)(g:ds[i]?=some d)(k:BO S v=some d):Df S (l.set i v)=some ds:=by
 rw[CH]at h⊢;rw[g9,h,k];apply acx;intro j;by_cases e:i=j
 .subst e;have hi:i<Z ds:=Ag g;rw[ej hi]at g;simp[hi,nu g]
 .simp[e]
def Rj(g:AE):Sg:=[.row J 9 [.d (AA g)],.row J 9 [.agg [.full [],.full [],.d (encI 0),.full [],.full [],.full [],.d (encI 0),.full [],.full []]],.row J 9 [.agg [.row 3 (Z g.conds),.d (AV g.fam.nodes),.d (encI g.fam.root),.row 5 (Z g.AT),.row 4 (Z g.A0),.row 6 (Z g.AD),.d (encI g.start),.row 7 (Z g.levels),.row 8 (Z g.AR)]],.row (!g.conds.isEmpty) 1 (g.conds.map λx=>.d (D.str x)),.row (!g.A0.isEmpty) 1 (g.A0.map λx=>.d (D.str x)),.row (!g.AT.isEmpty) 7 (g.AT.map λx=>.d (AX x)),.row (!g.AD.isEmpty) 13 (g.AD.map λx=>.d (AF x)),.row (!g.levels.isEmpty) 4 (g.levels.map λx=>.d (Af x)),.row (!g.AR.isEmpty) 9 (g.AR.map λx=>.d (AM x))]
def lx(g:AE):V:=.agg [.row 3 (Z g.conds),.d (AV g.fam.nodes),.d (encI g.fam.root),.row 5 (Z g.AT),.row 4 (Z g.A0),.row 6 (Z g.AD),.d (encI g.start),.row 7 (Z g.levels),.row 8 (Z g.AR)]
def bA(g:AE):Sg:=[.row J 9 [.d (AA g)],.row J 9 [lx g],.row J 9 [lx g],.row (!g.conds.isEmpty) 1 (g.conds.map λx=>.d (D.str x)),.row (!g.A0.isEmpty) 1 (g.A0.map λx=>.d (D.str x)),.row (!g.AT.isEmpty) 7 (g.AT.map λx=>.d (AX x)),.row (!g.AD.isEmpty) 13 (g.AD.map λx=>.d (AF x)),.row (!g.levels.isEmpty) 4 (g.levels.map λx=>.d (Af x)),.row (!g.AR.isEmpty) 9 (g.AR.map λx=>.d (AM x))]
theorem aw(g:AE)(v:Pt g):AG prog 24 [.d (AA g)] [] (lx g) (bA g):=by
 have c1:=RH g.conds v.conds;have G:=RH g.A0 v.A0;have H:=Yp g.AT v.AT.1;have L:=Vl g.AD v.AD.1;have M:=UH g.levels v.levels.1;have N:=R7 g.AR v.AR.1;have P:=PY g.fam v.fam;refine oF func24 (by kernel_rfl) rfl (by simp) λwf _=>?_;rw[ntmps24];refine xW λK j=>?_;simp;apply j;refine xW λK j=>?_;simp[AA];apply j;refine xD [0,2,6,8,12,14,5,18,11,16,21,22,25,26,29] (by kernel_rfl) λK j=>?_;simp;refine xA 1 ?_;simp;refine ul (xT [0,0,0,0,1,0]) (c1) [] (by kernel_rfl) rfl (by simp[AY];try rfl) ?_;simp;refine xA 1 ?_;simp;refine ul (xT [0,0,0,1,0,0]) (G) [] (by kernel_rfl) rfl (by simp[AY];try rfl) ?_;simp;refine B6 (P) rfl (by simp[AB]) ?_;simp[AB];refine xA 1 ?_;simp;refine xX 35 (by kernel_rfl) ?_;simp[AY,Ak];refine xA 1 ?_;simp;refine xX 9 (by kernel_rfl) ?_;simp[AY];refine xA 1 ?_;simp;refine xX 7 (by kernel_rfl) ?_;simp[AY];refine xM (j _ _ ?_);refine xD [0,2,6,8,5,12,11,15,16,19] (by kernel_rfl) λK j=>?_;simp;refine xA 1 ?_;simp;refine ul (xT [0,0,1,0]) (H) [] (by kernel_rfl) rfl (by simp[AY];try rfl) ?_;simp;refine xA 1 ?_;simp;refine ul (xT [0,1,0,0]) (L) [] (by kernel_rfl) rfl (by simp[AY];try rfl) ?_;simp;refine xX 5 (by kernel_rfl) ?_;simp[AY];refine xA 1 ?_;simp;refine xX 3 (by kernel_rfl) ?_;simp[AY];refine xM (j _ _ ?_);refine xD [0,2,6,8,5,12,11,15,16,19] (by kernel_rfl) λK j=>?_;simp;refine xA 1 ?_;simp;refine ul (xT [0,0,1,0]) (M) [] (by kernel_rfl) rfl (by simp[AY];try rfl) ?_;simp;refine xA 1 ?_;simp;refine ul (xT [0,1,0,0]) (N) [] (by kernel_rfl) rfl (by simp[AY];try rfl) ?_;simp;refine xX 5 (by kernel_rfl) ?_;simp[AY];refine xA 1 ?_;simp;refine xX 3 (by kernel_rfl) ?_;simp[AY];refine xM (j _ _ ?_);refine m7 (R:=λtm S=>tm 2=.ptr 1 1 0 0/\tm 3=.ptr 2 1 0 0/\S=Rj g) ?_ ?_
 .refine xW λK j=>?_;simp;apply j;refine Bo ?_;refine FO (Z g.AT) (λi tm S=>tm 2=.ptr 1 1 0 0/\tm 3=.ptr 2 1 0 0/\tm 43=.d (encI (Z g.AT))/\tm 44=.d (encI i)/\S=Rj g) (i0:=0) (er _) (by simp[Rj,AA]) ?_;rintro i tm S hi ⟨t2,t3,t43,t44,rfl⟩;refine xW λK j=>?_;simp[t43,t44];apply j;refine xC ?_;simp;refine⟨λk=>?_,λC=>?_⟩
  .have q:g.AT.isEmpty=false:=by cases h:g.AT<;>simp[h]at k⊢
   obtain⟨E,F⟩:=v.AT.2 _ (cL k);generalize m:g.AT[i]=x at *;have Q:=(Tl x.pattern E).LS;have cS:=PY x.cond F;unfold Rj;refine xK ?_;refine xB ?_;refine xW λK j=>?_;simp[t44];apply j;(repeat refine xS ?_);refine xV λK j=>?_;simp[t3,k];refine j _ _ ?_;(try simp only[xQ,reduceIte]);have o:=AX.eq_1 x;refine xE (A7 14 [29,30,32,35]) (by kernel_rfl) λK j=>?_;simp;refine xA 1 ?_;simp[k,m,o];refine B6 (Q) rfl (by simp[xN]) ?_;simp;refine xA 1 ?_;simp[k,m,o];refine B6 (cS) rfl (by simp[AB,xN]) ?_;simp[AB];refine xA 1 ?_;simp[k];refine xX 12173 (by kernel_rfl) ?_;simp[k,m,q,AY,Ak,o];refine xA 1 ?_;simp[k];refine xX 125 (by kernel_rfl) ?_;simp[k,AY];refine xM (j _ _ ?_);refine xV λK j=>?_;simp[t44];apply j;refine⟨k,_,_,j2 5 rfl (Lo (Cp _ AX g.AT) (d:=AX x) (by simp[k,m]) (by simp[o])),?_⟩;simp[t2,t3,t43,AK k (by have:=v.AT.1;unfold a8;omega:Z g.AT<=a8),q,nc]
  .have w:i=Z g.AT:=by omega
   subst w;refine Ci ?_;(try simp only[B5,A2,reduceIte]);exact⟨t2,t3,trivial⟩
 .rintro tm S ⟨t2,t3,rfl⟩;refine m7 (R:=λtm S=>tm 2=.ptr 1 1 0 0/\tm 3=.ptr 2 1 0 0/\S=Rj g) ?_ ?_
  .skip;refine xW λK j=>?_;simp[t3,Rj];apply j;refine Bo ?_;refine FO (Z g.AD) (λi tm S=>tm 2=.ptr 1 1 0 0/\tm 3=.ptr 2 1 0 0/\tm 70=.d (encI (Z g.AD))/\tm 71=.d (encI i)/\S=Rj g) (i0:=0) (er _) (by simp[Rj,AA,t2,t3]) ?_;rintro i tm S hi ⟨t2,t3,A,ti,rfl⟩;refine xW λK j=>?_;simp[A,ti];apply j;refine xC ?_;simp;refine⟨λk=>?_,λC=>?_⟩
   .have q:g.AD.isEmpty=false:=by cases h:g.AD<;>simp[h]at k⊢
    have u:=v.AD.2 _ (cL k);generalize m:g.AD[i]=x at *;have B:=(Iu x.right u.1).LS;have T:=(Su x.layout u.2.1).LS;have cS:=PY x.cond u.2.2;unfold Rj;refine xK ?_;refine xB ?_;refine xW λK j=>?_;simp[ti];apply j;(repeat refine xS ?_);refine xV λK j=>?_;simp[t3,k];refine j _ _ ?_;(try simp only[xQ,reduceIte]);have o:=AF.eq_1 x;refine xE (A7 20 [41,42,44,47,48,50,53]) (by kernel_rfl) λK j=>?_;simp;refine xA 1 ?_;simp[k,m,o];refine B6 (B) rfl (by simp[xN]) ?_;simp;refine xA 1 ?_;simp[k,m,o];refine B6 (T) rfl (by simp[xN]) ?_;simp;refine xA 1 ?_;simp[k,m,o];refine B6 (cS) rfl (by simp[AB,xN]) ?_;simp[AB];refine xA 1 ?_;simp[k];refine xX 651661 (by kernel_rfl) ?_;simp[k,m,q,AY,Ak,o];refine xA 1 ?_;simp[k];refine xX 1477 (by kernel_rfl) ?_;simp[k,AY];refine xA 1 ?_;simp[k];refine xX 125 (by kernel_rfl) ?_;simp[k,AY];refine xM (j _ _ ?_);refine xV λK j=>?_;simp[ti];apply j;refine⟨k,_,_,j2 6 rfl (Lo (Cp _ AF g.AD) (d:=AF x) (by simp[k,m]) (by simp[o])),?_⟩;simp[t2,t3,A,AK k (by have:=v.AD.1;unfold a8;omega:Z g.AD<=a8),q,nc]
   .have w:i=Z g.AD:=by omega
    subst w;refine Ci ?_;(try simp only[B5,A2,reduceIte]);exact⟨t2,t3,trivial⟩
  .rintro tm S ⟨t2,t3,rfl⟩;refine m7 (R:=λtm S=>tm 2=.ptr 1 1 0 0/\tm 3=.ptr 2 1 0 0/\S=Rj g) ?_ ?_
   .skip;refine xW λK j=>?_;simp[t3,Rj];apply j;refine Bo ?_;refine FO (Z g.levels) (λi tm S=>tm 2=.ptr 1 1 0 0/\tm 3=.ptr 2 1 0 0/\tm 105=.d (encI (Z g.levels))/\tm 106=.d (encI i)/\S=Rj g) (i0:=0) (er _) (by simp[Rj,AA,t2,t3]) ?_;rintro i tm S hi ⟨t2,t3,A,ti,rfl⟩;refine xW λK j=>?_;simp[A,ti];apply j;refine xC ?_;simp;refine⟨λk=>?_,λC=>?_⟩
    .have q:g.levels.isEmpty=false:=by cases h:g.levels<;>simp[h]at k⊢
     have u:=v.levels.2 _ (cL k);generalize m:g.levels[i]=x at *;have B:=(Q5 x.AD u.1).LS;have cS:=PY x.cond u.2;unfold Rj;refine xK ?_;refine xB ?_;refine xW λK j=>?_;simp[ti];apply j;(repeat refine xS ?_);refine xV λK j=>?_;simp[t3,k];refine j _ _ ?_;(try simp only[xQ,reduceIte]);have o:=Af.eq_1 x;refine xE (A7 14 [29,30,32,35]) (by kernel_rfl) λK j=>?_;simp;refine xA 1 ?_;simp[k,m,o];refine B6 (B) rfl (by simp[xN]) ?_;simp;refine xA 1 ?_;simp[k,m,o];refine B6 (cS) rfl (by simp[AB,xN]) ?_;simp[AB];refine xA 1 ?_;simp[k];refine xX 12173 (by kernel_rfl) ?_;simp[k,m,q,AY,Ak,o];refine xA 1 ?_;simp[k];refine xX 125 (by kernel_rfl) ?_;simp[k,AY];refine xM (j _ _ ?_);refine xV λK j=>?_;simp[ti];apply j;refine⟨k,_,_,j2 7 rfl (Lo (Cp _ Af g.levels) (d:=Af x) (by simp[k,m]) (by simp[o])),?_⟩;simp[t2,t3,A,AK k (by have:=v.levels.1;unfold a8;omega:Z g.levels<=a8),q,nc]
    .have w:i=Z g.levels:=by omega
     subst w;refine Ci ?_;(try simp only[B5,A2,reduceIte]);exact⟨t2,t3,trivial⟩
   .rintro tm S ⟨t2,t3,rfl⟩;refine m7 (R:=λtm S=>tm 2=.ptr 1 1 0 0/\tm 3=.ptr 2 1 0 0/\S=Rj g) ?_ ?_
    .skip;refine xW λK j=>?_;simp[t3,Rj];apply j;refine Bo ?_;refine FO (Z g.AR) (λi tm S=>tm 2=.ptr 1 1 0 0/\tm 3=.ptr 2 1 0 0/\tm 132=.d (encI (Z g.AR))/\tm 133=.d (encI i)/\S=Rj g) (i0:=0) (er _) (by simp[Rj,AA,t2,t3]) ?_;rintro i tm S hi ⟨t2,t3,A,ti,rfl⟩;refine xW λK j=>?_;simp[A,ti];apply j;refine xC ?_;simp;refine⟨λk=>?_,λC=>?_⟩
     .have q:g.AR.isEmpty=false:=by cases h:g.AR<;>simp[h]at k⊢
      have u:=v.AR.2 _ (cL k);generalize m:g.AR[i]=x at *;have B:=(Q5 x.tokens u.1).LS;have cS:=PY x.cond u.2;unfold Rj;refine xK ?_;refine xB ?_;refine xW λK j=>?_;simp[ti];apply j;(repeat refine xS ?_);refine xV λK j=>?_;simp[t3,k];refine j _ _ ?_;(try simp only[xQ,reduceIte]);have o:=AM.eq_1 x;refine xE (A7 14 [29,30,32,35]) (by kernel_rfl) λK j=>?_;simp;refine xA 1 ?_;simp[k,m,o];refine B6 (B) rfl (by simp[xN]) ?_;simp;refine xA 1 ?_;simp[k,m,o];refine B6 (cS) rfl (by simp[AB,xN]) ?_;simp[AB];refine xA 1 ?_;simp[k];refine xX 12173 (by kernel_rfl) ?_;simp[k,m,q,AY,Ak,o];refine xA 1 ?_;simp[k];refine xX 125 (by kernel_rfl) ?_;simp[k,AY];refine xM (j _ _ ?_);refine xV λK j=>?_;simp[ti];apply j;refine⟨k,_,_,j2 8 rfl (Lo (Cp _ AM g.AR) (d:=AM x) (by simp[k,m]) (by simp[o])),?_⟩;simp[t2,t3,A,AK k (by have:=v.AR.1;unfold a8;omega:Z g.AR<=a8),q,nc]
     .have w:i=Z g.AR:=by omega
      subst w;refine Ci ?_;(try simp only[B5,A2,reduceIte]);exact⟨t2,t3,trivial⟩
    .rintro tm S ⟨t2,t3,rfl⟩;unfold Rj;refine xW λK j=>?_;simp[t2,t3];apply j;refine Aj ?_;(try simp only[xQ,reduceIte]);refine⟨_,rc (by simp[bA,lx]),?_⟩;simp[Aq,t2,bA,lx]
def hV(g:AE):V:=.agg [.row 0 (Z g.conds),.d (AV g.fam.nodes),.d (encI g.fam.root),.row 1 (Z g.AT),.row 2 (Z g.A0),.row 3 (Z g.AD),.d (encI g.start),.d (Be g.levels),.d (BL g.AR)]
def hS(g:AE):Sg:=[.row (!g.conds.isEmpty) 1 (g.conds.map λx=>.d (D.str x)),.row (!g.AT.isEmpty) 7 (g.AT.map λx=>.d (AX x)),.row (!g.A0.isEmpty) 1 (g.A0.map λx=>.d (D.str x)),.row (!g.AD.isEmpty) 13 (g.AD.map λx=>.d (AF x))]
theorem U7(g:AE)(o:Pt g):AG prog 24 [.d (AA g)] [] (hV g) (hS g):=
 (aw g o).ghost λtm h0=>by
  let j:Sg:=[.row J 9 [.d (AA g)],.row J 9 [lx g],.row J 9 [lx g],.row (!g.conds.isEmpty) 1 (g.conds.map λx=>.d (D.str x)),.row (!g.A0.isEmpty) 1 (g.A0.map λx=>.d (D.str x)),.row (!g.AT.isEmpty) 7 (g.AT.map λx=>.d (AX x)),.row (!g.AD.isEmpty) 13 (g.AD.map λx=>.d (AF x)),.BT (g.levels.map Af),.BT (g.AR.map AM)];have q:AI prog 1 0 tm (bA g) tm j:=
   (gl 7 (S:=bA g) rfl (Cp _ Af g.levels)).trans (gl 8 (S:=(bA g).set 7 (.BT (g.levels.map Af))) rfl (Cp _ AM g.AR))
  let k:V:=.agg [.row 3 (Z g.conds),.d (AV g.fam.nodes),.d (encI g.fam.root),.row 5 (Z g.AT),.row 4 (Z g.A0),.row 6 (Z g.AD),.d (encI g.start),.d (Be g.levels),.d (BL g.AR)];have u:AI prog 1 0 tm j (Fk tm 0 k) j:=AI.xc 0 h0 rfl λi h v=>by
   match i,v with
   |0,_=>exact .inl rfl
   |1,_=>exact .inl rfl
   |2,_=>exact .inl rfl
   |3,_=>exact .inl rfl
   |4,_=>exact .inl rfl
   |5,_=>exact .inl rfl
   |6,_=>exact .inl rfl
   |7,_=>exact .inr ⟨.sl (g.levels.map Af),by simp[j,BO,B4],rfl⟩
   |8,_=>exact .inr ⟨.sl (g.AR.map AM),by simp[j,BO,B4],rfl⟩
  have w:∀(ρ:Nat->Nat) {α:Type} (f:α->D) (l:List α),CN ρ (l.map λx=>V.d (f x))=l.map λx=>V.d (f x):=λρ α f l=>by
   induction l with
   |nil=>rfl
   |cons x l A=>simp[CN,A]
  let m:Sg:=hS g++[.row J 9 [.d (AA g)],.row J 9 [BW (nameOf [4,5,6,0,2,1,3,7,8]) (lx g)],.row J 9 [BW (nameOf [4,5,6,0,2,1,3,7,8]) (lx g)],.BT (g.levels.map Af),.BT (g.AR.map AM)];have B:=AI.perm (P:=prog) (n:=1) (b:=0) (tm:=Fk tm 0 k) (S:=j) (S':=m) [4,5,6,0,2,1,3,7,8] (by decide) rfl rfl (by simp[j,m,hS,DM,w,CN]) (λi h=>by omega) [3,5,4,6,0,1,2,7,8] rfl rfl;refine⟨_,(q.trans (u.trans B)).trans (fd 4 (S':=hS g) rfl (er _) (by simp[m,hS]) (by simp[m,hS])),?_⟩;simp[clean,Fk,k,hV,nameOf]
def Ro(d:AL):Bool:=((Z d.nodes:Int)==0)&&(d.root==0)
theorem Rx(d:AL):Pure prog 109 [AB d] (.bool (Ro d)):=by
 refine zP func109 12 rfl λwf=>?_;apply yW;simp;(repeat apply xS);refine FG λK g=>?_;(repeat((refine Cc ?_ ?_);(focus(simp[AB];try(first|omega|(simp +contextual[AB];done)|grind);done));simp[AB]));refine BY (g _ _ ?_);apply zT;simp[Ro]
def sQ(x:AZ):Bool:=(x.number==0)&&(x.at_==0)&&(x.to==0)&&decide (x.name=⟨#[]⟩)&&!x.value&&Ro x.cond
def tC(x:AZ):Bool:=((Z x.levels:Int)==0)&&((Z x.AR:Int)==0)&&((Z x.BI:Int)==0)
def rF(t:Token):Bool:=decide (t.name=⟨#[]⟩)&&(t.cls==0)&&decide (t.literal=⟨#[]⟩)&&((Z t.pattern:Int)==0)&&decide (t.C6=⟨#[]⟩)&&Ro t.cond
def sq(p:AO):Bool:=decide (p.name=⟨#[]⟩)&&(p.left==0)&&((Z p.right:Int)==0)&&Ro p.cond&&!p.bracket&&(p.EB==0)&&((Z p.layout:Int)==0)&&decide (p.scope=⟨ap,0,0,0,0⟩)
def HP(x:AZ):Bool:=sQ x&&tC x&&rF x.token&&sq x.prod
theorem Sw(x:AZ):Pure prog 25 [Ad x] (.bool (HP x)):=by
 refine hW func25 (by kernel_rfl) rfl (by simp) λwf=>?_;rw[ntmps25];have g:=Ad.eq_1 x;have h:=AX.eq_1 x.token;have i:=AF.eq_1 x.prod;have j:CT [D.bool x.prod.scope.opens,D.int .i64 x.prod.scope.declares,D.int .i64 x.prod.scope.kind,D.int .i64 x.prod.scope.Fh,D.int .i64 x.prod.scope.allowed] [D.bool ap,D.int .i64 0,D.int .i64 0,D.int .i64 0,D.int .i64 0]=decide (x.prod.scope=⟨ap,0,0,0,0⟩):=by
  cases x.prod.scope;rw[gI];simp[CT,DZ]
 apply yW;simp;refine AW.Jp (R:=λtm S=>tm 1=.ptr 0 1 0 0/\tm 3=.ptr 1 1 0 0/\tm 4=.ptr 2 1 0 0/\S=[.row J 31 [.d (Ad x)],.row J 7 [.agg (Ae (.d (AX x.token)))],.row J 13 [.agg (Ae (.d (AF x.prod)))]]) ?_ ?_
 .refine AW.regionF (by kernel_rfl) λK k=>?_;change Bj _ _ _ _ _ _ 8 (Array.replicate 8 ap) _ _;refine qr 0 rfl (by kernel_rfl) ?_ ?_;(focus(simp[g];done));simp;refine qr 1 rfl (by kernel_rfl) ?_ ?_;(focus(simp[g];done));simp[g];refine qr 2 rfl (by kernel_rfl) ?_ ?_;(focus(simp;done));simp;refine qr 3 rfl (by kernel_rfl) ?_ ?_;(focus(simp;done));simp;refine Bj.fY 4 5 [ap,ap,ap,ap] [ap,ap,ap,ap] (by kernel_rfl) rfl rfl (by kernel_rfl) (by kernel_rfl) ?_ ?_ ?_ ?_
  .simp[AY]
  .simp[AY]
  .simp;refine un 5 [ap,ap,ap,ap] (by kernel_rfl) rfl (by kernel_rfl) ?_ ?_;(focus(simp[AY];done));simp;refine un 6 [ap,ap,J,J] (by kernel_rfl) rfl (by kernel_rfl) ?_ ?_;(focus(simp[AY];done));simp;refine un 7 [J,J] (by kernel_rfl) rfl (by kernel_rfl) ?_ ?_;(focus(simp[AY];done));simp;refine aeC (by kernel_rfl) (k _ _ ⟨_,_,a9,?_⟩);simp[g,h,i]
  .simp;refine un 4 [ap,ap,ap,ap] (by kernel_rfl) rfl (by kernel_rfl) ?_ ?_;(focus(simp[AY];done));simp;refine un 6 [ap,ap,J,J] (by kernel_rfl) rfl (by kernel_rfl) ?_ ?_;(focus(simp[AY];done));simp;refine un 7 [J,J] (by kernel_rfl) rfl (by kernel_rfl) ?_ ?_;(focus(simp[AY];done));simp;refine aeC (by kernel_rfl) (k _ _ ⟨_,_,AI.perm (S':=[.row J 31 [.d (Ad x)],.row J 7 [.agg (Ae (.d (AX x.token)))],.row J 13 [.agg (Ae (.d (AF x.prod)))]]) [0,2,1] (by decide) (by simp) (by simp) ?_ (by simp) [0,2,1] (by simp;decide) (by simp),?_⟩)
   .simp[g,h,i]
   .simp
 .rintro tm S ⟨t1,t3,t4,rfl⟩;apply yS;(repeat((refine Cc ?_ ?_);(focus(simp[t1,g];try(first|omega|(simp +contextual[t1,g];done)|grind);done));simp[t1,g]));refine vj (ds:=[AB x.cond]) rfl rfl (by simp;rfl) (λ_=>Rx x.cond) (by simp[xN]) ?_;simp;(repeat((refine Cc ?_ ?_);(focus(simp;try(first|omega|(simp +contextual;done)|grind);done));simp));apply BY;(repeat refine xS ?_);refine FG λK k=>?_;(repeat((refine Cc ?_ ?_);(focus(simp[t1];try(first|omega|(simp +contextual[t1,g];done)|grind);done));simp[t1]));refine BY (k _ _ ?_);(try simp only[yQ,reduceIte]);apply yS;(repeat((refine Cc ?_ ?_);(focus(simp[t3];try(first|omega|(simp +contextual[t3];done)|grind);done));simp[t3]));refine vj (ds:=[AB x.token.cond]) rfl rfl (by simp;rfl) (λ_=>Rx x.token.cond) (by simp[xN]) ?_;simp;(repeat((refine Cc ?_ ?_);(focus(simp;try(first|omega|(simp +contextual;done)|grind);done));simp));apply BY;apply yS;(repeat((refine Cc ?_ ?_);(focus(simp[t4];try(first|omega|(simp +contextual[t4];done)|grind);done));simp[t4]));refine vj (ds:=[AB x.prod.cond]) rfl rfl (by simp;rfl) (λ_=>Rx x.prod.cond) (by simp[xN]) ?_;simp;(repeat((refine Cc ?_ ?_);(focus(simp[t4];try(first|omega|(simp +contextual[t4,j];done)|grind);done));simp[t4,j]));apply BY;(repeat refine xS ?_);refine FG λK k=>?_;(repeat((refine Cc ?_ ?_);(focus(simp;try(first|omega|(simp +contextual;done)|grind);done));simp));refine BY (k _ _ ?_);(try simp only[yQ,reduceIte]);refine Aj ⟨_,_,a9,?_⟩;simp[HP,sQ,tC,rF,sq,ac1]
def OO:Token:=⟨⟨#[]⟩,0,⟨#[]⟩,[],⟨#[]⟩,⟨[],0⟩⟩
def Ky:AO:=⟨⟨#[]⟩,0,[],⟨[],0⟩,ap,0,[],⟨ap,0,0,0,0⟩⟩
theorem Fv:ByteArray.empty=⟨#[]⟩:=rfl
def oh(x:AZ):Sg:=[.row J 31 [.d (Ad x)]]
def s7(f:FuncId)(c:AZ->AZ):Prop:=∀x,AG prog f [.ptr 0 1 0 0] (oh x) (.CX []) (oh (c x))
theorem du:s7 63 (λx=>{x with number:=0,at_:=0,to:=0,name:=⟨#[]⟩}):=λx=>by
 have g:=Ad.eq_1 x;unfold oh;refine zC func63 14 rfl λwf _=>?_;apply yT;apply yJ;simp[g];refine⟨_,j2 0 (xs:=[Ad {x with number:=0,at_:=0,to:=0,name:=⟨#[]⟩}]) rfl (by simp[Df,Ad]),?_⟩;simp[Aq]
theorem df:s7 75 (λx=>{x with number:=0,value:=false}):=λx=>by
 have g:=Ad.eq_1 x;unfold oh;refine zC func75 8 rfl λwf _=>?_;apply yT;apply yJ;simp[g];refine⟨_,j2 0 (xs:=[Ad {x with number:=0,value:=false}]) rfl (by simp[Df,Ad]),?_⟩;simp[Aq]
theorem jq:s7 77 (λx=>{x with number:=0,cond:=⟨[],0⟩}):=λx=>by
 have g:=Ad.eq_1 x;unfold oh;refine zC func77 9 rfl λwf _=>?_;apply yT;apply yJ;simp[g];refine⟨_,j2 0 (xs:=[Ad {x with number:=0,cond:=⟨[],0⟩}]) rfl (by simp[Df,Ad]),?_⟩;simp[Aq]
theorem jd:s7 81 (λx=>{x with number:=0,at_:=0}):=λx=>by
 have g:=Ad.eq_1 x;unfold oh;refine zC func81 8 rfl λwf _=>?_;apply yT;apply yJ;simp[g];refine⟨_,j2 0 (xs:=[Ad {x with number:=0,at_:=0}]) rfl (by simp[Df,Ad]),?_⟩;simp[Aq]
theorem dA:s7 87 (λx=>{x with number:=0,at_:=0,name:=⟨#[]⟩}):=λx=>by
 have g:=Ad.eq_1 x;unfold oh;refine zC func87 11 rfl λwf _=>?_;apply yT;apply yJ;simp[g];refine⟨_,j2 0 (xs:=[Ad {x with number:=0,at_:=0,name:=⟨#[]⟩}]) rfl (by simp[Df,Ad]),?_⟩;simp[Aq]
end Go.Koi
