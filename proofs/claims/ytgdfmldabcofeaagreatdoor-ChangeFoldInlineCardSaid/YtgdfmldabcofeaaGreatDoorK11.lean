/-
  Part 12 of the proof that the law ChangeFoldInline returns true for every input.
-/
import Derived.Test.YtgdfmldabcofeaaGreatDoorK10
import Derived.Laws.Bits64b
import Derived.Lib.TrailingZeros
set_option maxHeartbeats 64000000
set_option maxRecDepth 100000
namespace Go.Koi
open Go renaming maxLen->al
open Go.Proofs Tryz DT
def Ce(k:Int):Int:=if k=0\/k=1 then 0 else if k=4 then 1 else if k=2\/k=3 then 2 else -1
theorem bo(k:Int):Pure prog 253 [AF k] (AF (Ce k)):=by
 refine zP func253 12 rfl λwf=>?_;apply yW;simp;refine xS (yW ?_);simp;apply Bx;refine xS (yW ?_);simp;by_cases h0:k=0
 .subst h0;apply AR;simp;apply xK;apply AR;simp;apply yW;simp;refine Af ⟨_,_,am,?_⟩;simp[Ce]
 .apply AR;simp[h0];apply yV;simp;by_cases h1:k=1
  .subst h1;apply AR;simp;apply yW;simp;refine Af ⟨_,_,am,?_⟩;simp[Ce]
  .apply AR;simp[h1];(repeat apply xS);apply yV;simp;by_cases g:k=4
   .subst g;apply AR;simp;apply yW;simp;refine Af ⟨_,_,am,?_⟩;simp[Ce]
   .apply AR;simp[g];refine xS (yW ?_);simp;by_cases h:k=2
    .subst h;apply AR;simp;apply xK;apply AR;simp;apply yW;simp;refine Af ⟨_,_,am,?_⟩;simp[Ce]
    .apply AR;simp[h];apply yV;simp;by_cases i:k=3
     .subst i;apply AR;simp;apply yW;simp;refine Af ⟨_,_,am,?_⟩;simp[Ce]
     .apply AR;simp[i];apply CT;apply yW;simp;apply zT;simp[Ce,h0,h1,g,h,i]
def Iz(u:List Bool)(i at_:Int):Option (List Bool):=if i<0\/at_<=i\/u.getD i.toNat false=true then none else some (u.set i.toNat true)
def Re(u:List Bool):Sg:=[.row true 1 [.row 1 u.length],.row true 1 (u.map λb=>.d (.bool b))]
abbrev eQ:=@List.map_set
theorem Vn(u:List Bool)(i at_:Int)(Df:at_<=u.length):AG prog 252 [.d (AF i),.d (AF at_),.ptr 0 1 0 0] (Re u) (.d (.bool (Iz u i at_).isSome)) (Re ((Iz u i at_).getD u)):=by
 unfold Re;refine zC func252 22 rfl λwf _=>?_;(repeat apply xS);apply yV;simp;by_cases h:i<0
 .have k:Iz u i at_=none:=by simp[Iz,h]
  rw[k];refine xS (yS ?_);(iterate 10 (refine Cd (by simp) ?_;simp[h]));((refine FJ rfl (by simp;try rfl) ?_);simp);((refine FJ rfl (by simp;try rfl) ?_);simp);apply yJ;simp;apply AR;simp;apply yW;simp;apply Af;refine⟨_,am,?_⟩;simp[Au]
 .by_cases g:at_<=i
  .have k:Iz u i at_=none:=by simp[Iz,g]
   rw[k];refine xS (yS ?_);(iterate 10 (refine Cd (by simp) ?_;simp[h,g]));((refine FJ rfl (by simp;try rfl) ?_);simp);((refine FJ rfl (by simp;try rfl) ?_);simp);apply yJ;simp;apply AR;simp;apply yW;simp;apply Af;refine⟨_,am,?_⟩;simp[Au]
  .have h1:i<u.length:=by omega
   obtain⟨j,rfl⟩:∃j:Nat,i=j:=⟨i.toNat,by omega⟩;have m:j<u.length:=by omega
   refine xS (yW ?_);simp[h,g,h1,m];cases hb:u[j]with
   |true=>
    have k:Iz u j at_=none:=by simp[Iz,m,hb]
    rw[k];apply AR;simp;apply yW;simp;apply Af;refine⟨_,am,?_⟩;simp[Au]
   |false=>
    have k:Iz u j at_=some (u.set j true):=by simp[Iz,m,hb];omega
    rw[k];apply AR;simp;apply xK;apply yW;simp[m];apply yW;simp;apply Af;simp[sP];refine⟨_,am,?_⟩;simp[Au]
def Vl(x:BC):Bool:=if x.kind=1 then decide (0<=x.lo)&&decide (x.lo<=x.hi)&&decide (x.hi<=255)else decide (0<=Ce x.kind)&&decide (x.lo=0)&&decide (x.hi=0)
def Ft(u:List Bool)(at_:Nat)(x:BC):Option (List Bool):=
 if Vl x=false\/(Ce x.kind<1/\x.a≠0)\/(Ce x.kind<2/\x.b≠0)then none
 else if Ce x.kind<1 then some u
 else(Iz u x.a at_).bind λv=>if Ce x.kind<2 then some v else Iz v x.b at_
def Gw(p:List BC):Nat->Option (List Bool)
 |0=>some (List.replicate p.length false)
 |i+1=>(Gw p i).bind λu=>(p[i]?).bind λx=>Ft u i x
def EC(p:List BC):Int:=
 if 512<p.length then 2 else
 match Gw p p.length with
 |none=>40
 |some u=>if p=[]\/(u.take (p.length - 1)).any (λb=>!b)=true then 40 else 0
theorem Ei{u v:List Bool}{i at_:Int}(h:Iz u i at_=some v):v.length=u.length:=by
 unfold Iz at h;split at h
 .cases h
 .cases h;simp
abbrev WF:=@Option.bind_eq_some_iff
theorem Rp{u v:List Bool}{at_:Nat}{x:BC}(h:Ft u at_ x=some v):v.length=u.length:=by
 unfold Ft at h;split at h
 .cases h
 .split at h
  .cases h;rfl
  .obtain⟨w,h1,g⟩:=WF.1 h;split at g
   .cases g;exact Ei h1
   .rw[Ei g,Ei h1]
theorem MC{p:List BC}:∀{i:Nat} {u:List Bool},Gw p i=some u->u.length=p.length
 |0,u,h=>by cases h;simp
 |i+1,u,h=>by
  obtain⟨v,h1,g⟩:=WF.1 h;obtain⟨x,_,j⟩:=WF.1 g;rw[Rp j,MC h1]
theorem LL{p:List BC}{i:Nat}(h:Gw p i=none):∀k,Gw p (i+k)=none
 |0=>h
 |k+1=>by rw[<-nl,Gw,LL h k];rfl
theorem MW(k:Int):Ce k= -1\/Ce k=0\/Ce k=1\/Ce k=2:=by
 unfold Ce;split
 .simp
 .split
  .simp
  .split<;>simp
theorem Xe{x:BC}(h:Ce x.kind= -1):Vl x=false:=by
 unfold Vl;have:x.kind≠1:=by intro e;rw[e]at h;simp[Ce]at h
 simp[this,h]
abbrev yf:=@Go.IntKind.wrap_i64
theorem OB(p:List BC):Pure prog 224 [Ay p] (AF (EC p)):=by
 refine eJ func224 rfl rfl (by simp) λwf=>?_;have L:p.length<=maxLen:=by simp[Bs,DZ,Ay]at wf;exact wf.1
 rw[ntmps224];apply yW;simp;refine xS (yW ?_);simp;by_cases w:512<p.length
 .have M:(512:Int)<p.length:=by omega
  apply AR;simp[M];apply yW;simp;refine Af ⟨_,_,am,?_⟩;simp[EC,w]
 .have M:¬(512:Int)<p.length:=by omega
  have U:(p.length:Int)<=1073741824:=by omega
  apply AR;simp[M];apply xK;apply yW;simp[U];apply yW;simp;refine xS (yW ?_);simp;apply Bx;refine zL p.length (λi tm S=>(Gw p i).isSome=true/\tm 0=.d (Ay p)/\tm 3=.ptr 1 1 0 0/\tm 4=.fn (.func 252) [] [.ptr 1 1 0 0]/\tm 17=.d (Ay p)/\tm 18=.d (.int .i64 p.length)/\tm 19=.d (.int .i64 i)/\S=[.row true 1 (((Gw p i).getD []).map λb=>.d (.bool b)),.row true 1 [.row 0 p.length]]) (by simp[Gw]) ?_;rintro i tm S hi ⟨N,t0,t3,t4,t17,t18,t19,rfl⟩;obtain⟨u,K⟩:=jw.1 N;have z:=MC K;simp[K];apply yW;simp[t18,t19];apply xC;simp;refine⟨λB=>?_,λW=>?_⟩
  .apply xK;apply xB;(repeat apply xS);apply yV;simp[t17,t19,B];have vN:(Ay p)=.sl (p.map AS):=rfl;generalize X:p[i]=x at *;apply yS;apply yJ;simp;refine B9 (bo x.kind) rfl (by simp) (yJ ?_);simp;apply yW;simp;refine k7 (R:=λtm S=>tm 0=.d (Ay p)/\tm 3=.ptr 1 1 0 0/\tm 4=.fn (.func 252) [] [.ptr 1 1 0 0]/\tm 5=.d (.int .i64 i)/\tm 6=.ptr 2 1 0 0/\tm 7=.d (AF (Ce x.kind))/\tm 8=.d (.bool (Vl x))/\tm 17=.d (Ay p)/\tm 18=.d (.int .i64 p.length)/\tm 19=.d (.int .i64 i)/\S=[.row true 1 (u.map λb=>.d (.bool b)),.row true 1 [.row 0 p.length],.row true 5 [.d (AS x)]]) ?_ ?_
   .apply Bx;(repeat apply xS);apply yV;simp[AS];by_cases h1:x.kind=1
    .apply AR;simp[h1];apply yV;simp;unfold HQ;simp[Vl,h1,Ce,t0,t3,t4,t17,t18,t19]
    .apply AR;simp[h1];apply yW;simp;(repeat apply xS);refine k6 (t:=!(decide (x.lo=0)&&decide (x.hi=0))) ?_ (λhb=>?_) (λhb=>?_)
     .simp;rw[eg];simp
     .apply yV;simp;unfold HQ;simp at hb;have:Vl x=false:=by simp[Vl,h1];grind
      simp[this,t0,t3,t4,t17,t18,t19]
     .apply CT;simp at hb;have:Vl x=decide (0<=Ce x.kind):=by simp[Vl,h1,hb]
      simp[this,t0,t3,t4,t17,t18,t19]
   .rintro tm S ⟨t0,t3,t4,t5,t6,t7,t8,t17,t18,t19,rfl⟩;have s:Gw p (i+1)=Ft u i x:=by simp[Gw,K,B,X]
    have o:Ft u i x=none->EC p=40:=λh=>by
     have h1:=LL (s.trans h) (p.length - (i+1));rw[Nat.add_sub_cancel' (by omega)]at h1;simp[EC,w,h1]
    by_cases Y:Vl x=false\/(Ce x.kind<1/\x.a≠0)\/(Ce x.kind<2/\x.b≠0)
    .have C:Ft u i x=none:=by simp[Ft,ap Y]
     have A:=o C;have Z:Vl x=false\/Vl x=true/\Ce x.kind=0/\x.a≠0\/Vl x=true/\Ce x.kind=0/\x.a=0/\x.b≠0\/Vl x=true/\Ce x.kind=1/\x.b≠0:=by
      have:=MW x.kind;have:=@Xe x;grind
     rcases Z with h|⟨h,n1,m⟩|⟨h,n1,m,F⟩|⟨h,n1,m⟩
     .skip;apply yS;apply yJ;simp[AS,t4,t5,t6,t7,t8,h];((refine FJ rfl (by simp;try rfl) ?_);simp);apply yJ;simp[t4,t5,t6,t7];((refine FJ rfl (by simp;try rfl) ?_);simp);apply yJ;simp;apply AR;simp;apply yW;simp;refine Af ⟨_,_,am,?_⟩;simp[A]
     .skip;apply yS;apply yJ;simp[AS,t4,t5,t6,t7,t8,h,n1,m];((refine FJ rfl (by simp;try rfl) ?_);simp);apply yJ;simp[t4,t5,t6,t7,n1,m];((refine FJ rfl (by simp;try rfl) ?_);simp);apply yJ;simp[m];apply AR;simp[m];apply yW;simp;refine Af ⟨_,_,am,?_⟩;simp[A]
     .skip;apply yS;apply yJ;simp[AS,t4,t5,t6,t7,t8,h,n1,m,F];((refine FJ rfl (by simp;try rfl) ?_);simp);apply yJ;simp[t4,t5,t6,t7,n1,F];((refine FJ rfl (by simp;try rfl) ?_);simp);apply yJ;simp[F];apply AR;simp[F];apply yW;simp;refine Af ⟨_,_,am,?_⟩;simp[A]
     .skip;apply yS;apply yJ;simp[AS,t4,t5,t6,t7,t8,h,n1,m];((refine FJ rfl (by simp[m];try rfl) ?_);simp);apply yJ;simp[t4,t5,t6,t7,n1,m];((refine FJ rfl (by simp;try rfl) ?_);simp);apply yJ;simp;apply AR;simp;apply yW;simp;refine Af ⟨_,_,am,?_⟩;simp[A]
    .have g:Vl x=true:=by grind
     have hn:Ce x.kind=0/\x.a=0/\x.b=0\/Ce x.kind=1/\x.b=0\/Ce x.kind=2:=by
      have:=MW x.kind;have:=@Xe x;grind
     rcases hn with⟨n1,n2,n3⟩|⟨n1,n3⟩|n1
     .have C:Ft u i x=some u:=by simp[Ft,g,n1,n2,n3]
      apply yS;apply yJ;simp[AS,g,n1,n2,n3,t4,t5,t6,t7,t8];((refine FJ rfl (by simp;try rfl) ?_);simp);apply yJ;simp[n1,t4,t5,t6,t7];((refine FJ rfl (by simp;try rfl) ?_);simp);apply yJ;simp;apply AR;simp;apply CT;apply yV;simp[t19];refine⟨B,_,_,ip 2 (by simp) (by simp) (by simp),?_⟩;rw[s,C];simp[clean,t0,t3,t4,t17,t18,AL B L]
     .have G:=z;apply yS;apply yJ;simp[AS,t4,t5,t6,t7,t8,g,n1,n3];refine AV.QC (Vn u x.a i (by omega)) [1,0] rfl rfl (by simp[Re,z];try rfl) ?_;simp[Re];cases q:Iz u x.a i with
      |none=>
       have A:=o (by simp[Ft,g,n1,n3,q]);apply yJ;simp[t4,t5,t6,t7,n1];((refine FJ rfl (by simp;try rfl) ?_);simp);apply yJ;simp;apply AR;simp;apply yW;simp;refine Af ⟨_,_,am,?_⟩;simp[A]
      |some v=>
       have C:Ft u i x=some v:=by simp[Ft,g,n1,n3,q]
       apply yJ;simp[t4,t5,t6,t7,n1];((refine FJ rfl (by simp;try rfl) ?_);simp);apply yJ;simp;apply AR;simp;apply CT;apply yV;simp[t19];refine⟨B,_,_,ip 2 (by simp) (by simp) (by simp),?_⟩;rw[s,C];simp[clean,t0,t3,t4,t17,t18,AL B L,Ei q,z]
     .apply yS;apply yJ;simp[AS,t4,t5,t6,t7,t8,g,n1];refine AV.QC (Vn u x.a i (by omega)) [1,0] rfl rfl (by simp[Re,z];try rfl) ?_;simp[Re];cases q:Iz u x.a i with
      |none=>
       have A:=o (by simp[Ft,g,n1,q]);apply yJ;simp[t4,t5,t6,t7,n1];((refine FJ rfl (by simp;try rfl) ?_);simp);apply yJ;simp;apply AR;simp;apply yW;simp;refine Af ⟨_,_,am,?_⟩;simp[A]
      |some v=>
       have G:=Ei q;apply yJ;simp[t4,t5,t6,t7,n1];refine AV.QC (Vn v x.b i (by omega)) [1,0] rfl rfl (by simp[Re,z,G];try rfl) ?_;simp[Re,z,G];cases H:Iz v x.b i with
       |none=>
        have A:=o (by simp[Ft,g,n1,q,H]);apply yJ;simp;apply AR;simp;apply yW;simp;refine Af ⟨_,_,am,?_⟩;simp[A]
       |some v2=>
        have C:Ft u i x=some v2:=by simp[Ft,g,n1,q,H]
        apply yJ;simp;apply AR;simp;apply CT;apply yV;simp[t19];refine⟨B,_,_,ip 2 (by simp) (by simp) (by simp),?_⟩;rw[s,C];simp[clean,t0,t3,t4,t17,t18,AL B L,Ei q,Ei H,z]
  .have vP:i=p.length:=by omega
   subst vP;have P:EC p=if p=[]\/(u.take (p.length - 1)).any (λb=>!b)=true then 40 else 0:=by simp[EC,w,K]
   have hw:IntKind.wrap .i64 ((p.length:Int) - 1)=p.length - 1:=by rw[yf];omega
   apply C7;refine xS (yW ?_);simp[t0,hw];apply Bx;refine zL (p.length - 1) (λk tm S=>(∀j (h:j<k) (m:j<u.length),u[j]=true)/\tm 0=.d (Ay p)/\tm 3=.ptr 1 1 0 0/\tm 104=.d (.int .i64 ((p.length:Int) - 1))/\tm 105=.d (.int .i64 k)/\S=[.row true 1 (u.map λb=>.d (.bool b)),.row true 1 [.row 0 p.length]]) (by simp[t0,t3]) ?_;rintro k tm S hk ⟨T,t0,t3,t104,t105,rfl⟩;apply yW;simp[t104,t105];apply xC;simp;refine⟨λB=>?_,λW=>?_⟩
   .have J:k<u.length:=by omega
    have xp:k<p.length - 1:=by omega
    apply xK;apply xB;(repeat apply xS);apply yV;simp[t105];have Q:k<p.length:=by omega
    (repeat apply xS);apply yV;simp[t3,Q,z];cases hb:u[k]with
    |false=>
     apply AR;simp;apply yW;simp;refine Af ⟨_,_,am,?_⟩;have:(u.take (p.length - 1)).any (λb=>!b)=true:=by
      rw[zv];exact⟨u[k],jp.2 ⟨k,by simp;omega,by simp⟩,by simp[hb]⟩
     simp[P,this]
    |true=>
     apply AR;simp;apply CT;apply yV;simp[t105];refine⟨xp,_,_,am,?_⟩;simp[t0,t3,t104,AL J (by omega:u.length<=maxLen)];intro j hj xe;by_cases e:j=k
     .subst e;exact hb
     .exact T j (by omega) xe
   .apply C7;refine xS (yW ?_);simp[t0];by_cases E:p=[]
    .subst E;apply AR;simp;apply yW;simp;refine Af ⟨_,_,am,?_⟩;simp[P]
    .have zt:p.length≠0:=by simpa using E
     have zK:¬(p.length:Int)=0:=by omega
     have C:(u.take (p.length - 1)).any (λb=>!b)=false:=by
      rw[p6];intro b hb;obtain⟨j,hj,rfl⟩:=jp.1 hb;simp at hj;simp[T j (by omega) (by omega)]
     apply AR;simp[E];apply xK;apply yW;simp;apply zT;simp[P,C,E]
def js(w:Nat):D:=.int .u64 w
abbrev adf:=@Go.IntKind.wrap_u64
theorem Ps(n:Nat):IntKind.u64.wrap (n:Int)=((n % 18446744073709551616:Nat):Int):=by rw[adf];omega
theorem dT{n:Nat}(h:n<2 ^ 64):IntKind.u64.wrap (n:Int)=(n:Int):=by rw[Ps,qr (by omega)]
theorem u64_and(a b:Nat)(ha:a<2 ^ 64)(hb:b<2 ^ 64):IntKind.u64.wrap ((a % 2 ^ IntKind.u64.bits&&& b % 2 ^ IntKind.u64.bits:Nat):Int)=((a&&& b:Nat):Int):=by
 have e:IntKind.u64.bits=64:=rfl;have g:a&&& b<2 ^ 64:=Nat.and_lt_two_pow _ (by omega);rw[e,qr ha,qr hb,Ps,qr (by omega)]
abbrev adY:=@Nat.or_lt_two_pow
theorem u64_or(a b:Nat)(ha:a<2 ^ 64)(hb:b<2 ^ 64):IntKind.u64.wrap ((a % 2 ^ IntKind.u64.bits|||b % 2 ^ IntKind.u64.bits:Nat):Int)=((a|||b:Nat):Int):=by
 have e:IntKind.u64.bits=64:=rfl;have g:a|||b<2 ^ 64:=adY (by omega) (by omega);rw[e,qr ha,qr hb,Ps,qr (by omega)]
theorem lq{w:Nat}(g:w<2 ^ 64)(h0:w≠0):IntKind.u64.wrap ((w % 2 ^ IntKind.u64.bits&&& (IntKind.u64.wrap (-(w:Int)) % 2 ^ IntKind.u64.bits).toNat:Nat):Int)=((2 ^ Lib.ctz 64 w:Nat):Int):=by
 have h:(IntKind.u64.wrap (-(w:Int)) % 2 ^ IntKind.u64.bits).toNat=(2 ^ 64 - w) % 2 ^ IntKind.u64.bits:=by
  have e:IntKind.u64.bits=64:=rfl;rw[e,adf];omega
 rw[h,u64_and w (2 ^ 64 - w) g (by omega),(Lib.lowest_bit 64 w h0 g).1]
theorem oO(q:Nat):((q:Int).fdiv (2 ^ min 58 IntKind.u64.bits))=((q / 288230376151711744:Nat):Int):=by
 have e:min 58 IntKind.u64.bits=58:=by decide
 rw[e,acx _ (by decide)];have g:(2:Int) ^ 58=288230376151711744:=by decide
 rw[g];omega
theorem qL{j k:Nat}(h:Lib.deBruijn64tab.getD j 0=k):Bz.getD (j:Int).toNat 0=(k:Int):=by
 have:Bz=Lib.deBruijn64tab.map λ(n:Nat)=>(n:Int):=by decide
 rw[this,<-h,ii];simp;cases Lib.deBruijn64tab[j]?<;>rfl
theorem nr(w:Nat)(h:w<2 ^ 64):Pure prog 272 [js w] (AF (Lib.ctz 64 w)):=by
 refine zP func272 14 rfl λwf=>?_;unfold js;apply yW;simp;refine xS (yW ?_);simp;by_cases h0:w=0
 .subst h0;apply AR;simp;apply yW;simp;refine Af ⟨_,_,am,?_⟩;(try simp);simp[Lib.ctz]
 .have o:¬(w:Int)=0:=by omega
  apply AR;simp[h0];apply xK;(repeat apply xS);apply yT;(repeat(refine Cd ?_ ?_;(·simp);simp));refine AV.neg (k:=.u64) (i:=w) rfl rfl (by simp) (by simp) ?_;simp;apply xO;simp;obtain⟨m,s⟩:=Lib.lowest_bit 64 w h0 h;obtain⟨hi,g⟩:=Lib.deBruijn64_at _ s;rw[lq h h0];generalize t:Lib.ctz 64 w=k at *;generalize u:2 ^ k=a at *;have v:IntKind.u64.wrap ((a:Int) * 285870213051353865)=((a * 285870213051353865 % 18446744073709551616:Nat):Int):=by rw[adf];omega
  apply xO;simp;rw[v];generalize A:a * 285870213051353865 % 18446744073709551616=q at *;apply xO;simp;rw[oO];generalize hj:q / 288230376151711744=j at *;(refine AV.oV (E:=5) (k:=.u64) (i:=j) rfl rfl rfl (by simp) (by simp) (by simp) (by simp) (by omega) (by omega) ?_);rw[qL g];simp;have z:IntKind.i64.wrap (k:Int)=k:=by rw[yf];omega
  apply yJ;simp[z];apply zT;try simp
def Fq(ws:List Nat):List V:=ws.map λ(w:Nat)=>.d (.int .u64 (w:Int))
def Dn(ws:List Nat):V:=.agg (Fq ws)
def IM(ws:List Nat):Prop:=ws.length=8/\∀w∈ws,w<2 ^ 64
def JX(ws:List Nat)(i:Nat):List Nat:=ws.set (i / 64) (ws.getD (i / 64) 0|||2 ^ (i % 64))
theorem IM.get{ws:List Nat}(h:IM ws)(k:Nat)(i:k<8):∃w,ws[k]?=some w/\w<2 ^ 64:=by
 have g:k<ws.length:=by rw[h.1];exact i
 exact⟨ws[k],by simp[g],h.2 _ (b9 g)⟩
abbrev y3:=@List.mem_or_eq_of_mem_set
abbrev adC:=@Nat.pow_lt_pow_right
theorem XI{ws:List Nat}(h:IM ws)(i:Nat)(hi:i<512):IM (JX ws i):=by
 obtain⟨w,h1,k⟩:=h.get (i / 64) (by omega);refine⟨by simp[JX,h.1],λx j=>?_⟩;unfold JX at j;rcases y3 j with g|g
 .exact h.2 _ g
 .rw[g];simp[h1];exact adY k (adC (by omega) (by omega))
theorem a9{α:Type}(a:α):∃b,a=b:=⟨_,rfl⟩
abbrev c8:=@Int.tmod_eq_emod_of_nonneg
abbrev adk:=@List.set_eq_take_append_cons_drop
theorem kU{els:List V}{k:Nat}{e:V}{ws:List Nat}(s:els[k]?=some e)(t:Ai e=Fq ws)(ha:At e=true)(H:IM ws)(i:Nat)(hi:i<512):
  AG prog 266 [.ptr 0 els.length k 0,.d (AF i)] [.row true 8 els] (.Cb []) [.row true 8 (els.set k (Dn (JX ws i)))]:=by
 refine zC func266 16 rfl λwf _=>?_;obtain⟨w,E,K⟩:=H.get (i / 64) (by omega);have j:k<els.length:=by
  rcases pu k els.length with h|h
  .exact h
  .rw[np h]at s;cases s
 have m:JX ws i=ws.set (i / 64) (ws.getD (i / 64) 0|||2 ^ (i % 64)):=rfl;obtain⟨q,J⟩:=a9 (i / 64);obtain⟨r,L⟩:=a9 (i % 64);rw[J]at E;rw[J,L]at m;have u:IntKind.i64.wrap ((i:Int) / 64)=(q:Int):=by rw[yf];omega
 have v:(i:Int).tmod 64=(r:Int):=by rw[c8 (by omega)];omega
 have hj:q<8:=by omega
 have A:(q:Int)<8:=by omega
 have B:(Fq ws).length=8:=by simp[Fq,H.1]
 have C:(Fq ws)[q]?=some (.d (.int .u64 w)):=by simp[Fq,E]
 have g:q<=7:=by omega
 obtain rfl:els[k]=e:=by rw[ci j]at s;exact oi s
 have F:IntKind.u64.wrap (2 ^ min r IntKind.u64.bits)=((2 ^ r:Nat):Int):=by
  have e:min r IntKind.u64.bits=r:=by have:IntKind.u64.bits=64:=rfl;omega
  have:2 ^ r<2 ^ 64:=adC (by omega) (by omega);rw[e,<-dT this];simp
 have o:2 ^ r<2 ^ 64:=adC (by omega) (by omega);rw[m];generalize 2 ^ r=z at *;have G:=u64_or w z K o;refine yE [0,2,4,6,8,10,12,14,16,18,20,22,25] (by kernel_rfl) ?_;simp;(iterate 10 (refine Hz (by simp[j,A,g,t,B,ha]) ?_;simp[u,v,j,t,C,F,G]));apply yA 1;simp[j,A];apply xX 4093 (by kernel_rfl);simp[j,A,g,t,B,ha,Ac];have M:List.take q (Fq ws)++V.d (D.int .u64 ((w|||z:Nat):Int))::List.drop (q+1) (Fq ws)=Fq (ws.set q (ws.getD q 0|||z)):=by
  rw[show Fq (ws.set q (ws.getD q 0|||z))=(Fq ws).set q (V.d (D.int .u64 ((w|||z:Nat):Int)))from by simp[Fq,E],adk,ap (by omega)]
 rw[M];apply xM;refine⟨_,am,?_⟩;simp[Au]
def Kf(ss ts:List Nat):List Nat:=List.zipWith (·|||·) ss ts
theorem Ms{ss ts:List Nat}(h:IM ss)(g:IM ts):IM (Kf ss ts):=by
 refine⟨by simp[Kf,h.1,g.1],λx i=>?_⟩;obtain⟨j,hj,rfl⟩:=jp.1 i;simp[Kf]at hj⊢;exact adY (h.2 _ (b9 _)) (g.2 _ (b9 _))
def OJ(ss ts:List Nat)(j:Nat):List Nat:=(Kf ss ts).take j++ss.drop j
theorem Zm(ss ts:List Nat):OJ ss ts 0=ss:=by simp[OJ]
abbrev ace:=@List.drop_eq_nil_of_le
theorem bX{ss ts:List Nat}(h:IM ss):OJ ss ts 8=Kf ss ts:=by
 have h1:(Kf ss ts).take 8=Kf ss ts:=s9 (by simp[Kf,h.1];omega);have g:ss.drop 8=[]:=ace (by rw[h.1];exact br _);simp[OJ,h1,g]
theorem mO{ss ts:List Nat}(h:IM ss)(g:IM ts)(j:Nat)(hj:j<=8):IM (OJ ss ts j):=by
 refine⟨by simp[OJ,Kf,h.1,g.1];omega,λx i=>?_⟩;rcases dl.1 i with h1|h1
 .exact(Ms h g).2 _ (W0 h1)
 .exact h.2 _ (acJ h1)
theorem lC{ss ts:List Nat}(h:IM ss)(g:IM ts)(j:Nat)(hj:j<8):(OJ ss ts j)[j]?=ss[j]?:=by
 have:(List.take j (Kf ss ts)).length=j:=by simp[Kf,h.1,g.1];omega
 unfold OJ;rw[ls (by omega),this];simp
abbrev yq:=@List.take_add_one
theorem Yo{ss ts:List Nat}(h:IM ss)(k:IM ts){j w z:Nat}(hj:j<8)(g:ss[j]?=some w)(m:ts[j]?=some z):OJ ss ts (j+1)=(OJ ss ts j).set j (w|||z):=by
 have o:(List.take j (Kf ss ts)).length=j:=by simp[Kf,h.1,k.1];omega
 have q:(Kf ss ts)[j]?=some (w|||z):=by simp[Kf,List.getElem?_zipWith,g,m]
 have s:ss.drop j=w::ss.drop (j+1):=by
  have i:j<ss.length:=by rw[h.1];exact hj
  rw[sw i];have:ss[j]=w:=by rw[ci i]at g;exact oi g
  rw[this]
 unfold OJ;rw[yq,q,s];rw[List.set_append_right _ _ (by omega),o];simp
theorem kH{ws:List Nat}{j w:Nat}(h:ws[j]?=some w):(Fq ws)[j]?=some (.d (.int .u64 (w:Int))):=by simp[Fq,h]
theorem J4{ws:List Nat}{j w:Nat}(h:ws[j]?=some w)(g:j<(Fq ws).length):(Fq ws)[j]=.d (.int .u64 (w:Int)):=by
 have:=kH h;rw[ci g]at this;exact oi this
theorem BU{ws:List Nat}(h:IM ws):(Fq ws).length=8:=by simp[Fq,h.1]
theorem kg{ws:List Nat}{q z:Nat}(h:IM ws)(g:q<8):List.take q (Fq ws)++V.d (D.int .u64 (z:Int))::List.drop (q+1) (Fq ws)=Fq (ws.set q z):=by
 rw[show Fq (ws.set q z)=(Fq ws).set q (V.d (D.int .u64 (z:Int)))from by simp[Fq],adk,ap (by rw[BU h];exact g)]
theorem Jf(n:Nat):∀g:List Nat,Aw n (Fq g)=true
 |[]=>rfl
 |w::g=>by have:=Jf n g;simp only[Fq,eP]at *;simp[Aw]
theorem NK(n:Nat)(ws:List Nat):AP n (Dn ws)=true:=by
 unfold Dn;exact Jf n ws
theorem GR(n:Nat):∀g:List (List Nat),Aw n (g.map Dn)=true
 |[]=>rfl
 |w::h=>by simp;simp[NK];exact GR n h
theorem bf{els:List V}{k:Nat}{ss ts:List Nat}(H:els[k]?=some (Dn ss))(hs:IM ss)(q:IM ts)(Q:∀v,AP 1 v=true->Aw 1 (els.set k v)=true):
  AG prog 264 [.ptr 0 els.length k 0,Dn ts] [.row true 8 els] (.Cb []) [.row true 8 (els.set k (Dn (Kf ss ts)))]:=by
 refine md func264 (by kernel_rfl) rfl (by simp) λwf _=>?_;rw[ntmps264];have s:k<els.length:=by
  rcases pu k els.length with h|h
  .exact h
  .rw[np h]at H;cases H
 have J:els=els.set k (Dn ss):=by
  apply acp;intro j;by_cases t:k=j
  .subst t;rw[H];simp[s]
  .simp[t]
 have u:=BU q;refine xW λK i=>?_;simp[Dn,u];apply i;refine xW λK i=>?_;simp;apply i;refine Bx ?_;refine DV 8 (λj tm S=>tm 0=.ptr 0 els.length k 0/\tm 3=.ptr 1 1 0 0/\tm 5=.d (.int .i64 j)/\S=[.row true 8 (els.set k (Dn (OJ ss ts j))),.row true 8 [Dn ts]]) (i0:=0) (cq _) (by simp[Zm,Dn];exact J) ?_;rintro j tm S hj ⟨t0,t3,t5,rfl⟩;have A:=mO hs q j hj;have m:=BU A;refine xW λK i=>?_;simp[t5];apply i;refine xC ?_;simp;refine⟨λC=>?_,λU=>?_⟩
 .have g:j<8:=by omega
  obtain⟨w,M,R⟩:=hs.get j g;obtain⟨z,N,L⟩:=q.get j g;have B:=lC hs q j g;rw[M]at B;have T:=Yo hs q g M N;have E:=u64_or w z R L;have F:=J4 B (by omega);have G:=J4 N (by omega);have o:j<=7:=by omega
  have P:=kg (z:=w|||z) A g;rw[<-T]at P;refine xK ?_;refine xB ?_;refine xW λK i=>?_;simp[t5];apply i;refine xE [0,2,4,6,8,10,12,14,16,18,20,23] (by kernel_rfl) λK i=>?_;simp;(iterate 9 (refine Hz (by simp[t3,s,o,C,m,u,Dn]) ?_;simp[t0,t3,s,g,C,m,u,F,G,E,Dn]));refine xA 1 ?_;simp[s,C];refine xX 2045 (by kernel_rfl) ?_;simp[s,o,C,m,Ac];rw[P];refine xM (i _ _ ?_);refine xV λK i=>?_;simp[t5];apply i;refine⟨g,_,_,am,?_⟩;simp[t0,t3,Dn];exact AL g (by simp[maxLen])
 .have g:j=8:=by omega
  subst g;refine C7 ?_;rw[bX hs];refine⟨_,a8 1 (by simp) (by simp) (by simp) (by simp;exact Q _ (NK _ _)),?_⟩;simp[Au]
def JR(fs:List (List Nat)):O:=.row true 8 (fs.map Dn)
theorem Nw{n:Nat}{v:V}(g:AP n v=true):∀{l:List V} {k:Nat},Aw n l=true->Aw n (l.set k v)=true
 |[],_,_=>rfl
 |x::l,0,h=>by simp[Aw]at h⊢;exact⟨g,h.2⟩
 |x::l,k+1,h=>by simp[Aw]at h⊢;exact⟨h.1,Nw g h.2⟩
theorem Wz{fs:List (List Nat)}{k:Nat}{ss ts:List Nat}(g:fs[k]?=some ss)(hs:IM ss)(h:IM ts):
  AG prog 264 [.ptr 0 fs.length k 0,Dn ts] [JR fs] (.Cb []) [JR (fs.set k (Kf ss ts))]:=by
 have:=bf (els:=fs.map Dn) (k:=k) (by simp[g]) hs h λv i=>Nw i (GR _ _);simpa[JR,eQ]using this
theorem Xm{fs:List (List Nat)}{k:Nat}{ws:List Nat}(g:fs[k]?=some ws)(h:IM ws)(i:Nat)(hi:i<512):
  AG prog 266 [.ptr 0 fs.length k 0,.d (AF i)] [JR fs] (.Cb []) [JR (fs.set k (JX ws i))]:=by
 have:=kU (els:=fs.map Dn) (k:=k) (e:=Dn ws) (ws:=ws) (by simp[g]) (by simp[Dn]) (by simp[Dn]) h i hi;simpa[JR,eQ]using this
def Kk(base w:Nat):List Nat:=((List.range 64).filter λi=>w.testBit i).map (base+ ·)
abbrev acL:=@List.range_succ
abbrev acE:=@List.filter_append
theorem L7{p q:Nat->Bool}{c:Nat}(i:p c=true)(k:q c=false)(g:∀j<c,p j=false/\q j=false)(m:∀j,c<j->p j=q j):∀n,c<n->(List.range n).filter p=c::(List.range n).filter q
 |0,h=>by omega
 |n+1,h=>by
  rw[acL,acE,acE];by_cases o:c<n
  .rw[L7 i k g m n o];have:=m n o;simp[List.filter,this]
  .obtain rfl:c=n:=by omega
   have s:(List.range c).filter p=[]:=acX.2 λj hj=>by simp[(g j (by simpa using hj)).1]
   have t:(List.range c).filter q=[]:=acX.2 λj hj=>by simp[(g j (by simpa using hj)).2]
   simp[s,t,List.filter,i,k]
abbrev ab9:=@Nat.testBit_two_pow_mul_add
abbrev ady:=@Nat.testBit_succ
theorem W7{w:Nat}(k:w<2 ^ 64)(h0:w≠0):∃m,w=2 ^ Lib.ctz 64 w * (2 * m+1)/\w&&& (w - 1)=2 ^ Lib.ctz 64 w * (2 * m)/\Lib.ctz 64 w<64:=by
 obtain⟨m,g,o⟩:=Lib.ctzFrom_spec 64 w (by omega) k;have e:Lib.ctz 64 w=Lib.ctzFrom 64 w:=by simp[Lib.ctz,h0]
 rw[e];generalize Lib.ctzFrom 64 w=c at *;refine⟨m,g,?_,o⟩;have h:0<2 ^ c:=Nat.two_pow_pos c;have h1:w - 1=2 ^ c * (2 * m)+(2 ^ c - 1):=by rw[g,Nat.mul_add];omega
 apply Nat.eq_of_testBit_eq;intro j;have t1:w.testBit j=if j<c then false else(2 * m+1).testBit (j - c):=by
  have:=ab9 (2 * m+1) (b:=0) (i:=c) h j;rw[xv,<-g]at this;simpa using this
 have t2:(w - 1).testBit j=if j<c then(2 ^ c - 1).testBit j else(2 * m).testBit (j - c):=by
  rw[h1];exact ab9 _ (by omega) j
 have t3:(2 ^ c * (2 * m)).testBit j=if j<c then false else(2 * m).testBit (j - c):=by
  have:=ab9 (2 * m) (b:=0) (i:=c) h j;simpa using this
 rw[Nat.testBit_and,t1,t2,t3];by_cases hj:j<c
 .simp[hj]
 .simp[hj];cases q:j - c with
  |zero=>simp
  |succ d=>rw[ady,ady];simp[show(2 * m+1) / 2=m by omega]
theorem Vq(base:Nat):Kk base 0=[]:=by
 simp[Kk]
theorem VH(base:Nat){w:Nat}(k:w<2 ^ 64)(h0:w≠0):Kk base w=(base+Lib.ctz 64 w)::Kk base (w&&& (w - 1)):=by
 obtain⟨m,o,ha,s⟩:=W7 k h0;generalize Lib.ctz 64 w=c at *;have g:0<2 ^ c:=Nat.two_pow_pos c;have t1:∀j,w.testBit j=if j<c then false else(2 * m+1).testBit (j - c):=λj=>by
  have:=ab9 (2 * m+1) (b:=0) (i:=c) g j;rw[xv,<-o]at this;simpa using this
 have t3:∀j,(2 ^ c * (2 * m)).testBit j=if j<c then false else(2 * m).testBit (j - c):=λj=>by
  have:=ab9 (2 * m) (b:=0) (i:=c) g j;simpa using this
 have:=L7 (p:=λi=>w.testBit i) (q:=λi=>(2 ^ c * (2 * m)).testBit i) (c:=c) (by simp[t1]) (by simp[t3]) (λj hj=>by simp[t1,t3,hj]) (λj hj=>by
  have h:¬j<c:=by omega
  obtain⟨d,t⟩:∃d,j - c=d+1:=⟨j - c - 1,by omega⟩;simp[t1,t3,h,t];rw[ady,ady,show(2 * m+1) / 2=m by omega,show(2 * m) / 2=m by omega]) 64 s
 unfold Kk;rw[ha,this];rfl
theorem dk{w:Nat}(g:w<2 ^ 64)(h0:w≠0):w&&& (w - 1)<w:=by
 have:=Nat.and_le_right (n:=w) (m:=w - 1);omega
def N0(ws:List Nat)(k:Nat):List Nat:=((List.range 8).drop k).flatMap λk=>Kk (64 * k) (ws.getD k 0)
def Fe(ws:List Nat):List Nat:=N0 ws 0
theorem VZ{ws:List Nat}{k w:Nat}(g:k<8)(h:ws[k]?=some w):N0 ws k=Kk (64 * k) w++N0 ws (k+1):=by
 unfold N0;rw[sw (by simpa using g)];simp[h]
theorem YF(ws:List Nat):N0 ws 8=[]:=rfl
def LV(ss ts:List Nat):Bool:=(List.zipWith (λa b=>a&&& b) ss ts).any λx=>!decide (x=0)
theorem eI{fs:List (List Nat)}{k:Nat}{ss ts:List Nat}(u:fs[k]?=some ss)(hs:IM ss)(t:IM ts):
  AG prog 268 [.ptr 0 fs.length k 0,Dn ts] [JR fs] (.d (.bool (LV ss ts))) [JR fs]:=by
 refine zC func268 20 rfl λwf _=>?_;have F:k<fs.length:=by
  rcases pu k fs.length with h|h
  .exact h
  .rw[np h]at u;cases u
 obtain rfl:fs[k]=ss:=by rw[ci F]at u;exact oi u
 have G:=BU t;have J:=BU hs;unfold JR;apply yW;simp[Dn,G];refine xS (yW ?_);simp;apply Bx;refine zL 8 (λj tm S=>tm 0=.ptr 0 fs.length k 0/\tm 3=.ptr 1 1 0 0/\tm 6=.d (.int .i64 j)/\S=[.row true 8 (fs.map Dn),.row true 8 [Dn ts]]/\(∀i (h:i<j),fs[k].getD i 0&&& ts.getD i 0=0)) (by simp[Dn]) ?_;rintro j tm S hj ⟨t0,t3,t6,rfl,H⟩;apply yW;simp[t6];apply xC;simp;refine⟨λK=>?_,λW=>?_⟩
 .have g:j<8:=by omega
  obtain⟨w,v,L⟩:=hs.get j g;obtain⟨z,A,B⟩:=t.get j g;have M:=u64_and w z L B;have N:=J4 v (by omega);have P:=J4 A (by omega);have C:j<=7:=by omega
  have Q:((((w&&& z:Nat):Int))!=0)=!decide (w&&& z=0):=by
   by_cases h:w&&& z=0
   .simp[h]
   .have:¬((w&&& z:Nat):Int)=0:=by omega
    simp[h]
  apply xK;apply xB;apply yW;simp[t6];(repeat apply xS);refine yE [0,2,4,6,8,10,12,14,16,18] (by kernel_rfl) ?_;simp;apply yA 0;simp[t0,t3,F,g,C,K,J,G,N,P,M,Dn,Q];by_cases m:w&&& z=0
  .apply AR;simp[m];apply CT;apply yV;simp[t6];refine⟨g,_,_,am,?_⟩;simp[t0,t3,AL g (by simp[maxLen])];intro i hi;by_cases e:i=j
   .subst e;simp[v,A,m]
   .exact H i (by omega)
  .apply AR;simp[m];apply yW;simp;apply Af;have E:LV fs[k] ts=true:=by
    unfold LV;rw[zv];have h1:j<(List.zipWith (λa b=>a&&& b) fs[k] ts).length:=by simp[hs.1,t.1];omega
    refine⟨_,b9 h1,?_⟩;have o:j<fs[k].length:=by rw[hs.1];exact g
    have q:j<ts.length:=by rw[t.1];exact g
    have R:fs[k][j]=w:=by rw[ci o]at v;exact oi v
    have T:ts[j]=z:=by rw[ci q]at A;exact oi A
    simp[R,T,m]
   rw[E];refine⟨_,a8 1 (by simp) (by simp) (by simp) (by simp;exact GR _ _),?_⟩;simp[Au,clean]
 .have g:j=8:=by omega
  subst g;apply C7;apply yW;simp;apply Af;have E:LV fs[k] ts=false:=by
   unfold LV;rw[p6];intro x U;obtain⟨i,hi,rfl⟩:=jp.1 U;have s:i<8:=by simp[hs.1,t.1]at hi;exact hi
   have o:i<fs[k].length:=by rw[hs.1];exact s
   have q:i<ts.length:=by rw[t.1];exact s
   have:=H i s;simp[o,q]at this;simp[this]
  rw[E];refine⟨_,a8 1 (by simp) (by simp) (by simp) (by simp;exact GR _ _),?_⟩;simp[Au,clean]
def mr{σ:Type}(enc:σ->Sg)(Good:σ->Prop)(step:σ->Nat->σ)(target:σ)(all rem:List Nat)(S:Sg):Prop:=∃s,S=enc s/\Good s/\rem.foldl step s=target/\∀b∈rem,b∈all
theorem uE{j c:Nat}(hj:j<8)(g:c<64):IntKind.i64.wrap (IntKind.i64.wrap (64 * (j:Int))+(c:Int))=((64 * j+c:Nat):Int):=by rw[yf,yf];omega
theorem tq{m:Nat}(g:m<2 ^ 64)(h0:m≠0):IntKind.u64.wrap ((m:Int) - 1)=((m - 1:Nat):Int):=by rw[adf];omega
abbrev vV:=@List.nil_append
abbrev acY:=@List.mem_cons_self
theorem Wt{σ:Type}(enc:σ->Sg)(Good:σ->Prop)(step:σ->Nat->σ)(ws:List Nat)(E:IM ws)(r:Nat)(f:FuncId)(i:List V)
  (F:∀s,Good s->(enc s)[r]?=some (.row true 8 [Dn ws])) (G:∀s b,b∈Fe ws->Good s->Good (step s b)/\AG prog f (.d (AF b)::i) (enc s) (.Cb []) (enc (step s b))) (u:σ) (h0:Good u):
  AG prog 262 [.ptr r 1 0 0,.fn (.func f) [] i] (enc u) (.Cb []) (enc ((Fe ws).foldl step u)):=by
 refine zC func262 27 rfl λwf _=>?_;have A:=BU E;apply yW;simp;apply Bx;refine zL 8 (λj tm S=>tm 1=.fn (.func f) [] i/\tm 6=.ptr r 1 0 0/\tm 7=.d (.int .i64 j)/\mr enc Good step ((Fe ws).foldl step u) (Fe ws) (N0 ws j) S) (by simp;exact⟨u,rfl,h0,rfl,λ_ h=>h⟩) ?_;rintro j tm S hj ⟨t1,t6,t7,s,rfl,v,g,k⟩;apply yW;simp[t7];apply xC;simp;refine⟨λH=>?_,λU=>?_⟩
 .have o:j<8:=by omega
  have B:j<=7:=by omega
  obtain⟨w,z,J⟩:=E.get j o;have K:=J4 z (by omega);have L:=F s v;apply xK;apply xB;refine yD [0,2,4,6,8,10] (by kernel_rfl) ?_;simp;apply yA 0;simp[t6,t7,L,H,o,B,A,K,Dn];apply Bx;rw[VZ o z]at g k;refine aeA (λm tm S=>m<2 ^ 64/\tm 1=.fn (.func f) [] i/\tm 4=.d (.int .i64 j)/\tm 6=.ptr r 1 0 0/\tm 7=.d (.int .i64 j)/\tm 5=.d (.int .u64 (m:Int))/\mr enc Good step ((Fe ws).foldl step u) (Fe ws) (Kk (64 * j) m++N0 ws (j+1)) S) ⟨w,_,_,am,J,by simp[t1],by simp,by simp[t6],by simp[t7],by simp,s,rfl,v,g,k⟩ ?_;rintro m tm S ⟨q,t1,t4,t6,t7,t5,s,rfl,v,g,k⟩;refine xS (yW ?_);simp[t5];by_cases t:m=0
  .subst t;rw[Vq,vV]at g k;apply AR;simp;apply C7;apply yV;simp[t7];refine⟨o,_,_,am,?_⟩;simp[t1,t6,AL o (by simp[maxLen])];exact⟨s,rfl,v,g,k⟩
  .have W:¬(m:Int)=0:=by omega
   rw[VH _ q t,qs]at g k;obtain⟨M,N⟩:=G s (64 * j+Lib.ctz 64 m) (k _ acY) v;have C:=nr m q;have P:Lib.ctz 64 m<64:=(W7 q t).choose_spec.2.2;have Q:m - 1<2 ^ 64:=by omega
   have R:=dk q t;generalize X:Lib.ctz 64 m=c at *;apply AR;simp[t];apply xK;apply xB;apply yT;apply yJ;simp[t1,t4,t5];refine B9 (C) rfl (by simp[js]) (yJ ?_);simp;rw[uE o P];refine gl rfl rfl (by simp) (f:=f) (args:=.d (AF ((64 * j+c:Nat):Int))::i) (by simp;try rfl) (by simp) N (yJ ?_);simp;have h1:=tq q t;have T:=u64_and m (m - 1) q Q;apply yV;simp[t5,h1,T];refine⟨m&&& (m - 1),dk q t,_,_,am,?_⟩;simp[t1,t4,t6,t7];exact⟨Nat.lt_trans R q,step s (64 * j+c),rfl,M,g,λb hb=>k b (WP _ hb)⟩
 .have o:j=8:=by omega
  subst o;rw[YF]at g;simp at g;apply C7;rw[<-g];refine⟨_,am,?_⟩;simp[Au]
def D8(n:Nat)(ws:List Nat):Prop:=IM ws/\∀b∈Fe ws,b<n
def Hc(n:Nat)(CH:List (List Nat)):Prop:=CH.length=n/\∀g∈CH,D8 n g
theorem IM.OQ{ws:List Nat}(h:IM ws):∃a b c d e f g i,ws=[a,b,c,d,e,f,g,i]:=by
 obtain⟨h1,_⟩:=h;match ws,h1 with
 |[a,b,c,d,e,f,g,i],_=>exact⟨a,b,c,d,e,f,g,i,rfl⟩
@[simp] theorem rJ(ws:List Nat):Ai (Dn ws)=Fq ws:=rfl
@[simp] theorem tO(ws:List Nat):At (Dn ws)=true:=rfl
@[simp] theorem tQ(ws:List Nat):Bw (Dn ws)=false:=rfl
@[simp] theorem sB(ws:List Nat):strip (Dn ws)=Dn ws:=rfl
@[simp] theorem tN(ws:List Nat):need (Dn ws)=True:=rfl
@[simp] theorem sZ(n:Nat)(ws:List Nat):AP n (Dn ws)=true:=NK n ws
theorem Mn(ρ:Nat->Nat):∀g:List Nat,Cn ρ (Fq g)=Fq g
 |[]=>rfl
 |w::g=>by have:=Mn ρ g;simp only[Fq,eP]at *;simp[Cn,this]
@[simp] theorem pb(ρ:Nat->Nat)(ws:List Nat):Bc ρ (Dn ws)=Dn ws:=by
 have:=Mn ρ ws;unfold Dn;simp[Bc,this]
@[simp] theorem Sk(ρ:Nat->Nat):∀g:List (List Nat),Cn ρ (g.map Dn)=g.map Dn
 |[]=>rfl
 |x::g=>by have:=Sk ρ g;simp[Cn,pb,this]
@[simp] theorem rE(ρ:Nat->Nat)(fs:List (List Nat))(i:Nat)(x:List Nat):Cn ρ ((fs.map Dn).set i (Dn x))=(fs.map Dn).set i (Dn x):=by
 rw[<-eQ,Sk]
@[simp] theorem ZU(n:Nat)(fs:List (List Nat)):Aw n (fs.map Dn)=true:=GR n fs
@[simp] theorem mq(n:Nat)(fs:List (List Nat))(i:Nat)(x:List Nat):Aw n ((fs.map Dn).set i (Dn x))=true:=by
 rw[<-eQ,ZU]
def mC(p:List BC)(g h:List Nat)(f n:Nat)(em:Bool):List V:=.d (Ay p)::(Fq g++(Fq h++[.row f n,.d (.bool em)]))
def Es(p:List BC)(g h:List Nat)(f n:Nat)(em:Bool):O:=.row true 19 [.agg (mC p g h f n em)]
abbrev pm:=@List.mem_range
theorem Yb{base w b:Nat}:b∈Kk base w↔∃i<64,w.testBit i=true/\b=base+i:=by
 simp[Kk,eo];constructor
 .rintro⟨i,⟨h1,g⟩,rfl⟩;exact⟨i,h1,g,rfl⟩
 .rintro⟨i,h1,g,rfl⟩;exact⟨i,⟨h1,g⟩,rfl⟩
abbrev acV:=@List.drop_zero
theorem KZ{ws:List Nat}{b:Nat}:b∈Fe ws↔b<512/\(ws.getD (b / 64) 0).testBit (b % 64)=true:=by
 simp[Fe,N0,List.mem_flatMap,Yb];constructor
 .rintro⟨k,o,i,hi,g,rfl⟩;have h:(64 * k+i) / 64=k:=by omega
  have j:(64 * k+i) % 64=i:=by omega
  rw[h,j];exact⟨by omega,g⟩
 .rintro⟨h1,m⟩;exact⟨b / 64,by omega,b % 64,by omega,m,by omega⟩
theorem bk{ss ts:List Nat}(hs:IM ss)(i:IM ts){b:Nat}(h:b∈Fe (Kf ss ts)):b∈Fe ss\/b∈Fe ts:=by
 rw[KZ]at h;simp[KZ];obtain⟨h1,g⟩:=h;obtain⟨w,j,_⟩:=hs.get (b / 64) (by omega);obtain⟨z,k,_⟩:=i.get (b / 64) (by omega);simp[Kf,List.getElem?_zipWith,j,k]at g⊢;rcases g with g|g
 .exact .inl ⟨h1,g⟩
 .exact .inr ⟨h1,g⟩
abbrev acM:=@of_decide_eq_true
abbrev yy:=@List.getElem?_set
theorem YW{ws:List Nat}(j:IM ws){i b:Nat}(hi:i<512)(h:b∈Fe (JX ws i)):b∈Fe ws\/b=i:=by
 rw[KZ]at h⊢;obtain⟨h1,g⟩:=h;obtain⟨w,k,_⟩:=j.get (i / 64) (by omega);by_cases e:b / 64=i / 64
 .have m:i / 64<ws.length:=by rw[j.1];omega
  simp[JX,e,m]at g⊢;rcases g with g|g
  .exact .inl ⟨h1,g⟩
  .right;rw[Nat.testBit_two_pow]at g;have g:=acM g;omega
 .left;refine⟨h1,?_⟩;simp[JX,le e]at g⊢;exact g
def BT:List Nat:=[0,0,0,0,0,0,0,0]
theorem ET:V.agg [V.d (D.int .u64 0),V.d (D.int .u64 0),V.d (D.int .u64 0),V.d (D.int .u64 0),V.d (D.int .u64 0),V.d (D.int .u64 0),V.d (D.int .u64 0),V.d (D.int .u64 0)]=Dn BT:=rfl
theorem Bt(n:Nat):D8 n BT:=by
 refine⟨⟨rfl,λw g=>by simp[BT]at g;subst g;decide⟩,λb hb=>?_⟩;rw[KZ]at hb;obtain⟨h1,h⟩:=hb;have:∀k<8,BT.getD k 0=0:=by decide
 rw[this _ (by omega)]at h;simp at h
theorem D8.or{n:Nat}{ss ts:List Nat}(hs:D8 n ss)(g:D8 n ts):D8 n (Kf ss ts):=
 ⟨Ms hs.1 g.1,λb hb=>(bk hs.1 g.1 hb).elim (hs.2 b) (g.2 b)⟩
theorem D8.add{n:Nat}{ws:List Nat}(hs:D8 n ws){i:Nat}(hi:i<n)(hn:n<=512):D8 n (JX ws i):=
 ⟨XI hs.1 i (by omega),λb hb=>(YW hs.1 (by omega) hb).elim (hs.2 b) λe=>by omega⟩
def Ny(ts:List Nat)(CH:List (List Nat))(i:Nat):List (List Nat):=CH.set i (Kf (CH.getD i []) ts)
def Kw(CH:List (List Nat))(g h:List Nat):List (List Nat):=(Fe g).foldl (Ny h) CH
theorem PK{n:Nat}{ts:List Nat}(k:D8 n ts){CH:List (List Nat)}(g:Hc n CH){i:Nat}(hi:i<n):Hc n (Ny ts CH i):=by
 refine⟨by simp[Ny,g.1],λo m=>?_⟩;rcases y3 m with h|h
 .exact g.2 _ h
 .have j:i<CH.length:=by rw[g.1];exact hi
  have:CH.getD i []=CH[i]:=by simp[j]
  rw[h,this];exact(g.2 _ (b9 j)).or k
theorem QI{n:Nat}{ss ts:List Nat}(hs:D8 n ss)(g:D8 n ts){CH:List (List Nat)}(i:Hc n CH):Hc n (Kw CH ss ts):=by
 unfold Kw;have:∀(l:List Nat) (CH:List (List Nat)),(∀b∈l,b<n)->Hc n CH->Hc n (l.foldl (Ny ts) CH):=λl=>by
  induction l with
  |nil=>intro CH _ h;exact h
  |cons b l j=>intro CH h1 k;exact j _ (λx m=>h1 x (WP _ m)) (PK g k (h1 b acY))
 exact this _ _ hs.2 i
theorem ft(p:List BC)(h j:List Nat)(n:Nat)(em:Bool)(u:IM h)(m:IM j)(CH:List (List Nat))(ts:List Nat)(t:D8 n ts)(o:Hc n CH)(i:Nat)(hi:i<n):
  AG prog 263 [.d (AF i),.ptr 2 1 0 0,.ptr 3 1 0 0] [JR CH,Es p h j 0 n em,.row true 1 [.ptr 1 1 0 0],JR [ts]] (.Cb []) [JR (Ny ts CH i),Es p h j 0 n em,.row true 1 [.ptr 1 1 0 0],JR [ts]]:=by
 obtain⟨w,z,A,B,C,E,F,G,rfl⟩:=u.OQ;obtain⟨H,J,K,L,M,N,P,Q,rfl⟩:=m.OQ;have g:i<CH.length:=by rw[o.1];exact hi
 have q:CH.getD i []=CH[i]:=by simp[g]
 have v:Ny ts CH i=CH.set i (Kf CH[i] ts):=by unfold Ny;rw[q]
 have hn:n=CH.length:=o.1.symm;subst hn;rw[v];have hj:=Wz (fs:=CH) (k:=i) (ss:=CH[i]) (ts:=ts) (by simp[g]) (o.2 _ (b9 g)).1 t.1;unfold JR Es mC Fq;refine zC func263 12 rfl λwf _=>?_;have s:=BU t.1;refine yE [0,2,4,6,8,10,12,15] (by kernel_rfl) ?_;simp;apply yA 1;simp[g,s];unfold JR at hj;refine ru (xT [1,1,0,0,0,0,0]) (hj) [0] (by kernel_rfl) rfl (by simp[g,s,Ac];try rfl) ?_;simp;apply xM;refine⟨_,rc (by simp),?_⟩;simp[Au]
@[simp] theorem Wo(ρ:Nat->Nat)(fs:List (List Nat)):DK ρ (JR fs)=JR fs:=by simp[JR]
@[simp] theorem YO(n:Nat)(fs:List (List Nat)):Ar n (JR fs)=true:=by simp[JR]
theorem N8(n:Nat):∀l m:List V,Aw n (l++m)=(Aw n l&&Aw n m)
 |[],m=>by simp
 |x::l,m=>by have:=N8 n l m;simp[Aw,this,adq]
@[simp] theorem uA(ρ:Nat->Nat)(p:List BC)(g h:List Nat)(f n:Nat)(em:Bool):DK ρ (Es p g h f n em)=Es p g h (ρ f) n em:=by
 simp[Es,mC,Mn]
theorem Bk(k:Nat)(p:List BC)(g h:List Nat)(f n:Nat)(em:Bool):Ar k (Es p g h f n em)=decide (f<k):=by
 simp[Es,mC,Jf]
theorem DY(ρ:Nat->Nat)(wr:Bool)(sz:Nat)(els:List V):DK ρ (.row wr sz els)=.row wr sz (Cn ρ els):=rfl
theorem A5(k:Nat)(wr:Bool)(sz:Nat)(els:List V):Ar k (.row wr sz els)=Aw k els:=rfl
def iw(p:List BC)(g h:List Nat)(n:Nat)(em:Bool)(CH:List (List Nat)):Sg:=[JR CH,Es p g h 0 n em,.row true 1 [.ptr 1 1 0 0]]
theorem Wm(p:List BC)(g h:List Nat)(n:Nat)(em:Bool)(q:IM g)(i:IM h)(CH:List (List Nat))(ss ts:List Nat)(hs:D8 n ss)(j:D8 n ts)(t:Hc n CH):
  AG prog 261 [Dn ss,Dn ts,.ptr 2 1 0 0] (iw p g h n em CH) (.Cb []) (iw p g h n em (Kw CH ss ts)):=by
 have k:=Wt (λCH=>iw p g h n em CH++[.row true 8 [Dn ss],.row true 8 [Dn ts]]) (Hc n) (Ny ts) ss hs.1 3 263 [.ptr 2 1 0 0,.ptr 4 1 0 0] (λs _=>by simp[iw]) (λs b hb m=>⟨PK j m (hs.2 b hb),by
  have h1:=ft p g h n em q i s ts j m b (hs.2 b hb);have o:=h1.Eb (S:=iw p g h n em s++[.row true 8 [Dn ss],.row true 8 [Dn ts]]) [0,1,2,4] (by simp[-DK,-Ar,iw,Bk,DY,A5];rfl) (by simp) (by simp);simp[-DK,-Ar,DY,iw]at o⊢;exact o⟩) CH t
 have u:=BU hs.1;have v:=BU j.1;refine zC func261 7 rfl λwf _=>?_;unfold iw at k⊢;apply yW;simp[u,v];apply yT;apply yJ;simp;refine xY (k) _ rfl rfl ?_;simp[-Ar,Bk,A5];apply yJ;simp;refine⟨_,a8 3 (by simp[Kw]) (by simp) (by simp) (by simp[-Ar,Bk,A5]),?_⟩;simp[Au]
def cQ(p:List BC):Prop:=p.length<=512/\∀(i:Nat) (x:BC),p[i]?=some x->(x.kind=2\/x.kind=3\/x.kind=4->0<=x.a/\x.a<i)/\(x.kind=2\/x.kind=3->0<=x.b/\x.b<i)
structure WR where
 f:List Nat
 l:List Nat
 e:Bool
 CH:List (List Nat)
def H3(p:List BC):Nat->Nat->List (List Nat)->WR
 |0,_,CH=>⟨BT,BT,true,CH⟩
 |k+1,i,CH=>match p[i]? with
  |none=>⟨BT,BT,true,CH⟩
  |some x=>
   if x.kind=1 then⟨JX BT i,JX BT i,false,CH⟩
   else if x.kind=2 then
    let r:=H3 p k x.a.toNat CH
    let q:=H3 p k x.b.toNat r.CH
    ⟨if r.e then Kf r.f q.f else r.f,if q.e then Kf q.l r.l else q.l,r.e&&q.e,Kw q.CH r.l q.f⟩
   else if x.kind=3 then
    let r:=H3 p k x.a.toNat CH
    let q:=H3 p k x.b.toNat r.CH
    ⟨Kf r.f q.f,Kf r.l q.l,r.e||q.e,q.CH⟩
   else if x.kind=4 then
    let r:=H3 p k x.a.toNat CH
    ⟨r.f,r.l,true,Kw r.CH r.l r.f⟩
   else⟨BT,BT,true,CH⟩
def Lo(n:Nat)(r:WR):Prop:=D8 n r.f/\D8 n r.l/\Hc n r.CH
theorem DS{p:List BC}(hn:p.length<=512):∀(k i:Nat) (CH:List (List Nat)),Hc p.length CH->Lo p.length (H3 p k i CH)
 |0,_,CH,h=>⟨Bt _,Bt _,h⟩
 |k+1,i,CH,h=>by
  unfold H3;split
  .exact⟨Bt _,Bt _,h⟩
  .rename_i x q;have hi:i<p.length:=AZ q;split
   .exact⟨(Bt _).add hi hn,(Bt _).add hi hn,h⟩
   .split
    .obtain⟨r1,r2,g⟩:=DS hn k x.a.toNat CH h;obtain⟨j,m,o⟩:=DS hn k x.b.toNat _ g;refine⟨?_,?_,QI r2 j o⟩
     .simp[];split
      .exact r1.or j
      .exact r1
     .simp[];split
      .exact m.or r2
      .exact m
    .split
     .obtain⟨r1,r2,g⟩:=DS hn k x.a.toNat CH h;obtain⟨j,m,o⟩:=DS hn k x.b.toNat _ g;exact⟨r1.or j,r2.or m,o⟩
     .split
      .obtain⟨r1,r2,g⟩:=DS hn k x.a.toNat CH h;exact⟨r1,r2,QI r2 r1 g⟩
      .exact⟨Bt _,Bt _,h⟩
def P9:List V:=[.ptr 0 1 0 0,.ptr 4 1 0 0,.ptr 5 1 0 0]
def LJ(p:List BC)(CH:List (List Nat)):Sg:=[.row true 1 [.d (Ay p)],JR CH,Es p BT BT 1 p.length false,.row true 1 [.ptr 2 1 0 0],.row true 1 [.fn (.func 265) [] P9],.row true 1 [.fn (.func 261) [] [.ptr 3 1 0 0]]]
def cu(ws:List Nat):D:=.agg (ws.map λ(w:Nat)=>.int .u64 (w:Int))
theorem E8(S:Sg):∀g:List Nat,Dx S (Fq g)=some (g.map λ(w:Nat)=>D.int .u64 (w:Int))
 |[]=>rfl
 |w::g=>by have:=E8 S g;simp[Fq]at *;simp[this]
def eZ(r:WR):V:=.Cb [Dn r.f,Dn r.l,.d (.bool r.e)]
def XK(r:WR):D:=.Cb [cu r.f,cu r.l,.bool r.e]
theorem Md{f:FuncId}{args:List V}{S S':Sg}{r:WR}(h:AG prog f args S (.d (XK r)) S'):AG prog f args S (eZ r) S':=by
 have pl:∀(g:List Nat) (G:Gh) (w:World) (x:Value),CV G S' w (.d (cu g)) x->CV G S' w (Dn g) x:=λg G w x h=>by
  have:=h.sr;simpa[Dn,Fq,kw]using this
 refine h.conv λG w x k=>k.ra.iA rfl λi hi m v j=>?_
 match i,hi with
 |0,_=>exact pl _ _ _ _ j
 |1,_=>exact pl _ _ _ _ j
 |2,_=>exact j
theorem WK{p:List BC}{i:Nat}{x:BC}(g:p[i]?=some x)(q:x.kind=1)(hn:p.length<=512)(CH:List (List Nat)):
  AG prog 265 (.d (AF i)::P9) (LJ p CH) (.d (XK ⟨JX BT i,JX BT i,false,CH⟩)) (LJ p CH):=by
 have hi:i<p.length:=AZ g;have h:p[i]=x:=by rw[ci hi]at g;exact oi g
 have j:=(Bt 1).1;have s:AG prog 266 [.ptr 0 1 0 0,.d (AF i)] [.row true 8 [Dn BT]] (.Cb []) [.row true 8 [Dn (JX BT i)]]:=by
  have:=Xm (fs:=[BT]) (k:=0) (ws:=BT) rfl j i (by omega);simpa[JR]using this
 have m:=BU (XI j i (by omega));have o:=BU j;unfold P9;refine zD func265 116 rfl λwf _=>?_;unfold LJ;apply yW;simp[ET,o];apply yW;simp[hi,h];refine xS (yW ?_);simp[q];apply Bx;apply yW;simp;apply AR;simp;apply yS;apply yJ;simp;refine xF (s) [6] rfl ?_;simp[-DK,DY];apply yJ;simp;apply yW;simp[m,o];apply Af;refine⟨_,_,_,am,?_,?_,a8 6 rfl (by simp) (by simp) (by simp[-Ar,Bk,A5,P9])⟩
 .simp[m]
 .simp[XK,m,Dn,E8,cu]
theorem V0{p:List BC}{i:Nat}{x:BC}(h:p[i]?=some x)(o:x.kind≠1)(q:x.kind≠2)(j:x.kind≠3)(k:x.kind≠4)(CH:List (List Nat)):
  AG prog 265 (.d (AF i)::P9) (LJ p CH) (.d (XK ⟨BT,BT,true,CH⟩)) (LJ p CH):=by
 have hi:i<p.length:=AZ h;have m:p[i]=x:=by rw[ci hi]at h;exact oi h
 have s:=(Bt 1).1;have g:=BU s;unfold P9;refine zD func265 116 rfl λwf _=>?_;unfold LJ;apply yW;simp[ET,g];apply yW;simp[hi,m];refine xS (yW ?_);simp;apply Bx;apply yW;simp;apply AR;simp[o];apply yW;simp;apply AR;simp[q];apply yW;simp;apply AR;simp[j];apply yW;simp;apply AR;simp[k];apply CT;(repeat apply xS);refine yE [0,2,5,7,8] (by kernel_rfl) ?_;simp;(iterate 1 (refine Hz (by simp[g]) ?_;simp[g]));apply yA 1;simp[g];apply xX 2 (by kernel_rfl);simp[g,Ac];apply xX 1 (by kernel_rfl);simp[g,Ac];apply yA 0;simp;apply Af;refine⟨_,_,_,am,?_,?_,a8 6 rfl (by simp) (by simp) (by simp[-Ar,Bk,A5,P9])⟩
 .simp[g]
 .simp[XK,g,Dn,E8,cu]
theorem Up{ss ts:List Nat}(hs:IM ss)(g:IM ts):AG prog 264 [.ptr 0 1 0 0,Dn ts] [.row true 8 [Dn ss]] (.Cb []) [.row true 8 [Dn (Kf ss ts)]]:=by
 have:=Wz (fs:=[ss]) (k:=0) (ss:=ss) (ts:=ts) rfl hs g;simpa[JR]using this
theorem fJ{p:List BC}{i:Nat}{x:BC}(u:p[i]?=some x)(C:x.kind=2){CH:List (List Nat)}{r q:WR}(E:Lo p.length r)(F:Lo p.length q)
  (c1:AG prog 265 (.d (AF x.a)::P9) (LJ p CH) (eZ r) (LJ p r.CH)) (v:AG prog 265 (.d (AF x.b)::P9) (LJ p r.CH) (eZ q) (LJ p q.CH)):
  AG prog 265 (.d (AF i)::P9) (LJ p CH) (.d (XK ⟨if r.e then Kf r.f q.f else r.f,if q.e then Kf q.l r.l else q.l,r.e&&q.e,Kw q.CH r.l q.f⟩)) (LJ p (Kw q.CH r.l q.f)):=by
 have hi:i<p.length:=AZ u;have w:p[i]=x:=by rw[ci hi]at u;exact oi u
 have z:=(Bt 1).1;have m:=BU z;obtain⟨r1,r2,J⟩:=E;obtain⟨t,A,G⟩:=F;have B:=Wm p BT BT p.length false z z q.CH r.l q.f r2 t G;have H:=Up r1.1 t.1;have o:=Up A.1 r2.1;have l1:=BU r1.1;have l2:=BU r2.1;have g:=BU t.1;have h:=BU A.1;have j:=BU (Ms r1.1 t.1);have k:=BU (Ms A.1 r2.1);unfold P9 at c1 v⊢;refine zD func265 116 rfl λwf _=>?_;unfold LJ eZ at c1 v;unfold LJ;unfold P9 at *;unfold iw at B;apply yW;simp[ET,m];apply yW;simp[hi,w];refine xS (yW ?_);simp[C];apply Bx;apply yW;simp;apply AR;simp;apply yW;simp;apply AR;simp;apply yS;apply yJ;simp;refine xY (c1) _ rfl rfl ?_;simp[-Ar,Bk,A5];apply yJ;simp[l1,l2,ET,m];apply yS;apply yJ;simp;refine xY (v) _ rfl rfl ?_;simp[-Ar,Bk,A5];apply yJ;simp[g,h,ET,m];apply yS;apply yJ;simp[l2,g];refine xF (B) [1,2,3] rfl ?_;simp[-DK,-Ar,DY,A5,Bk];apply yJ;simp;refine xS (yW ?_);simp;cases h1:r.e with
 |true=>
  apply AR;simp;apply yT;apply yJ;simp[g];refine xF (H) [9] rfl ?_;simp[-DK,-Ar,DY,A5];apply yJ;simp;refine xS (yW ?_);simp;cases s:q.e with
  |true=>
   apply AR;simp;apply yT;apply yJ;simp[l2];refine xF (o) [12] rfl ?_;simp[-DK,-Ar,DY,A5];apply yJ;simp;apply yW;simp[j,k,m];apply Af;refine⟨_,_,_,am,?_,?_,a8 6 rfl (by simp) (by simp) (by simp[-Ar,Bk,A5])⟩
   .simp[j,k]
   .simp[XK,Dn,E8,cu,j,k]
  |false=>
   apply AR;simp;apply xK;apply yW;simp[h,j,m];apply Af;refine⟨_,_,_,am,?_,?_,a8 6 rfl (by simp) (by simp) (by simp[-Ar,Bk,A5])⟩
   .simp[h,j]
   .simp[XK,Dn,E8,cu,h,j]
 |false=>
  apply AR;simp;apply xK;refine xS (yW ?_);simp;cases s:q.e with
  |true=>
   apply AR;simp;apply yT;apply yJ;simp[l2];refine xF (o) [12] rfl ?_;simp[-DK,-Ar,DY,A5];apply yJ;simp;apply yW;simp[l1,k,m];apply Af;refine⟨_,_,_,am,?_,?_,a8 6 rfl (by simp) (by simp) (by simp[-Ar,Bk,A5])⟩
   .simp[l1,k]
   .simp[XK,Dn,E8,cu,l1,k]
  |false=>
   apply AR;simp;apply xK;apply yW;simp[l1,h,m];apply Af;refine⟨_,_,_,am,?_,?_,a8 6 rfl (by simp) (by simp) (by simp[-Ar,Bk,A5])⟩
   .simp[l1,h]
   .simp[XK,Dn,E8,cu,l1,h]
theorem dv{p:List BC}{i:Nat}{x:BC}(k:p[i]?=some x)(z:x.kind=3){CH:List (List Nat)}{r q:WR}(A:Lo p.length r)(B:Lo p.length q)
  (c1:AG prog 265 (.d (AF x.a)::P9) (LJ p CH) (eZ r) (LJ p r.CH)) (m:AG prog 265 (.d (AF x.b)::P9) (LJ p r.CH) (eZ q) (LJ p q.CH)):
  AG prog 265 (.d (AF i)::P9) (LJ p CH) (.d (XK ⟨Kf r.f q.f,Kf r.l q.l,r.e||q.e,q.CH⟩)) (LJ p q.CH):=by
 have hi:i<p.length:=AZ k;have o:p[i]=x:=by rw[ci hi]at k;exact oi k
 have C:=(Bt 1).1;have g:=BU C;obtain⟨r1,r2,F⟩:=A;obtain⟨s,t,G⟩:=B;have E:=Up r1.1 s.1;have u:=Up r2.1 t.1;have l1:=BU r1.1;have l2:=BU r2.1;have h:=BU s.1;have j:=BU t.1;have v:=BU (Ms r1.1 s.1);have w:=BU (Ms r2.1 t.1);unfold P9 at c1 m⊢;refine zD func265 116 rfl λwf _=>?_;unfold LJ eZ at c1 m;unfold LJ;unfold P9 at *;apply yW;simp[ET,g];apply yW;simp[hi,o];refine xS (yW ?_);simp[z];apply Bx;apply yW;simp;apply AR;simp;apply yW;simp;apply AR;simp;apply yW;simp;apply AR;simp;apply yS;apply yJ;simp;refine xY (c1) _ rfl rfl ?_;simp[-Ar,Bk,A5];apply yJ;simp[l1,l2,ET,g];apply yS;apply yJ;simp;refine xY (m) _ rfl rfl ?_;simp[-Ar,Bk,A5];apply yJ;simp[h,j,ET,g];apply yS;apply yJ;simp[h];refine xF (E) [9] rfl ?_;simp[-DK,-Ar,DY,A5];apply yJ;simp;apply yS;apply yJ;simp[j];refine xF (u) [10] rfl ?_;simp[-DK,-Ar,DY,A5];apply yJ;simp;apply yW;simp[v,w,g];apply Af;refine⟨_,_,_,am,?_,?_,a8 6 rfl (by simp) (by simp) (by simp[-Ar,Bk,A5])⟩
 .simp[v,w]
 .simp[XK,Dn,E8,cu,v,w]
theorem cx{p:List BC}{i:Nat}{x:BC}(h:p[i]?=some x)(o:x.kind=4){CH:List (List Nat)}{r:WR}(q:Lo p.length r)
  (c1:AG prog 265 (.d (AF x.a)::P9) (LJ p CH) (eZ r) (LJ p r.CH)):
  AG prog 265 (.d (AF i)::P9) (LJ p CH) (.d (XK ⟨r.f,r.l,true,Kw r.CH r.l r.f⟩)) (LJ p (Kw r.CH r.l r.f)):=by
 have hi:i<p.length:=AZ h;have j:p[i]=x:=by rw[ci hi]at h;exact oi h
 have k:=(Bt 1).1;have g:=BU k;obtain⟨r1,r2,s⟩:=q;have m:=Wm p BT BT p.length false k k r.CH r.l r.f r2 r1 s;have l1:=BU r1.1;have l2:=BU r2.1;unfold P9 at c1⊢;refine zD func265 116 rfl λwf _=>?_;unfold LJ eZ at c1;unfold LJ;unfold P9 at *;unfold iw at m;apply yW;simp[ET,g];apply yW;simp[hi,j];refine xS (yW ?_);simp[o];apply Bx;apply yW;simp;apply AR;simp;apply yW;simp;apply AR;simp;apply yW;simp;apply AR;simp;apply yW;simp;apply AR;simp;apply yS;apply yJ;simp;refine xY (c1) _ rfl rfl ?_;simp[-Ar,Bk,A5];apply yJ;simp[l1,l2,ET,g];apply yS;apply yJ;simp[l1,l2];refine xF (m) [1,2,3] rfl ?_;simp[-DK,-Ar,DY,A5,Bk];apply yJ;simp;(repeat apply xS);refine yE [0,2,5,7,8] (by kernel_rfl) ?_;simp;(iterate 1 (refine Hz (by simp[l1]) ?_;simp[l1]));apply yA 1;simp[l2];apply xX 2 (by kernel_rfl);simp[g,l1,l2,Ac];apply xX 1 (by kernel_rfl);simp[g,l2,Ac];apply yA 0;simp;apply Af;refine⟨_,_,_,am,?_,?_,a8 6 rfl (by simp) (by simp) (by simp[-Ar,Bk,A5])⟩
 .simp[l1,l2]
 .simp[XK,Dn,E8,cu,l1,l2]
abbrev acQ:=@Int.toNat_of_nonneg
theorem KL{p:List BC}(g:cQ p):∀(k i:Nat) (CH:List (List Nat)),i<k->i<p.length->Hc p.length CH->AG prog 265 (.d (AF i)::P9) (LJ p CH) (eZ (H3 p k i CH)) (LJ p (H3 p k i CH).CH)
 |0,i,_,h,_,_=>by omega
 |k+1,i,CH,h,hi,o=>by
  obtain⟨x,m⟩:∃x,p[i]?=some x:=⟨p[i],ci hi⟩;obtain⟨ha,hb⟩:=g.2 i x m;unfold H3;simp[m];by_cases k1:x.kind=1
  .rw[ap k1];exact Md (WK m k1 g.1 CH)
  .rw[ao k1];by_cases k2:x.kind=2
   .rw[ap k2];obtain⟨q,v⟩:=ha (.inl k2);obtain⟨t,w⟩:=hb (.inl k2);have j:=DS g.1 k x.a.toNat CH o;have u:=DS g.1 k x.b.toNat _ j.2.2;have c1:=KL g k x.a.toNat CH (by omega) (by omega) o;have s:=KL g k x.b.toNat (H3 p k x.a.toNat CH).CH (by omega) (by omega) j.2.2;rw[acQ q]at c1;rw[acQ t]at s;exact Md (fJ m k2 j u c1 s)
   .rw[ao k2];by_cases k3:x.kind=3
    .rw[ap k3];obtain⟨q,v⟩:=ha (.inr (.inl k3));obtain⟨t,w⟩:=hb (.inr k3);have j:=DS g.1 k x.a.toNat CH o;have u:=DS g.1 k x.b.toNat _ j.2.2;have c1:=KL g k x.a.toNat CH (by omega) (by omega) o;have s:=KL g k x.b.toNat (H3 p k x.a.toNat CH).CH (by omega) (by omega) j.2.2;rw[acQ q]at c1;rw[acQ t]at s;exact Md (dv m k3 j u c1 s)
    .rw[ao k3];by_cases k4:x.kind=4
     .rw[ap k4];obtain⟨q,v⟩:=ha (.inr (.inr k4));have j:=DS g.1 k x.a.toNat CH o;have c1:=KL g k x.a.toNat CH (by omega) (by omega) o;rw[acQ q]at c1;exact Md (cx m k4 j c1)
     .rw[ao k4];exact Md (V0 m k1 k2 k3 k4 CH)
def L9(p:List BC)(r:WR):Sg:=[.row true 1 [.d (Ay p)],JR r.CH,Es p r.f r.l 1 p.length r.e]
def Jl(p:List BC):WR:=H3 p p.length (p.length - 1) (List.replicate p.length BT)
theorem PB(n:Nat):Hc n (List.replicate n BT):=⟨by simp,λg h=>by rw[List.eq_of_mem_replicate h];exact Bt n⟩
theorem Qo(ρ:Nat->Nat)(n:Nat)(ws:List Nat):Cn ρ (List.replicate n (Dn ws))=List.replicate n (Dn ws):=by
 have:=Sk ρ (List.replicate n ws);rwa [List.map_replicate]at this
theorem V8{p:List BC}(h:cQ p)(h0:p≠[]):AG prog 241 [.d (Ay p)] [] (.ptr 2 1 0 0) (L9 p (Jl p)):=by
 have o:0<p.length:=adK.2 h0;have i:(p.length:Int)<=1073741824:=by have:=h.1;omega
 have q:=DS h.1 p.length (p.length - 1) _ (PB p.length);have j:=KL h p.length (p.length - 1) (List.replicate p.length BT) (by omega) (by omega) (PB _);have u:=BU (Bt 1).1;refine md func241 (by kernel_rfl) rfl (by simp) λwf _=>?_;rw[ntmps241];apply yW;simp;refine AW.Ju (R:=λtm S=>tm 1=.ptr 0 1 0 0/\tm 3=.ptr 3 1 0 0/\S=[.row true 1 [.d (Ay p)],JR (List.replicate p.length BT),Es p BT BT 1 p.length false,.row true 1 [.ptr 2 1 0 0]]) ?_ ?_
 .refine AW.regionF (by kernel_rfl) λK k=>?_;change Bm _ _ _ _ _ _ 8 (Array.replicate 8 false) _ _;refine nu 0 rfl (by kernel_rfl) ?_ ?_;(focus(simp;done));simp;refine nu 1 rfl (by kernel_rfl) ?_ ?_;(focus(simp;done));simp;refine nu 2 rfl (by kernel_rfl) ?_ ?_;(focus(simp;done));simp;refine Bm.dG 3 6 [true,false,false] [false,false,false] (by kernel_rfl) rfl rfl (by kernel_rfl) (by kernel_rfl) ?_ ?_ ?_ ?_
  .simp[i,Ac]
  .simp[Ac]
  .simp;refine nu 4 rfl (by kernel_rfl) ?_ ?_;(focus(simp;done));simp;refine Bm.dG 5 6 [true,false,false] [false,false,false] (by kernel_rfl) rfl rfl (by kernel_rfl) (by kernel_rfl) ?_ ?_ ?_ ?_
   .simp[Ac]
   .simp[Ac]
   .simp;refine sn 6 [false,false] (by kernel_rfl) rfl (by kernel_rfl) ?_ ?_;(focus(simp[Ac];done));simp;refine sn 7 [true,true] (by kernel_rfl) rfl (by kernel_rfl) ?_ ?_;(focus(simp[Ac];done));simp;refine aeB (by kernel_rfl) (k _ _ ⟨_,_,am,?_⟩);simp[JR,Es,mC,Fq,BT,Dn]
   .simp;refine sn 5 [true,false,false] (by kernel_rfl) rfl (by kernel_rfl) ?_ ?_;(focus(simp[Ac];done));simp;refine sn 7 [true,true] (by kernel_rfl) rfl (by kernel_rfl) ?_ ?_;(focus(simp[Ac];done));simp;refine aeB (by kernel_rfl) (k _ _ ⟨_,_,AJ.perm (S':=[.row true 1 [.d (Ay p)],JR (List.replicate p.length BT),Es p BT BT 1 p.length false,.row true 1 [.ptr 2 1 0 0]]) [0,1,3,2] (by decide) (by simp) (by simp) ?_ (by simp) [0,1,3,2] (by simp;decide) (by simp),?_⟩)
    .simp[JR,Es,mC,Fq,BT,ET,Qo]
    .simp
  .simp;refine sn 3 [true,false,false] (by kernel_rfl) rfl (by kernel_rfl) ?_ ?_;(focus(simp[i,Ac];done));simp;refine nu 4 rfl (by kernel_rfl) ?_ ?_;(focus(simp;done));simp;refine sn 5 [true,false,false] (by kernel_rfl) rfl (by kernel_rfl) ?_ ?_;(focus(simp[Ac];done));simp;refine sn 7 [true,true] (by kernel_rfl) rfl (by kernel_rfl) ?_ ?_;(focus(simp[Ac];done));simp;refine aeB (by kernel_rfl) (k _ _ ⟨_,_,AJ.perm (S':=[.row true 1 [.d (Ay p)],JR (List.replicate p.length BT),Es p BT BT 1 p.length false,.row true 1 [.ptr 2 1 0 0]]) [0,3,1,2] (by decide) (by simp) (by simp) ?_ (by simp) [0,2,3,1] (by simp;decide) (by simp),?_⟩)
   .simp[JR,Es,mC,Fq,BT,ET,Qo]
   .simp
 .rintro tm S ⟨t1,t3,rfl⟩;unfold LJ eZ P9 at j;apply yW;simp;apply yW;simp[t3];(repeat refine xS ?_);apply yV;simp[t1];(try simp only[yQ,reduceIte]);generalize s:H3 p p.length (p.length - 1) (List.replicate p.length BT)=r at *;obtain⟨v,w,z,m⟩:=r;obtain⟨r1,r2,t⟩:=q;simp only[]at r1 r2 t j;have l1:=BU r1.1;have l2:=BU r2.1;obtain⟨A,B,C,E,F,G,H,J,rfl⟩:=r1.1.OQ;obtain⟨L,M,N,P,Q,T,U,W,rfl⟩:=r2.1.OQ;have g:IntKind.i64.wrap ((p.length:Int) - 1)=((p.length - 1:Nat):Int):=by have:=h.1;rw[yf];omega
  refine yD [0,2,4,6,8,10,12,15,16,18,20,22,24,26,29,30,32,35,36,38,41] (by kernel_rfl) ?_;simp;refine yA 1 ?_;simp[t1,t3,g];refine xL 9 _ (j) (by kernel_rfl) rfl rfl ?_;simp[-Ar,Bk,A5,Ac,t1,t3,g];refine yA 1 ?_;simp[Es,mC,Fq,BT];refine xX 1265 (by kernel_rfl) ?_;simp[Fq,t1,t3,Ac];refine yA 1 ?_;simp;refine xX 85 (by kernel_rfl) ?_;simp[Fq,t3,Ac];refine yA 1 ?_;simp;refine xX 29 (by kernel_rfl) ?_;simp[t3,Ac];apply xM;apply yW;simp[t3];refine Af ?_;(try simp only[yQ,reduceIte]);refine⟨_,a8 3 ?_ (by simp) (by simp) (by simp[-Ar,A5,YO]),?_⟩
  .simp[L9,Jl,s,Es,mC,Fq]
  .simp[Au,clean]
def GG(p:List BC)(CH:List (List Nat))(b:Int)(s:List Nat×List Nat)(i:Nat):List Nat×List Nat:=
 match p[i]? with
 |none=>s
 |some x=>if x.lo<=b/\b<=x.hi then(JX s.1 i,Kf s.2 (CH.getD i []))else s
def Fj(s:ByteArray)(j:Nat):Int:=(s.get! j).toNat
def YM(p:List BC)(g h:List Nat)(em:Bool)(CH:List (List Nat))(s:ByteArray)(j:Nat)(x:List Nat×List Nat):Sg:=
 [JR CH,Es p g h 0 p.length em,.row true 1 [.ptr 1 1 0 0],.row true 1 [.d (.str s)],.row true 1 [.d (.int .i64 j)],.row true 8 [Dn x.1],.row true 8 [Dn x.2]]
theorem l9{p:List BC}(P:p.length<=512){o q:List Nat}(em:Bool)(G:IM o)(u:IM q){CH:List (List Nat)}(v:Hc p.length CH)(s:ByteArray){j:Nat}(hj:j<s.size){x:List Nat×List Nat}(h1:IM x.1)(w:IM x.2){i:Nat}(hi:i<p.length):
  AG prog 267 [.d (AF i),.ptr 3 1 0 0,.ptr 4 1 0 0,.ptr 2 1 0 0,.ptr 5 1 0 0,.ptr 6 1 0 0] (YM p o q em CH s j x) (.Cb []) (YM p o q em CH s j (GG p CH (Fj s j) x i)):=by
 obtain⟨Q,R,S,T,U,W,X,Y,rfl⟩:=G.OQ;obtain⟨Z,b1,b2,b3,b4,b5,b6,b7,rfl⟩:=u.OQ;obtain⟨g,z⟩:=x;simp[]at h1 w;have H:GG p CH (Fj s j) (g,z) i=if p[i].lo<=Fj s j/\Fj s j<=p[i].hi then(JX g i,Kf z (CH.getD i []))else(g,z):=by simp[GG,hi]
 rw[H];generalize J:p[i]=x at *;have A:i<CH.length:=by rw[v.1];exact hi
 have B:CH.getD i []=CH[i]:=by simp[A]
 rw[B];have h:=v.2 _ (b9 A);have K:=Up w h.1;have L:AG prog 266 [.ptr 0 1 0 0,.d (AF i)] [.row true 8 [Dn g]] (.Cb []) [.row true 8 [Dn (JX g i)]]:=by
  have:=Xm (fs:=[g]) (k:=0) (ws:=g) rfl h1 i (by omega);simpa[JR]using this
 have C:IntKind.i64.wrap (Fj s j)=Fj s j:=by
  unfold Fj;have:=UInt8.toNat_lt (s.get! j);rw[yf];omega
 have E:(((s.get! j).toNat:Nat):Int)=Fj s j:=rfl;generalize Fj s j=m at *;have l1:=BU h1;have l2:=BU w;have M:=BU h.1;have F:CH.length=p.length:=v.1;unfold YM Es mC Fq;refine zC func267 44 rfl λwf _=>?_;apply yW;simp[hj,E,C];apply yS;apply yJ;simp[hi,J];(repeat apply xS);refine k6 (t:=decide (x.lo<=m)&&decide (m<=x.hi)) ?_ (λhb=>?_) (λhb=>?_)
 .simp
 .simp at hb;rw[ap hb];apply yS;apply yJ;simp;refine xF (L) [5] rfl ?_;simp[-DK,DY];apply yJ;simp;apply yT;apply yJ;simp[hi,F,JR,M];refine xF (K) [6] rfl ?_;simp[-DK,DY];apply yJ;simp;refine⟨_,rc (by simp),?_⟩;simp[Au]
 .have N:¬(x.lo<=m/\m<=x.hi):=by simp at hb;omega
  rw[ao N];apply CT;refine⟨_,rc (by simp),?_⟩;simp[Au]
def TQ(p:List BC)(r:WR)(s:ByteArray)(m:Bool):Sg:=L9 p r++[.row true 1 [.d (.str s)],.row true 1 [.d (.bool m)]]
theorem mX(s:ByteArray)(m:Bool)(k:Int)(g:Bool):AG prog 243 [.d (AF k),.d (.bool g),.ptr 0 1 0 0,.ptr 1 1 0 0] [.row true 1 [.d (.str s)],.row true 1 [.d (.bool m)]] (.d (.bool true)) [.row true 1 [.d (.str s)],.row true 1 [.d (.bool (k==s.size&&g))]]:=by
 refine zC func243 14 rfl λwf _=>?_;apply yW;simp;apply yW;simp;apply yW;simp;apply Af;refine⟨_,rc (by simp),?_⟩;simp[Au]
def TV(p:List BC)(r:WR)(s:ByteArray):Nat->Nat->List Nat->Bool->Bool
 |0,_,_,m=>m
 |k+1,j,g,m=>
  let x:=(Fe g).foldl (GG p r.CH (Fj s j)) (BT,BT)
  if x.1=BT then m else TV p r s k (j+1) x.2 (((j:Int)+1==s.size)&&LV x.1 r.l)
theorem Mg{p:List BC}(m:p.length<=512){CH:List (List Nat)}(j:Hc p.length CH)(b:Int){x:List Nat×List Nat}(h:D8 p.length x.1/\D8 p.length x.2){i:Nat}(hi:i<p.length):
  D8 p.length (GG p CH b x i).1/\D8 p.length (GG p CH b x i).2:=by
 have k:i<CH.length:=by rw[j.1];exact hi
 have g:CH.getD i []=CH[i]:=by simp[k]
 unfold GG;simp only[ci hi,g];split
 .exact⟨h.1.add hi m,h.2.or (j.2 _ (b9 k))⟩
 .exact h
theorem O6{σ:Type}{Good:σ->Prop}{step:σ->Nat->σ}{n:Nat}(hs:∀s b,b<n->Good s->Good (step s b)):∀(l:List Nat) (s:σ),(∀b∈l,b<n)->Good s->Good (l.foldl step s)
 |[],_,_,h=>h
 |b::l,s,g,h=>O6 hs l _ (λx i=>g x (WP _ i)) (hs s b (g b acY) h)
def uC(p:List BC)(r:WR)(s:ByteArray)(fin:Bool)(j:Nat)(S:Sg):Prop:=
 ∃g m,D8 p.length g/\TV p r s (s.size - j) j g m=fin/\S=TQ p r s m++[.row true 1 [.ptr 2 1 0 0],.row true 1 [.d (.str s)],.row true 8 [Dn g]]
def UT(p:List BC)(r:WR)(s:ByteArray)(m:Bool)(g:List Nat)(j:Nat)(x:List Nat×List Nat):Sg:=
 [.row true 1 [.d (Ay p)],JR r.CH,Es p r.f r.l 1 p.length r.e,.row true 1 [.d (.str s)],.row true 1 [.d (.bool m)],.row true 1 [.ptr 2 1 0 0],.row true 1 [.d (.str s)],.row true 8 [Dn g],.row true 1 [.d (.int .i64 j)],.row true 8 [Dn x.1],.row true 8 [Dn x.2]]
theorem ZW{p:List BC}(k:p.length<=512){r:WR}(h:Lo p.length r)(s:ByteArray)(m:Bool){g:List Nat}(hn:D8 p.length g){j:Nat}(hj:j<s.size):
  AG prog 262 [.ptr 7 1 0 0,.fn (.func 267) [] [.ptr 6 1 0 0,.ptr 8 1 0 0,.ptr 5 1 0 0,.ptr 9 1 0 0,.ptr 10 1 0 0]] (UT p r s m g j (BT,BT)) (.Cb []) (UT p r s m g j ((Fe g).foldl (GG p r.CH (Fj s j)) (BT,BT))):=
 Wt (UT p r s m g j) (λx=>D8 p.length x.1/\D8 p.length x.2) (GG p r.CH (Fj s j)) g hn.1 7 267 _ (λx _=>by simp[UT]) (λx b hb i=>⟨Mg k h.2.2 _ i (hn.2 b hb),by
  have h1:=l9 k r.e h.1.1 h.2.1.1 h.2.2 s hj i.1.1 i.2.1 (hn.2 b hb);have o:=h1.Eb (S:=UT p r s m g j x) [1,2,5,6,8,9,10] (by simp[-DK,-Ar,UT,YM,Bk,DY,A5]) (by simp[YM]) (by simp);simp[-DK,-Ar,DY,YM,UT]at o⊢;exact o⟩) (BT,BT) ⟨Bt _,Bt _⟩
theorem qB{p:List BC}(hp:p.length<=512){r:WR}(T:Lo p.length r)(s:ByteArray)(m:Bool):
  AG prog 242 [.ptr 2 1 0 0,.d (.str s),.fn (.func 243) [] [.ptr 3 1 0 0,.ptr 4 1 0 0]] (TQ p r s m) (.Cb []) (TQ p r s (TV p r s s.size 0 r.f m)):=by
 refine md func242 (by kernel_rfl) rfl (by simp) λwf _=>?_;have a1:s.size<=maxLen:=by simp[Hw,JQ,DZ]at wf;exact wf
 rw[ntmps242];have U:=BU (Bt 1).1;have l1:=BU T.1.1;have zA:=T;obtain⟨rf,rl,re,q⟩:=r;obtain⟨r1,r2,r3⟩:=T;simp only[]at r1 r2 r3 l1;obtain⟨W,t,X,Y,Z,a5,a6,a7,rfl⟩:=r1.1.OQ;obtain⟨z,A,B,C,E,F,G,H,rfl⟩:=r2.1.OQ;have hfA:V.agg [V.d (D.int .u64 (W:Int)),V.d (D.int .u64 (t:Int)),V.d (D.int .u64 (X:Int)),V.d (D.int .u64 (Y:Int)),V.d (D.int .u64 (Z:Int)),V.d (D.int .u64 (a5:Int)),V.d (D.int .u64 (a6:Int)),V.d (D.int .u64 (a7:Int))]=Dn [W,t,X,Y,Z,a5,a6,a7]:=rfl;have J:V.agg [V.d (D.int .u64 (z:Int)),V.d (D.int .u64 (A:Int)),V.d (D.int .u64 (B:Int)),V.d (D.int .u64 (C:Int)),V.d (D.int .u64 (E:Int)),V.d (D.int .u64 (F:Int)),V.d (D.int .u64 (G:Int)),V.d (D.int .u64 (H:Int))]=Dn [z,A,B,C,E,F,G,H]:=rfl;generalize xx:TV p _ s s.size 0 _ m=fin at *;unfold TQ L9;refine xW λK g=>?_;simp;apply g;refine xW λK g=>?_;simp[Es,mC,Fq,hfA];apply g;refine xW λK g=>?_;simp;apply g;refine Bx ?_;refine DV s.size (λj tm S=>tm 2=.fn (.func 243) [] [.ptr 3 1 0 0,.ptr 4 1 0 0]/\tm 3=.ptr 5 1 0 0/\tm 4=.ptr 6 1 0 0/\tm 6=.ptr 7 1 0 0/\tm 15=.d (.int .i64 s.size)/\tm 16=.d (.int .i64 j)/\uC p ⟨[W,t,X,Y,Z,a5,a6,a7],[z,A,B,C,E,F,G,H],re,q⟩ s fin j S) (i0:=0) (cq _) (by simp;exact⟨_,m,r1,xx,by simp[TQ,L9,Es,mC,Fq]⟩) ?_;rintro j tm S hj ⟨t2,t3,t4,t6,t15,t16,L,m',i,o,rfl⟩;unfold TQ L9;refine xW λK g=>?_;simp[t15,t16];apply g;refine xC ?_;simp;refine⟨λR=>?_,λvw=>?_⟩
 .have he:=ZW hp zA s m' i R;have vr:s.size - j=(s.size - (j+1))+1:=by omega
  rw[vr]at o;simp only[TV]at o;have hxg:=O6 (n:=p.length) (Good:=λx:List Nat×List Nat=>D8 p.length x.1/\D8 p.length x.2) (λx b hb hg=>Mg (p:=p) hp r3 (Fj s j) hg hb) (Fe L) (BT,BT) i.2 ⟨Bt _,Bt _⟩;generalize(Fe L).foldl (GG p q (Fj s j)) (BT,BT)=x at *;obtain⟨u,nx⟩:=x;obtain⟨M,g2⟩:=hxg;simp only[]at M g2 o;have zI:=mX s m' ((j:Int)+1) (LV u [z,A,B,C,E,F,G,H]);have N:=eI (fs:=[u]) (k:=0) (ss:=u) (ts:=[z,A,B,C,E,F,G,H]) rfl M.1 r2.1;have l2:=BU M.1;have l3:=BU g2.1;have l4:=BU i.1;unfold UT at he;simp only[ea,j0,JR,eP,zN]at N;refine xK ?_;refine xB ?_;refine xW λK g=>?_;simp[t16];apply g;refine xW λK g=>?_;simp[ET,U];apply g;(repeat refine xS ?_);refine HA λK g=>?_;refine xJ ?_;simp[t3,t4];refine xY (he) _ rfl rfl ?_;simp[-Ar,Bk,A5,t6];refine xJ ?_;simp;refine B6 (g _ _ ?_);(try simp only[xQ,reduceIte]);have P:∀S':Sg,Cg ((Dx S' (Fq u)).getD []) [.int .u64 0,.int .u64 0,.int .u64 0,.int .u64 0,.int .u64 0,.int .u64 0,.int .u64 0,.int .u64 0]=decide (u=BT):=λS'=>by
   rw[E8];obtain⟨c0,c1,c2,c3,c4,c5,c6,c7,rfl⟩:=M.1.OQ;rw[eg];simp[Cg,De,BT]
  have Q:IntKind.i64.wrap ((j:Int)+1)=(j:Int)+1:=by rw[AL R a1];simp
  have hj2:s.size - (j+1)=s.size - j - 1:=by omega
  refine xS ?_;refine xD [0,2,4,6,8,10,12,14,16,18,20,22,25,26,28] (by kernel_rfl) λK g=>?_;simp;(iterate 2 ((refine xG ?_ ?_);(focus(simp[l2,ET,U];done));simp[l2,ET]));refine Ag.qg (v:=.d (.bool (decide (u=BT)))) (λ_=>True) trivial (λS' _=>?_) ?_
  .obtain⟨c0,c1,c2,c3,c4,c5,c6,c7,rfl⟩:=M.1.OQ;have w:=P [];simp[Fq,Dx]at w;refine⟨by simp[Dn,Fq,Dx,BT],?_,by simp⟩;simp[Dn,Fq,Dx,BT];simp[BT]at w;exact w
  .simp;by_cases h:u=BT
   .rw[ap h]at o;(iterate 8 (refine Hz (by simp[h,t3]) ?_;simp[h,t2,t3]));refine Pv rfl rfl (by simp) ?_;simp;refine Ag.rv [true,false,false,false,false,true,false,true,true,false,false,false] (by kernel_rfl) rfl (by simp) ?_;simp;refine xA 0 ?_;simp;refine xM (g _ _ ?_);(try simp only[xQ,reduceIte]);refine AR ?_;simp;refine Af ?_;(try simp only[xQ,reduceIte]);rw[<-o];refine⟨_,a8 5 (by simp) (by simp) (by simp) (by simp[-Ar,Bk,A5]),?_⟩;simp[Au]
   .rw[ao h]at o;(iterate 8 ((refine xG ?_ ?_);(focus(simp[t3,Es,mC,Fq];done));simp[h,t2,t3,Q,Es,mC,Fq]));rw[J];refine Ag.X1 N [9] rfl rfl (by simp;try rfl) ?_;simp;refine Ag.pX [true,false,false,false,false,true,false,true,true,false,false,false] zI [3,4] (by kernel_rfl) rfl rfl (by simp[Ac,t2,t3,J];try rfl) ?_;simp;refine xA 0 ?_;simp;refine xM (g _ _ ?_);refine AR ?_;simp;refine xK ?_;refine xV λK g=>?_;simp[t6,l3,l4];apply g;refine xV λK g=>?_;simp[t16];apply g;refine⟨R,_,_,ip 8 (by simp) (by simp) (by simp[-Ar,A5]),?_⟩;simp[clean,t2,t3,t4,t6,t15,AL R a1];exact⟨nx,_,g2,o,by simp[TQ,L9,Es,mC,Fq]⟩
 .have hje:j=s.size:=by omega
  subst hje;simp[TV]at o;subst o;refine C7 ?_;refine⟨_,a8 5 (by simp) (by simp) (by simp) (by simp[-Ar,Bk,A5]),?_⟩;simp[Au]
theorem RX{u v:List Bool}{i at_:Int}(h:Iz u i at_=some v):0<=i/\i<at_:=by
 unfold Iz at h;split at h
 .cases h
 .rename_i hn;omega
theorem Va{p:List BC}{i:Nat}(h:(Gw p (i+1)).isSome=true):∃u v x,Gw p i=some u/\p[i]?=some x/\Ft u i x=some v:=by
 obtain⟨v,g⟩:=jw.1 h;obtain⟨u,h1,j⟩:=WF.1 g;obtain⟨x,k,m⟩:=WF.1 j;exact⟨u,v,x,h1,k,m⟩
theorem WX{p:List BC}{n:Nat}(h:(Gw p n).isSome=true):∀i≤n,(Gw p i).isSome=true:=λi hi=>by
 cases g:Gw p i with
 |some u=>rfl
 |none=>
  have:=LL g (n - i);rw[Nat.add_sub_cancel' hi]at this;rw[this]at h;cases h
theorem SP{p:List BC}(h:EC p=0):cQ p/\p≠[]:=by
 unfold EC at h;split at h
 .cases h
 .rename_i z;split at h
  .cases h
  .rename_i u s;split at h
   .cases h
   .rename_i t;refine⟨⟨by omega,λi x k=>?_⟩,λe=>t (.inl e)⟩;have hi:i<p.length:=AZ k;obtain⟨A,v,B,h1,m,g⟩:=Va (WX (n:=p.length) (by rw[s];rfl) (i+1) (by omega));rw[k]at m;cases m;unfold Ft at g;split at g
    .cases g
    .constructor
     .intro j;have ha:¬Ce x.kind<1:=by rcases j with e|e|e<;>rw[e]<;>decide
      rw[ao ha]at g;obtain⟨w,o,_⟩:=WF.1 g;exact RX o
     .intro j;have ha:¬Ce x.kind<1:=by rcases j with e|e<;>rw[e]<;>decide
      have hb:¬Ce x.kind<2:=by rcases j with e|e<;>rw[e]<;>decide
      rw[ao ha]at g;obtain⟨w,o,q⟩:=WF.1 g;rw[ao hb]at q;exact RX q
def HT(p:List BC)(s:ByteArray):Bool:=
 if EC p=0 then TV p (Jl p) s s.size 0 (Jl p).f (decide (s.size=0)&&(Jl p).e)else false
theorem Oh(p:List BC)(s:ByteArray):Pure prog 209 [Ay p,BO s] (.bool (HT p s)):=by
 refine zP func209 25 rfl λwf=>?_;apply yW;simp;refine xS (yS ?_);apply yJ;simp;refine B9 (OB p) rfl (by simp) (yJ ?_);simp;by_cases g:EC p=0
 .have i:decide (s.size=0)=decide (s=⟨#[]⟩):=by simp[Kn]
  have j:HT p s=TV p (Jl p) s s.size 0 (Jl p).f (decide (s=⟨#[]⟩)&&(Jl p).e):=by rw[<-i];unfold HT;rw[ap g]
  rw[j];obtain⟨k,h0⟩:=SP g;have m:Lo p.length (Jl p):=DS k.1 _ _ _ (PB _);have q:=V8 k h0;have h:=qB k.1 m s (decide (s=⟨#[]⟩)&&(Jl p).e);generalize Jl p=r at *;obtain⟨v,w,z,o⟩:=r;obtain⟨r1,r2,t⟩:=m;simp at r1 r2 t;obtain⟨A,u,B,C,E,F,G,H,rfl⟩:=r1.1.OQ;obtain⟨J,K,L,M,N,P,Q,R,rfl⟩:=r2.1.OQ;apply AR;simp[g];apply xK;apply yS;apply yJ;simp;refine xF (q) [] rfl ?_;simp[-DK,-Ar,DY,L9];apply yJ;simp;apply yW;simp[Es,mC,Fq];apply yS;apply yJ;simp;unfold TQ L9 at h;refine xF (h) [1,2,3,0,4] rfl ?_;simp[-DK,-Ar,DY,A5,Es,mC,Fq];apply yJ;simp;apply yW;simp;apply zT;try simp
 .have j:HT p s=false:=by simp[HT,g]
  rw[j];apply AR;simp[g];apply yW;simp;refine Af ⟨_,_,am,?_⟩;try simp
def Ko(t:Token):Bool:=
 if t.literal=⟨#[]⟩then(if EC t.pattern=0 then(if t.cls=0 then !decide (t.Dk=⟨#[]⟩)&&HT t.pattern t.Dk else decide (t.Dk=⟨#[]⟩))else false)
 else decide (t.Dk=⟨#[]⟩)&&decide (t.pattern=[])
noncomputable def H2(n:Nat)(t:Token):Bool:=decide (0<=t.cls)&&decide (t.cls<=2)&&C5 t.cond n&&Ko t
noncomputable def Ex(g:AE):Bool:=DQ [⟨#[]⟩] (g.Ae.map (·.name))&&g.Ae.all (H2 g.conds.length)
abbrev pw:=@Bool.or_eq_false_iff
abbrev W1:=@Bool.not_eq_false'
abbrev y4:=@decide_eq_false_iff_not
theorem PL(g:AE):Pure prog 189 [AA g] (AF (if Ex g then 0 else 51)):=by
 refine eJ func189 (by kernel_rfl) rfl (by simp) λwf=>?_;have J:g.Ae.length<=maxLen:=by simp[Bs,DZ,AA]at wf;exact wf.2.2.2.1.1
 rw[ntmps189];refine xW λK j=>?_;simp;apply j;refine FX λK j=>?_;refine xJ ?_;simp;refine xF (Mf) [] rfl ?_;simp;refine xJ ?_;simp;refine B6 (j _ _ ?_);refine xS (xW λK j=>?_);simp[AA];apply j;refine Bx ?_;refine DV g.Ae.length (λi tm S=>tm 1=.ptr 0 1 0 0/\tm 3=.fn (.func 249) [] [.ptr 2 1 0 0]/\tm 9=.d (DI g.Ae)/\tm 10=.d (.int .i64 g.Ae.length)/\tm 11=.d (.int .i64 i)/\(∀k (h:k<i) (X:k<g.Ae.length),H2 g.conds.length g.Ae[k]=true/\Fi (QV (g.Ae.map (·.name)) k) g.Ae[k].name=false)/\S=[.row true 9 [.d (AA g)],E1 (QV (g.Ae.map (·.name)) i),.row true 1 [.map 1]]) (i0:=0) (cq _) (by simp[XS,E1,AA,MP]) ?_;rintro i tm S hi ⟨t1,t3,t9,t10,t11,z,rfl⟩;refine xW λK j=>?_;simp[t10,t11];apply j;refine xC ?_;simp;refine⟨λq=>?_,λY=>?_⟩
 .have s:i<(g.Ae.map (·.name)).length:=by simpa using q
  have M:=Kd (QV (g.Ae.map (·.name)) i) g.Ae[i].name;have u:=Lq s;simp only[kt]at u;have N:=λh=>HG (L:=[⟨#[]⟩]) (l:=g.Ae.map (·.name)) s (λk m=>by have:=(z k m (by omega)).2;simp only[kt];exact this) (by simp only[kt];exact h);have F:H2 g.conds.length g.Ae[i]=false->Ex g=false:=λh=>by
   have:g.Ae.all (H2 g.conds.length)=false:=by
    rw[acr];exact⟨_,b9 q,by simp[h]⟩
   simp[Ex,this]
  generalize G:Fi (QV (g.Ae.map (·.name)) i) g.Ae[i].name=H at *;generalize A:g.Ae[i]=x at *;unfold E1;refine xK ?_;refine xB ?_;refine xW λK j=>?_;simp[t9,t11,q,A];apply j;refine xS (FX λK j=>?_);refine xJ ?_;simp[t3];refine xF (M) [1,2] rfl ?_;simp[XS,E1];(repeat((refine Cd ?_ ?_);(focus(simp[t1];try(first|omega|(simp +contextual[Ad,t1,AA];done)|grind);done));simp[t1,AA]));refine wl (ds:=[AB x.cond,AF g.conds.length]) rfl rfl (by simp;rfl) (λ_=>Lz x.cond g.conds.length) (by simp[xN]) ?_;simp;(repeat((refine Cd ?_ ?_);(focus(simp;try(first|omega|(simp +contextual;done)|grind);done));simp));refine B6 (j _ _ ?_);(try simp only[xQ,reduceIte]);(repeat refine xS ?_);refine k6 (t:=H||decide (x.cls<0)||decide (2<x.cls)||!C5 x.cond g.conds.length) ?_ (λhb=>?_) (λhb=>?_)
  .simp
  .refine xW λK j=>?_;simp;apply j;refine Af ⟨_,_,am,?_⟩;(try simp);cases H with
   |true=>have P:=N G;simp[Ex,P]
   |false=>
    have:H2 g.conds.length x=false:=by simp[H2];simp at hb;grind
    simp[F this]
  .simp only[pw,W1,y4]at hb;obtain⟨⟨⟨rfl,Z⟩,vu⟩,E⟩:=hb;simp;refine xK ?_;refine xW λK j=>?_;simp;apply j;refine k7 (R:=λtm S=>tm 1=.ptr 0 1 0 0/\tm 3=.fn (.func 249) [] [.ptr 2 1 0 0]/\tm 9=.d (DI g.Ae)/\tm 10=.d (.int .i64 g.Ae.length)/\tm 11=.d (.int .i64 i)/\tm 6=.d (.bool (Ko x))/\S=[.row true 9 [.d (AA g)],E1 (QV (g.Ae.map (·.name)) (i+1)),.row true 1 [.map 1],.row true 7 [.d (Ad x)]]) ?_ ?_
   .refine Bx ?_;(repeat refine xS ?_);refine xV λK j=>?_;simp;refine j _ _ ?_;(try simp only[xQ,reduceIte]);by_cases o:x.literal=⟨#[]⟩
    .refine AR ?_;simp[o];(repeat refine xS ?_);refine HA λK j=>?_;refine xJ ?_;simp;refine B9 (OB x.pattern) rfl (by simp) ?_;simp;refine xJ ?_;simp;refine B6 (j _ _ ?_);(try simp only[xQ,reduceIte]);by_cases v:EC x.pattern=0
     .refine AR ?_;simp[v];(repeat refine xS ?_);refine xV λK j=>?_;simp;refine j _ _ ?_;(try simp only[xQ,reduceIte]);by_cases B:x.cls=0
      .refine AR ?_;simp[B];refine HA λK j=>?_;refine xJ ?_;simp;refine wl (g:=!decide (x.Dk=⟨#[]⟩)) (ds:=[Ay x.pattern,BO x.Dk]) rfl rfl (by simp<;>rfl) (λ_=>Oh x.pattern x.Dk) (by simp) ?_;simp;(repeat((refine Cd ?_ ?_);(focus(simp;try(first|omega|(simp +contextual;done)|grind);done));simp));refine B6 (j _ _ ?_);simp[Ko,o,v,B,t1,t3,t9,t10,t11,u,E1,Ad,AA]
      .refine AR ?_;simp[B];refine CT ?_;simp[Ko,o,v,B,t1,t3,t9,t10,t11,u,E1,Ad,AA]
     .refine AR ?_;simp[v];refine xV λK j=>?_;simp;apply j;simp[Ko,o,v,t1,t3,t9,t10,t11,u,E1,Ad,AA]
    .refine AR ?_;simp[o];refine xV λK j=>?_;simp;apply j;have Q:((x.pattern.length:Int)==0)=decide (x.pattern=[]):=by rw[eg];simp
     simp[Ko,o,Q,t1,t3,t9,t10,t11,u,E1,Ad,AA]
   .rintro tm S ⟨t1,t3,t9,t10,t11,t6,rfl⟩;unfold E1;(repeat refine xS ?_);refine xV λK j=>?_;simp[t6];refine j _ _ ?_;(try simp only[xQ,reduceIte]);cases C:Ko x with
    |false=>
     refine AR ?_;simp;refine xW λK j=>?_;simp;apply j;refine Af ⟨_,_,am,?_⟩;(try simp);have:H2 g.conds.length x=false:=by simp[H2,C]
     simp[F this]
    |true=>
     refine AR ?_;simp;refine CT ?_;refine xV λK j=>?_;simp[t11];apply j;refine⟨q,_,_,ip 3 (by simp) (by simp) (by simp),?_⟩;simp[clean,t1,t3,t9,t10,AL q J];intro k m T;by_cases e:k=i
     .subst e;rw[A];exact⟨by simp[H2,C,E];omega,G⟩
     .exact z k (by omega) T
 .have U:i=g.Ae.length:=by omega
  subst U;have w:=GF (L:=[⟨#[]⟩]) (l:=g.Ae.map (·.name)) λk m=>by have:=(z k (by simpa using m) (by simpa using m)).2;simp only[kt];exact this
  have W:g.Ae.all (H2 g.conds.length)=true:=by
   rw[cl];intro x A;obtain⟨k,m,rfl⟩:=jp.1 A;exact(z k m m).1
  unfold E1;refine C7 ?_;refine xW λK j=>?_;simp;apply j;refine Af ⟨_,_,am,?_⟩;(try simp);simp[Ex,w,W]
def F4(g:AE)(s:Symbol):Bool:=
 if s.token then decide (0<=s.index)&&(match g.Ae[s.index.toNat]? with|some t=>decide (t.cls=0)|none=>false)
 else decide (0<=s.index)&&decide (s.index<g.A2.length)
theorem Yw(g:AE)(s:Symbol):Pure prog 226 [AA g,AI s] (.bool (F4 g s)):=by
 refine zP func226 40 rfl λwf=>?_;apply yW;simp;refine xS (yW ?_);simp[AI];cases h:s.token with
 |false=>
  apply AR;simp;(repeat apply xS);refine HA λK j=>?_;(repeat((refine Cd ?_ ?_);(focus(simp[AA];try(first|omega|(simp +contextual[AI,AA];done)|grind);done));simp[AA]));refine B6 (j _ _ ?_);refine Af ⟨_,_,am,?_⟩;simp[F4,h]
 |true=>
  apply AR;simp;apply CT;by_cases h0:0<=s.index
  .by_cases h1:s.index<g.Ae.length
   .have i:s.index.toNat<g.Ae.length:=by omega
    apply yW;simp[AA,h0,h1,i,Ad];apply zT;simp[F4,h,h0,i];rw[eg];simp
   .have i:¬s.index.toNat<g.Ae.length:=by omega
    have k:g.Ae[s.index.toNat]?=none:=np (by omega);(repeat apply xS);apply yT;(iterate 12 (refine Cd (by simp[AA]) ?_;simp[AA,h0,h1]));(repeat(refine FJ rfl ?_ ?_;(·simp);simp));apply yJ;simp;apply zT;simp[F4,h,k]
  ·(repeat apply xS);apply yT;(iterate 4 (refine Cd (by simp[AA]) ?_;simp[AA,h0]));(repeat(refine FJ rfl ?_ ?_;(·simp);simp));(iterate 2 (refine Cd (by simp) ?_;simp));(repeat(refine FJ rfl ?_ ?_;(·simp);simp));apply yJ;simp;apply zT;simp[F4,h,h0]
theorem Ua(g:AE)(s:Symbol):AG prog 225 [.d (AI s),.ptr 0 1 0 0] [.row true 9 [.d (AA g)]] (.d (.bool (!F4 g s))) [.row true 9 [.d (AA g)]]:=by
 refine zC func225 8 rfl λwf _=>?_;apply yW;simp;(repeat apply xS);apply yT;apply yJ;simp[AI,AA];refine B9 (Yw g s) rfl (by simp[AA,AI]) (yJ ?_);simp;apply Af;refine⟨_,a8 1 (by simp) (by simp) (by simp) (by simp),?_⟩;simp[Au,clean]
def NH(p:AO)(i:Int):Bool:=decide (0<=i)&&decide (i<p.right.length)
theorem Uf(p:AO)(i:Int):AG prog 255 [.d (AF i),.ptr 0 1 0 0] [.row true 13 [.d (AH p)]] (.d (.bool (NH p i))) [.row true 13 [.d (AH p)]]:=by
 refine zC func255 13 rfl λwf _=>?_;apply yW;simp;(repeat apply xS);refine HA λK g=>?_;(repeat((refine Cd ?_ ?_);(focus(simp;try(first|omega|(simp +contextual[AH];done)|grind);done));simp[AH]));refine B6 (g _ _ ?_);apply Af;refine⟨_,rc (by simp[AH]),?_⟩;simp[Au,NH]
def Db(p:AO)(k v lo hi:Int):Bool:=
 if k=0 then decide (v=0)
 else decide (0<k)&&decide (k<=p.right.length)&&(match p.right[(k - 1).toNat]? with|some s=>s.token|none=>false)&&decide (lo<=v)&&decide (v<=hi)
theorem Ug(p:AO)(k v lo hi:Int):AG prog 256 [.d (AF k),.d (AF v),.d (AF lo),.d (AF hi),.ptr 0 1 0 0] [.row true 13 [.d (AH p)]] (.d (.bool (Db p k v lo hi))) [.row true 13 [.d (AH p)]]:=by
 refine zC func256 42 rfl λwf _=>?_;apply yW;simp;refine xS (yW ?_);simp;by_cases i:k=0
 .apply AR;simp[i];apply yW;simp;apply Af;refine⟨_,rc (by simp),?_⟩;simp[Au,Db];left;rw[eg];simp
 .apply AR;simp[i];apply CT;by_cases h0:0<k
  .by_cases h1:k<=p.right.length
   .obtain⟨m,rfl⟩:∃m:Nat,k=m+1:=⟨(k - 1).toNat,by omega⟩;have j:m<p.right.length:=by omega
    have o:IntKind.i64.wrap (m:Int)=m:=by
     have:=wf.1;simp[JQ,DZ,IL]at this;rw[yf];omega
    have h:IntKind.i64.wrap ((m:Int)+1 - 1)=m:=by rw[show(m:Int)+1 - 1=m by omega];exact o
    have q:(m:Int)+1<=p.right.length:=h1;have g:(0:Int)<(m:Int)+1:=h0;(repeat apply xS);refine HA λK s=>?_;(repeat((refine Cd ?_ ?_);(focus(simp[j,AI];try(first|omega|(simp +contextual[AH,g,q,j,o,h,AI];done)|grind);done));simp[AH,g,q,j,o,AI]));refine B6 (s _ _ ?_);apply Af;refine⟨_,rc (by simp[AH]),?_⟩;simp[Au,Db,i,g,q,j]
   ·(repeat apply xS);apply yT;(iterate 10 (refine Cd (by simp) ?_;simp[AH,h0,h1]));(repeat(refine FJ rfl ?_ ?_;(·simp);simp));(iterate 2 (refine Cd (by simp) ?_;simp));(repeat(refine FJ rfl ?_ ?_;(·simp);simp));(iterate 2 (refine Cd (by simp) ?_;simp));(repeat(refine FJ rfl ?_ ?_;(·simp);simp));apply yJ;simp;apply Af;refine⟨_,rc (by simp),?_⟩;simp[Au,Db,i,h0,h1]
  ·(repeat apply xS);apply yT;(iterate 3 (refine Cd (by simp) ?_;simp[AH,h0]));(repeat(refine FJ rfl ?_ ?_;(·simp);simp));(iterate 2 (refine Cd (by simp) ?_;simp));(repeat(refine FJ rfl ?_ ?_;(·simp);simp));(iterate 2 (refine Cd (by simp) ?_;simp));(repeat(refine FJ rfl ?_ ?_;(·simp);simp));(iterate 2 (refine Cd (by simp) ?_;simp));(repeat(refine FJ rfl ?_ ?_;(·simp);simp));apply yJ;simp;apply Af;refine⟨_,rc (by simp),?_⟩;simp[Au,Db,i,h0]
def Mc(p:AO)(x:Fh):Bool:=decide (1<=x.kind)&&decide (x.kind<=4)&&NH p x.a&&NH p x.b&&!(decide (x.kind=1)&&!decide (x.b=0))
def Hx(p:AO):Bool:=
 p.layout.all (Mc p)&&Db p p.scope.declares p.scope.kind 1 7&&Db p p.scope.FW p.scope.allowed 0 255&&
 (!p.bracket||(decide (p.right.length=3)&&decide (p.D6=0)&&decide (p.layout=[])&&decide (p.scope=⟨false,0,0,0,0⟩)&&
  (match p.right with|[a,c,d]=>a.token&&decide (c=⟨false,p.left⟩)&&d.token|_=>false)))
theorem Wj(p:AO):Pure prog 228 [AH p] (.bool (Hx p)):=by
 refine eJ func228 rfl rfl (by simp) λwf=>?_;have H:p.layout.length<=maxLen:=by simp[Bs,DZ,AH]at wf;omega
 rw[ntmps228];apply yW;simp;refine xS (yW ?_);simp[AH];apply Bx;refine zL p.layout.length (λi tm S=>tm 1=.ptr 0 1 0 0/\tm 9=.d (Cc p.layout)/\tm 10=.d (.int .i64 p.layout.length)/\tm 11=.d (.int .i64 i)/\(∀k (h:k<i) (M:k<p.layout.length),Mc p p.layout[k]=true)/\S=[.row true 13 [.d (AH p)]]) (by simp[AH]) ?_;rintro i tm S hi ⟨t1,t9,t10,t11,E,rfl⟩;apply yW;simp[t10,t11];apply xC;simp;refine⟨λo=>?_,λN=>?_⟩
 .have J:Mc p p.layout[i]=false->Hx p=false:=λh=>by
   have:p.layout.all (Mc p)=false:=by
    rw[acr];exact⟨_,b9 o,by simp[h]⟩
   simp[Hx,this]
  generalize q:p.layout[i]=x at *;have u:=Uf p x.a;have v:=Uf p x.b;apply xK;apply xB;apply yW;simp[t9,t11,o,q];apply yW;simp[t1];apply yS;(repeat((refine Cd ?_ ?_);(focus(simp;try(first|omega|(simp +contextual[BH];done)|grind);done));simp));refine AV.Rn (u) [0] rfl rfl (by simp;rfl) (by simp) (by simp +contextual;try rfl) (by simp;try rfl) ?_;simp;(repeat((refine Cd ?_ ?_);(focus(simp;try(first|omega|(simp +contextual;done)|grind);done));simp));refine AV.Rn (v) [0] rfl rfl (by simp;rfl) (by simp) (by simp +contextual;try rfl) (by simp;try rfl) ?_;simp;(repeat((refine Cd ?_ ?_);(focus(simp;try(first|omega|(simp +contextual;done)|grind);done));simp));apply B6;(repeat apply xS);refine k6 (t:=!Mc p x) ?_ (λhb=>?_) (λhb=>?_)
  .simp[Mc];rw[eg];simp
  .apply yW;simp;refine Af ⟨_,_,am,?_⟩;(try simp);simp at hb;simp[J hb]
  .simp at hb;apply CT;apply yV;simp[t11];refine⟨o,_,_,ip 1 (by simp) (by simp) (by simp),?_⟩;simp[clean,t1,t9,t10,AL o H];intro k w K;by_cases e:k=i
   .subst e;rw[q];exact hb
   .exact E k (by omega) K
 .have L:i=p.layout.length:=by omega
  subst L;have j:p.layout.all (Mc p)=true:=by
   rw[cl];intro x q;obtain⟨k,w,rfl⟩:=jp.1 q;exact E k w w
  have z:=Ug p p.scope.declares p.scope.kind 1 7;have A:=Ug p p.scope.FW p.scope.allowed 0 255;apply C7;apply yW;simp[t1];apply yW;simp[t1,AH];refine xS (yS ?_);apply yJ;simp;refine xF (z) [0] rfl ?_;simp[AH];(repeat((refine Cd ?_ ?_);(focus(simp;try(first|omega|(simp +contextual;done)|grind);done));simp));refine AV.Rn (A) [0] rfl rfl (by simp;rfl) (by simp) (by simp +contextual[];try rfl) (by simp[AH];try rfl) ?_;simp;(repeat((refine Cd ?_ ?_);(focus(simp;try(first|omega|(simp +contextual;done)|grind);done));simp));apply B6;(repeat apply xS);refine k6 (t:=!(Db p p.scope.declares p.scope.kind 1 7&&Db p p.scope.FW p.scope.allowed 0 255)) ?_ (λhb=>?_) (λhb=>?_)
  .simp
  .apply yW;simp;refine Af ⟨_,_,am,?_⟩;(try simp);have B:(Db p p.scope.declares p.scope.kind 1 7&&Db p p.scope.FW p.scope.allowed 0 255)=false:=by simpa only[mp]using hb
   have:Hx p=false:=by
    unfold Hx;rw[j,q6,B,yB]
   simp[this]
  .have B:(Db p p.scope.declares p.scope.kind 1 7&&Db p p.scope.FW p.scope.allowed 0 255)=true:=by simpa only[W1]using hb
   apply xK;refine xS (yW ?_);simp[t1];have g:Hx p=(!p.bracket||(decide (p.right.length=3)&&decide (p.D6=0)&&decide (p.layout=[])&&decide (p.scope=⟨false,0,0,0,0⟩)&&
     (match p.right with|[a,c,d]=>a.token&&decide (c=⟨false,p.left⟩)&&d.token|_=>false))):=by
    unfold Hx;rw[j,q6,B,q6]
   cases s:p.bracket with
   |false=>
    apply AR;simp;apply yW;simp;refine Af ⟨_,_,am,?_⟩;(try simp);simp[g,s]
   |true=>
    rw[s]at g;simp at g;apply AR;simp;apply xK;refine xS (yS ?_);(repeat((refine Cd ?_ ?_);(focus(simp[t1];try(first|omega|(simp +contextual[t1,AH];done)|grind);done));simp[t1]));apply B6;have C:Cg [D.bool p.scope.opens,D.int .i64 p.scope.declares,D.int .i64 p.scope.kind,D.int .i64 p.scope.FW,D.int .i64 p.scope.allowed] [D.bool false,D.int .i64 0,D.int .i64 0,D.int .i64 0,D.int .i64 0]=decide (p.scope=⟨false,0,0,0,0⟩):=by
     cases p.scope;rw[eg];simp[Cg,De]
    (repeat apply xS);refine k6 (t:=!(decide (p.right.length=3)&&decide (p.D6=0)&&decide (p.layout=[])&&decide (p.scope=⟨false,0,0,0,0⟩))) ?_ (λhb=>?_) (λhb=>?_)
    .simp[C];rw[eg];simp;have:(0<p.layout.length)↔¬p.layout=[]:=by cases p.layout<;>simp
     rw[this];have:((p.right.length:Int)=3)↔p.right.length=3:=by omega
     rw[this]
    .apply yW;simp;refine Af ⟨_,_,am,?_⟩;(try simp);have m:(decide (p.right.length=3)&&decide (p.D6=0)&&decide (p.layout=[])&&decide (p.scope=⟨false,0,0,0,0⟩))=false:=by simpa only[mp]using hb
     rw[g,m,yB]
    .have m:(decide (p.right.length=3)&&decide (p.D6=0)&&decide (p.layout=[])&&decide (p.scope=⟨false,0,0,0,0⟩))=true:=by simpa only[W1]using hb
     rw[m,q6]at g;simp at m;obtain⟨⟨⟨F,_⟩,_⟩,_⟩:=m;rcases G:p.right with _|⟨a,_|⟨c,_|⟨d,_|⟨e,l⟩⟩⟩⟩<;>rw[G]at F<;>simp at F;rw[G]at g;simp at g;apply xK;(repeat apply xS);refine yE [0,2,4,6,8,10,12,14,16,18,20,22,24,26,28,30,32,34,36,38,40,42,44] (by kernel_rfl) ?_;simp;apply yA 0;simp[t1,AI];apply zT;(try simp);rw[g];cases c;rw[eg];simp[Cg,De]
noncomputable def F6(g:AE)(p:AO):Bool:=C5 p.cond g.conds.length&&decide (-1<=p.D6)&&decide (p.D6<=1)&&Hx p
def EG(g:AE)(p:AO):Bool:=F4 g ⟨false,p.left⟩&&p.right.all (F4 g)
noncomputable def C6(g:AE):List ByteArray->List AO->Int
 |_,[]=>0
 |L,p::l=>if EG g p=false then 50 else if Fi L p.name=true\/F6 g p=false then 52 else C6 g (L++[p.name]) l
theorem EK{g:AE}:∀{l:List AO} {L:List ByteArray},C6 g L l=0->∀p∈l,EG g p=true/\F6 g p=true
 |[],_,_=>λp k=>by simp at k
 |p::l,L,h=>by
  unfold C6 at h;split at h
  .cases h
  .rename_i h1;split at h
   .cases h
   .rename_i j;intro q i;rcases fi.1 i with rfl|i
    .exact⟨by simpa using h1,by simp at j;exact j.2⟩
    .exact EK h q i
theorem QN(g:AE):Pure prog 191 [AA g] (AF (C6 g [⟨#[]⟩] g.AD)):=by
 refine eJ func191 rfl rfl (by simp) λwf=>?_;have w:g.AD.length<=maxLen:=by simp[Bs,DZ,AA]at wf;omega
 generalize z:C6 g [⟨#[]⟩] g.AD=fin;rw[ntmps191];apply yW;simp;apply yS;apply yJ;simp;refine xF (Mf) [] rfl ?_;simp;apply yJ;simp;refine xS (yW ?_);simp[AA];apply Bx;refine zL g.AD.length (λi tm S=>tm 1=.ptr 0 1 0 0/\tm 3=.fn (.func 249) [] [.ptr 2 1 0 0]/\tm 9=.d (Co g.AD)/\tm 10=.d (.int .i64 g.AD.length)/\tm 11=.d (.int .i64 i)/\C6 g (QV (g.AD.map (·.name)) i) (g.AD.drop i)=fin/\S=[.row true 9 [.d (AA g)],E1 (QV (g.AD.map (·.name)) i),.row true 1 [.map 1]]) (by simp[XS,E1,AA,MP,z]) ?_;rintro i tm S hi ⟨t1,t3,t9,t10,t11,h,rfl⟩;apply yW;simp[t10,t11];apply xC;simp;refine⟨λj=>?_,λH=>?_⟩
 .have o:i<(g.AD.map (·.name)).length:=by simpa using j
  have A:=Kd (QV (g.AD.map (·.name)) i) g.AD[i].name;have k:=Lq o;simp at k;rw[sw j]at h;unfold C6 at h;generalize J:Fi (QV (g.AD.map (·.name)) i) g.AD[i].name=m at *;generalize B:g.AD[i]=x at *;have q:=Kg x.right (λs=>!F4 g s) 225 [.ptr 0 1 0 0] [.row true 9 [.d (AA g)]] (λs _=>Ua g s);have v:=(Ua g ⟨false,x.left⟩).pS;simp at v;unfold E1;apply xK;apply xB;apply yW;simp[t9,t11,j,B];apply yW;simp[t1];refine xS (yS ?_);apply yJ;simp;refine xF (v) [0] rfl ?_;simp[AA];(repeat((refine Cd ?_ ?_);(focus(simp;try(first|omega|(simp +contextual[AH];done)|grind);done));simp));refine AV.Rn (q) [0] rfl rfl (by simp;rfl) (by simp) (by simp +contextual[];try rfl) (by simp[AA];try rfl) ?_;simp;(repeat((refine Cd ?_ ?_);(focus(simp;try(first|omega|(simp +contextual;done)|grind);done));simp));apply B6;(repeat apply xS);refine k6 (t:=!EG g x) ?_ (λhb=>?_) (λhb=>?_)
  .have:(x.right.any λs=>!F4 g s)=!x.right.all (F4 g):=by rw[List.not_all_eq_any_not]
   simp[EG,this]
  .apply yW;simp;refine Af ⟨_,_,am,?_⟩;rw[<-h];simp at hb;simp[hb]
  .simp at hb;rw[hb]at h;simp[Bool.true_eq_false]at h;apply xK;apply yS;apply yJ;simp[t3];refine xF (A) [1,2] rfl ?_;simp[XS,E1];(repeat((refine Cd ?_ ?_);(focus(simp[t1];try(first|omega|(simp +contextual[AH,t1,AA];done)|grind);done));simp[t1]));refine wl (g:=!m) (ds:=[AB x.cond,AF g.conds.length]) rfl rfl (by simp<;>rfl) (λ_=>Lz x.cond g.conds.length) (by simp[xN]) ?_;simp;(repeat((refine Cd ?_ ?_);(focus(simp;try(first|omega|(simp +contextual;done)|grind);done));simp));refine wl (g:=!m&&C5 x.cond g.conds.length&&!decide (x.D6< -1)&&!decide (1<x.D6)) (ds:=[AH x]) rfl rfl (by simp<;>rfl) (λ_=>Wj x) (by simp[xN]) ?_;simp;(repeat((refine Cd ?_ ?_);(focus(simp;try(first|omega|(simp +contextual;done)|grind);done));simp));apply B6;(repeat apply xS);refine k6 (t:=m||!F6 g x) ?_ (λhb=>?_) (λhb=>?_)
   .simp[F6];have C:decide (x.D6< -1)=!decide (-1<=x.D6):=by rw[eg];simp
    have E:decide (1<x.D6)=!decide (x.D6<=1):=by rw[eg];simp
    rw[C,E];simp[Bool.or_assoc]
   .have u:m=true\/F6 g x=false:=by simp at hb;grind
    rw[ap u]at h;apply yW;simp;refine Af ⟨_,_,am,?_⟩;simp[<-h]
   .simp at hb;obtain⟨rfl,F⟩:=hb;simp[F,Bool.true_eq_false,or_self]at h;rw[<-k]at h;apply CT;apply yV;simp[t11];refine⟨j,_,_,ip 3 (by simp) (by simp) (by simp),?_⟩;simp[clean,t1,t3,t9,t10,AL j w,k];rw[<-k];exact h
 .have G:i=g.AD.length:=by omega
  subst G;simp[C6]at h;unfold E1;apply C7;apply yW;simp;apply zT;simp[<-h]
def CB(N:Nat):List Int->List Int->Option (List Int)
 |u,[]=>some u
 |u,p::g=>if p<0\/(N:Int)<=p\/p∈u then none else CB N (u++[p]) g
noncomputable def ED(g:AE):List Int->List Level->Bool
 |_,[]=>true
 |u,l::h=>if decide (0<=l.assoc)&&decide (l.assoc<=3)&&C5 l.cond g.conds.length then(match CB g.AD.length u l.AD with|none=>false|some v=>ED g v h)else false
@[simp] theorem qj(l:List (Int×Bool))(k:Int)(x:Bool):Ek (Bg (D.int .i64) (λx=>V.d (.bool x)) l) (.int .i64 k) (.d (.bool x))=Bg (D.int .i64) (λx=>V.d (.bool x)) (C9 l k x):=EZ (ev:=λx=>V.d (.bool x)) (by intro a b;rw[eg];simp[De]) l k x
def TM(u:List Int):O:=.map (Bg (D.int .i64) (λx=>.d (.bool x)) (u.map λp=>(p,true)))
theorem kV(u:List Int)(p:Int):look (u.map λp=>(p,true)) p=if p∈u then some true else none:=by
 induction u with
 |nil=>rfl
 |cons x u g=>
  rw[eP,Cx,g];by_cases h:x=p
  .simp[h]
  .have:¬p=x:=λe=>h e.symm;simp[h,this]
def uk(g:AE)(fin:Bool)(i:Nat)(S:Sg):Prop:=∃u,ED g u (g.levels.drop i)=fin/\S=[.row true 9 [.d (AA g)],TM u]
def vE(g:AE)(fin:Bool)(i:Nat)(l:Level)(j:Nat)(S:Sg):Prop:=
 ∃u,(match CB g.AD.length u (l.AD.drop j)with|none=>false|some v=>ED g v (g.levels.drop (i+1)))=fin/\S=[.row true 9 [.d (AA g)],TM u,.row true 4 [.d (Ak l)]]
abbrev adz:=@Bool.not_eq_true
theorem Oe(g:AE):Pure prog 192 [AA g] (AF (if ED g [] g.levels then 0 else 53)):=by
 refine eJ func192 rfl rfl (by simp) λwf=>?_;have B:g.levels.length<=maxLen:=by simp[Bs,DZ,AA]at wf;omega
 have s:∀l∈g.levels,l.AD.length<=maxLen:=by
  simp[Bs,DZ,Di,AA]at wf;intro l C;have:=wf.2.2.2.2.2.2.2.1.2 l C;exact this.1.1
 generalize E:ED g [] g.levels=fin;rw[ntmps192];apply yW;simp;apply yW;simp;refine xS (yW ?_);simp[AA];apply Bx;refine zL g.levels.length (λi tm S=>tm 1=.ptr 0 1 0 0/\tm 3=.map 1/\tm 10=.d (Bp g.levels)/\tm 11=.d (.int .i64 g.levels.length)/\tm 12=.d (.int .i64 i)/\uk g fin i S) (by simp;exact⟨[],E,by simp[TM,AA]⟩) ?_;rintro i tm S hi ⟨t1,t3,t10,t11,t12,u,k,rfl⟩;unfold TM;apply yW;simp[t11,t12];apply xC;simp;refine⟨λo=>?_,λR=>?_⟩
 .have F:g.levels[i].AD.length<=maxLen:=s _ (b9 o);rw[sw o]at k;unfold ED at k;generalize G:g.levels[i]=x at *;apply xK;apply xB;apply yW;simp[t10,t12,o,G];refine xS (yS ?_);(repeat((refine Cd ?_ ?_);(focus(simp[t1,AA];try(first|omega|(simp +contextual[Ak,t1,AA];done)|grind);done));simp[t1,AA]));refine wl (ds:=[AB x.cond,AF g.conds.length]) rfl rfl (by simp;rfl) (λ_=>Lz x.cond g.conds.length) (by simp[xN]) ?_;simp;(repeat((refine Cd ?_ ?_);(focus(simp;try(first|omega|(simp +contextual;done)|grind);done));simp));apply B6;(repeat apply xS);refine k6 (t:=!(decide (0<=x.assoc)&&decide (x.assoc<=3)&&C5 x.cond g.conds.length)) ?_ (λhb=>?_) (λhb=>?_)
  .have H:decide (x.assoc<0)=!decide (0<=x.assoc):=by rw[eg];simp
   have J:decide (3<x.assoc)=!decide (x.assoc<=3):=by rw[eg];simp
   simp[H,J]
  .rw[ao (by simpa only[mp,adz]using hb)]at k;apply yW;simp;refine Af ⟨_,_,am,?_⟩;simp[<-k]
  .rw[ap (by simpa only[W1]using hb)]at k;apply xK;apply yW;simp;apply Bx;refine zL x.AD.length (λj tm S=>tm 1=.ptr 0 1 0 0/\tm 3=.map 1/\tm 10=.d (Bp g.levels)/\tm 11=.d (.int .i64 g.levels.length)/\tm 12=.d (.int .i64 i)/\tm 34=.d (A9 x.AD)/\tm 35=.d (.int .i64 x.AD.length)/\tm 36=.d (.int .i64 j)/\vE g fin i x j S) (by simp[t1,t3,t10,t11,t12];exact⟨u,by simpa using k,by simp[TM,AA,Ak]⟩) ?_;rintro j tm S hj ⟨t1,t3,t10,t11,t12,t34,t35,t36,v,m,rfl⟩;unfold TM;apply yW;simp[t35,t36];apply xC;simp;refine⟨λq=>?_,λz=>?_⟩
   .rw[sw q]at m;unfold CB at m;generalize K:x.AD[j]=y at *;have w:=kV v y;apply xK;apply xB;apply yW;simp[t34,t36,q,K];refine xS (yS ?_);(repeat((refine Cd ?_ ?_);(focus(simp[t1];try(first|omega|(simp +contextual[t1,t3,AA];done)|grind);done));simp[t1,t3,AA]));rw[w];apply B6;(repeat apply xS);refine k6 (t:=decide (y<0)||decide ((g.AD.length:Int)<=y)||decide (y∈v)) ?_ (λhb=>?_) (λhb=>?_)
    .simp;by_cases L:y∈v<;>simp[L]
    .have:y<0\/(g.AD.length:Int)<=y\/y∈v:=by simpa only[oj,cF,or_assoc]using hb
     rw[ap this]at m;apply yW;simp;refine Af ⟨_,_,am,?_⟩;simp[<-m]
    .have A:¬(y<0\/(g.AD.length:Int)<=y\/y∈v):=by simp at hb;grind
     rw[ao A]at m;have M:y∉v:=λh=>A (.inr (.inr h));rw[ao M]at w;have N:C9 (v.map λp=>(p,true)) y true=(v++[y]).map λp=>(p,true):=by rw[L3 _ (by simpa using w)];simp
     apply xK;apply yV;simp[t3,N];apply yV;simp[t36];refine⟨q,_,_,am,?_⟩;simp[t1,t3,t10,t11,t12,t34,t35,AL q F];exact⟨v++[y],m,by simp[TM,AA]⟩
   .have P:j=x.AD.length:=by omega
    subst P;simp[CB]at m;apply C7;apply yV;simp[t12];refine⟨o,_,_,ip 2 (by simp) (by simp) (by simp),?_⟩;simp[clean,t1,t3,t10,t11,AL o B];exact⟨v,m,by simp[TM]⟩
 .have Q:i=g.levels.length:=by omega
  subst Q;simp[ED]at k;apply C7;apply yW;simp;apply zT;simp[<-k]
def Ki(t:Token):Bool:=decide (t.cls=0)
def IK(t:Token):Bool:=!decide (t.literal=⟨#[]⟩)
theorem VI(t:Token):Pure prog 229 [Ad t] (.bool (Ki t)):=by
 refine zP func229 6 rfl λwf=>?_;apply yW;simp;apply yW;simp[Ad];apply zT;(try simp);unfold Ki;rw[eg];simp
theorem eR(t:Token):Pure prog 230 [Ad t] (.bool (IK t)):=by
 refine zP func230 6 rfl λwf=>?_;apply yW;simp;apply yW;simp[Ad];apply zT;simp[IK]
def FO(g:AE)(kind:Token->Bool)(l:List Int)(i:Nat):Bool:=
 decide (0<=l.getD i 0)&&decide (l.getD i 0<g.Ae.length)&&!(decide (0<i)&&decide (l.getD i 0<=l.getD (i - 1) 0))&&(match g.Ae[(l.getD i 0).toNat]? with|some t=>kind t|none=>false)
def Gv(g:AE)(kind:Token->Bool)(l:List Int):Bool:=(List.range l.length).all (FO g kind l)&&decide (0<l.length)
theorem JJ(g:AE)(l:List Int)(k:FuncId)(kind:Token->Bool)(N:∀t,Pure prog k [Ad t] (.bool (kind t))):
  AG prog 232 [.d (AA g),.d (A9 l),.fn (.func k) [] []] [] (.d (.bool (Gv g kind l))) []:=by
 refine md func232 rfl rfl (by simp) λwf _=>?_;have J:l.length<=maxLen:=by have:=wf.2.1;simp[JQ,DZ,A9]at this;simpa using this.1
 rw[ntmps232];apply yW;simp;refine xS (yW ?_);simp;apply Bx;refine zL l.length (λi tm S=>tm 1=.d (A9 l)/\tm 2=.fn (.func k) [] []/\tm 3=.ptr 0 1 0 0/\tm 9=.d (A9 l)/\tm 10=.d (.int .i64 l.length)/\tm 11=.d (.int .i64 i)/\S=[.row true 9 [.d (AA g)]]/\(∀j<i,FO g kind l j=true)) (by simp[AA]) ?_;rintro i tm S hi ⟨t1,t2,t3,t9,t10,t11,rfl,M⟩;apply yW;simp[t10,t11];apply xC;simp;refine⟨λC=>?_,λX=>?_⟩
 .have E:FO g kind l i=false->Gv g kind l=false:=λh=>by
   have:(List.range l.length).all (FO g kind l)=false:=by
    rw[acr];exact⟨i,by simpa using C,by simp[h]⟩
   simp[Gv,this]
  have P:l.getD i 0=l[i]:=by simp[C]
  have Df:FO g kind l i=(decide (0<=l[i])&&decide (l[i] <g.Ae.length)&&!(decide (0<i)&&decide (l[i]<=l.getD (i - 1) 0))&&(match g.Ae[(l[i]).toNat]? with|some t=>kind t|none=>false)):=by unfold FO;rw[P]
  generalize Q:l[i]=x at *;apply xK;apply xB;(repeat apply xS);apply yV;simp[t9,t11,C,Q];by_cases h0:x<0
  .have F:¬0<=x:=by omega
   apply yS;(iterate 3 (refine Cd (by simp) ?_;simp[h0]));(repeat(refine FJ rfl ?_ ?_;(·simp);simp));(iterate 2 (refine Cd (by simp) ?_;simp));(repeat(refine FJ rfl ?_ ?_;(·simp);simp));(iterate 2 (refine Cd (by simp) ?_;simp));(repeat(refine FJ rfl ?_ ?_;(·simp);simp));apply yJ;simp;apply AR;simp;apply yW;simp;apply Af;rw[E (by rw[Df];simp[F])];refine⟨_,a8 0 (by simp) (by simp) (by simp) (by simp),?_⟩;simp[Au,clean]
  .have F:0<=x:=by omega
   obtain⟨m,rfl⟩:∃m:Nat,x=m:=⟨x.toNat,by omega⟩;by_cases h1:m<g.Ae.length
   .have G:=N g.Ae[m];have w:¬(g.Ae.length:Int)<=m:=by omega
    have o:¬g.Ae.length<=m:=by omega
    cases i with
    |zero=>
     (repeat apply xS);apply yT;(iterate 13 (refine Cd (by simp[t3]) ?_;simp[h0,t3,w,AA]));(repeat(refine FJ rfl ?_ ?_;(·simp);simp));(iterate 3 (refine Cd (by simp) ?_;simp));(iterate 6 (refine Cd (by simp[t3,h1,Ad]) ?_;simp[t2,t3,h1,Ad]));refine i7 (G) rfl rfl (by simp[xN];try rfl) (yJ ?_);simp;cases u:kind g.Ae[m]with
     |false=>
      apply AR;simp;apply yW;simp;apply Af;rw[E (by rw[Df];simp[h1,u])];refine⟨_,a8 0 (by simp) (by simp) (by simp) (by simp),?_⟩;simp[Au,clean]
     |true=>
      apply AR;simp;apply CT;apply yV;simp[t11];refine⟨C,_,_,am,?_⟩;have R:IntKind.i64.wrap 1=1:=by decide
      have K:FO g kind l 0=true:=by rw[Df];simp[h1,u]
      simp[t1,t2,t3,t9,t10,R,K]
    |succ q=>
     have H:q<l.length:=by omega
     have L:l.getD q 0=l[q]:=by simp[H]
     have A:IntKind.i64.wrap ((q:Int)+1 - 1)=q:=by rw[show(q:Int)+1 - 1=q by omega,yf];unfold maxLen at J;omega
     have v:IntKind.i64.wrap (q:Int)=q:=by rw[yf];unfold maxLen at J;omega
     have T:IntKind.i64.wrap ((q:Int)+1+1)=(q:Int)+1+1:=by rw[yf];unfold maxLen at J;omega
     have B:(0:Int)<(q:Int)+1:=by omega
     simp only[Nat.add_sub_cancel,L]at Df;by_cases s:(m:Int)<=l[q]
     .apply yS;(iterate 23 (refine Cd (by simp[t3,H]) ?_;simp[h0,t1,t3,w,AA,H,v,B,s]));(repeat(refine FJ rfl ?_ ?_;(·simp);simp));apply yJ;simp;apply AR;simp;apply yW;simp;apply Af;rw[E (by rw[Df];simp[s])];refine⟨_,a8 0 (by simp) (by simp) (by simp) (by simp),?_⟩;simp[Au,clean]
     ·(repeat apply xS);apply yT;(iterate 23 (refine Cd (by simp[t3,H]) ?_;simp[h0,t1,t3,w,AA,H,v,B,s]));(iterate 6 (refine Cd (by simp[t3,h1,Ad]) ?_;simp[t2,t3,h1,Ad]));refine i7 (G) rfl rfl (by simp[xN];try rfl) (yJ ?_);simp;cases u:kind g.Ae[m]with
      |false=>
       apply AR;simp;apply yW;simp;apply Af;rw[E (by rw[Df];simp[h1,u])];refine⟨_,a8 0 (by simp) (by simp) (by simp) (by simp),?_⟩;simp[Au,clean]
      |true=>
       apply AR;simp;apply CT;apply yV;simp[t11];refine⟨C,_,_,am,?_⟩;simp[t1,t2,t3,t9,t10,T];intro j hj;by_cases e:j=q+1
       .subst e;rw[Df];simp[h1,u,s]
       .exact M j (by omega)
   .have z:g.Ae.length<=m:=by omega
    apply yS;(iterate 10 (refine Cd (by simp[t3]) ?_;simp[h0,t3,z,AA]));(repeat(refine FJ rfl ?_ ?_;(·simp);simp));(iterate 2 (refine Cd (by simp) ?_;simp));(repeat(refine FJ rfl ?_ ?_;(·simp);simp));apply yJ;simp;apply AR;simp;apply yW;simp;apply Af;rw[E (by rw[Df];simp[h1])];refine⟨_,a8 0 (by simp) (by simp) (by simp) (by simp),?_⟩;simp[Au,clean]
 .have U:i=l.length:=by omega
  subst U;have W:(List.range l.length).all (FO g kind l)=true:=by
   rw[cl];intro j hj;exact M j (by simpa using hj)
  apply C7;apply yW;simp[t1];apply Af;refine⟨_,a8 0 (by simp) (by simp) (by simp) (by simp),?_⟩;simp[Au,clean,Gv,W]
def JP(g:AE)(f:Filter):Bool:=
 decide (0<=f.parent)&&decide (0<=f.child)&&decide (0<=f.at_)&&(match g.AD[f.parent.toNat]?,g.AD[f.child.toNat]? with
  |some p,some c=>(match p.right[f.at_.toNat]? with|some s=>decide (s=⟨false,c.left⟩)|none=>false)
  |_,_=>false)
theorem XX(g:AE)(f:Filter):Pure prog 231 [AA g,AM f] (.bool (JP g f)):=by
 refine zP func231 63 rfl λwf=>?_;apply yW;simp;(repeat apply xS);refine HA λK v=>?_;(repeat((refine Cd ?_ ?_);(focus(simp[AM,AA];try(first|omega|(simp +contextual[AM,AA];done)|grind);done));simp[AM,AA]));refine B6 (v _ _ ?_);(repeat apply xS);refine k6 (t:=decide (f.parent<0)||decide ((g.AD.length:Int)<=f.parent)||decide (f.child<0)||decide ((g.AD.length:Int)<=f.child)) ?_ (λhb=>?_) (λhb=>?_)
 .simp
 .have w:JP g f=false:=by
   simp at hb;unfold JP;rcases hb with((h|h)|h)|h
   .simp[show ¬0<=f.parent by omega]
   .by_cases h0:0<=f.parent
    .rw[np (by omega)];simp
    .simp[h0]
   .simp[show ¬0<=f.child by omega]
   .by_cases h0:0<=f.child
    .rw[np (i:=f.child.toNat) (by omega)];cases g.AD[f.parent.toNat]?<;>simp
    .simp[h0]
  apply yW;simp;refine Af ⟨_,_,am,?_⟩;simp[w]
 .simp at hb;obtain⟨⟨⟨p0,p1⟩,c0⟩,c1⟩:=hb;obtain⟨a,ha⟩:∃a:Nat,f.parent=a:=⟨f.parent.toNat,by omega⟩;obtain⟨c,m⟩:∃c:Nat,f.child=c:=⟨f.child.toNat,by omega⟩;have k:a<g.AD.length:=by omega
  have o:c<g.AD.length:=by omega
  have j:JP g f=(decide (0<=f.at_)&&(match g.AD[a].right[f.at_.toNat]? with|some s=>decide (s=⟨false,g.AD[c].left⟩)|none=>false)):=by
   unfold JP;simp[ha,m,k,o]
  apply xK;(repeat apply xS);apply yV;simp[ha,k,AH];generalize z:g.AD[a].right=r at *;by_cases h0:0<=f.at_
  .by_cases h1:f.at_<r.length
   .obtain⟨b,q⟩:∃b:Nat,f.at_=b:=⟨f.at_.toNat,by omega⟩;have u:b<r.length:=by omega
    (repeat apply xS);refine yE [0,2,4,6,8,10,12,14,16,18,20,22,24,26,28,30,32,34,36,38,40,42,44,46,48,50,52] (by kernel_rfl) ?_;simp;apply yA 0;simp[AH,q,u,m,o,AI];apply zT;rw[j,q];simp[u];cases r[b];rw[eg];simp[Cg,De]
   .have hn:r[f.at_.toNat]?=none:=np (by omega);(repeat apply xS);refine yE [0,2,4,6,8,10,12,14,16,18,20,22,24,26,28,30,32,34,36,38,40,42,44,46,48,50,52] (by kernel_rfl) ?_;simp;(iterate 11 (refine Hz (by simp) ?_;simp[h0,h1]));(repeat(refine Pv rfl rfl ?_ ?_;(·simp);simp));apply yA 0;simp;apply zT;rw[j,hn];simp
  ·(repeat apply xS);refine yE [0,2,4,6,8,10,12,14,16,18,20,22,24,26,28,30,32,34,36,38,40,42,44,46,48,50,52] (by kernel_rfl) ?_;simp;(iterate 4 (refine Hz (by simp) ?_;simp[h0]));(repeat(refine Pv rfl rfl ?_ ?_;(·simp);simp));(iterate 2 (refine Hz (by simp) ?_;simp));(repeat(refine Pv rfl rfl ?_ ?_;(·simp);simp));apply yA 0;simp;apply zT;rw[j];simp[h0]
def GN(g:AE)(i:Int)(q:Token->Bool):Bool:=decide (0<=i)&&(match g.Ae[i.toNat]? with|some t=>q t|none=>false)
noncomputable def Ee(g:AE)(f:Filter):Bool:=
 if f.kind=1\/f.kind=2 then C5 f.cond g.conds.length&&JP g f
 else if f.kind=3\/f.kind=4 then C5 f.cond g.conds.length&&decide (0<=f.left)&&decide (f.left<g.A2.length)&&Gv g Ki f.tokens
 else if f.kind=5 then C5 f.cond g.conds.length&&Gv g IK f.tokens&&GN g f.token (λt=>Ki t&&!IK t)
 else false
def Ed(f:Filter):Filter:=
 if f.kind=1\/f.kind=2 then {f with kind:=0,cond:=⟨[],0⟩,parent:=0,at_:=0,child:=0}
 else if f.kind=3\/f.kind=4 then {f with kind:=0,cond:=⟨[],0⟩,left:=0,tokens:=[]}
 else if f.kind=5 then {f with kind:=0,cond:=⟨[],0⟩,token:=0,tokens:=[]}
 else {f with kind:=0,cond:=⟨[],0⟩}
def Lg(f:Filter):Bool:=decide (f.parent=0)&&decide (f.at_=0)&&decide (f.child=0)&&decide (f.left=0)&&decide (f.token=0)&&decide (f.tokens=[])
noncomputable def D5(g:AE)(f:Filter):Bool:=Ee g f&&Lg (Ed f)
noncomputable def EA(g:AE):Bool:=g.AU.all (D5 g)
def SO(f:Filter):V:=if f.kind=3\/f.kind=4\/f.kind=5 then .full []else .d (A9 f.tokens)
def lA(f:Filter)(g:V):V:=.agg [.d (AF 0),.d (AF f.parent),.d (AF f.at_),.d (AF f.child),.d (AF f.left),.d (AF f.token),g,.full [],.d (AF 0)]
theorem OD(g:AE):Pure prog 193 [AA g] (AF (if EA g then 0 else 53)):=by
 refine eJ func193 rfl rfl (by simp) λwf=>?_;have L:g.AU.length<=al:=by simp[Bs,DZ,AA]at wf;omega
 rw[ntmps193];apply yW;simp;apply yW;simp;apply yW;simp;refine xS (yW ?_);simp[AA];apply Bx;refine zL g.AU.length (λi tm S=>tm 1=.ptr 0 1 0 0/\tm 3=.fn (.func 229) [] []/\tm 4=.fn (.func 230) [] []/\tm 10=.d (BX g.AU)/\tm 11=.d (.int .i64 g.AU.length)/\tm 12=.d (.int .i64 i)/\S=[.row true 9 [.d (AA g)]]/\(∀j (h:j<i) (h':j<g.AU.length),D5 g g.AU[j]=true)) (by simp[AA]) ?_;rintro i tm S hi ⟨t1,t3,t4,t10,t11,t12,rfl,B⟩;apply yW;simp[t11,t12];apply xC;simp;refine⟨λw=>?_,λvw=>?_⟩
 .have M:D5 g g.AU[i]=false->EA g=false:=λh=>by
   unfold EA;rw[acr];exact⟨_,b9 w,by simp[h]⟩
  generalize z:g.AU[i]=x at *;apply xK;apply xB;apply yW;simp[t10,t12,w,z];apply yS;(repeat((refine Cd ?_ ?_);(focus(simp[t1,AA];try(first|omega|(simp +contextual[AM,t1,AA];done)|grind);done));simp[t1,AA]));refine B9 (Lz x.cond g.conds.length) rfl (by simp[AB]) (yJ ?_);simp;apply yW;simp;apply yW;simp;refine k7 (R:=λtm S=>tm 1=.ptr 0 1 0 0/\tm 3=.fn (.func 229) [] []/\tm 4=.fn (.func 230) [] []/\tm 10=.d (BX g.AU)/\tm 11=.d (.int .i64 g.AU.length)/\tm 12=.d (.int .i64 i)/\tm 8=.ptr 2 1 0 0/\tm 7=.d (.bool (Ee g x))/\S=[.row true 9 [.d (AA g)],.row true 9 [.d (AM x)],.row true 9 [lA (Ed x) (SO x)]]) ?_ ?_
  .apply yW;simp[AM];apply Bx;by_cases m:x.kind=1
   .refine xS (yW ?_);simp;apply AR;simp[m];apply xK;apply AR;simp;apply yW;simp;apply yT;apply yJ;simp[t1,AA];refine wl (ds:=[AA g,AM x]) rfl rfl (by simp;rfl) (λ_=>XX g x) (by simp[m,xN]) ?_;simp;(repeat((refine Cd ?_ ?_);(focus(simp;try(first|omega|(simp +contextual;done)|grind);done));simp));apply B6;unfold HQ;simp[t1,t3,t4,t10,t11,t12,Ee,Ed,lA,SO,m]
   .by_cases C:x.kind=2
    .have m:=C;refine xS (yW ?_);simp;apply AR;simp[m];apply yV;simp;apply AR;simp;apply yW;simp;apply yT;apply yJ;simp[t1,AA];refine wl (ds:=[AA g,AM x]) rfl rfl (by simp;rfl) (λ_=>XX g x) (by simp[m,xN]) ?_;simp;(repeat((refine Cd ?_ ?_);(focus(simp;try(first|omega|(simp +contextual;done)|grind);done));simp));apply B6;unfold HQ;simp[t1,t3,t4,t10,t11,t12,Ee,Ed,lA,SO,m]
    .by_cases s:x.kind=3
     .have m:=s;refine xS (yW ?_);simp;apply AR;simp[m];apply yV;simp;apply AR;simp;refine xS (yW ?_);simp;apply AR;simp;apply xK;apply AR;simp;apply yW;simp;apply yT;(repeat((refine Cd ?_ ?_);(focus(simp[t1];try(first|omega|(simp +contextual[t1,AA,AM];done)|grind);done));simp[t1,AA]));refine AV.WJ rfl rfl (by simp[t3];rfl) (λ_=>JJ g x.tokens 229 Ki VI) (by simp +contextual[t3,AA];try rfl) ?_;simp[t3];(repeat((refine Cd ?_ ?_);(focus(simp;try(first|omega|(simp +contextual;done)|grind);done));simp));apply B6;unfold HQ;simp[t1,t3,t4,t10,t11,t12,Ee,Ed,lA,SO,m]
     .by_cases u:x.kind=4
      .have m:=u;refine xS (yW ?_);simp;apply AR;simp[m];apply yV;simp;apply AR;simp;refine xS (yW ?_);simp;apply AR;simp;apply yV;simp;apply AR;simp;apply yW;simp;apply yT;(repeat((refine Cd ?_ ?_);(focus(simp[t1];try(first|omega|(simp +contextual[t1,AA,AM];done)|grind);done));simp[t1,AA]));refine AV.WJ rfl rfl (by simp[t3];rfl) (λ_=>JJ g x.tokens 229 Ki VI) (by simp +contextual[t3,AA];try rfl) ?_;simp[t3];(repeat((refine Cd ?_ ?_);(focus(simp;try(first|omega|(simp +contextual;done)|grind);done));simp));apply B6;unfold HQ;simp[t1,t3,t4,t10,t11,t12,Ee,Ed,lA,SO,m]
      .by_cases v:x.kind=5
       .have m:=v;refine xS (yW ?_);simp;apply AR;simp[m];apply yV;simp;apply AR;simp;refine xS (yW ?_);simp;apply AR;simp;apply yV;simp;apply AR;simp;apply yW;simp;apply AR;simp;apply yW;simp;(repeat apply xS);apply yT;(repeat((refine Cd ?_ ?_);(focus(simp[t1];try(first|omega|(simp +contextual[t1,AA,AM,t4];done)|grind);done));simp[t1,AA,t4]));refine AV.WJ rfl rfl (by simp;rfl) (λ_=>JJ g x.tokens 230 IK eR) (by simp +contextual[AA];try rfl) ?_;simp;(repeat((refine Cd ?_ ?_);(focus(simp[t1];try(first|omega|(simp +contextual[t1,AA];done)|grind);done));simp[t1]));apply B6;generalize o:(C5 x.cond g.conds.length&&Gv g IK x.tokens&&decide (0<=x.token)&&decide (x.token<g.Ae.length))=N;cases N with
        |false=>
         have E:Ee g x=false:=by
          have:(C5 x.cond g.conds.length&&Gv g IK x.tokens&&GN g x.token λt=>Ki t&&!IK t)=false:=by
           simp only[ac6,y4]at o⊢;rcases o with((h|h)|h)|h
           .exact .inl (.inl h)
           .exact .inl (.inr h)
           .exact .inr (by simp[GN,h])
           .refine .inr ?_;unfold GN;by_cases h0:0<=x.token
            .rw[np (by omega)];simp
            .simp[h0]
          unfold Ee;simp[m,this]
         apply yT;(iterate 2 (refine Cd (by simp) ?_;simp));(repeat(refine FJ rfl ?_ ?_;(·simp);simp));(iterate 2 (refine Cd (by simp) ?_;simp));(repeat(refine FJ rfl ?_ ?_;(·simp);simp));apply yJ;simp;unfold HQ;simp[t1,t3,t4,t10,t11,t12,E,Ed,lA,SO,m]
        |true=>
         simp at o;obtain⟨⟨⟨F,G⟩,P⟩,Q⟩:=o;obtain⟨b,hb⟩:∃b:Nat,x.token=b:=⟨x.token.toNat,by omega⟩;have H:b<g.Ae.length:=by omega
         have E:Ee g x=(Ki g.Ae[b]&&!IK g.Ae[b]):=by
          unfold Ee GN;simp[m,F,G,hb,H]
         have T:=VI g.Ae[b];have U:=eR g.Ae[b];apply yT;apply yJ;simp[t1,t3,hb,H];refine i7 (T) rfl rfl (by simp[xN];try rfl) (yJ ?_);simp[t1,t4,H];refine wl (g:=Ki g.Ae[b]) (ds:=[Ad g.Ae[b]]) rfl rfl (by simp<;>rfl) (λ_=>U) (by simp[xN]) ?_;simp;(repeat((refine Cd ?_ ?_);(focus(simp;try(first|omega|(simp +contextual;done)|grind);done));simp));apply B6;unfold HQ;simp[t1,t3,t4,t10,t11,t12,E,Ed,lA,SO,m,hb]
       .refine xS (yW ?_);simp;apply AR;simp[m];apply yV;simp;apply AR;simp[C];refine xS (yW ?_);simp;apply AR;simp[s];apply yV;simp;apply AR;simp[u];apply yW;simp;apply AR;simp[v];apply yV;simp;unfold HQ;simp[t1,t3,t4,t10,t11,t12,Ee,Ed,lA,SO,m,C,s,u,v,AA]
  .rintro tm S ⟨t1,t3,t4,t10,t11,t12,t8,t7,rfl⟩;have W:(Ed x).tokens=if x.kind=3\/x.kind=4\/x.kind=5 then []else x.tokens:=by
    unfold Ed;by_cases k1:x.kind=1\/x.kind=2
    .have:¬(x.kind=3\/x.kind=4\/x.kind=5):=by omega
     simp[k1,this]
    .by_cases k2:x.kind=3\/x.kind=4
     .have:x.kind=3\/x.kind=4\/x.kind=5:=by omega
      simp[k1,k2,this]
     .by_cases k3:x.kind=5
      .simp[k3]
      .have:¬(x.kind=3\/x.kind=4\/x.kind=5):=by omega
       simp[k1,k2,k3]
   have A:Lg (Ed x)=(decide ((Ed x).parent=0)&&decide ((Ed x).at_=0)&&decide ((Ed x).child=0)&&decide ((Ed x).left=0)&&decide ((Ed x).token=0)&&decide ((Ed x).tokens=[])):=rfl;rw[W]at A;generalize q:Ed x=r at *;unfold lA SO;by_cases k3:x.kind=3\/x.kind=4\/x.kind=5
   .rw[ap k3]at A;simp[ap k3];apply yS;(repeat((refine Cd ?_ ?_);(focus(simp[t8];try(first|omega|(simp +contextual[t7,t8];done)|grind);done));simp[t7,t8]));apply B6;(repeat apply xS);refine k6 (t:=!(Ee g x&&Lg r)) ?_ (λhb=>?_) (λhb=>?_)
    .rw[A];simp;rw[eg];simp[or_assoc]
    .apply yW;simp;refine Af ⟨_,_,am,?_⟩;have:D5 g x=false:=by unfold D5;rw[q];simpa only[mp]using hb
     simp[M this]
    .have J:D5 g x=true:=by unfold D5;rw[q];simpa only[W1]using hb
     apply CT;apply yV;simp[t12];refine⟨w,_,_,ip 1 (by simp) (by simp) (by simp),?_⟩;simp[clean,t1,t3,t4,t10,t11,AL w L,AA];intro j hj K;by_cases e:j=i
     .subst e;rw[z];exact J
     .exact B j (by omega) K
   .rw[ao k3]at A;simp[ao k3];apply yS;(repeat((refine Cd ?_ ?_);(focus(simp[t8];try(first|omega|(simp +contextual[t7,t8];done)|grind);done));simp[t7,t8]));apply B6;(repeat apply xS);refine k6 (t:=!(Ee g x&&Lg r)) ?_ (λhb=>?_) (λhb=>?_)
    .rw[A];simp;have X:0<x.tokens.length↔¬x.tokens=[]:=by cases x.tokens<;>simp
     rw[eg];simp[or_assoc,X]
    .apply yW;simp;refine Af ⟨_,_,am,?_⟩;have:D5 g x=false:=by unfold D5;rw[q];simpa only[mp]using hb
     simp[M this]
    .have J:D5 g x=true:=by unfold D5;rw[q];simpa only[W1]using hb
     apply CT;apply yV;simp[t12];refine⟨w,_,_,ip 1 (by simp) (by simp) (by simp),?_⟩;simp[clean,t1,t3,t4,t10,t11,AL w L,AA];intro j hj K;by_cases e:j=i
     .subst e;rw[z];exact J
     .exact B j (by omega) K
 .have Y:i=g.AU.length:=by omega
  subst Y;have Z:EA g=true:=by
   unfold EA;rw[cl];intro x z;obtain⟨k,m,rfl⟩:=jp.1 z;exact B k m m
  apply C7;apply yW;simp;apply zT;simp[Z]
noncomputable def Dh(g:AE):List Int:=[if Fb g then 0 else 54,if Ex g then 0 else 51,if Ia g then 0 else 50,C6 g [⟨#[]⟩] g.AD,if ED g [] g.levels then 0 else 53,if EA g then 0 else 53]
def F7:List Int->Int
 |[]=>0
 |e::l=>if e=0 then F7 l else e
theorem N7:∀{l:List Int},F7 l=0->∀e∈l,e=0
 |[],_,_,h=>by simp at h
 |a::l,h,e,g=>by
  unfold F7 at h;split at h
  .rcases fi.1 g with rfl|g
   .assumption
   .exact N7 h e g
  .rename_i hn;exact absurd h hn
theorem O9:∀{l:List Int},(∀e∈l,e=0)->F7 l=0
 |[],_=>rfl
 |a::l,h=>by simp[F7,h a acY];exact O9 λe g=>h e (WP _ g)
theorem RJ:∀{l:List Int} {i:Nat} (hi:i<l.length),(∀j (h:j<i),l[j]'(by omega)=0)->l[i]≠0->F7 l=l[i]
 |a::l,0,_,_,h=>by simp at h;simp[F7,h]
 |a::l,i+1,hi,h0,h=>by
  have:a=0:=by simpa using h0 0 (by omega)
  simp[F7,this];exact RJ (by simpa using hi) (λj hj=>by simpa using h0 (j+1) (by omega)) (by simpa using h)
noncomputable def C2(g:AE):Int:=if C3 g then 2 else F7 (Dh g)
def rC:List V:=[.fn (.func 188) [] [],.fn (.func 189) [] [],.fn (.func 190) [] [],.fn (.func 191) [] [],.fn (.func 192) [] [],.fn (.func 193) [] []]
theorem pn(g:AE){i:Nat}(hi:i<6):∃(k:FuncId) (h:i<(Dh g).length),rC[i]?=some (.fn (.func k) [] [])/\Pure prog k [AA g] (AF (Dh g)[i]):=by
 match i,hi with
 |0,_=>exact⟨188,by simp[Dh],rfl,TD g⟩
 |1,_=>exact⟨189,by simp[Dh],rfl,PL g⟩
 |2,_=>exact⟨190,by simp[Dh],rfl,Tq g⟩
 |3,_=>exact⟨191,by simp[Dh],rfl,QN g⟩
 |4,_=>exact⟨192,by simp[Dh],rfl,Oe g⟩
 |5,_=>exact⟨193,by simp[Dh],rfl,OD g⟩
theorem YV(g:AE):Pure prog 140 [AA g] (AF (C2 g)):=by
 refine zP func140 23 rfl λwf=>?_;apply yW;simp;refine xS (yS ?_);apply yJ;simp[AA];refine B9 (gR g) rfl (by simp[AA]) (yJ ?_);simp;cases q:C3 g with
 |true=>
  apply AR;simp;apply yW;simp;refine Af ⟨_,_,am,?_⟩;simp[C2,q]
 |false=>
  apply AR;simp;apply xK;apply yS;((refine AV.Ii rfl ?_ ?_);(focus(simp[FD,al];done));simp);apply yJ;simp;refine xS (yW ?_);simp;apply Bx;refine zL 6 (λi tm S=>tm 1=.ptr 0 1 0 0/\tm 10=.row 1 6/\tm 11=.d (.int .i64 6)/\tm 12=.d (.int .i64 i)/\S=[.row true 9 [.d (AA g)],.row true 1 rC]/\(∀j (h:j<i) (G:j<(Dh g).length),(Dh g)[j]=0)) (by simp[AA,rC]) ?_;rintro i tm S hi ⟨t1,t10,t11,t12,rfl,t⟩;apply yW;simp[t11,t12];apply xC;simp;refine⟨λw=>?_,λH=>?_⟩
  .have m:i<6:=by omega
   obtain⟨k,z,u,A⟩:=pn g m;have Df:=RJ z (λj hj=>t j hj (by omega));generalize B:(Dh g)[i]=e at *;have v:rC.length=6:=rfl;have C:i<rC.length:=by rw[v];exact m
   have s:rC[i]=.fn (.func k) [] []:=by rw[ci C]at u;exact oi u
   apply xK;apply xB;apply yS;apply yJ;simp[t10,t12,m,w,v,s];apply yS;apply yJ;simp[t1,AA];refine B9 (A) rfl (by simp[AA]) (yJ ?_);simp;(repeat apply xS);apply yV;simp;by_cases o:e=0
   .apply AR;simp[o];apply CT;apply yV;simp[t12];refine⟨m,_,_,am,?_⟩;simp[t1,t10,t11];refine⟨AL m (by simp[al]),λj hj E=>?_⟩;by_cases F:j=i
    .subst F;rw[B];exact o
    .exact t j (by omega) E
   .apply AR;simp[o];apply yW;simp;refine Af ⟨_,_,am,?_⟩;simp[C2,q,Df o]
  .have m:i=6:=by omega
   subst m;have h0:F7 (Dh g)=0:=O9 λe o=>by
    obtain⟨j,hj,rfl⟩:=jp.1 o;exact t j (by simpa[Dh]using hj) hj
   apply C7;apply yW;simp;apply zT;simp[C2,q,h0]
theorem Ck{g:AE}(h:C2 g=0):C3 g=false/\Fb g=true/\Ex g=true/\Ia g=true/\C6 g [⟨#[]⟩] g.AD=0/\ED g [] g.levels=true/\EA g=true:=by
 unfold C2 at h;split at h
 .cases h
 .rename_i j;have i:=N7 h;have h1:=i (if Fb g then 0 else 54) (by simp[Dh]);have k:=i (if Ex g then 0 else 51) (by simp[Dh]);have m:=i (if Ia g then 0 else 50) (by simp[Dh]);have o:=i (C6 g [⟨#[]⟩] g.AD) (by simp[Dh]);have q:=i (if ED g [] g.levels then 0 else 53) (by simp[Dh]);have s:=i (if EA g then 0 else 53) (by simp[Dh]);refine⟨by simpa using j,?_,?_,?_,o,?_,?_⟩
  .cases h:Fb g<;>simp[h]at h1⊢
  .cases h:Ex g<;>simp[h]at k⊢
  .cases h:Ia g<;>simp[h]at m⊢
  .cases h:ED g [] g.levels<;>simp[h]at q⊢
  .cases h:EA g<;>simp[h]at s⊢
theorem XV{c:Nat}:∀{l:List AO},(∀p∈l,p.right.length<=c)->(l.map (·.right.length)).sum<=l.length * c
 |[],_=>by simp
 |p::l,h=>by
  have h1:=h p acY;have i:=XV λq g=>h q (WP _ g);simp[Nat.succ_mul];omega
theorem MQ{g:AE}(hn:g.conds.length<=12)(h:C2 g=0):qd g:=by
 obtain⟨h0,h1,k,w,q,z,A⟩:=Ck h;simp[C3,Ku]at h0;obtain⟨⟨⟨⟨⟨⟨l1,l2⟩,B⟩,C⟩,E⟩,F⟩,u⟩:=h0;have m:=EK q;refine⟨hn,?_,λt j=>?_,λp i=>?_,λp i s v j=>?_,by omega,?_⟩
 .simp[Fb]at h1;exact HR h1.1.2
 .simp[Ex]at k;have:=k.2 t j;simp[H2]at this;exact HR this.1.2
 .have:=(m p i).2;simp[F6]at this;exact HR this.1.1.1
 .have:=(m p i).1;simp[EG]at this;have:=this.2 s v;simp[F4,j]at this;refine⟨this.1,?_⟩;rcases pu s.index.toNat g.Ae.length with o|o
  .omega
  .rw[np o]at this;simp at this
 .have:=XV (c:=16) λp i=>(show p.right.length<=16 by have:=(u p i).1;omega);unfold Fits;have:g.AD.length * 16<=2000 * 16:=wT _ (by omega);omega
noncomputable def NY(g:AE):Int:=pE g (C2 g)
theorem SX(g:AE)(hn:g.conds.length<=12):BP prog 21 [.d (AA g)] [] (uV g (C2 g)):=Zx g (C2 g) (YV g) λh=>MQ hn h
theorem AG.LM{f:FuncId}{α:Type}{enc:α->D}{xs:List α}{wr:Bool}{sz:Nat}(h:AG prog f [.d (.sl (xs.map enc))] [] (.row 0 xs.length) [.row wr sz (xs.map λx=>.d (enc x))]):Pure prog f [.sl (xs.map enc)] (.sl (xs.map enc)):=by
 have g:AG prog f [.d (.sl (xs.map enc))] [] (.row 0 (xs.map enc).length) [.row wr sz ((xs.map enc).map .d)]:=by
  simpa[kw]using h
 exact g.kP
def JI(d:AN):Prop:=d.nodes.length<=2 ^ 30
theorem PI(d:AN)(h:JI d):Pure prog 100 [AB d] (AB d):=by
 have i:=(Rk d.nodes h).LM;refine eJ func100 (by kernel_rfl) rfl (by simp) λwf=>?_;rw[ntmps100];refine xW λK g=>?_;simp;apply g;(repeat refine xS ?_);refine xE [0,2,4,6,8,10,13] (by kernel_rfl) λK g=>?_;simp;refine xA 0 ?_;simp[AB];refine go (i) rfl (by simp) ?_;simp;refine xA 0 ?_;simp;refine xX 63 (by kernel_rfl) ?_;simp;refine xM (g _ _ ?_);(try simp only[xQ,reduceIte]);refine Af ⟨_,_,am,?_⟩;(try simp);simp[AB]
structure P6(g:AE):Prop where
 conds:g.conds.length<=2 ^ 30
 fam:JI g.fam
 A2:g.A2.length<=2 ^ 30
 Ae:g.Ae.length<=2 ^ 30/\∀t∈g.Ae,t.pattern.length<=2 ^ 30/\JI t.cond
 AD:g.AD.length<=2 ^ 30/\∀p∈g.AD,p.right.length<=2 ^ 30/\p.layout.length<=2 ^ 30/\JI p.cond
 levels:g.levels.length<=2 ^ 30/\∀l∈g.levels,l.AD.length<=2 ^ 30/\JI l.cond
 AU:g.AU.length<=2 ^ 30/\∀f∈g.AU,f.tokens.length<=2 ^ 30/\JI f.cond
theorem CO{S:Sg}:∀{l:List V} {ds:List D},Dw S l=some ds↔l.map (Ba S)=ds.map some
 |[],ds=>by cases ds<;>simp[Dw]
 |x::l,ds=>by
  simp only[Dw,eP];generalize Ba S x=o;cases g:Dw S l with
  |none=>
   constructor
   .intro h;cases o<;>cases h
   .intro h;cases ds with
    |nil=>cases h
    |cons d ds=>
     simp at h;rw[CO.2 h.2]at g;cases g
  |some i=>
   have j:=CO.1 g;cases o with
   |none=>
    constructor
    .intro h;cases h
    .intro h;cases ds with
     |nil=>cases h
     |cons d ds=>simp at h
   |some d0=>
    rw[j];constructor
    .intro h;cases h;rfl
    .intro h;cases ds with
     |nil=>cases h
     |cons d ds=>
      simp at h;rw[h.1,(List.map_inj_right (λ_ _ h=>oi h)).1 h.2]
theorem Lj{S:Sg}{l:List V}{ds:List D}{i:Nat}{v:V}{d:D}(h:Dw S l=some ds)(g:ds[i]?=some d)(k:Ba S v=some d):Dw S (l.set i v)=some ds:=by
 rw[CO]at h⊢;rw[eQ,h,k];apply acp;intro j;by_cases e:i=j
 .subst e;have hi:i<ds.length:=AZ g;rw[ci hi]at g;simp[hi,oi g]
 .simp[e]
def Q9(g:AE):Sg:=[.row true 9 [.d (AA g)],.row true 9 [.agg [.full [],.full [],.d (AF 0),.full [],.full [],.full [],.d (AF 0),.full [],.full []]],.row true 9 [.agg [.row 3 g.conds.length,.d (AY g.fam.nodes),.d (AF g.fam.root),.row 5 g.Ae.length,.row 4 g.A2.length,.row 6 g.AD.length,.d (AF g.start),.row 7 g.levels.length,.row 8 g.AU.length]],.row (!g.conds.isEmpty) 1 (g.conds.map λx=>.d (D.str x)),.row (!g.A2.isEmpty) 1 (g.A2.map λx=>.d (D.str x)),.row (!g.Ae.isEmpty) 7 (g.Ae.map λx=>.d (Ad x)),.row (!g.AD.isEmpty) 13 (g.AD.map λx=>.d (AH x)),.row (!g.levels.isEmpty) 4 (g.levels.map λx=>.d (Ak x)),.row (!g.AU.isEmpty) 9 (g.AU.map λx=>.d (AM x))]
def lV(g:AE):V:=.agg [.row 3 g.conds.length,.d (AY g.fam.nodes),.d (AF g.fam.root),.row 5 g.Ae.length,.row 4 g.A2.length,.row 6 g.AD.length,.d (AF g.start),.row 7 g.levels.length,.row 8 g.AU.length]
def Yz(g:AE):Sg:=[.row true 9 [.d (AA g)],.row true 9 [lV g],.row true 9 [lV g],.row (!g.conds.isEmpty) 1 (g.conds.map λx=>.d (D.str x)),.row (!g.A2.isEmpty) 1 (g.A2.map λx=>.d (D.str x)),.row (!g.Ae.isEmpty) 7 (g.Ae.map λx=>.d (Ad x)),.row (!g.AD.isEmpty) 13 (g.AD.map λx=>.d (AH x)),.row (!g.levels.isEmpty) 4 (g.levels.map λx=>.d (Ak x)),.row (!g.AU.isEmpty) 9 (g.AU.map λx=>.d (AM x))]
theorem Zb(g:AE)(s:P6 g):AG prog 23 [.d (AA g)] [] (lV g) (Yz g):=by
 have c1:=RS g.conds s.conds;have z:=RS g.A2 s.A2;have A:=Ym g.Ae s.Ae.1;have B:=Wh g.AD s.AD.1;have C:=Uz g.levels s.levels.1;have E:=Rs g.AU s.AU.1;have F:=PI g.fam s.fam;refine md func23 (by kernel_rfl) rfl (by simp) λwf _=>?_;rw[ntmps23];refine xW λK j=>?_;simp;apply j;refine xW λK j=>?_;simp[AA];apply j;refine xD [0,2,6,8,12,14,5,18,11,16,21,22,25,26,29] (by kernel_rfl) λK j=>?_;simp;refine xA 1 ?_;simp;refine ru (xT [0,0,0,0,1,0]) (c1) [] (by kernel_rfl) rfl (by simp[Ac];try rfl) ?_;simp;refine xA 1 ?_;simp;refine ru (xT [0,0,0,1,0,0]) (z) [] (by kernel_rfl) rfl (by simp[Ac];try rfl) ?_;simp;refine B5 (F) rfl (by simp[AB]) ?_;simp[AB];refine xA 1 ?_;simp;refine xX 35 (by kernel_rfl) ?_;simp[Ac,Al];refine xA 1 ?_;simp;refine xX 9 (by kernel_rfl) ?_;simp[Ac];refine xA 1 ?_;simp;refine xX 7 (by kernel_rfl) ?_;simp[Ac];refine xM (j _ _ ?_);refine xD [0,2,6,8,5,12,11,15,16,19] (by kernel_rfl) λK j=>?_;simp;refine xA 1 ?_;simp;refine ru (xT [0,0,1,0]) (A) [] (by kernel_rfl) rfl (by simp[Ac];try rfl) ?_;simp;refine xA 1 ?_;simp;refine ru (xT [0,1,0,0]) (B) [] (by kernel_rfl) rfl (by simp[Ac];try rfl) ?_;simp;refine xX 5 (by kernel_rfl) ?_;simp[Ac];refine xA 1 ?_;simp;refine xX 3 (by kernel_rfl) ?_;simp[Ac];refine xM (j _ _ ?_);refine xD [0,2,6,8,5,12,11,15,16,19] (by kernel_rfl) λK j=>?_;simp;refine xA 1 ?_;simp;refine ru (xT [0,0,1,0]) (C) [] (by kernel_rfl) rfl (by simp[Ac];try rfl) ?_;simp;refine xA 1 ?_;simp;refine ru (xT [0,1,0,0]) (E) [] (by kernel_rfl) rfl (by simp[Ac];try rfl) ?_;simp;refine xX 5 (by kernel_rfl) ?_;simp[Ac];refine xA 1 ?_;simp;refine xX 3 (by kernel_rfl) ?_;simp[Ac];refine xM (j _ _ ?_);refine k7 (R:=λtm S=>tm 2=.ptr 1 1 0 0/\tm 3=.ptr 2 1 0 0/\S=Q9 g) ?_ ?_
 .refine xW λK j=>?_;simp;apply j;refine Bx ?_;refine DV g.Ae.length (λi tm S=>tm 2=.ptr 1 1 0 0/\tm 3=.ptr 2 1 0 0/\tm 43=.d (.int .i64 g.Ae.length)/\tm 44=.d (.int .i64 i)/\S=Q9 g) (i0:=0) (cq _) (by simp[Q9,AA]) ?_;rintro i tm S hi ⟨t2,t3,t43,t44,rfl⟩;refine xW λK j=>?_;simp[t43,t44];apply j;refine xC ?_;simp;refine⟨λk=>?_,λw=>?_⟩
  .have q:g.Ae.isEmpty=false:=by cases h:g.Ae<;>simp[h]at k⊢
   obtain⟨G,H⟩:=s.Ae.2 _ (b9 k);generalize m:g.Ae[i]=x at *;have J:=(T9 x.pattern G).LM;have cS:=PI x.cond H;unfold Q9;refine xK ?_;refine xB ?_;refine xW λK j=>?_;simp[t44];apply j;(repeat refine xS ?_);refine xV λK j=>?_;simp[t3,k];refine j _ _ ?_;(try simp only[xQ,reduceIte]);have o:=Ad.eq_1 x;refine xE [0,2,4,6,8,10,12,14,16,18,20,22,24,26,29,30,32,35] (by kernel_rfl) λK j=>?_;simp;refine xA 1 ?_;simp[k,m,o];refine B5 (J) rfl (by simp[xN]) ?_;simp;refine xA 1 ?_;simp[k,m,o];refine B5 (cS) rfl (by simp[AB,xN]) ?_;simp[AB];refine xA 1 ?_;simp[k];refine xX 12173 (by kernel_rfl) ?_;simp[k,m,q,Ac,Al,o];refine xA 1 ?_;simp[k];refine xX 125 (by kernel_rfl) ?_;simp[k,Ac];refine xM (j _ _ ?_);refine xV λK j=>?_;simp[t44];apply j;refine⟨k,_,_,i5 5 rfl (Lj (Cy _ Ad g.Ae) (d:=Ad x) (by simp[k,m]) (by simp[o])),?_⟩;simp[t2,t3,t43,AL k (by have:=s.Ae.1;unfold al;omega:g.Ae.length<=al),q,kw]
  .have u:i=g.Ae.length:=by omega
   subst u;refine C7 ?_;(try simp only[C4,BW,reduceIte]);exact⟨t2,t3,trivial⟩
 .rintro tm S ⟨t2,t3,rfl⟩;refine k7 (R:=λtm S=>tm 2=.ptr 1 1 0 0/\tm 3=.ptr 2 1 0 0/\S=Q9 g) ?_ ?_
  .skip;refine xW λK j=>?_;simp[t3,Q9];apply j;refine Bx ?_;refine DV g.AD.length (λi tm S=>tm 2=.ptr 1 1 0 0/\tm 3=.ptr 2 1 0 0/\tm 70=.d (.int .i64 g.AD.length)/\tm 71=.d (.int .i64 i)/\S=Q9 g) (i0:=0) (cq _) (by simp[Q9,AA,t2,t3]) ?_;rintro i tm S hi ⟨t2,t3,tl,ti,rfl⟩;refine xW λK j=>?_;simp[tl,ti];apply j;refine xC ?_;simp;refine⟨λk=>?_,λw=>?_⟩
   .have q:g.AD.isEmpty=false:=by cases h:g.AD<;>simp[h]at k⊢
    have t:=s.AD.2 _ (b9 k);generalize m:g.AD[i]=x at *;have v:=(I9 x.right t.1).LM;have L:=(SI x.layout t.2.1).LM;have cS:=PI x.cond t.2.2;unfold Q9;refine xK ?_;refine xB ?_;refine xW λK j=>?_;simp[ti];apply j;(repeat refine xS ?_);refine xV λK j=>?_;simp[t3,k];refine j _ _ ?_;(try simp only[xQ,reduceIte]);have o:=AH.eq_1 x;refine xE [0,2,4,6,8,10,12,14,16,18,20,22,24,26,28,30,32,34,36,38,41,42,44,47,48,50,53] (by kernel_rfl) λK j=>?_;simp;refine xA 1 ?_;simp[k,m,o];refine B5 (v) rfl (by simp[xN]) ?_;simp;refine xA 1 ?_;simp[k,m,o];refine B5 (L) rfl (by simp[xN]) ?_;simp;refine xA 1 ?_;simp[k,m,o];refine B5 (cS) rfl (by simp[AB,xN]) ?_;simp[AB];refine xA 1 ?_;simp[k];refine xX 651661 (by kernel_rfl) ?_;simp[k,m,q,Ac,Al,o];refine xA 1 ?_;simp[k];refine xX 1477 (by kernel_rfl) ?_;simp[k,Ac];refine xA 1 ?_;simp[k];refine xX 125 (by kernel_rfl) ?_;simp[k,Ac];refine xM (j _ _ ?_);refine xV λK j=>?_;simp[ti];apply j;refine⟨k,_,_,i5 6 rfl (Lj (Cy _ AH g.AD) (d:=AH x) (by simp[k,m]) (by simp[o])),?_⟩;simp[t2,t3,tl,AL k (by have:=s.AD.1;unfold al;omega:g.AD.length<=al),q,kw]
   .have u:i=g.AD.length:=by omega
    subst u;refine C7 ?_;(try simp only[C4,BW,reduceIte]);exact⟨t2,t3,trivial⟩
  .rintro tm S ⟨t2,t3,rfl⟩;refine k7 (R:=λtm S=>tm 2=.ptr 1 1 0 0/\tm 3=.ptr 2 1 0 0/\S=Q9 g) ?_ ?_
   .skip;refine xW λK j=>?_;simp[t3,Q9];apply j;refine Bx ?_;refine DV g.levels.length (λi tm S=>tm 2=.ptr 1 1 0 0/\tm 3=.ptr 2 1 0 0/\tm 105=.d (.int .i64 g.levels.length)/\tm 106=.d (.int .i64 i)/\S=Q9 g) (i0:=0) (cq _) (by simp[Q9,AA,t2,t3]) ?_;rintro i tm S hi ⟨t2,t3,tl,ti,rfl⟩;refine xW λK j=>?_;simp[tl,ti];apply j;refine xC ?_;simp;refine⟨λk=>?_,λw=>?_⟩
    .have q:g.levels.isEmpty=false:=by cases h:g.levels<;>simp[h]at k⊢
     have t:=s.levels.2 _ (b9 k);generalize m:g.levels[i]=x at *;have v:=(Ra x.AD t.1).LM;have cS:=PI x.cond t.2;unfold Q9;refine xK ?_;refine xB ?_;refine xW λK j=>?_;simp[ti];apply j;(repeat refine xS ?_);refine xV λK j=>?_;simp[t3,k];refine j _ _ ?_;(try simp only[xQ,reduceIte]);have o:=Ak.eq_1 x;refine xE [0,2,4,6,8,10,12,14,16,18,20,22,24,26,29,30,32,35] (by kernel_rfl) λK j=>?_;simp;refine xA 1 ?_;simp[k,m,o];refine B5 (v) rfl (by simp[xN]) ?_;simp;refine xA 1 ?_;simp[k,m,o];refine B5 (cS) rfl (by simp[AB,xN]) ?_;simp[AB];refine xA 1 ?_;simp[k];refine xX 12173 (by kernel_rfl) ?_;simp[k,m,q,Ac,Al,o];refine xA 1 ?_;simp[k];refine xX 125 (by kernel_rfl) ?_;simp[k,Ac];refine xM (j _ _ ?_);refine xV λK j=>?_;simp[ti];apply j;refine⟨k,_,_,i5 7 rfl (Lj (Cy _ Ak g.levels) (d:=Ak x) (by simp[k,m]) (by simp[o])),?_⟩;simp[t2,t3,tl,AL k (by have:=s.levels.1;unfold al;omega:g.levels.length<=al),q,kw]
    .have u:i=g.levels.length:=by omega
     subst u;refine C7 ?_;(try simp only[C4,BW,reduceIte]);exact⟨t2,t3,trivial⟩
   .rintro tm S ⟨t2,t3,rfl⟩;refine k7 (R:=λtm S=>tm 2=.ptr 1 1 0 0/\tm 3=.ptr 2 1 0 0/\S=Q9 g) ?_ ?_
    .skip;refine xW λK j=>?_;simp[t3,Q9];apply j;refine Bx ?_;refine DV g.AU.length (λi tm S=>tm 2=.ptr 1 1 0 0/\tm 3=.ptr 2 1 0 0/\tm 132=.d (.int .i64 g.AU.length)/\tm 133=.d (.int .i64 i)/\S=Q9 g) (i0:=0) (cq _) (by simp[Q9,AA,t2,t3]) ?_;rintro i tm S hi ⟨t2,t3,tl,ti,rfl⟩;refine xW λK j=>?_;simp[tl,ti];apply j;refine xC ?_;simp;refine⟨λk=>?_,λw=>?_⟩
     .have q:g.AU.isEmpty=false:=by cases h:g.AU<;>simp[h]at k⊢
      have t:=s.AU.2 _ (b9 k);generalize m:g.AU[i]=x at *;have v:=(Ra x.tokens t.1).LM;have cS:=PI x.cond t.2;unfold Q9;refine xK ?_;refine xB ?_;refine xW λK j=>?_;simp[ti];apply j;(repeat refine xS ?_);refine xV λK j=>?_;simp[t3,k];refine j _ _ ?_;(try simp only[xQ,reduceIte]);have o:=AM.eq_1 x;refine xE [0,2,4,6,8,10,12,14,16,18,20,22,24,26,29,30,32,35] (by kernel_rfl) λK j=>?_;simp;refine xA 1 ?_;simp[k,m,o];refine B5 (v) rfl (by simp[xN]) ?_;simp;refine xA 1 ?_;simp[k,m,o];refine B5 (cS) rfl (by simp[AB,xN]) ?_;simp[AB];refine xA 1 ?_;simp[k];refine xX 12173 (by kernel_rfl) ?_;simp[k,m,q,Ac,Al,o];refine xA 1 ?_;simp[k];refine xX 125 (by kernel_rfl) ?_;simp[k,Ac];refine xM (j _ _ ?_);refine xV λK j=>?_;simp[ti];apply j;refine⟨k,_,_,i5 8 rfl (Lj (Cy _ AM g.AU) (d:=AM x) (by simp[k,m]) (by simp[o])),?_⟩;simp[t2,t3,tl,AL k (by have:=s.AU.1;unfold al;omega:g.AU.length<=al),q,kw]
     .have u:i=g.AU.length:=by omega
      subst u;refine C7 ?_;(try simp only[C4,BW,reduceIte]);exact⟨t2,t3,trivial⟩
    .rintro tm S ⟨t2,t3,rfl⟩;unfold Q9;refine xW λK j=>?_;simp[t2,t3];apply j;refine Af ?_;(try simp only[xQ,reduceIte]);refine⟨_,rc (by simp[Yz,lV]),?_⟩;simp[Au,t2,Yz,lV]
def hV(g:AE):V:=.agg [.row 0 g.conds.length,.d (AY g.fam.nodes),.d (AF g.fam.root),.row 1 g.Ae.length,.row 2 g.A2.length,.row 3 g.AD.length,.d (AF g.start),.d (Bp g.levels),.d (BX g.AU)]
def hS(g:AE):Sg:=[.row (!g.conds.isEmpty) 1 (g.conds.map λx=>.d (D.str x)),.row (!g.Ae.isEmpty) 7 (g.Ae.map λx=>.d (Ad x)),.row (!g.A2.isEmpty) 1 (g.A2.map λx=>.d (D.str x)),.row (!g.AD.isEmpty) 13 (g.AD.map λx=>.d (AH x))]
theorem UD(g:AE)(o:P6 g):AG prog 23 [.d (AA g)] [] (hV g) (hS g):=
 (Zb g o).ghost λtm h0=>by
  let j:Sg:=[.row true 9 [.d (AA g)],.row true 9 [lV g],.row true 9 [lV g],.row (!g.conds.isEmpty) 1 (g.conds.map λx=>.d (D.str x)),.row (!g.A2.isEmpty) 1 (g.A2.map λx=>.d (D.str x)),.row (!g.Ae.isEmpty) 7 (g.Ae.map λx=>.d (Ad x)),.row (!g.AD.isEmpty) 13 (g.AD.map λx=>.d (AH x)),.BY (g.levels.map Ak),.BY (g.AU.map AM)];have q:AJ prog 1 0 tm (Yz g) tm j:=
   (c9 7 (S:=Yz g) rfl (Cy _ Ak g.levels)).trans (c9 8 (S:=(Yz g).set 7 (.BY (g.levels.map Ak))) rfl (Cy _ AM g.AU))
  let k:V:=.agg [.row 3 g.conds.length,.d (AY g.fam.nodes),.d (AF g.fam.root),.row 5 g.Ae.length,.row 4 g.A2.length,.row 6 g.AD.length,.d (AF g.start),.d (Bp g.levels),.d (BX g.AU)];have s:AJ prog 1 0 tm j (FP tm 0 k) j:=AJ.uD 0 h0 rfl λi h t=>by
   match i,t with
   |0,_=>exact .inl rfl
   |1,_=>exact .inl rfl
   |2,_=>exact .inl rfl
   |3,_=>exact .inl rfl
   |4,_=>exact .inl rfl
   |5,_=>exact .inl rfl
   |6,_=>exact .inl rfl
   |7,_=>exact .inr ⟨.sl (g.levels.map Ak),by simp[j,Ba,CF],rfl⟩
   |8,_=>exact .inr ⟨.sl (g.AU.map AM),by simp[j,Ba,CF],rfl⟩
  have u:∀(ρ:Nat->Nat) {α:Type} (f:α->D) (l:List α),Cn ρ (l.map λx=>V.d (f x))=l.map λx=>V.d (f x):=λρ α f l=>by
   induction l with
   |nil=>rfl
   |cons x l v=>simp[Cn,v]
  let m:Sg:=hS g++[.row true 9 [.d (AA g)],.row true 9 [Bc (nameOf [4,5,6,0,2,1,3,7,8]) (lV g)],.row true 9 [Bc (nameOf [4,5,6,0,2,1,3,7,8]) (lV g)],.BY (g.levels.map Ak),.BY (g.AU.map AM)];have w:=AJ.perm (P:=prog) (n:=1) (b:=0) (tm:=FP tm 0 k) (S:=j) (S':=m) [4,5,6,0,2,1,3,7,8] (by decide) rfl rfl (by simp[j,m,hS,DK,u,Cn]) (λi h=>by omega) [3,5,4,6,0,1,2,7,8] rfl rfl;refine⟨_,(q.trans (s.trans w)).trans (a8 4 (S':=hS g) rfl (cq _) (by simp[m,hS]) (by simp[m,hS])),?_⟩;simp[clean,FP,k,hV,nameOf]
def T5(d:AN):Bool:=((d.nodes.length:Int)==0)&&(d.root==0)
theorem Sn(d:AN):Pure prog 109 [AB d] (.bool (T5 d)):=by
 refine zP func109 12 rfl λwf=>?_;apply yW;simp;(repeat apply xS);refine HA λK g=>?_;(repeat((refine Cd ?_ ?_);(focus(simp[AB];try(first|omega|(simp +contextual[AB];done)|grind);done));simp[AB]));refine B6 (g _ _ ?_);apply zT;simp[T5]
def sc(x:AX):Bool:=(x.number==0)&&(x.at_==0)&&(x.to==0)&&decide (x.name=⟨#[]⟩)&&!x.value&&T5 x.cond
def sL(x:AX):Bool:=((x.levels.length:Int)==0)&&((x.AU.length:Int)==0)&&((x.A4.length:Int)==0)
def rW(t:Token):Bool:=decide (t.name=⟨#[]⟩)&&(t.cls==0)&&decide (t.literal=⟨#[]⟩)&&((t.pattern.length:Int)==0)&&decide (t.Dk=⟨#[]⟩)&&T5 t.cond
def rG(p:AO):Bool:=decide (p.name=⟨#[]⟩)&&(p.left==0)&&((p.right.length:Int)==0)&&T5 p.cond&&!p.bracket&&(p.D6==0)&&((p.layout.length:Int)==0)&&decide (p.scope=⟨false,0,0,0,0⟩)
def Hd(x:AX):Bool:=sc x&&sL x&&rW x.token&&rG x.prod
theorem Ru(x:AX):Pure prog 24 [Ao x] (.bool (Hd x)):=by
 refine eJ func24 (by kernel_rfl) rfl (by simp) λwf=>?_;rw[ntmps24];have g:=Ao.eq_1 x;have k:=Ad.eq_1 x.token;have h:=AH.eq_1 x.prod;have i:Cg [D.bool x.prod.scope.opens,D.int .i64 x.prod.scope.declares,D.int .i64 x.prod.scope.kind,D.int .i64 x.prod.scope.FW,D.int .i64 x.prod.scope.allowed] [D.bool false,D.int .i64 0,D.int .i64 0,D.int .i64 0,D.int .i64 0]=decide (x.prod.scope=⟨false,0,0,0,0⟩):=by
  cases x.prod.scope;rw[eg];simp[Cg,De]
 apply yW;simp;refine AW.Ju (R:=λtm S=>tm 1=.ptr 0 1 0 0/\tm 3=.ptr 1 1 0 0/\tm 4=.ptr 2 1 0 0/\S=[.row true 31 [.d (Ao x)],.row true 7 [.agg (Ai (.d (Ad x.token)))],.row true 13 [.agg (Ai (.d (AH x.prod)))]]) ?_ ?_
 .refine AW.regionF (by kernel_rfl) λK j=>?_;change Bm _ _ _ _ _ _ 8 (Array.replicate 8 false) _ _;refine nu 0 rfl (by kernel_rfl) ?_ ?_;(focus(simp[g];done));simp;refine nu 1 rfl (by kernel_rfl) ?_ ?_;(focus(simp[g];done));simp[g];refine nu 2 rfl (by kernel_rfl) ?_ ?_;(focus(simp;done));simp;refine nu 3 rfl (by kernel_rfl) ?_ ?_;(focus(simp;done));simp;refine Bm.dG 4 5 [false,false,false,false] [false,false,false,false] (by kernel_rfl) rfl rfl (by kernel_rfl) (by kernel_rfl) ?_ ?_ ?_ ?_
  .simp[Ac]
  .simp[Ac]
  .simp;refine sn 5 [false,false,false,false] (by kernel_rfl) rfl (by kernel_rfl) ?_ ?_;(focus(simp[Ac];done));simp;refine sn 6 [false,false,true,true] (by kernel_rfl) rfl (by kernel_rfl) ?_ ?_;(focus(simp[Ac];done));simp;refine sn 7 [true,true] (by kernel_rfl) rfl (by kernel_rfl) ?_ ?_;(focus(simp[Ac];done));simp;refine aeB (by kernel_rfl) (j _ _ ⟨_,_,am,?_⟩);simp[g,k,h]
  .simp;refine sn 4 [false,false,false,false] (by kernel_rfl) rfl (by kernel_rfl) ?_ ?_;(focus(simp[Ac];done));simp;refine sn 6 [false,false,true,true] (by kernel_rfl) rfl (by kernel_rfl) ?_ ?_;(focus(simp[Ac];done));simp;refine sn 7 [true,true] (by kernel_rfl) rfl (by kernel_rfl) ?_ ?_;(focus(simp[Ac];done));simp;refine aeB (by kernel_rfl) (j _ _ ⟨_,_,AJ.perm (S':=[.row true 31 [.d (Ao x)],.row true 7 [.agg (Ai (.d (Ad x.token)))],.row true 13 [.agg (Ai (.d (AH x.prod)))]]) [0,2,1] (by decide) (by simp) (by simp) ?_ (by simp) [0,2,1] (by simp;decide) (by simp),?_⟩)
   .simp[g,k,h]
   .simp
 .rintro tm S ⟨t1,t3,t4,rfl⟩;apply yS;(repeat((refine Cd ?_ ?_);(focus(simp[t1,g];try(first|omega|(simp +contextual[t1,g];done)|grind);done));simp[t1,g]));refine wl (ds:=[AB x.cond]) rfl rfl (by simp;rfl) (λ_=>Sn x.cond) (by simp[xN]) ?_;simp;(repeat((refine Cd ?_ ?_);(focus(simp;try(first|omega|(simp +contextual;done)|grind);done));simp));apply B6;(repeat refine xS ?_);refine HA λK j=>?_;(repeat((refine Cd ?_ ?_);(focus(simp[t1];try(first|omega|(simp +contextual[t1,g];done)|grind);done));simp[t1]));refine B6 (j _ _ ?_);(try simp only[yQ,reduceIte]);apply yS;(repeat((refine Cd ?_ ?_);(focus(simp[t3];try(first|omega|(simp +contextual[t3];done)|grind);done));simp[t3]));refine wl (ds:=[AB x.token.cond]) rfl rfl (by simp;rfl) (λ_=>Sn x.token.cond) (by simp[xN]) ?_;simp;(repeat((refine Cd ?_ ?_);(focus(simp;try(first|omega|(simp +contextual;done)|grind);done));simp));apply B6;apply yS;(repeat((refine Cd ?_ ?_);(focus(simp[t4];try(first|omega|(simp +contextual[t4];done)|grind);done));simp[t4]));refine wl (ds:=[AB x.prod.cond]) rfl rfl (by simp;rfl) (λ_=>Sn x.prod.cond) (by simp[xN]) ?_;simp;(repeat((refine Cd ?_ ?_);(focus(simp[t4];try(first|omega|(simp +contextual[t4,i];done)|grind);done));simp[t4,i]));apply B6;(repeat refine xS ?_);refine HA λK j=>?_;(repeat((refine Cd ?_ ?_);(focus(simp;try(first|omega|(simp +contextual;done)|grind);done));simp));refine B6 (j _ _ ?_);(try simp only[yQ,reduceIte]);refine Af ⟨_,_,am,?_⟩;simp[Hd,sc,sL,rW,rG,adq]
def Qf:Token:=⟨⟨#[]⟩,0,⟨#[]⟩,[],⟨#[]⟩,⟨[],0⟩⟩
def Ni:AO:=⟨⟨#[]⟩,0,[],⟨[],0⟩,false,0,[],⟨false,0,0,0,0⟩⟩
theorem He:ByteArray.empty=⟨#[]⟩:=rfl
def qp(x:AX):Sg:=[.row true 31 [.d (Ao x)]]
def sk(f:FuncId)(c:AX->AX):Prop:=∀x,AG prog f [.ptr 0 1 0 0] (qp x) (.Cb []) (qp (c x))
theorem fY:sk 62 (λx=>{x with number:=0,at_:=0,to:=0,name:=⟨#[]⟩}):=λx=>by
 have g:=Ao.eq_1 x;unfold qp;refine zC func62 14 rfl λwf _=>?_;apply yT;apply yJ;simp[g];refine⟨_,i5 0 (xs:=[Ao {x with number:=0,at_:=0,to:=0,name:=⟨#[]⟩}]) rfl (by simp[Dw,Ao]),?_⟩;simp[Au]
theorem iQ:sk 81 (λx=>{x with number:=0,at_:=0}):=λx=>by
 have g:=Ao.eq_1 x;unfold qp;refine zC func81 8 rfl λwf _=>?_;apply yT;apply yJ;simp[g];refine⟨_,i5 0 (xs:=[Ao {x with number:=0,at_:=0}]) rfl (by simp[Dw,Ao]),?_⟩;simp[Au]
theorem dw:sk 87 (λx=>{x with number:=0,at_:=0,name:=⟨#[]⟩}):=λx=>by
 have g:=Ao.eq_1 x;unfold qp;refine zC func87 11 rfl λwf _=>?_;apply yT;apply yJ;simp[g];refine⟨_,i5 0 (xs:=[Ao {x with number:=0,at_:=0,name:=⟨#[]⟩}]) rfl (by simp[Dw,Ao]),?_⟩;simp[Au]
end Go.Koi
