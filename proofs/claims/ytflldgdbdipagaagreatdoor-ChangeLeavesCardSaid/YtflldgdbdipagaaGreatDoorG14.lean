/-
  Part 15 of the proof that the law ChangeLeaves returns true for every input.
-/
import Derived.Test.YtflldgdbdipagaaGreatDoorG13
set_option maxHeartbeats 64000000
set_option maxRecDepth 100000
open List renaming length->Z
open Go.IntKind renaming wrap->bv
open Bool renaming true->J,false->am
open Go renaming maxLen->ao
open ByteArray renaming empty->gs
namespace Go.Koi
open Go.Proofs Tryz DT
section
variable (g:AD) (pr:Nat->Bool) (H:Nat->Int) (left:Nat)
def Wt(p:Nat):Bool:=decide (C9 g p=left)&&decide (GO g pr H p<1000)
def Te(i:Nat):List Nat:=(List.range i).filter (Wt g pr H left)
def Xz:Nat->Int
 |0=>-1
 |i+1=>if Wt g pr H left i=J/\GO g pr H i=H left/\Xz i<0 then(i:Int)else Xz i
theorem kH(i:Nat):Te g pr H left (i+1)=Te g pr H left i++if Wt g pr H left i then [i]else []:=by
 unfold Te;rw[acw,ab4];cases h:Wt g pr H left i<;>simp[h]
theorem oo(i:Nat):Z (Te g pr H left i)<=i:=by
 have:=ack (Wt g pr H left) (List.range i);simpa[Te]using this
theorem qw(i:Nat):(Xz g pr H left i= -1/\∀p,p<i->¬(Wt g pr H left p=J/\GO g pr H p=H left))\/∃p:Nat,p<i/\Xz g pr H left i=p/\Wt g pr H left p=J/\GO g pr H p=H left:=by
 induction i with
 |zero=>exact .inl ⟨rfl,λp k=>by omega⟩
 |succ i m=>
  unfold Xz;rcases m with⟨h1,j⟩|⟨p,h1,j,o⟩
  .by_cases c:Wt g pr H left i=J/\GO g pr H i=H left
   .rw[b8 ⟨c.1,c.2,by omega⟩];exact .inr ⟨i,by omega,rfl,c⟩
   .rw[a9 (λh=>c ⟨h.1,h.2.1⟩)];refine .inl ⟨h1,λp k=>?_⟩;by_cases e:p=i
    .subst e;exact c
    .exact j p (by omega)
  .rw[a9 (by omega)];exact .inr ⟨p,by omega,j,o⟩
end
structure ZO(g:AD)(c:Nat)(l:List Int)(hi:List Int):Prop where
 HL:B4 g=0
 nw:Z g.conds<=12
 yX:c<2 ^ 64
 w8:Z l<=40
 l8:∀k∈l,0<=k/\k<256
 eq:hi=Mh g (Bg g c)
 n3:Z g.Ay<=3
 r5:∀q∈g.AE,Z q.right<=5
def Fg(hi:List Int):Nat->Int:=λn=>hi.getD n 0
theorem ZO.len{g:AD}{c:Nat}{l hi:List Int}(h:ZO g c l hi):Z hi=Z g.Ay:=by rw[h.eq];exact Gj _ _ _
theorem ZO.yj{g:AD}{c:Nat}{l hi:List Int}(h:ZO g c l hi):∀y∈hi,y<=1000:=by rw[h.eq];exact KP _ _ _
noncomputable def wF(g:AD)(c:Nat)(l hi:List Int)(left a m:Nat):Int×Nat:=
 if Z l<=a\/40<m then(Xz g (Bg g c) (Fg hi) left (Z g.AE),a)
 else(((Te g (Bg g c) (Fg hi) left (Z g.AE)).getD (Kb l a (Z (Te g (Bg g c) (Fg hi) left (Z g.AE)))).toNat 0:Nat),Me l a (Z (Te g (Bg g c) (Fg hi) left (Z g.AE))))
theorem XS{g:AD}{c:Nat}{l hi:List Int}(G:ZO g c l hi)(left:Nat)(m:left<Z g.Ay)(a:Nat)(w:Bool)(ns:List A1)(hpos:1<=Z (Te g (Bg g c) (Fg hi) left (Z g.AE))):
  AH prog 147 [.ptr 0 1 0 0,.d (AF left)] (H8 g c l a hi w ns) (.d (AF (wF g c l hi left a (Z ns)).1)) (H8 g c l (wF g c l hi left a (Z ns)).2 hi w ns):=by
 have hP:Z g.AE<=2000:=by have:=(Bt G.HL).1;simp[Cz]at this;omega
 have N:Z g.AE<=ao:=by unfold ao;omega
 have b3:1<=ao:=by simp[ao]
 have P:=λp hp=>bA g G.HL G.nw c G.yX p hp hi G.len G.yj;have Q:=λn=>Sr g c l G.w8 G.l8 a hi w ns n;have hH:(λn=>hi.getD n 0)=Fg hi:=rfl;simp only[hH]at P;have s:=G.len;have v:left<Z hi:=by omega
 have Y:Fg hi left=hi[left]:=by simp[Fg,List.getD,v]
 unfold wF;refine AH.F8 func147 (by kernel_rfl) rfl (by simp) λwf _=>?_;rw[ntmps147];unfold H8 Ol at Q⊢;refine xW λK k=>?_;simp;apply k;refine xW λK k=>?_;simp;apply k;refine io (tv 5 1 (xs:=[]) (by simp)) ?_;refine xW λK k=>?_;simp;apply k;refine nt (R:=λtm S=>tm 0=.ptr 0 1 0 0/\tm 1=.d (AF left)/\tm 5=.row 2 (Z (Te g (Bg g c) (Fg hi) left (Z g.AE)))/\tm 6=.d (AF (Xz g (Bg g c) (Fg hi) left (Z g.AE)))/\∃H,S=H8 g c l a hi w ns++[.row H 1 ((Te g (Bg g c) (Fg hi) left (Z g.AE)).map λ(x:Nat)=>.d (AF x))]) ?_ ?_
 .refine xW λK k=>?_;simp;apply k;refine Bp ?_;refine FH (Z g.AE) (λi tm S=>tm 0=.ptr 0 1 0 0/\tm 1=.d (AF left)/\tm 5=.row 2 (Z (Te g (Bg g c) (Fg hi) left i))/\tm 6=.d (AF (Xz g (Bg g c) (Fg hi) left i))/\tm 7=.d (AF i)/\∃H,S=H8 g c l a hi w ns++[.row H 1 ((Te g (Bg g c) (Fg hi) left i).map λ(x:Nat)=>.d (AF x))]) (i0:=0) (ed _) (by simp[Te,Xz,H8,Ol]) ?_;rintro i tm S hiN ⟨t0,t1,t5,t6,t7,H,rfl⟩;unfold H8 Ol;refine xS (xW λK k=>?_);simp[t0,t7];apply k;refine AQ ?_;simp;refine⟨λt=>?_,λzf=>?_⟩
  .have u:=kH g (Bg g c) (Fg hi) left i;have o:Xz g (Bg g c) (Fg hi) left (i+1)=if Wt g (Bg g c) (Fg hi) left i=J/\GO g (Bg g c) (Fg hi) i=Fg hi left/\Xz g (Bg g c) (Fg hi) left i<0 then(i:Int)else Xz g (Bg g c) (Fg hi) left i:=rfl;have hql:=oo g (Bg g c) (Fg hi) left i;have hh:=P i t;obtain⟨q,E⟩:=ce (g.AE[i]);have hqm:q∈g.AE:=E▸cF t;have L:=AG.eq_1 q;have T:(C9 g i=left)↔q.left=(left:Int):=by
    have:=JW G.HL hqm;unfold C9;rw[dl t,E];show q.left.toNat=left↔_
    omega
   have hiq:Wt g (Bg g c) (Fg hi) left i=(decide (q.left=(left:Int))&&decide (GO g (Bg g c) (Fg hi) i<1000)):=by unfold Wt;rw[decide_eq_decide.2 T]
   rw[hiq]at u o;generalize GO g (Bg g c) (Fg hi) i=X at *;rw[Y]at o;generalize Te g (Bg g c) (Fg hi) left i=A at *;generalize Xz g (Bg g c) (Fg hi) left i=B at *;have b1:Z A+1<=2 ^ 30:=by omega
   refine xK ?_;refine xB ?_;(repeat refine xS ?_);refine xE (A3 15 []) (by kernel_rfl) λK k=>?_;simp;refine xA 1 ?_;simp[t0,t7];refine Bs (hh) rfl (by simp[xN]) ?_;simp;refine xA 1 ?_;simp;refine xM (k _ _ ?_);(try simp only[xQ,reduceIte]);by_cases c1:q.left=(left:Int)
   .by_cases c2:X<1000
    .have F:¬(1000:Int)<=X:=by omega
     rw[b8 (by simp[c1,c2])]at u;refine xS (Gb λK k=>?_);refine xH ?_;simp[t0,t1,t7,t,E,L,c1,F];refine CO (k _ _ ?_);(try simp only[xQ,reduceIte]);refine AQ ?_;simp;refine xK ?_;(repeat refine xS ?_);refine xV λK k=>?_;simp[t5,t7,b1,b3,Ac];refine k _ _ ?_;(try simp only[xQ,reduceIte]);by_cases z:X=hi[left]
     .by_cases M:B<0
      .rw[b8 ⟨by simp[c1,c2],z,M⟩]at o;refine Gb λK k=>?_;refine xH ?_;simp[t0,t1,t6,m,s,z,M];refine CO (k _ _ ?_);refine AQ ?_;simp;refine xV λK k=>?_;simp[t7];apply k;refine xV λK k=>?_;simp[t7];apply k;refine⟨t,_,_,ap,?_⟩;simp[t0,t1,AL t N,u,o]
      .rw[a9 (λh=>M h.2.2)]at o;refine Gb λK k=>?_;refine xH ?_;simp[t0,t1,t6,m,s,z,M];refine CO (k _ _ ?_);refine AQ ?_;simp;refine B8 ?_;refine xV λK k=>?_;simp[t7];apply k;refine⟨t,_,_,ap,?_⟩;simp[t0,t1,t6,AL t N,u,o]
     .rw[a9 (λh=>z h.2.1)]at o;(repeat refine xS ?_);refine H9 λK k=>?_;(repeat((first|refine FD rfl ?_ ?_;(·simp[z])|refine Ov rfl ?_ ?_;(·simp[t0,t1,t6,t7,v,m,s,z])|refine Cg ?_ ?_;(·simp[m,s,z]));simp[t0,t1,m,s]));refine CO (k _ _ ?_);(try simp only[C8]);refine AQ ?_;simp;refine B8 ?_;refine xV λK k=>?_;simp[t7];apply k;refine⟨t,_,_,ap,?_⟩;simp[t0,t1,t6,AL t N,u,o]
    .have F:(1000:Int)<=X:=by omega
     rw[a9 (by simp[c2])]at u;rw[a9 (by simp[c2])]at o;refine xS (Gb λK k=>?_);refine xH ?_;simp[t0,t1,t7,t,E,L,c1,F];refine CO (k _ _ ?_);(try simp only[xQ,reduceIte]);refine AQ ?_;simp;refine Co ?_;refine xV λK k=>?_;simp[t7];apply k;refine⟨t,_,_,ap,?_⟩;simp[t0,t1,t5,t6,AL t N,u,o]
   .rw[a9 (by simp[c1])]at u;rw[a9 (by simp[c1])]at o;refine xS (Gb λK k=>?_);(repeat((first|refine FD rfl ?_ ?_;(·simp[c1])|refine Ov rfl ?_ ?_;(·simp[t0,t1,t7,AA,t,E,L,c1])|refine Cg ?_ ?_;(·simp[t,E,L,c1]));simp[t0,t1,t7,t,E,L]));refine CO (k _ _ ?_);(try simp only[C8,Bh,reduceIte]);refine AQ ?_;simp[c1];refine Co ?_;refine xV λK k=>?_;simp[t7];apply k;refine⟨t,_,_,ap,?_⟩;simp[t0,t1,t5,t6,AL t N,u,o]
  .have e:i=Z g.AE:=by omega
   subst e;refine Co ?_;refine⟨t0,t1,t5,t6,?_⟩;first|rfl|(cases H<;>simp)
 .rintro tm S ⟨t0,t1,t5,t6,H,rfl⟩;unfold H8 Ol;generalize Te g (Bg g c) (Fg hi) left (Z g.AE)=A at *;generalize Xz g (Bg g c) (Fg hi) left (Z g.AE)=B at *;by_cases d1:Z l<=a
  .rw[b8 (.inl d1)];refine xS ?_;refine xD (A3 18 []) (by kernel_rfl) λK k=>?_;simp;refine xZ ?_;simp[t0,d1];refine xM (k _ _ ?_);(try simp only[]);refine AQ ?_;simp;(repeat refine xS ?_);refine xV λK k=>?_;simp[t6];refine k _ _ ?_;(try simp only[xQ,reduceIte]);(refine Am ?_;(try simp only[xQ,reduceIte]);refine⟨_,_,_,ap,by simp,by simp,k6 2 (by simp)⟩)
  .by_cases d2:40<Z ns
   .rw[b8 (.inr d2)];have C:(40:Int)<Z ns:=by omega
    refine xS ?_;refine xD (A3 18 []) (by kernel_rfl) λK k=>?_;simp;refine xZ ?_;simp[t0,d1,C];refine xM (k _ _ ?_);(try simp only[]);refine AQ ?_;simp;(repeat refine xS ?_);refine xV λK k=>?_;simp[t6];refine k _ _ ?_;(try simp only[xQ,reduceIte]);(refine Am ?_;(try simp only[xQ,reduceIte]);refine⟨_,_,_,ap,by simp,by simp,k6 2 (by simp)⟩)
   .rw[a9 (by omega)];have C:¬(40:Int)<Z ns:=by omega
    have hng:=JD G.l8 (a:=a) (n:=Z A) (by omega);have U:=Q (Z A);obtain⟨j,hj⟩:∃j:Nat,Kb l a (Z A)=j:=⟨(Kb l a (Z A)).toNat,by omega⟩;have W:j<Z A:=by omega
    rw[hj]at U⊢;have hAj:A.getD (j:Int).toNat 0=A[j]:=by simp[List.getD,W]
    rw[hAj];refine xS ?_;refine xD (A3 18 []) (by kernel_rfl) λK k=>?_;simp;refine xZ ?_;simp[t0,d1,C];refine xM (k _ _ ?_);(try simp only[]);refine AQ ?_;simp;refine xK ?_;(repeat refine xS ?_);refine H9 λK k=>?_;refine xJ ?_;simp[t0,t5];refine xF (U) [0,1] rfl ?_;simp;refine xJ ?_;simp[W];refine CO (k _ _ ?_);(try simp only[xQ,reduceIte]);(refine Am ?_;(try simp only[xQ,reduceIte]);refine⟨_,_,_,ap,by simp,by simp,k6 2 (by simp)⟩)
theorem Zj{g:AD}{c:Nat}{l hi:List Int}(G:ZO g c l hi)(left:Nat)(i:left<Z g.Ay)(m:Fg hi left<1000)(a:Nat)(ha:a<=Z l)(w:Bool)(ns:List A1):
  ∃(p v:Nat),p<Z g.AE/\C9 g p=left/\GO g (Bg g c) (Fg hi) p<1000/\a<=v/\v<=Z l/\(a<v\/(GO g (Bg g c) (Fg hi) p=Fg hi left))/\AH prog 147 [.ptr 0 1 0 0,.d (AF left)] (H8 g c l a hi w ns) (.d (AF p)) (H8 g c l v hi w ns):=by
 obtain⟨k1,k2⟩:=gd g (Bg g c) (sd g G.HL);rw[<-G.eq]at k1 k2;obtain⟨_,p0,s,B,C⟩:=k2 left i m;have o:GO g (Bg g c) (Fg hi) p0=Fg hi left:=C;have q:Wt g (Bg g c) (Fg hi) left p0=true:=by
  unfold Wt;rw[B,o];simp[m]
 have M:p0∈Te g (Bg g c) (Fg hi) left (Z g.AE):=tg.2 ⟨by simpa using s,q⟩;have t:1<=Z (Te g (Bg g c) (Fg hi) left (Z g.AE)):=aca M;have k:=XS G left i a w ns t;have z:∀p,Wt g (Bg g c) (Fg hi) left p=J->C9 g p=left/\GO g (Bg g c) (Fg hi) p<1000:=λp h=>by
  simpa[Wt]using h
 unfold wF at k;by_cases d:Z l<=a\/40<Z ns
 .rw[b8 d]at k;rcases qw g (Bg g c) (Fg hi) left (Z g.AE) with⟨_,E⟩|⟨p,h1,E,K,N⟩
  .exact absurd ⟨q,o⟩ (E p0 s)
  .rw[E]at k;exact⟨p,a,h1,(z p K).1,(z p K).2,ci _,ha,.inr N,k⟩
 .rw[a9 d]at k;generalize P:Te g (Bg g c) (Fg hi) left (Z g.AE)=A at *;have Q:=JD G.l8 (a:=a) (n:=Z A) (by omega);obtain⟨j,hj⟩:∃j:Nat,Kb l a (Z A)=j:=⟨(Kb l a (Z A)).toNat,by omega⟩;have u:j<Z A:=by omega
  rw[hj]at k;have F:A.getD (j:Int).toNat 0=A[j]:=by simp[List.getD,u]
  rw[F]at k;have L:A[j]∈A:=cF u;generalize A[j]=x at *;rw[<-P]at L;obtain⟨R,m2⟩:=tg.1 L;have H:Me l a (Z A)=a+1:=by unfold Me;rw[a9 (by omega)]
  rw[H]at k;exact⟨x,a+1,by simpa using R,(z _ m2).1,(z _ m2).2,by omega,by omega,.inl (by omega),k⟩
def Vw(hi:List Int)(s:Symbol):Nat:=if s.token then 0 else(Fg hi s.index.toNat).toNat
def wP(g:AD)(hi:List Int)(s:Symbol):Prop:=if s.token then 0<=s.index/\s.index<Z g.AU else 0<=s.index/\s.index<Z g.Ay/\Fg hi s.index.toNat<1000
def wU:List ByteArray:=[⟨#[120]⟩,⟨#[121]⟩,⟨#[97,98]⟩,⟨#[105,102]⟩,⟨#[122]⟩,⟨#[101,108,115,101]⟩]
theorem Tk{g:AD}{c:Nat}{l:List Int}(h:∀k∈l,0<=k/\k<256){a:Nat}(ha:a<=Z l):Z (Rg g c l a).2<=12:=by
 have h1:=JD h (a:=a) (n:=12) (by omega);have i:=(TA g c l ha (Kb l a 12 - 9).toNat).2.2;show Z (Jo g c l a (Kb l a 12 - 9).toNat).2<=12
 omega
theorem Sm{g:AD}{c:Nat}{l:List Int}(i:∀k∈l,0<=k/\k<256)(a:Nat):∀s∈(Rg g c l a).2,s∈T9/\Mj g c s=true:=λs h=>⟨pG g c i a _ s h,mr g c l a _ s h⟩
def rv(t:Token)(s:ByteArray):Prop:=(s=t.literal/\t.literal≠⟨#[]⟩)\/(t.literal=⟨#[]⟩/\s∈wU)\/(t.literal=⟨#[]⟩/\s=t.Cy)
def Vy(g:AD)(c:Nat)(n:A1):Prop:=Z n.rem<=12/\(∀s∈n.rem,s∈T9/\Mj g c s=J)/\(n.prod<0->∃t,g.AU[n.token.toNat]?=some t/\rv t n.text)/\∀p:Nat,n.prod=p->Bg g c p=J
theorem Vy.leaf{g:AD}{c k:Nat}{t:Token}{i:ByteArray}{rem:List ByteArray}(j:g.AU[k]?=some t)(h:rv t i)(h1:Z rem<=12)(m:∀s∈rem,s∈T9/\Mj g c s=J):Vy g c ⟨-1,k,i,rem⟩:=
 ⟨h1,m,λ_=>⟨t,by simpa using j,h⟩,λp o=>by have:(-1:Int)=p:=o;omega⟩
theorem Vy.xr{g:AD}{c p:Nat}(h:Bg g c p=J):Vy g c (ES p):=
 ⟨ed _,λs i=>absurd i (by simp[ES]),λh=>absurd h (by simp[ES]),λq j=>(by
  have h1:(p:Int)=q:=j;have k:q=p:=by omega
  rw[k];exact h)⟩
theorem pA{g:AD}{c p:Nat}{f:Nat->Int}(h:GO g (Bg g c) f p<1000):Bg g c p=true:=by
 unfold GO at h;split at h
 .assumption
 .omega
theorem ZW{g:AD}{c:Nat}{l hi:List Int}(G:ZO g c l hi)(k:Nat)(s:k<Z g.AU)(a:Nat)(ha:a<=Z l)(w:Bool)(ns:List A1)(A:Z ns+1<=2 ^ 30):
  ∃(H:ByteArray) (rem:List ByteArray) (K:Nat),a<=K/\K<=Z l/\Vy g c ⟨-1,k,H,rem⟩/\AH prog 57 [.ptr 0 1 0 0,.d (AI ⟨J,k⟩)] (H8 g c l a hi w ns) (.CA []) (H8 g c l K hi J (ns++[⟨-1,k,H,rem⟩])):=by
 obtain⟨t,v⟩:=ce (g.AU[k]);have X:t∈g.AU:=v▸cF s;have m:=AV.eq_1 t;have M:ByteArray.empty=(⟨#[]⟩:ByteArray):=rfl;have o:1<=ao:=by simp[ao]
 have L:=λa ha=>Qa g G.HL G.nw c G.yX l G.w8 G.l8 a ha hi w ns;have q:=λa ha=>TA g c l (a:=a) ha;have N:=λn=>Sr g c l G.w8 G.l8 a hi w ns n;by_cases i:t.literal=⟨#[]⟩
 .have Y:=JD G.l8 (a:=a) (n:=6) (by omega);obtain⟨j,hj⟩:∃j:Nat,Kb l a 6=j:=⟨(Kb l a 6).toNat,by omega⟩;have P:j<6:=by omega
  have Q:(j:Int)<6:=by omega
  obtain⟨u,R⟩:=ce (wU.getD j ⟨#[]⟩);have B:j=0\/j=1\/j=2\/j=3\/j=4\/j=5:=by omega
  have S:u.size<=2 ^ 20:=by
   rcases B with rfl|rfl|rfl|rfl|rfl|rfl<;>(rw[<-R];decide)
  have T:∀h:j<6,[D.str ⟨#[120]⟩,D.str ⟨#[121]⟩,D.str ⟨#[97,98]⟩,D.str ⟨#[105,102]⟩,D.str ⟨#[122]⟩,D.str ⟨#[101,108,115,101]⟩][j]=D.str u:=λh=>by
   rcases B with rfl|rfl|rfl|rfl|rfl|rfl<;>(rw[<-R];rfl)
  have C:=N 6;rw[hj]at C;have U:=Qj t u S;have E:=Wu l a 6;have F:=L (Me l a 6) (E.2 ha);have z:Me l a 6<=(Rg g c l (Me l a 6)).1/\(Rg g c l (Me l a 6)).1<=Z l:=by have:=q (Me l a 6) (E.2 ha) (Kb l (Me l a 6) 12 - 9).toNat;exact⟨this.1,this.2.1⟩
  have W:rv t (if pt t u then u else t.Cy):=by
   split
   .exact .inr (.inl ⟨i,by rw[<-R];rcases B with rfl|rfl|rfl|rfl|rfl|rfl<;>simp[wU]⟩)
   .exact .inr (.inr ⟨i,rfl⟩)
  refine⟨if pt t u then u else t.Cy,(Rg g c l (Me l a 6)).2,(Rg g c l (Me l a 6)).1,by omega,z.2,Vy.leaf (by rw[dl s,v]) W (Tk G.l8 (E.2 ha)) (Sm G.l8 _),?_⟩;generalize(Rg g c l (Me l a 6)).1=K at *;generalize(Rg g c l (Me l a 6)).2=rem at *;generalize Me l a 6=a1 at *;refine zC func57 99 rfl λwf _=>?_;unfold H8 Ol at F C⊢;apply yW;simp;refine xS (yW ?_);simp[AI];apply AQ;simp;refine yD (A3 9 [19,21]) (by kernel_rfl) ?_;simp;apply yA 1;simp[s,v,m];apply xX 0 (by kernel_rfl);simp[Aa,s,v,m];apply xX 511 (by kernel_rfl);simp[Aa,s,v,m];apply xM;apply yW;simp;refine xS (yW ?_);simp[i];apply AQ;simp;apply yW;simp;apply yS;apply yJ;simp;refine xF (C) [0,1] rfl ?_;simp;apply yJ;simp;apply yW;simp[ao,P,Q,T];(repeat apply xS);apply yT;apply yJ;simp;refine Bz (U) rfl (by simp[i,xN]) (yJ ?_);simp;cases hb:pt t u with
  |true=>
   rw[b8 rfl];apply AQ;simp;apply yV;simp;apply yS;apply yJ;simp;refine xF (F) [0,1] rfl ?_;simp;apply yJ;simp;(repeat apply xS);refine yE (A3 7 [15,16,18,21]) (by kernel_rfl) ?_;simp;apply yA 1;simp[o];apply xX 5 (by kernel_rfl);simp[Aa,o,A,Ac];apply yA 1;simp;apply xX 125 (by kernel_rfl);simp[Aa];apply xM;(apply Am;refine⟨_,ea 2 (by simp[Ax]) (by simp) (by simp) (by simp),?_⟩;simp[At])
  |false=>
   rw[a9 (by simp)];apply AQ;simp;apply xK;apply yS;apply yJ;simp;refine xF (F) [0,1] rfl ?_;simp;apply yJ;simp;(repeat apply xS);refine yE (A3 7 [15,16,18,21]) (by kernel_rfl) ?_;simp;apply yA 1;simp[o];apply xX 5 (by kernel_rfl);simp[Aa,o,A,Ac];apply yA 1;simp;apply xX 125 (by kernel_rfl);simp[Aa];apply xM;(apply Am;refine⟨_,ea 2 (by simp[Ax]) (by simp) (by simp) (by simp),?_⟩;simp[At])
 .have F:=L a ha;have z:a<=(Rg g c l a).1/\(Rg g c l a).1<=Z l:=by have:=q a ha (Kb l a 12 - 9).toNat;exact⟨this.1,this.2.1⟩
  refine⟨t.literal,(Rg g c l a).2,(Rg g c l a).1,z.1,z.2,Vy.leaf (by rw[dl s,v]) (.inl ⟨rfl,i⟩) (Tk G.l8 ha) (Sm G.l8 _),?_⟩;generalize(Rg g c l a).1=K at *;generalize(Rg g c l a).2=rem at *;refine zC func57 99 rfl λwf _=>?_;unfold H8 Ol at F⊢;apply yW;simp;refine xS (yW ?_);simp[AI];apply AQ;simp;refine yD (A3 9 [19,21]) (by kernel_rfl) ?_;simp;apply yA 1;simp[s,v,m];apply xX 0 (by kernel_rfl);simp[Aa,s,v,m];apply xX 511 (by kernel_rfl);simp[Aa,s,v,m];apply xM;apply yW;simp;refine xS (yW ?_);simp[i];apply AQ;simp;apply xK;apply yS;apply yJ;simp;refine xF (F) [0,1] rfl ?_;simp;apply yJ;simp;(repeat apply xS);refine yE (A3 7 [15,16,18,21]) (by kernel_rfl) ?_;simp;apply yA 1;simp[o];apply xX 5 (by kernel_rfl);simp[Aa,o,A,Ac];apply yA 1;simp;apply xX 125 (by kernel_rfl);simp[Aa];apply xM;(apply Am;refine⟨_,ea 2 (by simp[Ax]) (by simp) (by simp) (by simp),?_⟩;simp[At])
open Go.Proofs DT
open Go.Proofs Tryz
def vO(g:AD)(c:AR):Prop:=yh c/\(c.kind=14->G5 c.Ah 0 (Z (BI g c).right)/\E7 c.Ah<=2)
theorem Vb(a:Nat)(k:Int)(s:ByteArray):G5 [⟨-1,-1,k,s⟩] a 0:=by simp[G5]
theorem fH(p n:Nat)(k:Int)(s:ByteArray):G5 (Bd p::(A5 0 n++[⟨-1,-1,k,s⟩])) 0 n/\E7 (Bd p::(A5 0 n++[⟨-1,-1,k,s⟩]))<=2:=by
 have h1:=EZ (EZ (GQ (p:Int) 0) (Fa 0 n)) (Vb (0+(0+n)) k s);have g:=Gf [Bd p] (A5 0 n++[⟨-1,-1,k,s⟩]);have h:=Gf (A5 0 n) [⟨-1,-1,k,s⟩];have i:E7 [⟨-1,-1,k,s⟩]=1:=by simp[E7]
 rw[Io]at g;rw[Ho]at h;simp only[wl,zz,acy]at h1 g;exact⟨h1,by omega⟩
theorem eA(p n:Nat)(k:Int)(s:ByteArray):G5 (Bd p::(⟨-1,-1,k,s⟩::A5 0 n)) 0 n/\E7 (Bd p::(⟨-1,-1,k,s⟩::A5 0 n))<=2:=by
 have h1:=EZ (EZ (GQ (p:Int) 0) (Vb (0+0) k s)) (Fa 0 n);have g:=Gf [Bd p] (⟨-1,-1,k,s⟩::A5 0 n);have h:=Gf [⟨-1,-1,k,s⟩] (A5 0 n);have i:E7 [⟨-1,-1,k,s⟩]=1:=by simp[E7]
 rw[Io]at g;rw[Ho]at h;simp only[wl,zz,acy]at h1 g h;exact⟨h1,by omega⟩
def tj(g:AD)(x:IL)(o:AM)(w:Bool)(T:List Bo)(h:Bo):Sg:=
 [.row J 9 [.d (AA g)],.row J 5 [.d (DC x)],.row J 31 [DE],.row J 13 [.d (AG o)],.row w 4 (T.map λt=>.d (Ar t)),.row J 4 [.d (Ar h)]]
def tV(p g:Nat)(h:Int)(n:Nat)(tm:Tm):Prop:=tm 1=.d (AF p)/\tm 3=.ptr 0 1 0 0/\tm 5=.ptr 1 1 0 0/\tm 6=.ptr 2 1 0 0/\tm 7=.ptr 3 1 0 0/\tm 9=.d (AF h)/\tm 10=.d (AF g)/\tm 11=.row 4 n/\tm 12=.ptr 5 1 0 0
theorem Pm(g:AD)(p:Nat)(x:IL)(N:p<Z g.AE)(hr:∀p∈g.AE,Z p.right<=16)(ht1:Z g.AU=11)(P:(0:Int)∈g.AU.map (·.cls))(Q:x.a<256)(hxb:x.b<256)(hxc:x.c<256):
  BL prog 21 [.d (AA g),.d (AF p),.d (DC x)] [] (yL (vO g)):=by
 have zk:1<=ao:=by unfold ao;omega
 have wb:bv .i64 (x.b:Int)=x.b:=by rw[c8];omega
 obtain⟨o,U⟩:=ce (g.AE[p]);have i:=AG.eq_1 o;have A:∀c:AR,c.number=p->BI g c=o:=λc hc=>by unfold BI;rw[hc,jw];simp[List.getD,N,U]
 have hol:Z o.right<=16:=by rw[<-U];exact hr _ (cF N)
 have B:=J9 g (by omega);have zl:=X0 P;have W:∀v∈EU g (Z g.AU),0<=v/\v<Z g.AU:=λv X=>by
  unfold EU at X;simp only[fd,tg,th]at X;obtain⟨j,⟨h1,_⟩,rfl⟩:=X;omega
 generalize EU g (Z g.AU)=O at *;obtain⟨E,hE⟩:=ce (x.b % Z O);have C:E<Z O:=by rw[<-hE];exact pm _ zl
 have qe:((x.b:Int).tmod (Z O))=E:=by rw[i7 (by omega),<-hE];simp
 have Y:¬Z O=0:=by omega
 have hon:O≠[]:=by intro e;simp[e]at zl
 have F:=W _ (cF C);obtain⟨h,G⟩:∃h:Nat,O[E]=(h:Int):=⟨O[E].toNat,by omega⟩;rw[G]at F;have w:h<Z g.AU:=by omega
 obtain⟨tk,zp⟩:=ce (g.AU[h]);have H:=AV.eq_1 tk;obtain⟨c2,zj⟩:=ce (x.c % 2);have q2:((x.c:Int).tmod 2)=c2:=by rw[i7 (by omega),<-zj];simp
 have K:(x.c:Int) % 2=c2:=by omega
 have L:ByteArray.empty=(⟨#[]⟩:ByteArray):=rfl;refine zR func21 99 rfl λwf _=>?_;apply yW;simp;apply yW;simp[N,U,i];apply yS;apply yJ;simp;refine Bz (B) rfl (by simp[xN]) (yJ ?_);simp;apply yW;simp[wb,qe,Y,C,G];apply yW;simp;apply yS;apply yJ;simp;refine Bz (an p) rfl (by simp[xN]) (yJ ?_);simp[ao];refine io (tv 11 4 (xs:=[Ar (Bd p)]) (by simp)) ?_;apply yW;simp[w,zp,H];refine PP (R:=λtm S=>tV p (Z o.right) h 1 tm/\∃z:ByteArray,S=tj g x o false [Bd p] ⟨-1,-1,h,z⟩) ?_ ?_
 .by_cases M:tk.literal=⟨#[]⟩
  .apply yW;simp[M,L];apply AQ;simp;apply yV;simp[w,zp,H];refine⟨_,_,jp 5 (xs:=[Ar ⟨-1,-1,h,tk.Cy⟩]) rfl (by simp[DR,BC,Ar]),?_,tk.Cy,?_⟩
   .simp[tV,ER]
   .simp[tj,DE,i];rfl
  .apply yW;simp[M,L];apply AQ;simp;apply B8;refine⟨_,_,jp 5 (xs:=[Ar ⟨-1,-1,h,tk.literal⟩]) rfl (by simp[DR,BC,Ar]),?_,tk.literal,?_⟩
   .simp[tV,ER]
   .simp[tj,DE,i];rfl
 rintro tm S ⟨⟨t1,t3,t5,t6,t7,t9,t10,t11,t12⟩,z,rfl⟩;have hh:=Wj (Z o.right) (by omega);have hal:((Z o.right:Nat):Int)=Z o.right:=rfl;refine PP (R:=λtm S=>∃(R:List Symbol) (T:List Bo),Z T<=100/\(G5 T 0 (Z o.right)/\E7 T<=2)/\tV p (Z o.right) h (Z T) tm/\S=tj g x {o with right:=R} J T ⟨-1,-1,h,z⟩) ?_ ?_
 .have hlf:Ar ⟨-1,-1,(h:Int),z⟩=.agg [.int .i64 (-1),.int .i64 (-1),.int .i64 h,.str z]:=rfl;unfold tj;by_cases q:c2=0
  .have s:=QO o.right [⟨J,h⟩] (Z o.right) (Z o.right) (ci _) (ci _) (by omega) (by simp);apply yW;simp[t5,q2,q];apply AQ;simp;(repeat apply xS);refine yE (A3 9 [19]) (by kernel_rfl) ?_;simp;apply yA 1;simp[t7,t9,t10,i];refine Bs (Dc h) rfl (by simp[xN]) ?_;simp;apply yA 1;simp[ao];refine Bs (s) rfl (by simp[xN]) ?_;simp;apply yA 1;simp[t7];apply xX 511 (by kernel_rfl);simp[Aa,Ag,t7,t9,t10];apply xM;have zO:1+Z o.right<=1073741824:=by omega
   have zB:1+Z o.right+1<=1073741824:=by omega
   have u:Ac 4 (List.map (V.d ∘ Ar) (A5 0 (Z o.right))):=by
    intro y hy;obtain⟨t,_,rfl⟩:=fd.1 hy;simp
   have k:=CU 0 (Z o.right);refine yE (A3 3 [8,10,7,13,14]) (by kernel_rfl) ?_;simp;apply yA 1;simp[t10,t11];refine Bs (hh) rfl (by simp[xN]) ?_;simp;apply yA 1;simp[t12,ao];apply xX 20 (by kernel_rfl);simp[Aa,Ag,t10,t11,t12,k,zO,Ac,ls];have hac:Z o.right+1=1+Z o.right:=by omega
   apply xX 1 (by kernel_rfl);simp[Aa,t10,t12,k,hac,zB,Ac,l5,ls];apply yA 1;simp;refine⟨_,_,jp 3 (xs:=[AG {o with right:=o.right++[⟨J,h⟩]}]) rfl ?_,o.right++[⟨J,h⟩],Bd p::(A5 0 (Z o.right)++[⟨-1,-1,h,z⟩]),?_,fH p _ _ _,?_,?_⟩
   .simp[DR,BC,AG,AI]
   .simp[k];omega
   .simp[tV,t1,t3,t5,t6,t7,t9,t10,t12,k];omega
   .simp[Ar,Bd,lm]
  .have s:=QO o.right [⟨J,h⟩] 0 0 (ed _) (ed _) (by omega) (by simp);simp at s;have zB:2+Z o.right<=1073741824:=by omega
   have u:Ac 4 (List.map (V.d ∘ Ar) (A5 0 (Z o.right))):=by
    intro y hy;obtain⟨t,_,rfl⟩:=fd.1 hy;simp
   have k:=CU 0 (Z o.right);apply yW;simp[t5,q2];apply AQ;simp[q];refine yD (A3 7 [15]) (by kernel_rfl) ?_;simp;apply yA 1;simp[t7,t9,i];refine Bs (Dc h) rfl (by simp[xN]) ?_;simp;apply yA 1;simp[ao];refine Bs (s) rfl (by simp[xN]) ?_;simp;apply yA 1;simp[t7];apply xX 127 (by kernel_rfl);simp[Aa,Ag,t7,t9];apply xM;apply yT;apply yJ;simp[t10,t11,t12,ao,Ac,ls];refine Bz (hh) rfl (by simp[xN]) (yJ ?_);simp[k,zB,Ac,l5,ls];refine⟨_,_,jp 3 (xs:=[AG {o with right:=⟨J,h⟩::o.right}]) rfl ?_,⟨J,h⟩::o.right,Bd p::(⟨-1,-1,h,z⟩::A5 0 (Z o.right)),?_,eA p _ _ _,?_,?_⟩
   .simp[DR,BC,AG,AI]
   .simp[k];omega
   .simp[tV,t1,t3,t5,t6,t7,t9,t10,t12,k];omega
   .simp[Ar,Bd,lm]
 rintro tm S ⟨R,T,hTl,hTn,⟨t1,t3,t5,t6,t7,t9,t10,t11,t12⟩,rfl⟩;unfold tj;obtain⟨o2,ho2⟩:=ce (({o with right:=R}:AM));rw[ho2];have m:=AG.eq_1 o2;apply yS;apply yJ;simp[t5];refine Bz (E1 ⟨#[110,101,119]⟩ x.a Q (by decide)) rfl (by simp[ao,xN]) (yJ ?_);simp[t7,m];apply yW;simp[t7];apply yW;simp[t7];apply yW;simp[t7];refine io (fc 4 (xs:=T.map Ar) rfl (by rw[Be];simp[BC,lm])) ?_;apply yW;simp[t1,t6,t7,t11,ao,DE];apply Am;refine⟨_,_,ap,by simp[t6],_,_,⟨rfl,{Bi with kind:=14,number:=p,prod:={o2 with name:=Il ⟨#[110,101,119]⟩ x.a,bracket:=false,layout:=[],scope:=⟨false,0,0,0,0⟩},Ah:=T},rfl,⟨by show(1:Int)<=14;decide,by show(14:Int)<=14;decide,by show Z T<=2 ^ 20;omega⟩,λ_=>by rw[A _ rfl];exact hTn⟩,.inl ⟨AK {Bi with kind:=14,number:=p,prod:={o2 with name:=Il ⟨#[110,101,119]⟩ x.a,bracket:=false,layout:=[],scope:=⟨false,0,0,0,0⟩},Ah:=T},_,by simp[t6,BC,AK,Bi],rfl,fi 0 (S':=[]) rfl (by simp)⟩⟩
theorem lj(g:AD)(x:IL)(hg:MG g 10 6)(hr:∀p∈g.AE,Z p.right<=16):BL prog 6 [.d (AA g),.d (DC x)] [] (yL (vO g)):=by
 obtain⟨zY,zI,hn1,ht1,ho1,hp0,hp1,hl1,hl2,hf1⟩:=hg;refine Ks func6 (by kernel_rfl) rfl (by simp) λwf _=>?_;have hx:x.kind<256/\x.a<256/\x.b<256/\x.c<256/\∀k∈x.right,k<256:=by
  have:=wf.2.1;simp[K0,Da,Bq,Dh,IX]at this;refine⟨by omega,by omega,by omega,by omega,λk hk=>?_⟩;have:=this.2.2.2.2.2 k hk;omega
 clear wf;obtain⟨hxk,N,m,hxc,hxr⟩:=hx;have hset:=O5 x.b (Z g.conds) m (by omega);generalize N4 x.b (Z g.conds)=d at *;obtain⟨n,hn⟩:=ce (Z g.conds);obtain⟨A,hA⟩:=ce (x.a % Z g.AE);have hAl:A<Z g.AE:=by rw[<-hA];exact pm _ hp0
 have qa:((x.a:Int).tmod (Z g.AE))=A:=by rw[i7 (by omega),<-hA];simp
 have P:bv .i64 (x.a:Int)=x.a:=by rw[c8];omega
 have wb:bv .i64 (x.b:Int)=x.b:=by rw[c8];omega
 have Q:bv .i64 (x.c:Int)=x.c:=by rw[c8];omega
 have wk:bv .i64 (x.kind:Int)=x.kind:=by rw[c8];omega
 have hpz:¬Z g.AE=0:=by omega
 have hpn:g.AE≠[]:=by intro e;simp[e]at hp0
 have B:¬Z g.Ay=0:=by omega
 have F:g.Ay≠[]:=by intro e;simp[e]at zI
 have zk:1<=ao:=by unfold ao;omega
 obtain⟨L,hL⟩:=ce (x.a % Z g.Ay);have ql:((x.a:Int).tmod (Z g.Ay))=L:=by rw[i7 (by omega),<-hL];simp
 obtain⟨k0,hk0⟩:=ce (1+x.kind % 14);have wq:bv .i64 (1+(x.kind:Int).tmod 14)=k0:=by rw[i7 (by omega),c8];omega
 have q:=jT g x.a x.b N m hp0 (by omega) hr;have hsyms:=XK g x.right hxr ht1 zI hn1;have hrepl:=Pm g A x hAl hr ht1 ho1 N m hxc;rw[ntmps6];apply yW;simp;apply yW;simp[wk,wq];apply yW;simp[hn];refine nt (R:=λtm S=>∃k:Nat,1<=k/\k<=14/\(k=3\/k=5->¬n=0)/\tm 2=.ptr 0 1 0 0/\tm 3=.ptr 1 1 0 0/\tm 4=.ptr 2 1 0 0/\tm 5=.d (AF k)/\tm 6=.d (AF n)/\S=[.row J 9 [.d (AA g)],.row J 5 [.d (DC x)],.row J 31 [DE]]) ?_ ?_
 .by_cases i:n=0
  .by_cases h3:k0=3
   .apply yS;apply yH;simp[i,h3];apply AQ;simp;apply yV;simp;exact⟨4,by decide,by decide,λh=>by omega,by simp,by simp,by simp,by simp,by simp[i],by simp[DE]⟩
   .have s:¬(k0:Int)=3:=by omega
    by_cases h5:k0=5
    .apply yS;apply yH;simp[i,h5];apply AQ;simp;apply yV;simp;exact⟨4,by decide,by decide,λh=>by omega,by simp,by simp,by simp,by simp,by simp[i],by simp[DE]⟩
    .have G:¬(k0:Int)=5:=by omega
     (repeat apply xS);apply yT;(repeat((first|refine FD rfl ?_ ?_;(·simp[s])|refine Ov rfl ?_ ?_;(·simp[s])|refine Cg ?_ ?_;(·simp));simp[i]));apply CO;apply AQ;simp[s,G];apply B8;exact⟨k0,by omega,by omega,λh=>by omega,by simp,by simp,by simp,by simp,by simp[i],by simp[DE]⟩
  ·(repeat apply xS);apply yT;(repeat((first|refine FD rfl ?_ ?_;(·simp[i])|refine Ov rfl ?_ ?_;(·simp[i])|refine Cg ?_ ?_;(·simp[i]));simp));apply CO;apply AQ;simp;apply B8;exact⟨k0,by omega,by omega,λ_=>i,by simp,by simp,by simp,by simp,by simp,by simp[DE]⟩
 rintro tm S ⟨k,hk1,z9,hkn,t2,t3,t4,t5,t6,rfl⟩;refine nt (R:=λtm S=>tm 2=.ptr 0 1 0 0/\tm 3=.ptr 1 1 0 0/\tm 4=.ptr 2 1 0 0/\tm 5=.d (AF k)/\tm 6=.d (AF n)/\tm 7=.d (AF A)/\S=[.row J 9 [.d (AA g)],.row J 5 [.d (DC x)],.row J 31 [DE]]) ?_ ?_
 .apply yV;simp[t2,t3,P,qa,hpz];unfold HQ;simp[t2,t3,t4,t5,t6]
 rintro tm S ⟨t2,t3,t4,t5,t6,t7,rfl⟩;refine nt (R:=λtm S=>tm 2=.ptr 0 1 0 0/\tm 3=.ptr 1 1 0 0/\tm 4=.ptr 2 1 0 0/\tm 5=.d (AF k)/\tm 6=.d (AF n)/\tm 7=.d (AF A)/\tm 8=.ptr 3 1 0 0/\S=[.row J 9 [.d (AA g)],.row J 5 [.d (DC x)],.row J 31 [DE],.row J 2 [.d (AB d)]]) ?_ ?_
 ·(repeat apply xS);apply yT;apply yJ;simp[t3,t6];refine Bz (hset) rfl (by simp[hn,xN]) (yJ ?_);simp;unfold HQ;simp[t2,t3,t4,t5,t6,t7]
 rintro tm S ⟨t2,t3,t4,t5,t6,t7,t8,rfl⟩;have hk:k=1\/k=2\/k=3\/k=4\/k=5\/k=6\/k=7\/k=9\/k=8\/k=10\/k=11\/k=12\/k=13\/k=14:=by omega
 rcases hk with rfl|rfl|rfl|rfl|rfl|rfl|rfl|rfl|rfl|rfl|rfl|rfl|rfl|rfl
 .refine xS (yW ?_);simp[t5];apply Bp;apply yW;simp;apply AQ;simp;(repeat apply xS);refine yE (A3 12 [25]) (by kernel_rfl) ?_;simp;apply yA 0;simp[t2,t3,t5,P,ql,B];refine kt (E1 ⟨#[110,111,110,116,101,114,109,105,110,97,108]⟩ x.b m (by decide)) rfl (by simp[ao,xN]) ?_;simp;apply yA 0;simp;apply xX 4095 (by kernel_rfl);simp[t4,DE];apply xM;apply Am;refine⟨_,_,ap,by simp[t4],_,_,⟨rfl,{Bi with kind:=1,number:=L,name:=Il ⟨#[110,111,110,116,101,114,109,105,110,97,108]⟩ x.b},rfl,⟨⟨by simp,by simp,by simp[Bi]⟩,by simp⟩⟩,.inl ⟨AK {Bi with kind:=1,number:=L,name:=Il ⟨#[110,111,110,116,101,114,109,105,110,97,108]⟩ x.b},_,by simp[t4,BC,AK,Bi],rfl,fi 0 (S':=[]) rfl (by simp)⟩⟩
 .refine xS (yW ?_);simp[t5];apply Bp;apply yW;simp;apply AQ;simp;apply yW;simp;apply AQ;simp;(repeat apply xS);apply yT;apply yJ;simp[t3,t5,t7];refine Bz (E1 ⟨#[112,114,111,100,117,99,116,105,111,110]⟩ x.b m (by decide)) rfl (by simp[ao,xN]) (yJ ?_);simp[t4,DE,ao];apply Am;refine⟨_,_,ap,by simp[t4],_,_,⟨rfl,{Bi with kind:=2,number:=A,name:=Il ⟨#[112,114,111,100,117,99,116,105,111,110]⟩ x.b},rfl,⟨⟨by simp,by simp,by simp[Bi]⟩,by simp⟩⟩,.inl ⟨AK {Bi with kind:=2,number:=A,name:=Il ⟨#[112,114,111,100,117,99,116,105,111,110]⟩ x.b},_,by simp[t4,BC,AK,Bi],rfl,fi 0 (S':=[]) rfl (by simp)⟩⟩
 .refine xS (yW ?_);simp[t5];apply Bp;apply yW;simp;apply AQ;simp;apply yW;simp;apply AQ;simp;apply yW;simp;apply AQ;simp;have i:¬n=0:=hkn (by decide);obtain⟨C,hC⟩:=ce (x.a % n);have qn:((x.a:Int).tmod n)=C:=by rw[i7 (by omega),<-hC];simp
  (repeat apply xS);refine yE (A3 10 [21]) (by kernel_rfl) ?_;simp;apply yA 0;simp[t3,t5,t6,P,qn,i];refine kt (E1 ⟨#[99,111,110,100,105,116,105,111,110]⟩ x.b m (by decide)) rfl (by simp[ao,xN]) ?_;simp;apply yA 0;simp;apply xX 1023 (by kernel_rfl);simp[t4,DE];apply xM;apply Am;refine⟨_,_,ap,by simp[t4],_,_,⟨rfl,{Bi with kind:=3,number:=C,name:=Il ⟨#[99,111,110,100,105,116,105,111,110]⟩ x.b},rfl,⟨⟨by simp,by simp,by simp[Bi]⟩,by simp⟩⟩,.inl ⟨AK {Bi with kind:=3,number:=C,name:=Il ⟨#[99,111,110,100,105,116,105,111,110]⟩ x.b},_,by simp[t4,BC,AK,Bi],rfl,fi 0 (S':=[]) rfl (by simp)⟩⟩
 .refine xS (yW ?_);simp[t5];apply Bp;apply yW;simp;apply AQ;simp;apply yW;simp;apply AQ;simp;apply yW;simp;apply AQ;simp;apply yW;simp;apply AQ;simp;(repeat apply xS);apply yT;apply yJ;simp[t3,t5];refine Bz (E1 ⟨#[97,100,100,101,100]⟩ x.b m (by decide)) rfl (by simp[ao,xN]) (yJ ?_);simp[t4,DE,ao];apply Am;refine⟨_,_,ap,by simp[t4],_,_,⟨rfl,{Bi with kind:=4,name:=Il ⟨#[97,100,100,101,100]⟩ x.b},rfl,⟨⟨by simp,by simp,by simp[Bi]⟩,by simp⟩⟩,.inl ⟨AK {Bi with kind:=4,name:=Il ⟨#[97,100,100,101,100]⟩ x.b},_,by simp[t4,BC,AK,Bi],rfl,fi 0 (S':=[]) rfl (by simp)⟩⟩
 .refine xS (yW ?_);simp[t5];apply Bp;apply yW;simp;apply AQ;simp;apply yW;simp;apply AQ;simp;apply yW;simp;apply AQ;simp;apply yW;simp;apply AQ;simp;apply yW;simp;apply AQ;simp;have i:¬n=0:=hkn (by decide);obtain⟨C,hC⟩:=ce (x.a % n);have qn:((x.a:Int).tmod n)=C:=by rw[i7 (by omega),<-hC];simp
  obtain⟨T,zB⟩:=ce (x.b % 2);have q2:((x.b:Int).tmod 2)=T:=by rw[i7 (by omega),<-zB];simp
  have q2':(x.b:Int) % 2=T:=by omega
  (repeat apply xS);refine yE (A3 11 [23]) (by kernel_rfl) ?_;simp;apply yA 1;simp[t3,t5,t6,P,qn,i,q2,ao];apply xX 2047 (by kernel_rfl);simp[Aa,t4,DE];apply xM;apply Am;refine⟨_,_,ap,by simp[t4],_,_,⟨rfl,{Bi with kind:=5,number:=C,value:=(T:Int)==1},rfl,⟨⟨by simp,by simp,by simp[Bi]⟩,by simp⟩⟩,.inl ⟨AK {Bi with kind:=5,number:=C,value:=(T:Int)==1},_,by simp[t4,BC,AK,Bi],rfl,fi 0 (S':=[]) rfl (by simp)⟩⟩
 .refine xS (yW ?_);simp[t5];apply Bp;apply yW;simp;apply AQ;simp;apply yW;simp;apply AQ;simp;apply yW;simp;apply AQ;simp;apply yW;simp;apply AQ;simp;apply yW;simp;apply AQ;simp;apply yW;simp;apply AQ;simp;apply yW;simp[t4,t5,t7,t8,DE];apply Am;refine⟨_,_,ap,by simp[t4],_,_,⟨rfl,{Bi with kind:=6,number:=A,cond:=d},rfl,⟨⟨by simp,by simp,by simp[Bi]⟩,by simp⟩⟩,.inl ⟨AK {Bi with kind:=6,number:=A,cond:=d},_,by simp[t4,BC,AK,Bi,AB],rfl,fi 0 (S':=[]) rfl (by simp)⟩⟩
 .refine xS (yW ?_);simp[t5];apply Bp;apply yW;simp;apply AQ;simp;apply yW;simp;apply AQ;simp;apply yW;simp;apply AQ;simp;apply yW;simp;apply AQ;simp;apply yW;simp;apply AQ;simp;apply yW;simp;apply AQ;simp;apply yW;simp;apply AQ;simp;(repeat apply xS);apply yT;apply yJ;simp[t2,t3];refine AY.Ih q [] rfl ?_ ?_ ?_
  .simp[AA]
  .rintro v H ⟨rfl,p,k,rfl⟩;simp
  rintro v H ⟨rfl,p,k,rfl⟩;simp;apply yJ;simp;apply yW;simp[t4,t5,DE];apply Am;refine⟨_,_,ap,by simp[t4],_,_,⟨rfl,{Bi with kind:=7,number:=p,at_:=k},rfl,⟨⟨by simp,by simp,by simp[Bi]⟩,by simp⟩⟩,.inl ⟨AK {Bi with kind:=7,number:=p,at_:=k},_,by simp[t4,BC,AK,Bi],rfl,fi 0 (S':=[]) rfl (by simp)⟩⟩
 .refine xS (yW ?_);simp[t5];apply Bp;apply yW;simp;apply AQ;simp;apply yW;simp;apply AQ;simp;apply yW;simp;apply AQ;simp;apply yW;simp;apply AQ;simp;apply yW;simp;apply AQ;simp;apply yW;simp;apply AQ;simp;apply yW;simp;apply AQ;simp;apply yW;simp;apply AQ;simp;(repeat apply xS);apply yT;apply yJ;simp[t2,t3];refine AY.Ih q [] rfl ?_ ?_ ?_
  .simp[AA]
  .rintro v H ⟨rfl,p,k,rfl⟩;simp
  rintro v H ⟨rfl,p,k,rfl⟩;simp;apply yJ;simp;(repeat apply xS);apply yT;apply yJ;simp[t3,t5];refine Bz (E1 ⟨#[115,112,108,105,116]⟩ x.c hxc (by decide)) rfl (by simp[ao,xN]) (yJ ?_);simp[t4,DE,ao];apply Am;refine⟨_,_,ap,by simp[t4],_,_,⟨rfl,{Bi with kind:=9,number:=p,at_:=k,name:=Il ⟨#[115,112,108,105,116]⟩ x.c},rfl,⟨⟨by simp,by simp,by simp[Bi]⟩,by simp⟩⟩,.inl ⟨AK {Bi with kind:=9,number:=p,at_:=k,name:=Il ⟨#[115,112,108,105,116]⟩ x.c},_,by simp[t4,BC,AK,Bi],rfl,fi 0 (S':=[]) rfl (by simp)⟩⟩
 .refine xS (yW ?_);simp[t5];apply Bp;apply yW;simp;apply AQ;simp;apply yW;simp;apply AQ;simp;apply yW;simp;apply AQ;simp;apply yW;simp;apply AQ;simp;apply yW;simp;apply AQ;simp;apply yW;simp;apply AQ;simp;apply yW;simp;apply AQ;simp;apply yW;simp;apply AQ;simp;apply yW;simp;apply AQ;simp;obtain⟨o,ho⟩:=ce (g.AE[A]);have heo:=AG.eq_1 o;have hol:Z o.right<=16:=by rw[<-ho];exact hr _ (cF hAl)
  obtain⟨U,hal⟩:=ce (max 1 (Z o.right));have hmx:(if(1:Int)<Z o.right then(Z o.right:Int)else 1)=U:=by split<;>omega
  have hmx2:(if 1<Z o.right then(Z o.right:Int)else 1)=U:=by split<;>omega
  have haz:¬U=0:=by omega
  obtain⟨at_,Dj⟩:=ce (x.b % U);have hatl:at_<U:=by rw[<-Dj];exact pm _ (by omega)
  have qat:((x.b:Int).tmod U)=at_:=by rw[i7 (by omega),<-Dj];simp
  have w1:bv .i64 ((at_:Int)+1)=((at_+1:Nat):Int):=by rw[c8];omega
  obtain⟨df,hdf⟩:=ce (U - at_);have w2:bv .i64 ((U:Int) - at_)=df:=by rw[c8];omega
  have hdz:¬df=0:=by omega
  obtain⟨cq,hcq⟩:=ce (x.c % df);have hcl:cq<df:=by rw[<-hcq];exact pm _ (by omega)
  have qc:((x.c:Int).tmod df)=cq:=by rw[i7 (by omega),<-hcq];simp
  have w3:bv .i64 (((at_+1:Nat):Int)+cq)=((at_+1+cq:Nat):Int):=by rw[c8];omega
  generalize ha1:at_+1=a1 at *;apply yW;simp[t2,t7,hAl,ho,heo,hmx];apply yW;simp[t3,wb,qat,haz];(repeat apply xS);refine yE (A3 17 [35]) (by kernel_rfl) ?_;simp;apply yA 1;simp[t3,t5,t7,w1,Q,w2,qc,hdz,w3];refine Bs (E1 ⟨#[102,111,108,100]⟩ x.b m (by decide)) rfl (by simp[ao,xN]) ?_;simp;apply yA 1;simp[ao];apply xX 131071 (by kernel_rfl);simp[Aa,Ag,t3,t4,t5,t7,w1,Q,w2,qc,hdz,w3,ao,DE];apply xM;apply Am;refine⟨_,_,ap,by simp[t4],_,_,⟨rfl,{Bi with kind:=8,number:=A,at_:=at_,to:=((a1+cq:Nat):Int),name:=Il ⟨#[102,111,108,100]⟩ x.b},rfl,⟨⟨by simp,by simp,by simp[Bi]⟩,by simp⟩⟩,.inl ⟨AK {Bi with kind:=8,number:=A,at_:=at_,to:=((a1+cq:Nat):Int),name:=Il ⟨#[102,111,108,100]⟩ x.b},_,by simp[t4,BC,AK,Bi],rfl,fi 0 (S':=[]) rfl (by simp)⟩⟩
 .refine xS (yW ?_);simp[t5];apply Bp;apply yW;simp;apply AQ;simp;apply yW;simp;apply AQ;simp;apply yW;simp;apply AQ;simp;apply yW;simp;apply AQ;simp;apply yW;simp;apply AQ;simp;apply yW;simp;apply AQ;simp;apply yW;simp;apply AQ;simp;apply yW;simp;apply AQ;simp;apply yW;simp;apply AQ;simp;apply yW;simp;apply AQ;simp;obtain⟨z,hC4⟩:=ce (x.c % 4);have q4:((x.c:Int).tmod 4)=z:=by rw[i7 (by omega),<-hC4];simp
  have t:(x.c:Int) % 4=z:=by omega
  obtain⟨C3,hC3⟩:=ce (x.c % 3);have q3:((x.c:Int).tmod 3)=C3:=by rw[i7 (by omega),<-hC3];simp
  have q3':(x.c:Int) % 3=C3:=by omega
  obtain⟨T,zB⟩:=ce (x.b % 2);have q2:((x.b:Int).tmod 2)=T:=by rw[i7 (by omega),<-zB];simp
  have q2':(x.b:Int) % 2=T:=by omega
  have zW:0<=ao:=ed _;obtain⟨j,hmn⟩:=ce (min (Z g.levels) C3);have hmi:(if(C3:Int)<Z g.levels then(C3:Int)else Z g.levels)=j:=by split<;>omega
  have K:(if C3<Z g.levels then(C3:Int)else Z g.levels)=j:=by split<;>omega
  have hml:(j:Int)<=Z g.levels:=by omega
  have M:j<=Z g.levels:=by omega
  have hmb:j<=1073741824:=by omega
  have w:min j (Z g.levels)=j:=by omega
  have zg:Ac 4 (List.take j (List.map (V.d ∘ Ak) g.levels)):=by
   intro y hy;obtain⟨l,_,rfl⟩:=fd.1 (abr hy);simp
  apply yW;simp[t3,t7,t8,Q,q4,ao];refine xS (yW ?_);simp[t3,q2];by_cases hev:T=0
  .apply AQ;simp[hev];apply yT;apply yJ;simp[t2,t3,Q,q3,zW,K,hml,w,hmb,zg];apply yW;simp[t4,t5,DE];apply Am;refine⟨_,_,fc 4 (xs:=(g.levels.take j).map Ak) rfl (by simpa[o4]using Cr _ ((g.levels.take j).map Ak)),by simp[t4],_,_,⟨rfl,{Bi with kind:=10,levels:=g.levels.take j},rfl,⟨⟨by simp,by simp,by simp[Bi]⟩,by simp⟩⟩,.inl ⟨AK {Bi with kind:=10,levels:=g.levels.take j},_,by simp[t4,BC,AK,Bi,w],rfl,fi 0 (S':=[]) rfl (by simp)⟩⟩
  .apply AQ;simp[hev];apply xK;apply yW;simp[t4,t5,DE];apply Am;refine⟨_,_,ap,by simp[t4],_,_,⟨rfl,{Bi with kind:=10,levels:=[(⟨[(A:Int)],z,d⟩:Level)]},rfl,⟨⟨by simp,by simp,by simp[Bi]⟩,by simp⟩⟩,.inl ⟨AK {Bi with kind:=10,levels:=[(⟨[(A:Int)],z,d⟩:Level)]},_,by simp[t4,BC,AK,Bi,Ak,AB],rfl,fi 0 (S':=[]) rfl (by simp)⟩⟩
 .refine xS (yW ?_);simp[t5];apply Bp;apply yW;simp;apply AQ;simp;apply yW;simp;apply AQ;simp;apply yW;simp;apply AQ;simp;apply yW;simp;apply AQ;simp;apply yW;simp;apply AQ;simp;apply yW;simp;apply AQ;simp;apply yW;simp;apply AQ;simp;apply yW;simp;apply AQ;simp;apply yW;simp;apply AQ;simp;apply yW;simp;apply AQ;simp;apply yW;simp;apply AQ;simp;obtain⟨z,hC4⟩:=ce (x.c % 4);have q4:((x.c:Int).tmod 4)=z:=by rw[i7 (by omega),<-hC4];simp
  have t:(x.c:Int) % 4=z:=by omega
  have zW:0<=ao:=ed _;obtain⟨j,hmn⟩:=ce (min (Z g.AT) z);have hmi:(if(z:Int)<Z g.AT then(z:Int)else Z g.AT)=j:=by split<;>omega
  have K:(if z<Z g.AT then(z:Int)else Z g.AT)=j:=by split<;>omega
  have hml:(j:Int)<=Z g.AT:=by omega
  have M:j<=Z g.AT:=by omega
  have hmb:j<=1073741824:=by omega
  have hmb1:j+1<=1073741824:=by omega
  have w:min j (Z g.AT)=j:=by omega
  have zg:Ac 9 (List.take j (List.map (V.d ∘ AN) g.AT)):=by
   intro y hy;obtain⟨l,_,rfl⟩:=fd.1 (abr hy);simp
  have W:=J9 g (by omega);have zl:=X0 ho1;generalize EU g (Z g.AU)=O at *;obtain⟨E,hE⟩:=ce (x.b % Z O);have hEl:E<Z O:=by rw[<-hE];exact pm _ zl
  have qe:((x.b:Int).tmod (Z O))=E:=by rw[i7 (by omega),<-hE];simp
  have hoz:¬Z O=0:=by omega
  have hon:O≠[]:=by intro e;simp[e]at zl
  obtain⟨oe,hoe⟩:=ce (O[E]);(repeat apply xS);apply yT;apply yJ;simp[t2,t3,Q,q4,zW,K,hml,w,hmb,zg];refine yD (A3 23 [47,48]) (by kernel_rfl) ?_;simp;apply yA 1;simp[t2,t3,P,ql,B];refine Bs (W) rfl (by simp[xN]) ?_;simp;apply yA 1;simp[t2,t3,wb];refine Bs (W) rfl (by simp[xN]) ?_;simp;apply yA 1;simp[t8,qe,hoz,hEl,hoe,ao];apply xX 4194561 (by kernel_rfl);simp[Aa,Ag,t2,t3,t8,P,wb,ql,qe,B,hoz,hEl,hoe,ao,w,hmb1,zg];apply yA 1;simp;apply yW;simp[t4,t5,DE];apply Am;refine⟨_,_,fc 4 (xs:=(g.AT.take j++[(⟨3,0,0,0,L,0,[oe],d⟩:Filter)]).map AN) rfl ?_,by simp[t4],_,_,⟨rfl,{Bi with kind:=11,AT:=g.AT.take j++[(⟨3,0,0,0,L,0,[oe],d⟩:Filter)]},rfl,⟨⟨by simp,by simp,by simp[Bi]⟩,by simp⟩⟩,.inl ⟨AK {Bi with kind:=11,AT:=g.AT.take j++[(⟨3,0,0,0,L,0,[oe],d⟩:Filter)]},_,by simp[t4,BC,AK,Bi,AN,w],rfl,fi 0 (S':=[]) rfl (by simp)⟩⟩;rw[Be];simp[AN,lm]
 .refine xS (yW ?_);simp[t5];apply Bp;apply yW;simp;apply AQ;simp;apply yW;simp;apply AQ;simp;apply yW;simp;apply AQ;simp;apply yW;simp;apply AQ;simp;apply yW;simp;apply AQ;simp;apply yW;simp;apply AQ;simp;apply yW;simp;apply AQ;simp;apply yW;simp;apply AQ;simp;apply yW;simp;apply AQ;simp;apply yW;simp;apply AQ;simp;apply yW;simp;apply AQ;simp;apply yW;simp;apply AQ;simp;have hset2:=O5 x.c (Z g.conds) hxc (by omega);generalize N4 x.c (Z g.conds)=d2 at *;obtain⟨X,hb4⟩:=ce (x.b % 4);have q4:((x.b:Int).tmod 4)=X:=by rw[i7 (by omega),<-hb4];simp
  have t:(x.b:Int) % 4=X:=by omega
  have Y:(X:Int)<4:=by omega
  obtain⟨lit,hlit,zg⟩:∃lit:ByteArray,[D.str ⟨#[61]⟩,D.str ⟨#[38,38]⟩,D.str ⟨#[33]⟩,D.str ⟨#[120]⟩][X]?=some (.str lit)/\lit.size<=ao:=by
   have h:X=0\/X=1\/X=2\/X=3:=by omega
   rcases h with rfl|rfl|rfl|rfl
   .exact⟨⟨#[61]⟩,rfl,by unfold ao;decide⟩
   .exact⟨⟨#[38,38]⟩,rfl,by unfold ao;decide⟩
   .exact⟨⟨#[33]⟩,rfl,by unfold ao;decide⟩
   .exact⟨⟨#[120]⟩,rfl,by unfold ao;decide⟩
  (repeat apply xS);refine yE (A3 16 [33]) (by kernel_rfl) ?_;simp;apply yA 1;simp[t3,t5];refine Bs (E1 ⟨#[116,111,107,101,110]⟩ x.a N (by decide)) rfl (by simp[ao,xN]) ?_;simp;apply yA 1;simp[t3,t6,ao,q4,hlit,Y];refine Bs (hset2) rfl (by simp[hn,xN]) ?_;simp[hn];apply yA 1;simp[AB];apply xX 65535 (by kernel_rfl);simp[Aa,Ag,t3,t4,t5,t6,ao,q4,hlit,Y,DE];apply xM;apply Am;refine⟨_,_,ap,by simp[t4],_,_,⟨rfl,{Bi with kind:=12,token:=(⟨Il ⟨#[116,111,107,101,110]⟩ x.a,0,lit,[],gs,d2⟩:Token)},rfl,⟨⟨by simp,by simp,by simp[Bi]⟩,by simp⟩⟩,.inl ⟨AK {Bi with kind:=12,token:=(⟨Il ⟨#[116,111,107,101,110]⟩ x.a,0,lit,[],gs,d2⟩:Token)},_,by simp[t4,BC,AK,Bi],rfl,fi 0 (S':=[]) rfl (by simp)⟩⟩
 .refine xS (yW ?_);simp[t5];apply Bp;apply yW;simp;apply AQ;simp;apply yW;simp;apply AQ;simp;apply yW;simp;apply AQ;simp;apply yW;simp;apply AQ;simp;apply yW;simp;apply AQ;simp;apply yW;simp;apply AQ;simp;apply yW;simp;apply AQ;simp;apply yW;simp;apply AQ;simp;apply yW;simp;apply AQ;simp;apply yW;simp;apply AQ;simp;apply yW;simp;apply AQ;simp;apply yW;simp;apply AQ;simp;apply yW;simp;apply AQ;simp;obtain⟨u,hu⟩:=ce (x.c % Z g.Ay);have qu:((x.c:Int).tmod (Z g.Ay))=u:=by rw[i7 (by omega),<-hu];simp
  (repeat apply xS);refine yE (A3 18 [37]) (by kernel_rfl) ?_;simp;apply yA 1;simp[t3,t5];refine Bs (E1 ⟨#[109,111,114,101]⟩ x.a N (by decide)) rfl (by simp[ao,xN]) ?_;simp;apply yA 1;simp[t2,t3,Q,qu,B];refine Bs (hsyms) rfl (by simp[xN]) ?_;simp;apply yA 1;simp[t8,AB];apply xX 262143 (by kernel_rfl);simp[Aa,Ag,t2,t3,t4,t5,t8,Q,qu,B,ao,DE];apply xM;apply Am;refine⟨_,_,ap,by simp[t4],_,_,⟨rfl,{Bi with kind:=13,prod:=(⟨Il ⟨#[109,111,114,101]⟩ x.a,u,F2 (bH g) x.right 4,d,am,0,[],⟨am,0,0,0,0⟩⟩:AM)},rfl,⟨⟨by simp,by simp,by simp[Bi]⟩,by simp⟩⟩,.inl ⟨AK {Bi with kind:=13,prod:=(⟨Il ⟨#[109,111,114,101]⟩ x.a,u,F2 (bH g) x.right 4,d,am,0,[],⟨am,0,0,0,0⟩⟩:AM)},_,by simp[t4,BC,AK,Bi],rfl,fi 0 (S':=[]) rfl (by simp)⟩⟩
 .refine xS (yW ?_);simp[t5];apply Bp;apply yW;simp;apply AQ;simp;apply yW;simp;apply AQ;simp;apply yW;simp;apply AQ;simp;apply yW;simp;apply AQ;simp;apply yW;simp;apply AQ;simp;apply yW;simp;apply AQ;simp;apply yW;simp;apply AQ;simp;apply yW;simp;apply AQ;simp;apply yW;simp;apply AQ;simp;apply yW;simp;apply AQ;simp;apply yW;simp;apply AQ;simp;apply yW;simp;apply AQ;simp;apply yW;simp;apply AQ;simp;apply B8;(repeat apply xS);apply yT;apply yJ;simp[t2,t3,t7];refine AY.Ih hrepl [] rfl ?_ ?_ ?_
  .simp[AA]
  .rintro v H ⟨rfl,c,rfl,_⟩;simp
  rintro v H ⟨rfl,c,rfl,hcc⟩;simp;apply yJ;simp[t4,DE];apply Am;refine⟨_,_,ap,by simp[t4],_,_,⟨rfl,c,rfl,hcc⟩,.inl ⟨AK c,_,by simp[t4,BC],rfl,fi 0 (S':=[]) rfl (by simp)⟩⟩
theorem ZO.fin{g:AD}{c:Nat}{l hi:List Int}(G:ZO g c l hi){n:Nat}(hn:n<Z g.Ay)(h:Fg hi n<1000):1<=Fg hi n/\Fg hi n<=3:=by
 obtain⟨_,k2⟩:=gd g (Bg g c) (sd g G.HL);rw[<-G.eq]at k2;obtain⟨h1,p,i,j,k⟩:=k2 n hn h;have m:=Tf g (Bg g c) (λn=>hi.getD n 0) p;have e:Fg hi n=hi.getD n 0:=rfl;have:=G.n3;omega
theorem ZO.kids{g:AD}{c:Nat}{l hi:List Int}(G:ZO g c l hi){p:Nat}(q:p<Z g.AE)(j:GO g (Bg g c) (Fg hi) p<1000):∀s∈g.AE[p].right,wP g hi s/\(Vw hi s:Int)+1<=GO g (Bg g c) (Fg hi) p:=by
 intro s k;have i:g.AE[p]∈g.AE:=cF q;have m:EM g p=g.AE[p].right:=by unfold EM;rw[dl q]
 have u:GO g (Bg g c) (Fg hi) p=FM (Fg hi) g.AE[p].right+1:=by
  unfold GO at j⊢;rw[m]at j⊢;split at j
  .next h=>rw[b8 h];omega
  .omega
 have h0:=Gl (Fg hi) g.AE[p].right;unfold wP Vw;cases o:s.token with
 |true=>
  rw[b8 rfl,b8 rfl];exact⟨(Mf G.nw G.HL).sym _ i s k o,by omega⟩
 |false=>
  rw[a9 (by simp),a9 (by simp)];have h1:=Mt (f:=Fg hi) k o;have t:=Lb G.HL i k o;have v:=G.fin (n:=s.index.toNat) (by omega) (by omega);exact⟨⟨t.1,t.2,by omega⟩,by omega⟩
theorem j8{L a g h:Nat}(h1:g<=L)(i:a<g):(L - g) * 2000+3<(L - a) * 2000+h:=by omega
theorem iV{L a g h:Nat}(h1:g<=L)(i:a<=g):(L - g) * 2000+h<(L - a) * 2000+(h+1):=by omega
theorem j9{B N i X Y L a g h u y:Nat}(h1:u<=i * X+1200 * (h - g))(hi:i+1<=5)(k:y<=X)(m:1+5 * X+1200 * (L - g)<=Y+1200 * (L - g+(g - a)))(o:N+Y+1200 * (L - a)<=B)(q:a<=g)(s:g<=h)(t:h<=L):N+1+u+y+1200 * (L - h)<=B:=by
 have j:(i+1) * X<=5 * X:=abg _ hi;rw[sw,Nat.one_mul]at j;omega
theorem jQ{i X h g j u v y:Nat}(h1:u<=i * X+1200 * (g - h))(k:v<=y+1200 * (j - g))(m:y<=X)(o:h<=g)(q:g<=j):u+v<=(i+1) * X+1200 * (j - h):=by
 rw[sw,Nat.one_mul];omega
theorem iz{i X Y a g h u:Nat}(h1:u<=i * X+1200 * (h - g))(hi:i<=5)(j:∀n,1+5 * X+1200 * n<=Y+1200 * (n+(g - a)))(k:a<=g)(m:g<=h):u+1<=Y+1200 * (h - a):=by
 have o:i * X<=5 * X:=abg _ hi;have:=j (h - g);omega
theorem iK{L g i e E a h m:Nat}(j:g<=i)(h1:e<=E)(k:(L - g) * 2000+E<(L - a) * 2000+h)(o:(L - a) * 2000+h<m+1):(L - i) * 2000+e<m:=by
 have q:(L - i) * 2000<=(L - g) * 2000:=abg _ (Nat.sub_le_sub_left j L);exact EQ (Nat.lt_of_le_of_lt (Nat.add_le_add q h1) k) (Nat.le_of_lt_succ o)
abbrev adT:=@Nat.pos_of_ne_zero
theorem mG{g:AD}{c:Nat}{l hi:List Int}(G:ZO g c l hi):∀(m:Nat) (s:Symbol) (a:Nat) (w:Bool) (o:List A1),a<=Z l->wP g hi s->(Z l - a) * 2000+Vw hi s<m->Z o+6 ^ Vw hi s+1200 * (Z l - a)<=2 ^ 30->∃(u:TF) (M:Nat),a<=M/\M<=Z l/\u.fit g [s]/\Z u.flat<=6 ^ Vw hi s+1200 * (M - a)/\(∀n∈u.flat,Vy g c n)/\AH prog 57 [.ptr 0 1 0 0,.d (AI s)] (H8 g c l a hi w o) (.CA []) (H8 g c l M hi J (o++u.flat)):=by
 intro m;induction m with
 |zero=>intro s a w o _ _ h;omega
 |succ m R=>
  intro s a w o ha z hm hb;obtain⟨tk,A⟩:=s;cases tk with
  |true=>
   have h1:0<=A/\A<Z g.AU:=z;obtain⟨k,rfl⟩:∃k:Nat,A=k:=⟨A.toNat,by omega⟩;have T:6 ^ Vw hi ⟨J,k⟩=1:=rfl;rw[T]at hb;obtain⟨txt,rem,M,e1,e2,e4,e3⟩:=ZW G k (by omega) a ha w o (by omega);exact⟨.leaf k txt rem .nil,M,e1,e2,⟨by omega,by omega,[],rfl,rfl⟩,by rw[T];show 1<=_;omega,(by intro n hn;simp[TF.flat]at hn;subst hn;exact e4),e3⟩
  |false=>
   have h1:0<=A/\A<Z g.Ay/\Fg hi A.toNat<1000:=z;obtain⟨k,rfl⟩:∃k:Nat,A=k:=⟨A.toNat,by omega⟩;rw[jw]at h1;have hfk:=G.fin (n:=k) (by omega) h1.2.2;obtain⟨h,hh⟩:=ce (Vw hi ⟨am,k⟩);have hh2:(h:Int)=Fg hi k:=by rw[<-hh];show(((Fg hi ((k:Int)).toNat).toNat:Nat):Int)=_;rw[jw];omega
   rw[hh]at hm hb⊢;obtain⟨p,N,p1,p2,p3,p4,p5,p6,U⟩:=Zj G k (by omega) h1.2.2 a ha w o;have j:=G.kids p1 p3;have hpos:=Tf g (Bg g c) (Fg hi) p;obtain⟨q,Q⟩:=ce (g.AE[p]);rw[Q]at j;have H:q∈g.AE:=Q▸cF p1;have hql:q.left=(k:Int):=by
    have h2:=JW G.HL H;unfold C9 at p2;rw[dl p1,Q]at p2;simp[]at p2;omega
   have W:Z q.right<=5:=G.r5 q H;obtain⟨E,K,B,X⟩:∃E,(∀s∈q.right,Vw hi s<=E)/\(∀n,1+5 * 6 ^ E+1200 * n<=6 ^ h+1200 * (n+(N - a)))/\(Z l - N) * 2000+E<(Z l - a) * 2000+h:=by
    rcases p6 with p6|p6
    .refine⟨3,λs z=>?_,λn=>?_,j8 p5 p6⟩
     .unfold Vw;split
      .omega
      .next ht=>
       have ht:s.token=false:=by simpa using ht
       have h2:=Lb G.HL H z ht;have:=(j s z).1;unfold wP at this;rw[a9 (by simp[ht])]at this;have:=G.fin (n:=s.index.toNat) (by omega) this.2.2;omega
     .have:1<=6 ^ h:=adT (by simp);have e3:6 ^ 3=216:=by decide
      clear hb R;omega
    .obtain⟨h',rfl⟩:∃h',h=h'+1:=⟨h - 1,by omega⟩;refine⟨h',λs z=>?_,λn=>?_,iV p5 p4⟩
     .have:=(j s z).2;omega
     .have:1<=6 ^ h':=adT (by simp);rw[Nat.pow_succ];clear hb R;omega
   let P:Nat->TF×Nat->Prop:=λi x=>N<=x.2/\x.2<=Z l/\x.1.fit g (q.right.take i)/\Z x.1.flat<=i * 6 ^ E+1200 * (x.2 - N)/\∀n∈x.1.flat,Vy g c n;let C:Nat->TF×Nat->TF×Nat->Prop:=λi x y=>∀t:i<Z q.right,AH prog 57 [.ptr 0 1 0 0,.d (AI q.right[i])] (H8 g c l x.2 hi J (o++[ES p]++x.1.flat)) (.CA []) (H8 g c l y.2 hi J (o++[ES p]++y.1.flat));have ex:∀i x,i<Z q.right->P i x->∃y,P (i+1) y/\C i x y:=by
    rintro i ⟨u,ai⟩ t ⟨F,Y,q3,q4,q5⟩;have zE:q.right[i]∈q.right:=cF t;have hk:=(j _ zE).1;have hy:6 ^ Vw hi q.right[i]<=6 ^ E:=abq (by omega) (K _ zE);have hmm:(Z l - ai) * 2000+Vw hi q.right[i] <m:=iK F (K _ zE) X hm;have hl2:Z (o++[ES p]++u.flat)=Z o+1+Z u.flat:=by simp;omega
    obtain⟨v,aj,r1,r2,r3,r4,r6,r5⟩:=R q.right[i] ai J (o++[ES p]++u.flat) Y hk hmm (by rw[hl2];exact j9 q4 (by omega) hy (B _) hb p4 F Y);refine⟨(u.app v,aj),⟨oq F r1,r2,?_,?_,λn hn=>?_⟩,λ_=>?_⟩
    .rw[abQ,dl t];exact TF.Ka q3 r3
    .show Z (u.app v).flat<=_
     rw[TF.Fq,i6];exact jQ q4 r4 hy F r1
    .rw[TF.Fq]at hn;exact(gc.1 hn).elim (q5 n) (r6 n)
    .show AH _ _ _ _ _ (H8 g c l aj hi J (o++[ES p]++(u.app v).flat))
     rw[TF.Fq,<-abC];exact r5
   obtain⟨st,zb⟩:∃st:Nat->TF×Nat->TF×Nat,∀i x,i<Z q.right->P i x->P (i+1) (st i x)/\C i x (st i x):=by
    classical
    refine⟨λi x=>if h:i<Z q.right/\P i x then(ex i x h.1 h.2).choose else x,λi x h1 h2=>?_⟩;simp[adV (And.intro h1 h2)];exact(ex i x h1 h2).choose_spec
   obtain⟨f,f0,fs⟩:∃f:Nat->TF×Nat,f 0=(.nil,N)/\∀i,f (i+1)=st i (f i):=⟨λn=>Nat.rec (.nil,N) (λi x=>st i x) n,rfl,λ_=>rfl⟩;have fP:∀i,i<=Z q.right->P i (f i):=by
    intro i;induction i with
    |zero=>intro _;rw[f0];exact⟨ci _,p5,rfl,ed _,λn hn=>by simp[TF.flat]at hn⟩
    |succ i ihi=>intro h;rw[fs];exact(zb i _ (by omega) (ihi (by omega))).1
   have fC:∀i (t:i<Z q.right),AH prog 57 [.ptr 0 1 0 0,.d (AI q.right[i])] (H8 g c l (f i).2 hi J (o++[ES p]++(f i).1.flat)) (.CA []) (H8 g c l (f (i+1)).2 hi J (o++[ES p]++(f (i+1)).1.flat)):=λi t=>by
    rw[fs];exact(zb i _ t (fP i (by omega))).2 t
   obtain⟨F,Y,q3,q4,q5⟩:=fP (Z q.right) (ci _);rw[s9]at q3;refine⟨.node p (f (Z q.right)).1 .nil,(f (Z q.right)).2,oq p4 F,Y,⟨q,by rw[dl p1,Q],q3,[],by rw[hql],rfl⟩,?_,λn hn=>?_,?_⟩
   .show Z (ES p::((f (Z q.right)).1.flat++[]))<=_
    rw[NE,gr];exact iz q4 W B p4 F
   .simp[TF.flat]at hn;rcases hn with rfl|hn
    .exact Vy.xr (pA p3)
    .exact q5 n hn
   have L:(TF.node p (f (Z q.right)).1 .nil).flat=ES p::(f (Z q.right)).1.flat:=by simp[TF.flat]
   rw[L];have hns:Z o+1<=2 ^ 30:=by
    have:1<=6 ^ h:=adT (by simp);clear R B ex zb fP fC;omega
   clear R K B X ex zb fP F Y q3 q4 j hb hm;have y8:=AG.eq_1 q;have a1m:Z q.right<=ao:=by unfold ao;omega
   have b3:1<=ao:=by simp[ao]
   have zM:gs=(⟨#[]⟩:ByteArray):=rfl;refine zC func57 99 rfl λwf _=>?_;unfold H8 Ol at U⊢;apply yW;simp;refine xS (yW ?_);simp[AI];apply AQ;simp;apply xK;apply yS;apply yJ;simp;refine xF (U) [0,1] rfl ?_;simp;apply yJ;simp;apply yW;simp[b3,hns,Ac];apply yW;simp;apply Bp;refine zL (Z q.right) (λi tm S=>tm 0=.ptr 0 1 0 0/\tm 8=.d (AF p)/\tm 9=.d (AF i)/\S=H8 g c l (f i).2 hi J (o++[ES p]++(f i).1.flat)++[.row J 2 [.d (AI ⟨am,k⟩)]]) (by simp[H8,Ol,f0,TF.flat,Ax,ES,AI]) ?_;rintro i tm S hiN ⟨t0,t8,t9,rfl⟩;have hp1':p<Z g.AE:=p1;unfold H8 Ol;refine xS (yW ?_);simp[t0,t8,t9,p1,Q,y8];apply AQ;simp;refine⟨λt=>?_,λzf=>?_⟩
   .obtain⟨s,z⟩:=ce (q.right[i]);have hc:=fC i t;rw[z]at hc;unfold H8 Ol at hc;have zw:=AI.eq_1 s;apply xK;apply xB;apply yT;apply yJ;simp[t0,t8,t9,p1,Q,y8,t,z];refine xF (hc) [0,1] rfl ?_;simp[zw];apply yJ;simp;apply yV;simp[t9];refine⟨t,_,_,ap,?_⟩;simp[t0,t8,AL t a1m]
   .have e:i=Z q.right:=by omega
    subst e;apply Co;refine⟨_,k6 2 (by simp),?_⟩;simp[At]
@[simp] def Fh(l:List A1):D:=.sl (l.map Ax)
def Af(x:Term):D:=.agg [Fh x.nodes,Bv x.tail]
@[simp] theorem jo(x:Term):Aj (.d (Af x))=[.d (Fh x.nodes),.d (Bv x.tail)]:=rfl
@[simp] theorem ic(x:Term):Ap (.d (Af x))=true:=rfl
@[simp] theorem mF(x:Term):Bu (.d (Af x))=false:=rfl
@[simp] theorem eD(x:Term):BE (Af x)=[Fh x.nodes,Bv x.tail]:=rfl
@[simp] theorem nC(x:Term):CR.oneD (Af x)=true:=rfl
@[simp] theorem so(x:Term):Da (Af x)=Bq [Fh x.nodes,Bv x.tail]:=rfl
@[simp] theorem kq(S:Sg)(x:Term):Dp S (.d (Af x))=some [Fh x.nodes,Bv x.tail]:=rfl
theorem iT{x:Int}{n a L:Nat}(h1:x<=3)(g:n<=6 ^ x.toNat+1200 * (a - 0))(h:a<=L)(i:L<=40):n<=50000:=by
 have j:6 ^ x.toNat<=6 ^ 3:=abq (by omega) (by omega);have k:6 ^ 3=216:=by decide
 omega
theorem fE(g:AD)(E:B4 g=0)(hn:Z g.conds<=12)(F:Z g.Ay<=3)(H:∀q∈g.AE,Z q.right<=5)(c:Nat)(K:c<2 ^ 64)(left:Nat)(j:left<Z g.Ay)(l:List Int)(L:Z l<=40)(o:∀k∈l,0<=k/\k<256):
  ∃(t:Term) (ok:Bool),(ok=J->∃u:TF,t.nodes=u.flat/\u.fit g [⟨am,left⟩]/\Z u.flat<=50000/\(∀n∈u.flat,Vy g c n)/\Z t.tail<=12/\∀s∈t.tail,s∈T9/\Mj g c s=J)/\Pure prog 15 [AA g,EH c,AF left,.sl (l.map (D.int .u8))] (.CA [Af t,.bool ok]):=by
 have v:=XZ g E hn c K;obtain⟨hi,z⟩:∃hi,hi=Mh g (Bg g c):=⟨_,rfl⟩;rw[<-z]at v;have G:ZO g c l hi:=⟨E,hn,K,L,o,z,F,H⟩;have N:=G.len;have w:left<Z hi:=by omega
 have P:Fg hi left=hi[left]:=by simp[Fg,List.getD,w]
 by_cases A:Fg hi left<1000
 .obtain⟨u,B,Y,C,S,T,U,M⟩:=mG G ((Z l - 0) * 2000+Vw hi ⟨am,left⟩+1) ⟨am,left⟩ 0 am [] (ed _) ⟨by simp,by simp;omega,by simpa using A⟩ (Nat.lt_succ_self _) (by
   have h1:=G.fin j A;have W:Vw hi ⟨am,left⟩<=3:=by show(Fg hi ((left:Int)).toNat).toNat<=3;rw[jw];omega
   have h3:6 ^ Vw hi ⟨am,left⟩<=6 ^ 3:=abq (by omega) W;have h4:6 ^ 3=216:=by decide
   show 0+6 ^ Vw hi ⟨am,left⟩+1200 * (Z l - 0)<=2 ^ 30
   generalize 6 ^ Vw hi ⟨am,left⟩=x at *;omega)
  have Q:=Qa g E hn c K l L o B C hi J u.flat;rw[abH]at M;have zV:=(TA g c l C (Kb l B 12 - 9).toNat);refine⟨⟨u.flat,(Rg g c l B).2⟩,J,λ_=>⟨u,rfl,S,iT (G.fin j A).2 T C L,U,Tk o C,Sm o _⟩,ip func15 (by kernel_rfl) rfl (by simp) λwf=>?_⟩;generalize(Rg g c l B).2=rem at *;generalize(Rg g c l B).1=a2 at *;rw[ntmps15];have R:=M.E5 (args':=[.ptr 0 1 0 0,.agg [.d (.bool am),.d (.int .i64 left)]]) rfl λi h h'=>by
   match i,h with
   |0,_=>exact .inl rfl
   |1,_=>exact .inr ⟨_,by simp[BC,Ed,CZ,AI],rfl⟩
  clear M;unfold H8 Ol at R Q;apply yW;simp;(repeat apply xS);refine yE (A3 7 [15,16]) (by kernel_rfl) ?_;simp;apply yA 1;simp[AA];refine Bs (v) rfl (by simp[AA]) ?_;simp[AA];apply yA 1;simp;apply xX 1 (by kernel_rfl);simp[Aa,Ag];apply yA 1;simp;rw[P]at A;have m:¬(1000:Int)<=hi[left]:=by omega
  refine xS (yW ?_);simp[w,m];apply AQ;simp;apply xK;refine io (AJ.Qe 2 0 13 4 (xs:=[]) (by simp;exact⟨rfl,rfl⟩) rfl rfl) ?_;simp;apply yS;apply yJ;simp;refine xF (R) [2,3] rfl ?_;simp;apply yJ;simp;apply yW;simp;apply yS;apply yJ;simp;refine xF (Q) [2,3] rfl ?_;simp;apply yJ;simp;(repeat apply xS);apply yV;simp;(apply Am;refine⟨_,_,fc 3 (xs:=u.flat.map Ax) rfl (by simp),?_⟩;simp[BC,CZ,Af])
 .have X:¬hi[left] <1000:=by rw[<-P];exact A
  have m:(1000:Int)<=hi[left]:=by omega
  refine⟨⟨[],[]⟩,am,by simp,ip func15 rfl rfl (by simp) λwf=>?_⟩;rw[ntmps15];apply yW;simp;refine yD (A3 7 [15,16]) (by kernel_rfl) ?_;simp;apply yA 1;simp[AA];refine Bs (v) rfl (by simp[AA]) ?_;simp[AA];apply yA 1;simp;apply xX 1 (by kernel_rfl);simp[Aa,Ag];apply yA 1;simp;refine xS (yW ?_);simp[w,m];apply AQ;simp;(repeat apply xS);apply yV;simp;(apply Am;refine⟨_,_,ap,?_⟩;simp[BC,CZ,Af])
noncomputable def Gs(g:AD)(i:Nat):List Nat:=(List.range i).filter (hasB g)
theorem aU(g:AD)(i:Nat):Gs g (i+1)=Gs g i++if hasB g i then [i]else []:=by
 unfold Gs;rw[acw,ab4];cases h:hasB g i<;>simp[h]
theorem Ud(g:AD)(i:Nat):Z (Gs g i)<=i:=by
 have:=ack (hasB g) (List.range i);simpa[Gs]using this
theorem XP(g:AD)(z:B4 g=0)(hn:Z g.conds<=12)(k:Nat)(M:k<256)(h:0<Z (Gs g 8)):Pure prog 14 [AA g,.int .u8 k] (EH ((Gs g 8).getD (k % Z (Gs g 8)) 0)):=by
 have j:=λc A=>tN g z hn c A;have B:1<=ao:=by simp[ao]
 refine zP func14 26 rfl λwf=>?_;apply yW;simp;apply yW;simp;refine io (tv 5 1 (xs:=[]) (by simp)) ?_;refine nt (R:=λtm S=>tm 1=.d (.int .u8 k)/\tm 5=.row 1 (Z (Gs g 8))/\∃w,S=[.row J 9 [.d (AA g)],.row w 1 ((Gs g 8).map λ(c:Nat)=>.d (EH c))]) ?_ ?_
 .apply yW;simp;apply Bp;refine zL 8 (λi tm S=>tm 1=.d (.int .u8 k)/\tm 2=.ptr 0 1 0 0/\tm 5=.row 1 (Z (Gs g i))/\tm 6=.d (EH i)/\∃w,S=[.row J 9 [.d (AA g)],.row w 1 ((Gs g i).map λ(c:Nat)=>.d (EH c))]) (by simp[Gs,AA]) ?_;rintro i tm S hi ⟨t1,t2,t5,t6,w,rfl⟩;have o:=aU g i;have C:=Ud g i;have E:=j i (by omega);generalize F:Gs g i=L at *;have G:Z L+1<=2 ^ 30:=by omega
  have v:bv .u64 ((i:Int)+1)=((i+1:Nat):Int):=by rw[show(i:Int)+1=((i+1:Nat):Int) by omega,Pt,ww (by omega)]
  by_cases H:i<8
  .have K:(i:Int)<8:=by omega
   refine xS (yW ?_);simp[t6];apply AQ;simp[K,H];apply xK;apply xB;(repeat apply xS);apply yT;apply yJ;simp[t2,t6];refine Bz (E) rfl (by simp[xN]) (yJ ?_);simp;cases hb:hasB g i with
   |true=>
    rw[hb,b8 rfl]at o;apply AQ;simp;apply yV;simp[t5,t6,G,B,Ac];apply yV;simp[t6,v];refine⟨_,_,ap,?_⟩;simp[t1,t2,o]
   |false=>
    rw[hb,a9 (by simp)]at o;apply AQ;simp;apply B8;apply yV;simp[t6,v];refine⟨_,_,ap,?_⟩;simp[t1,t2,t5,o]
  .have e:i=8:=by omega
   subst e;refine xS (yW ?_);simp[t6];apply AQ;simp;apply Co;rw[F];cases w<;>simp[t1,t5]
 .rintro tm S ⟨t1,t5,w,rfl⟩;have C:=Ud g 8;generalize Gs g 8=L at *;have hj:k % Z L<Z L:=pm _ h;have q:bv .i64 (k:Int)=k:=by rw[c8];omega
  have s:(k:Int).tmod (Z L)=((k % Z L:Nat):Int):=by rw[i7 (by omega)];push_cast;rfl
  have t:¬L=[]:=λe=>by rw[e]at h;simp at h
  generalize N:k % Z L=m at *;have u:L.getD m 0=L[m]:=by simp[List.getD,hj]
  rw[u];apply yW;simp[t1,t5,q,s,t,hj];apply zT;try simp
theorem NJ{n:Nat}{s g:Int->Bool}(h:∀v:Int,0<=v->v<n->s v=g v):∀{t:DT},t.Good->t.Below n->t.B9 s=t.B9 g
 |.leaf _,_,_=>rfl
 |.node v l r,i,hb=>by
  obtain⟨h0,h1,_,_,_,j,k⟩:=i;obtain⟨m,bl,o⟩:=hb;simp[B9,h v h0 m,NJ h j bl,NJ h k o]
def Oo(b:Bool):Nat:=if b then 1 else 0
theorem tG(n:Nat)(hn:n<=3)(s:Int->Bool):∃c,c<2 ^ n/\∀v:Int,0<=v->v<n->s v=cfg c v:=by
 have i:∀a b c:Bool,∀v:Nat,v<3->cfg (Oo a+2 * Oo b+4 * Oo c) v=if v=0 then a else if v=1 then b else c:=by
  intro a b c v g;have:v=0\/v=1\/v=2:=by omega
  rcases this with rfl|rfl|rfl<;>cases a<;>cases b<;>cases c<;>decide
 have g:∀v:Int,0<=v->∃k:Nat,v=k:=λv h=>⟨v.toNat,by omega⟩;have:n=0\/n=1\/n=2\/n=3:=by omega
 rcases this with rfl|rfl|rfl|rfl
 .exact⟨0,by decide,λv h1 j=>by omega⟩
 .refine⟨Oo (s 0)+2 * Oo am+4 * Oo am,by cases s 0<;>decide,λv h1 j=>?_⟩;obtain⟨k,rfl⟩:=g v h1;rw[i _ _ _ k (by omega)];have:k=0:=by omega
  subst this;rfl
 .refine⟨Oo (s 0)+2 * Oo (s 1)+4 * Oo am,by cases s 0<;>cases s 1<;>decide,λv h1 j=>?_⟩;obtain⟨k,rfl⟩:=g v h1;rw[i _ _ _ k (by omega)];have:k=0\/k=1:=by omega
  rcases this with rfl|rfl<;>rfl
 .refine⟨Oo (s 0)+2 * Oo (s 1)+4 * Oo (s 2),by cases s 0<;>cases s 1<;>cases s 2<;>decide,λv h1 j=>?_⟩;obtain⟨k,rfl⟩:=g v h1;rw[i _ _ _ k (by omega)];have:k=0\/k=1\/k=2:=by omega
  rcases this with rfl|rfl|rfl<;>rfl
theorem eU{g:AD}(m:B4 g=0)(k:Z g.conds<=3):0<Z (Gs g 8):=by
 have h:=(Bt m).2.1;simp[Fu]at h;obtain⟨o,i⟩:=FL h.1.2;have q:tr g.fam≠.leaf false:=λe=>by
  have:=EB o;rw[e]at this;exact h.2 (by rw[<-this];rfl)
 obtain⟨s,t⟩:=U8 i.G9 q;obtain⟨c,u,v⟩:=tG (Z g.conds) k s;have j:c<8:=by
  have:2 ^ Z g.conds<=2 ^ 3:=abq (by omega) k;omega
 have hb:hasB g c=true:=by
  unfold hasB Ct;rw[<-NJ v i.G9 i.below,t];simp[u]
 exact aca (tg.2 ⟨by simpa using j,hb⟩)
theorem VJ{g:AD}{c i:Nat}(h:c∈Gs g i):c<i/\hasB g c=true:=by
 obtain⟨h1,j⟩:=tg.1 h;exact⟨by simpa using h1,j⟩
theorem Y7(g:AD)(i:B4 g=0)(o:Z g.conds<=3)(k:Nat)(q:k<256):∃c,c<8/\hasB g c=J/\Pure prog 14 [AA g,.int .u8 k] (EH c):=by
 have h:=eU i o;have j:=XP g i (by omega) k q h;have hj:k % Z (Gs g 8)<Z (Gs g 8):=pm _ h;have m:(Gs g 8)[k % Z (Gs g 8)]∈Gs g 8:=cF hj;have s:(Gs g 8).getD (k % Z (Gs g 8)) 0=(Gs g 8)[k % Z (Gs g 8)]:=by simp[List.getD,hj]
 rw[s]at j;exact⟨_,(VJ m).1,(VJ m).2,j⟩
end Go.Koi
