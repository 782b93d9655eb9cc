/-
  Part 16 of the proof that the law ChangeRestricts returns true for every input.
-/
import Derived.Test.YtbpjppgjnkklnaaGreatDoorG14
import Derived.RangeFuncRecord
import Derived.Shelf.SlIterI.Collect
import Derived.Ground.GgzProg
import Derived.RangeFuncBox
import Derived.WalkKit
import Derived.LoopIn
set_option maxHeartbeats 64000000
set_option maxRecDepth 100000
open List renaming length->Z
open Go.IntKind renaming wrap->b8
open Bool renaming true->J,false->ap
open Option renaming some->am
open Go.Koi.D renaming int->br,sl->j4
open Go.Proofs.Tryz
namespace Go.Koi
open Go renaming World->cR,maxLen->a8
open Go.Proofs Tryz DT
def VL(hi:List Int)(s:Symbol):Nat:=if s.token then 0 else(Fa hi s.index.toNat).toNat
def wB(g:AE)(hi:List Int)(s:Symbol):Prop:=if s.token then 0<=s.index/\s.index<Z g.AT else 0<=s.index/\s.index<Z g.A0/\Fa hi s.index.toNat<1000
def wQ:List ByteArray:=[⟨#[120]⟩,⟨#[121]⟩,⟨#[97,98]⟩,⟨#[105,102]⟩,⟨#[122]⟩,⟨#[101,108,115,101]⟩]
theorem TM{g:AE}{c:Nat}{l:List Int}(h:∀k∈l,0<=k/\k<256){a:Nat}(ha:a<=Z l):Z (Q2 g c l a).2<=12:=by
 have i:=I4 h (a:=a) (n:=12) (by omega);have j:=(S5 g c l ha (KR l a 12 - 9).toNat).2.2;show Z (Kc g c l a (KR l a 12 - 9).toNat).2<=12
 omega
theorem TN{g:AE}{c:Nat}{l:List Int}(h:∀k∈l,0<=k/\k<256)(a:Nat):∀s∈(Q2 g c l a).2,s∈VW:=nb g c h a _
def qQ(t:Token)(s:ByteArray):Prop:=(s=t.literal/\t.literal≠⟨#[]⟩)\/s∈wQ\/(t.literal=⟨#[]⟩/\s=t.C6)
def TY(g:AE)(c:Nat)(n:BD):Prop:=Z n.rem<=12/\(∀s∈n.rem,s∈VW)/\(n.prod<0->∃t,g.AT[n.token.toNat]?=am t/\qQ t n.text)/\∀p:Nat,n.prod=p->Bk g c p=J
theorem TY.leaf{g:AE}{c k:Nat}{t:Token}{DG:ByteArray}{rem:List ByteArray}(i:g.AT[k]?=am t)(h:qQ t DG)(j:Z rem<=12)(m:∀s∈rem,s∈VW):TY g c ⟨-1,k,DG,rem⟩:=
 ⟨j,m,λ_=>⟨t,by simpa using i,h⟩,λp o=>by have:(-1:Int)=p:=o;omega⟩
theorem TY.y7{g:AE}{c p:Nat}(h:Bk g c p=J):TY g c (Gs p):=
 ⟨er _,λs i=>absurd i (by simp[Gs]),λh=>absurd h (by simp[Gs]),λq j=>(by
  have m:(p:Int)=q:=j;have k:q=p:=by omega
  rw[k];exact h)⟩
theorem mO{g:AE}{c p:Nat}{f:Nat->Int}(h:GK g (Bk g c) f p<1000):Bk g c p=true:=by
 unfold GK at h;split at h
 .assumption
 .omega
theorem ag{g:AE}{c:Nat}{l hi:List Int}(G:aW g c l hi)(k:Nat)(v:k<Z g.AT)(a:Nat)(ha:a<=Z l)(w:Bool)(M:List BD)(E:Z M+1<=2 ^ 30):
  ∃(DG:ByteArray) (rem:List ByteArray) (N:Nat),a<=N/\N<=Z l/\TY g c ⟨-1,k,DG,rem⟩/\AG prog 51 [.ptr 0 1 0 0,.d (AH ⟨J,k⟩)] (Hu g c l a hi w M) (.CX []) (Hu g c l N hi J (M++[⟨-1,k,DG,rem⟩])):=by
 obtain⟨t,A⟩:=ce (g.AT[k]);have htm:t∈g.AT:=A▸cL v;have m:=AX.eq_1 t;have B:ByteArray.empty=(⟨#[]⟩:ByteArray):=rfl;have o:1<=a8:=by simp[a8]
 have P:=λa ha=>Ph g G.F7 G.n12 c G.yo l G.wh G.l8 a ha hi w M;have q:=λa ha=>S5 g c l (a:=a) ha;have Q:=λn=>SG g c l G.wh G.l8 a hi w M n;by_cases i:t.literal=⟨#[]⟩
 .have h6:=I4 G.l8 (a:=a) (n:=6) (by omega);obtain⟨j,hj⟩:∃j:Nat,KR l a 6=j:=⟨(KR l a 6).toNat,by omega⟩;have R:j<6:=by omega
  have S:(j:Int)<6:=by omega
  obtain⟨u,T⟩:=ce (wQ.getD j ⟨#[]⟩);have F:j=0\/j=1\/j=2\/j=3\/j=4\/j=5:=by omega
  have U:u.size<=2 ^ 20:=by
   rcases F with rfl|rfl|rfl|rfl|rfl|rfl<;>(rw[<-T];decide)
  have W:∀h:j<6,[D.str ⟨#[120]⟩,D.str ⟨#[121]⟩,D.str ⟨#[97,98]⟩,D.str ⟨#[105,102]⟩,D.str ⟨#[122]⟩,D.str ⟨#[101,108,115,101]⟩][j]=D.str u:=λh=>by
   rcases F with rfl|rfl|rfl|rfl|rfl|rfl<;>(rw[<-T];rfl)
  have H:=Q 6;rw[hj]at H;have X:=LU t u U;have K:=VT l a 6;have L:=P (L8 l a 6) (K.2 ha);have C:L8 l a 6<=(Q2 g c l (L8 l a 6)).1/\(Q2 g c l (L8 l a 6)).1<=Z l:=by have:=q (L8 l a 6) (K.2 ha) (KR l (L8 l a 6) 12 - 9).toNat;exact⟨this.1,this.2.1⟩
  have Y:qQ t (if kU t u then u else t.C6):=by
   split
   .exact .inr (.inl (by rw[<-T];rcases F with rfl|rfl|rfl|rfl|rfl|rfl<;>simp[wQ]))
   .exact .inr (.inr ⟨i,rfl⟩)
  refine⟨if kU t u then u else t.C6,(Q2 g c l (L8 l a 6)).2,(Q2 g c l (L8 l a 6)).1,by omega,C.2,TY.leaf (by rw[ej v,A]) Y (TM G.l8 (K.2 ha)) (TN G.l8 _),?_⟩;generalize(Q2 g c l (L8 l a 6)).1=N at *;generalize(Q2 g c l (L8 l a 6)).2=rem at *;generalize L8 l a 6=a1 at *;refine zC func51 99 rfl λwf _=>?_;unfold Hu OF at L H⊢;apply yW;simp;refine xS (yW ?_);simp[AH];apply AP;simp;refine yD (A7 9 [19,21]) (by kernel_rfl) ?_;simp;apply yA 1;simp[v,A,m];apply xX 0 (by kernel_rfl);simp[AY,v,A,m];apply xX 511 (by kernel_rfl);simp[AY,v,A,m];apply xM;apply yW;simp;refine xS (yW ?_);simp[i];apply AP;simp;apply yW;simp;apply yS;apply yJ;simp;refine xF (H) [0,1] rfl ?_;simp;apply yJ;simp;apply yW;simp[a8,R,S,W];(repeat apply xS);apply yT;apply yJ;simp;refine Bq (X) rfl (by simp[i,xN]) (yJ ?_);simp;cases hb:kU t u with
  |true=>
   rw[ca rfl];apply AP;simp;apply yV;simp;apply yS;apply yJ;simp;refine xF (L) [0,1] rfl ?_;simp;apply yJ;simp;(repeat apply xS);refine yE (A7 7 [15,16,18,21]) (by kernel_rfl) ?_;simp;apply yA 1;simp[o];apply xX 5 (by kernel_rfl);simp[AY,o,E,Ac];apply yA 1;simp;apply xX 125 (by kernel_rfl);simp[AY];apply xM;(apply Aj;refine⟨_,fd 2 (by simp[Bs]) (by simp) (by simp) (by simp),?_⟩;simp[Aq])
  |false=>
   rw[bv (by simp)];apply AP;simp;apply xK;apply yS;apply yJ;simp;refine xF (L) [0,1] rfl ?_;simp;apply yJ;simp;(repeat apply xS);refine yE (A7 7 [15,16,18,21]) (by kernel_rfl) ?_;simp;apply yA 1;simp[o];apply xX 5 (by kernel_rfl);simp[AY,o,E,Ac];apply yA 1;simp;apply xX 125 (by kernel_rfl);simp[AY];apply xM;(apply Aj;refine⟨_,fd 2 (by simp[Bs]) (by simp) (by simp) (by simp),?_⟩;simp[Aq])
 .have L:=P a ha;have C:a<=(Q2 g c l a).1/\(Q2 g c l a).1<=Z l:=by have:=q a ha (KR l a 12 - 9).toNat;exact⟨this.1,this.2.1⟩
  refine⟨t.literal,(Q2 g c l a).2,(Q2 g c l a).1,C.1,C.2,TY.leaf (by rw[ej v,A]) (.inl ⟨rfl,i⟩) (TM G.l8 ha) (TN G.l8 _),?_⟩;generalize(Q2 g c l a).1=N at *;generalize(Q2 g c l a).2=rem at *;refine zC func51 99 rfl λwf _=>?_;unfold Hu OF at L⊢;apply yW;simp;refine xS (yW ?_);simp[AH];apply AP;simp;refine yD (A7 9 [19,21]) (by kernel_rfl) ?_;simp;apply yA 1;simp[v,A,m];apply xX 0 (by kernel_rfl);simp[AY,v,A,m];apply xX 511 (by kernel_rfl);simp[AY,v,A,m];apply xM;apply yW;simp;refine xS (yW ?_);simp[i];apply AP;simp;apply xK;apply yS;apply yJ;simp;refine xF (L) [0,1] rfl ?_;simp;apply yJ;simp;(repeat apply xS);refine yE (A7 7 [15,16,18,21]) (by kernel_rfl) ?_;simp;apply yA 1;simp[o];apply xX 5 (by kernel_rfl);simp[AY,o,E,Ac];apply yA 1;simp;apply xX 125 (by kernel_rfl);simp[AY];apply xM;(apply Aj;refine⟨_,fd 2 (by simp[Bs]) (by simp) (by simp) (by simp),?_⟩;simp[Aq])
theorem aW.fin{g:AE}{c:Nat}{l hi:List Int}(G:aW g c l hi){n:Nat}(i:n<Z g.A0)(h:Fa hi n<1000):1<=Fa hi n/\Fa hi n<=3:=by
 obtain⟨_,k2⟩:=cz g (Bk g c) (ra g G.F7);rw[<-G.eq]at k2;obtain⟨j,p,k,m,o⟩:=k2 n i h;have q:=SB g (Bk g c) (λn=>hi.getD n 0) p;have e:Fa hi n=hi.getD n 0:=rfl;have:=G.n3;omega
theorem aW.kids{g:AE}{c:Nat}{l hi:List Int}(G:aW g c l hi){p:Nat}(q:p<Z g.AD)(j:GK g (Bk g c) (Fa hi) p<1000):∀s∈g.AD[p].right,wB g hi s/\(VL hi s:Int)+1<=GK g (Bk g c) (Fa hi) p:=by
 intro s k;have i:g.AD[p]∈g.AD:=cL q;have m:EM g p=g.AD[p].right:=by unfold EM;rw[ej q]
 have v:GK g (Bk g c) (Fa hi) p=FJ (Fa hi) g.AD[p].right+1:=by
  unfold GK at j⊢;rw[m]at j⊢;split at j
  .next h=>rw[ca h];omega
  .omega
 have h0:=GP (Fa hi) g.AD[p].right;unfold wB VL;cases o:s.token with
 |true=>
  rw[ca rfl,ca rfl];exact⟨(L4 G.n12 G.F7).sym _ i s k o,by omega⟩
 |false=>
  rw[bv (by simp),bv (by simp)];have w:=Ml (f:=Fa hi) k o;have u:=K7 G.F7 i k o;have A:=G.fin (n:=s.index.toNat) (by omega) (by omega);exact⟨⟨u.1,u.2,by omega⟩,by omega⟩
theorem dq{L a g h:Nat}(i:g<=L)(j:a<g):(L - g) * 2000+3<(L - a) * 2000+h:=by omega
theorem dY{L a g h:Nat}(i:g<=L)(j:a<=g):(L - g) * 2000+h<(L - a) * 2000+(h+1):=by omega
theorem ct{B N i X Y L a g h u y:Nat}(k:u<=i * X+1200 * (h - g))(hi:i+1<=5)(m:y<=X)(o:1+5 * X+1200 * (L - g)<=Y+1200 * (L - g+(g - a)))(q:N+Y+1200 * (L - a)<=B)(v:a<=g)(w:g<=h)(A:h<=L):N+1+u+y+1200 * (L - h)<=B:=by
 have j:(i+1) * X<=5 * X:=At _ hi;rw[oE,Nat.one_mul]at j;omega
theorem eM{i X h g j u v y:Nat}(k:u<=i * X+1200 * (g - h))(m:v<=y+1200 * (j - g))(o:y<=X)(q:h<=g)(w:g<=j):u+v<=(i+1) * X+1200 * (j - h):=by
 rw[oE,Nat.one_mul];omega
theorem dn{i X Y a g h u:Nat}(k:u<=i * X+1200 * (h - g))(hi:i<=5)(j:∀n,1+5 * X+1200 * n<=Y+1200 * (n+(g - a)))(m:a<=g)(o:g<=h):u+1<=Y+1200 * (h - a):=by
 have q:i * X<=5 * X:=At _ hi;have:=j (h - g);omega
theorem ee{L g i e E a h m:Nat}(j:g<=i)(k:e<=E)(o:(L - g) * 2000+E<(L - a) * 2000+h)(q:(L - a) * 2000+h<m+1):(L - i) * 2000+e<m:=by
 have u:(L - i) * 2000<=(L - g) * 2000:=At _ (Nat.sub_le_sub_left j L);exact su (Nat.lt_of_le_of_lt (Nat.add_le_add u k) o) (Nat.le_of_lt_succ q)
abbrev adP:=@Nat.pos_of_ne_zero
theorem nU{g:AE}{c:Nat}{l hi:List Int}(G:aW g c l hi):∀(m:Nat) (s:Symbol) (a:Nat) (w:Bool) (o:List BD),a<=Z l->wB g hi s->(Z l - a) * 2000+VL hi s<m->Z o+6 ^ VL hi s+1200 * (Z l - a)<=2 ^ 30->∃(u:TF) (U:Nat),a<=U/\U<=Z l/\u.fit g [s]/\Z u.flat<=6 ^ VL hi s+1200 * (U - a)/\(∀n∈u.flat,TY g c n)/\AG prog 51 [.ptr 0 1 0 0,.d (AH s)] (Hu g c l a hi w o) (.CX []) (Hu g c l U hi J (o++u.flat)):=by
 intro m;induction m with
 |zero=>intro s a w o _ _ h;omega
 |succ m Y=>
  intro s a w o ha F hm hb;obtain⟨tk,H⟩:=s;cases tk with
  |true=>
   have M:0<=H/\H<Z g.AT:=F;obtain⟨k,rfl⟩:∃k:Nat,H=k:=⟨H.toNat,by omega⟩;have hp1:6 ^ VL hi ⟨J,k⟩=1:=rfl;rw[hp1]at hb;obtain⟨DG,rem,U,e1,e2,e4,e3⟩:=ag G k (by omega) a ha w o (by omega);exact⟨.leaf k DG rem .nil,U,e1,e2,⟨by omega,by omega,[],rfl,rfl⟩,by rw[hp1];show 1<=_;omega,(by intro n A;simp[TF.flat]at A;subst A;exact e4),e3⟩
  |false=>
   have M:0<=H/\H<Z g.A0/\Fa hi H.toNat<1000:=F;obtain⟨k,rfl⟩:∃k:Nat,H=k:=⟨H.toNat,by omega⟩;rw[ne]at M;have hfk:=G.fin (n:=k) (by omega) M.2.2;obtain⟨h,hh⟩:=ce (VL hi ⟨ap,k⟩);have hh2:(h:Int)=Fa hi k:=by rw[<-hh];show(((Fa hi ((k:Int)).toNat).toNat:Nat):Int)=_;rw[ne];omega
   rw[hh]at hm hb⊢;obtain⟨p,W,p1,p2,p3,p4,p5,p6,hch⟩:=Zx G k (by omega) M.2.2 a ha w o;have j:=G.kids p1 p3;have hpos:=SB g (Bk g c) (Fa hi) p;obtain⟨q,X⟩:=ce (g.AD[p]);rw[X]at j;have N:q∈g.AD:=X▸cL p1;have hql:q.left=(k:Int):=by
    have h2:=Gy G.F7 N;unfold Co at p2;rw[ej p1,X]at p2;simp[]at p2;omega
   have hr16:Z q.right<=5:=G.r5 q N;obtain⟨E,Q,K,hE3⟩:∃E,(∀s∈q.right,VL hi s<=E)/\(∀n,1+5 * 6 ^ E+1200 * n<=6 ^ h+1200 * (n+(W - a)))/\(Z l - W) * 2000+E<(Z l - a) * 2000+h:=by
    rcases p6 with p6|p6
    .refine⟨3,λs F=>?_,λn=>?_,dq p5 p6⟩
     .unfold VL;split
      .omega
      .next ht=>
       have ht:s.token=false:=by simpa using ht
       have h2:=K7 G.F7 N F ht;have:=(j s F).1;unfold wB at this;rw[bv (by simp[ht])]at this;have:=G.fin (n:=s.index.toNat) (by omega) this.2.2;omega
     .have:1<=6 ^ h:=adP (by simp);have e3:6 ^ 3=216:=by decide
      clear hb Y;omega
    .obtain⟨h',rfl⟩:∃h',h=h'+1:=⟨h - 1,by omega⟩;refine⟨h',λs F=>?_,λn=>?_,dY p5 p4⟩
     .have:=(j s F).2;omega
     .have:1<=6 ^ h':=adP (by simp);rw[Nat.pow_succ];clear hb Y;omega
   let P:Nat->TF×Nat->Prop:=λi x=>W<=x.2/\x.2<=Z l/\x.1.fit g (q.right.take i)/\Z x.1.flat<=i * 6 ^ E+1200 * (x.2 - W)/\∀n∈x.1.flat,TY g c n;let C:Nat->TF×Nat->TF×Nat->Prop:=λi x y=>∀B:i<Z q.right,AG prog 51 [.ptr 0 1 0 0,.d (AH q.right[i])] (Hu g c l x.2 hi J (o++[Gs p]++x.1.flat)) (.CX []) (Hu g c l y.2 hi J (o++[Gs p]++y.1.flat));have ex:∀i x,i<Z q.right->P i x->∃y,P (i+1) y/\C i x y:=by
    rintro i ⟨u,ai⟩ B ⟨L,q2,q3,q4,q5⟩;have R:q.right[i]∈q.right:=cL B;have hk:=(j _ R).1;have hy:6 ^ VL hi q.right[i]<=6 ^ E:=aby (by omega) (Q _ R);have hmm:(Z l - ai) * 2000+VL hi q.right[i] <m:=ee L (Q _ R) hE3 hm;have hl2:Z (o++[Gs p]++u.flat)=Z o+1+Z u.flat:=by simp;omega
    obtain⟨v,aj,r1,r2,r3,r4,r6,r5⟩:=Y q.right[i] ai J (o++[Gs p]++u.flat) q2 hk hmm (by rw[hl2];exact ct q4 (by omega) hy (K _) hb p4 L q2);refine⟨(u.app v,aj),⟨ms L r1,r2,?_,?_,λn A=>?_⟩,λ_=>?_⟩
    .rw[abN,ej B];exact TF.YG q3 r3
    .show Z (u.app v).flat<=_
     rw[TF.Mc,jp];exact eM q4 r4 hy L r1
    .rw[TF.Mc]at A;exact(fi.1 A).elim (q5 n) (r6 n)
    .show AG _ _ _ _ _ (Hu g c l aj hi J (o++[Gs p]++(u.app v).flat))
     rw[TF.Mc,<-acm];exact r5
   obtain⟨st,zn⟩:∃st:Nat->TF×Nat->TF×Nat,∀i x,i<Z q.right->P i x->P (i+1) (st i x)/\C i x (st i x):=by
    classical
    refine⟨λi x=>if h:i<Z q.right/\P i x then(ex i x h.1 h.2).choose else x,λi x M h2=>?_⟩;simp[NE (And.intro M h2)];exact(ex i x M h2).choose_spec
   obtain⟨f,f0,fs⟩:∃f:Nat->TF×Nat,f 0=(.nil,W)/\∀i,f (i+1)=st i (f i):=⟨λn=>Nat.rec (.nil,W) (λi x=>st i x) n,rfl,λ_=>rfl⟩;have fP:∀i,i<=Z q.right->P i (f i):=by
    intro i;induction i with
    |zero=>intro _;rw[f0];exact⟨c9 _,p5,rfl,er _,λn A=>by simp[TF.flat]at A⟩
    |succ i ihi=>intro h;rw[fs];exact(zn i _ (by omega) (ihi (by omega))).1
   have fC:∀i (B:i<Z q.right),AG prog 51 [.ptr 0 1 0 0,.d (AH q.right[i])] (Hu g c l (f i).2 hi J (o++[Gs p]++(f i).1.flat)) (.CX []) (Hu g c l (f (i+1)).2 hi J (o++[Gs p]++(f (i+1)).1.flat)):=λi B=>by
    rw[fs];exact(zn i _ B (fP i (by omega))).2 B
   obtain⟨L,q2,q3,q4,q5⟩:=fP (Z q.right) (c9 _);rw[ns]at q3;refine⟨.node p (f (Z q.right)).1 .nil,(f (Z q.right)).2,ms p4 L,q2,⟨q,by rw[ej p1,X],q3,[],by rw[hql],rfl⟩,?_,λn A=>?_,?_⟩
   .show Z (Gs p::((f (Z q.right)).1.flat++[]))<=_
    rw[acd,gr];exact dn q4 hr16 K p4 L
   .simp[TF.flat]at A;rcases A with rfl|A
    .exact TY.y7 (mO p3)
    .exact q5 n A
   have T:(TF.node p (f (Z q.right)).1 .nil).flat=Gs p::(f (Z q.right)).1.flat:=by simp[TF.flat]
   rw[T];have hns:Z o+1<=2 ^ 30:=by
    have:1<=6 ^ h:=adP (by simp);clear Y K ex zn fP fC;omega
   clear Y Q K hE3 ex zn fP L q2 q3 q4 j hb hm;have zh:=AF.eq_1 q;have a1m:Z q.right<=a8:=by unfold a8;omega
   have b3:1<=a8:=by simp[a8]
   have hem:ByteArray.empty=(⟨#[]⟩:ByteArray):=rfl;refine zC func51 99 rfl λwf _=>?_;unfold Hu OF at hch⊢;apply yW;simp;refine xS (yW ?_);simp[AH];apply AP;simp;apply xK;apply yS;apply yJ;simp;refine xF (hch) [0,1] rfl ?_;simp;apply yJ;simp;apply yW;simp[b3,hns,Ac];apply yW;simp;apply Bo;refine zL (Z q.right) (λi tm S=>tm 0=.ptr 0 1 0 0/\tm 8=.d (encI p)/\tm 9=.d (encI i)/\S=Hu g c l (f i).2 hi J (o++[Gs p]++(f i).1.flat)++[.row J 2 [.d (AH ⟨ap,k⟩)]]) (by simp[Hu,OF,f0,TF.flat,Bs,Gs,AH]) ?_;rintro i tm S hiN ⟨t0,t8,t9,rfl⟩;have hp1':p<Z g.AD:=p1;unfold Hu OF;refine xS (yW ?_);simp[t0,t8,t9,p1,X,zh];apply AP;simp;refine⟨λB=>?_,λzu=>?_⟩
   .obtain⟨s,F⟩:=ce (q.right[i]);have hc:=fC i B;rw[F]at hc;unfold Hu OF at hc;have hes:=AH.eq_1 s;apply xK;apply xB;apply yT;apply yJ;simp[t0,t8,t9,p1,X,zh,B,F];refine xF (hc) [0,1] rfl ?_;simp[hes];apply yJ;simp;apply yV;simp[t9];refine⟨B,_,_,a9,?_⟩;simp[t0,t8,AK B a1m]
   .have e:i=Z q.right:=by omega
    subst e;apply Ci;refine⟨_,j1 2 (by simp),?_⟩;simp[Aq]
@[simp] def Dh(l:List BD):D:=.sl (l.map Bs)
def BN(x:Term):D:=.agg [Dh x.nodes,By x.tail]
@[simp] theorem fx(x:Term):Ae (.d (BN x))=[.d (Dh x.nodes),.d (By x.tail)]:=rfl
@[simp] theorem iW(x:Term):Ap (.d (BN x))=true:=rfl
@[simp] theorem mf(x:Term):Bp (.d (BN x))=false:=rfl
@[simp] theorem ja(x:Term):BE (BN x)=[Dh x.nodes,By x.tail]:=rfl
@[simp] theorem lH(x:Term):CL.oneD (BN x)=true:=rfl
@[simp] theorem qF(x:Term):DY (BN x)=Bm [Dh x.nodes,By x.tail]:=rfl
@[simp] theorem kC(S:Sg)(x:Term):DS S (.d (BN x))=am [Dh x.nodes,By x.tail]:=rfl
theorem eS{x:Int}{n a L:Nat}(g:x<=3)(h:n<=6 ^ x.toNat+1200 * (a - 0))(i:a<=L)(j:L<=40):n<=50000:=by
 have k:6 ^ x.toNat<=6 ^ 3:=aby (by omega) (by omega);have m:6 ^ 3=216:=by decide
 omega
theorem dZ(g:AE)(F:B3 g=0)(H:Z g.conds<=12)(K:Z g.A0<=3)(L:∀q∈g.AD,Z q.right<=5)(c:Nat)(M:c<2 ^ 64)(left:Nat)(j:left<Z g.A0)(l:List Int)(N:Z l<=40)(o:∀k∈l,0<=k/\k<256):
  ∃(t:Term) (ok:Bool),(ok=J->∃u:TF,t.nodes=u.flat/\u.fit g [⟨ap,left⟩]/\Z u.flat<=50000/\(∀n∈u.flat,TY g c n)/\Z t.tail<=12/\∀s∈t.tail,s∈VW)/\Pure prog 15 [AA g,Dt c,encI left,.sl (l.map (br .u8))] (.CX [BN t,.bool ok]):=by
 have v:=WT g F H c M;obtain⟨hi,A⟩:∃hi,hi=Kx g (Bk g c):=⟨_,rfl⟩;rw[<-A]at v;have G:aW g c l hi:=⟨F,H,M,N,o,A,K,L⟩;have Q:=G.len;have w:left<Z hi:=by omega
 have R:Fa hi left=hi[left]:=by simp[Fa,List.getD,w]
 by_cases B:Fa hi left<1000
 .obtain⟨u,C,e1,E,U,W,X,P⟩:=nU G ((Z l - 0) * 2000+VL hi ⟨ap,left⟩+1) ⟨ap,left⟩ 0 ap [] (er _) ⟨by simp,by simp;omega,by simpa using B⟩ (acq _) (by
   have h1:=G.fin j B;have Y:VL hi ⟨ap,left⟩<=3:=by show(Fa hi ((left:Int)).toNat).toNat<=3;rw[ne];omega
   have h3:6 ^ VL hi ⟨ap,left⟩<=6 ^ 3:=aby (by omega) Y;have h4:6 ^ 3=216:=by decide
   show 0+6 ^ VL hi ⟨ap,left⟩+1200 * (Z l - 0)<=2 ^ 30
   generalize 6 ^ VL hi ⟨ap,left⟩=x at *;omega)
  have S:=Ph g F H c M l N o C E hi J u.flat;rw[K1]at P;have hrl:=(S5 g c l E (KR l C 12 - 9).toNat);refine⟨⟨u.flat,(Q2 g c l C).2⟩,J,λ_=>⟨u,rfl,U,eS (G.fin j B).2 W E N,X,TM o E,TN o _⟩,hW func15 (by kernel_rfl) rfl (by simp) λwf=>?_⟩;generalize(Q2 g c l C).2=rem at *;generalize(Q2 g c l C).1=a2 at *;rw[ntmps15];have T:=P.Fg (args':=[.ptr 0 1 0 0,.agg [.d (.bool ap),.d (.int .i64 left)]]) rfl λi h h'=>by
   match i,h with
   |0,_=>exact .inl rfl
   |1,_=>exact .inr ⟨_,by simp[BO,DL,B4,AH],rfl⟩
  clear P;unfold Hu OF at T S;apply yW;simp;(repeat apply xS);refine yE (A7 7 [15,16]) (by kernel_rfl) ?_;simp;apply yA 1;simp[AA];refine B6 (v) rfl (by simp[AA]) ?_;simp[AA];apply yA 1;simp;apply xX 1 (by kernel_rfl);simp[AY,Ak];apply yA 1;simp;rw[R]at B;have m:¬(1000:Int)<=hi[left]:=by omega
  refine xS (yW ?_);simp[w,m];apply AP;simp;apply xK;refine gs (AI.Lr 2 0 13 4 (xs:=[]) (by simp;exact⟨rfl,rfl⟩) rfl rfl) ?_;simp;apply yS;apply yJ;simp;refine xF (T) [2,3] rfl ?_;simp;apply yJ;simp;apply yW;simp;apply yS;apply yJ;simp;refine xF (S) [2,3] rfl ?_;simp;apply yJ;simp;(repeat apply xS);apply yV;simp;(apply Aj;refine⟨_,_,gl 3 (xs:=u.flat.map Bs) rfl (by simp),?_⟩;simp[BO,B4,BN])
 .have hf2:¬hi[left] <1000:=by rw[<-R];exact B
  have m:(1000:Int)<=hi[left]:=by omega
  refine⟨⟨[],[]⟩,ap,by simp,hW func15 rfl rfl (by simp) λwf=>?_⟩;rw[ntmps15];apply yW;simp;refine yD (A7 7 [15,16]) (by kernel_rfl) ?_;simp;apply yA 1;simp[AA];refine B6 (v) rfl (by simp[AA]) ?_;simp[AA];apply yA 1;simp;apply xX 1 (by kernel_rfl);simp[AY,Ak];apply yA 1;simp;refine xS (yW ?_);simp[w,m];apply AP;simp;(repeat apply xS);apply yV;simp;(apply Aj;refine⟨_,_,a9,?_⟩;simp[BO,B4,BN])
noncomputable def GS(g:AE)(i:Nat):List Nat:=(List.range i).filter (hasB g)
theorem ZC(g:AE)(i:Nat):GS g (i+1)=GS g i++if hasB g i then [i]else []:=by
 unfold GS;rw[acf,acr];cases h:hasB g i<;>simp[h]
theorem U8(g:AE)(i:Nat):Z (GS g i)<=i:=by
 have:=acS (hasB g) (List.range i);simpa[GS]using this
theorem WO(g:AE)(E:B3 g=0)(F:Z g.conds<=12)(k:Nat)(Q:k<256)(h:0<Z (GS g 8)):Pure prog 14 [AA g,.int .u8 k] (Dt ((GS g 8).getD (k % Z (GS g 8)) 0)):=by
 have j:=λc G=>tH g E F c G;have H:1<=a8:=by simp[a8]
 refine zP func14 26 rfl λwf=>?_;apply yW;simp;apply yW;simp;refine gs (oa 5 1 (xs:=[]) (by simp)) ?_;refine m7 (R:=λtm S=>tm 1=.d (.int .u8 k)/\tm 5=.row 1 (Z (GS g 8))/\∃w,S=[.row J 9 [.d (AA g)],.row w 1 ((GS g 8).map λ(c:Nat)=>.d (Dt c))]) ?_ ?_
 .apply yW;simp;apply Bo;refine zL 8 (λi tm S=>tm 1=.d (.int .u8 k)/\tm 2=.ptr 0 1 0 0/\tm 5=.row 1 (Z (GS g i))/\tm 6=.d (Dt i)/\∃w,S=[.row J 9 [.d (AA g)],.row w 1 ((GS g i).map λ(c:Nat)=>.d (Dt c))]) (by simp[GS,AA]) ?_;rintro i tm S hi ⟨t1,t2,t5,t6,w,rfl⟩;have u:=ZC g i;have K:=U8 g i;have M:=j i (by omega);generalize N:GS g i=L at *;have b1:Z L+1<=2 ^ 30:=by omega
  have o:b8 .u64 ((i:Int)+1)=((i+1:Nat):Int):=by rw[show(i:Int)+1=((i+1:Nat):Int) by omega,P9,sw (by omega)]
  by_cases P:i<8
  .have q:(i:Int)<8:=by omega
   refine xS (yW ?_);simp[t6];apply AP;simp[q,P];apply xK;apply xB;(repeat apply xS);apply yT;apply yJ;simp[t2,t6];refine Bq (M) rfl (by simp[xN]) (yJ ?_);simp;cases hb:hasB g i with
   |true=>
    rw[hb,ca rfl]at u;apply AP;simp;apply yV;simp[t5,t6,b1,H,Ac];apply yV;simp[t6,o];refine⟨_,_,a9,?_⟩;simp[t1,t2,u]
   |false=>
    rw[hb,bv (by simp)]at u;apply AP;simp;apply CF;apply yV;simp[t6,o];refine⟨_,_,a9,?_⟩;simp[t1,t2,t5,u]
  .have e:i=8:=by omega
   subst e;refine xS (yW ?_);simp[t6];apply AP;simp;apply Ci;rw[N];cases w<;>simp[t1,t5]
 .rintro tm S ⟨t1,t5,w,rfl⟩;have K:=U8 g 8;generalize GS g 8=L at *;have hj:k % Z L<Z L:=i7 _ h;have v:b8 .i64 (k:Int)=k:=by rw[c8];omega
  have A:(k:Int).tmod (Z L)=((k % Z L:Nat):Int):=by rw[ge (by omega)];push_cast;rfl
  have B:¬L=[]:=λe=>by rw[e]at h;simp at h
  generalize T:k % Z L=m at *;have C:L.getD m 0=L[m]:=by simp[List.getD,hj]
  rw[C];apply yW;simp[t1,t5,v,A,B,hj];apply zT;try simp
theorem NZ{n:Nat}{s g:Int->Bool}(h:∀v:Int,0<=v->v<n->s v=g v):∀{t:DT},t.Good->t.Below n->t.CG s=t.CG g
 |.leaf _,_,_=>rfl
 |.node v l r,i,hb=>by
  obtain⟨h0,q,_,_,_,j,k⟩:=i;obtain⟨m,bl,o⟩:=hb;simp[CG,h v h0 m,NZ h j bl,NZ h k o]
def OT(b:Bool):Nat:=if b then 1 else 0
theorem sr(n:Nat)(o:n<=3)(s:Int->Bool):∃c,c<2 ^ n/\∀v:Int,0<=v->v<n->s v=cfg c v:=by
 have j:∀a b c:Bool,∀v:Nat,v<3->cfg (OT a+2 * OT b+4 * OT c) v=if v=0 then a else if v=1 then b else c:=by
  intro a b c v i;have:v=0\/v=1\/v=2:=by omega
  rcases this with rfl|rfl|rfl<;>cases a<;>cases b<;>cases c<;>decide
 have i:∀v:Int,0<=v->∃k:Nat,v=k:=λv h=>⟨v.toNat,by omega⟩;have:n=0\/n=1\/n=2\/n=3:=by omega
 rcases this with rfl|rfl|rfl|rfl
 .exact⟨0,by decide,λv g m=>by omega⟩
 .refine⟨OT (s 0)+2 * OT ap+4 * OT ap,by cases s 0<;>decide,λv g m=>?_⟩;obtain⟨k,rfl⟩:=i v g;rw[j _ _ _ k (by omega)];have:k=0:=by omega
  subst this;rfl
 .refine⟨OT (s 0)+2 * OT (s 1)+4 * OT ap,by cases s 0<;>cases s 1<;>decide,λv g m=>?_⟩;obtain⟨k,rfl⟩:=i v g;rw[j _ _ _ k (by omega)];have:k=0\/k=1:=by omega
  rcases this with rfl|rfl<;>rfl
 .refine⟨OT (s 0)+2 * OT (s 1)+4 * OT (s 2),by cases s 0<;>cases s 1<;>cases s 2<;>decide,λv g m=>?_⟩;obtain⟨k,rfl⟩:=i v g;rw[j _ _ _ k (by omega)];have:k=0\/k=1\/k=2:=by omega
  rcases this with rfl|rfl|rfl<;>rfl
theorem fD{g:AE}(m:B3 g=0)(k:Z g.conds<=3):0<Z (GS g 8):=by
 have h:=(Bx m).2.1;simp[En]at h;obtain⟨o,i⟩:=FM h.1.2;have q:tr g.fam≠.leaf false:=λe=>by
  have:=EE o;rw[e]at this;exact h.2 (by rw[<-this];rfl)
 obtain⟨s,u⟩:=Ud i.HF q;obtain⟨c,v,w⟩:=sr (Z g.conds) k s;have j:c<8:=by
  have:2 ^ Z g.conds<=2 ^ 3:=aby (by omega) k;omega
 have hb:hasB g c=true:=by
  unfold hasB D6;rw[<-NZ w i.HF i.below,u];simp[v]
 exact acH (ut.2 ⟨by simpa using j,hb⟩)
theorem Uf{g:AE}{c i:Nat}(h:c∈GS g i):c<i/\hasB g c=true:=by
 obtain⟨j,k⟩:=ut.1 h;exact⟨by simpa using j,k⟩
theorem az(g:AE)(i:B3 g=0)(o:Z g.conds<=3)(k:Nat)(q:k<256):∃c,c<8/\hasB g c=J/\Pure prog 14 [AA g,.int .u8 k] (Dt c):=by
 have h:=fD i o;have j:=WO g i (by omega) k q h;have hj:k % Z (GS g 8)<Z (GS g 8):=i7 _ h;have m:(GS g 8)[k % Z (GS g 8)]∈GS g 8:=cL hj;have u:(GS g 8).getD (k % Z (GS g 8)) 0=(GS g 8)[k % Z (GS g 8)]:=by simp[List.getD,hj]
 rw[u]at j;exact⟨_,(Uf m).1,(Uf m).2,j⟩
structure Input where
 x:Raw
 config:Nat
 l:List Int
 lines:List Int
def DF(x:Input):D:=.agg [br .u8 (x.x.base:Nat),br .u8 (x.x.n:Nat),j4 (x.x.fam.map λ(k:Nat)=>br .u8 k),j4 (x.x.lines.map Cd),j4 (x.x.rules.map Br),br .u8 (x.config:Nat),j4 (x.l.map (br .u8)),j4 (x.lines.map (br .u8))]
@[simp] theorem bN(x:Input):Ae (.d (DF x))=[.d (br .u8 (x.x.base:Nat)),.d (br .u8 (x.x.n:Nat)),.d (j4 (x.x.fam.map λ(k:Nat)=>br .u8 k)),.d (j4 (x.x.lines.map Cd)),.d (j4 (x.x.rules.map Br)),.d (br .u8 (x.config:Nat)),.d (j4 (x.l.map (br .u8))),.d (j4 (x.lines.map (br .u8)))]:=rfl
@[simp] theorem bu(x:Input):Ap (.d (DF x))=true:=rfl
@[simp] theorem kT(x:Input):Bp (.d (DF x))=false:=rfl
@[simp] theorem bK(x:Input):BE (DF x)=[br .u8 (x.x.base:Nat),br .u8 (x.x.n:Nat),j4 (x.x.fam.map λ(k:Nat)=>br .u8 k),j4 (x.x.lines.map Cd),j4 (x.x.rules.map Br),br .u8 (x.config:Nat),j4 (x.l.map (br .u8)),j4 (x.lines.map (br .u8))]:=rfl
@[simp] theorem kR(x:Input):CL.oneD (DF x)=true:=rfl
@[simp] theorem o9(x:Input):DY (DF x)=Bm [br .u8 (x.x.base:Nat),br .u8 (x.x.n:Nat),j4 (x.x.fam.map λ(k:Nat)=>br .u8 k),j4 (x.x.lines.map Cd),j4 (x.x.rules.map Br),br .u8 (x.config:Nat),j4 (x.l.map (br .u8)),j4 (x.lines.map (br .u8))]:=rfl
@[simp] theorem dh(S:Sg)(x:Input):DS S (.d (DF x))=am [br .u8 (x.x.base:Nat),br .u8 (x.x.n:Nat),j4 (x.x.fam.map λ(k:Nat)=>br .u8 k),j4 (x.x.lines.map Cd),j4 (x.x.rules.map Br),br .u8 (x.config:Nat),j4 (x.l.map (br .u8)),j4 (x.lines.map (br .u8))]:=rfl
def yu(v:V)(S':Sg):Prop:=S'=[]/\∃(g:AE) (c:Nat) (t:Term) (ok kn:Bool),v=.d (.CX [AA g,Dt c,BN t,.bool ok])/\X1 g kn 10 6/\c<8/\hasB g c=J/\(ok=J->∃u:TF,t.nodes=u.flat/\u.fit g [⟨ap,g.start⟩]/\Z u.flat<=50000/\(∀n∈u.flat,TY g c n)/\Z t.tail<=12/\∀s∈t.tail,s∈VW)
theorem eD(y:Input):BH prog 5 [.d (DF y)] [] yu:=by
 refine BH.Aw func5 rfl rfl (by simp) λwf _=>?_;have u:y.config<256:=by have:=wf.1;simp[Ij,DY,Bm,GZ]at this;omega
 have w:∀k∈y.l,0<=k/\k<256:=by
  have:=wf.1;simp[Ij,DY,Bm,Di,GZ]at this;exact λk A=>by have:=this.2.2.2.2.2.2.1.2 k A;omega
 have P:Z y.l<=a8:=by have:=wf.1;simp[Ij,DY,Bm]at this;exact this.2.2.2.2.2.2.1.1
 rw[ntmps5];apply yW;simp;(repeat apply xS);apply yT;apply yJ;simp[DF];have B:=(dg y.x).Fg (args':=[.agg [.d (.int .u8 y.x.base),.d (.int .u8 y.x.n),.d (.sl (y.x.fam.map λ(k:Nat)=>br .u8 k)),.d (.sl (y.x.lines.map Cd)),.d (.sl (y.x.rules.map Br))]]) rfl λi h S=>by
  match i,h with
  |0,_=>exact .inr ⟨_,by simp[BO,DL,B4,Gq],rfl⟩
 refine AS.Jq B [] rfl ?_ ?_ ?_
 .simp
 .rintro v C ⟨rfl,g,rfl,_⟩;simp
 rintro v C ⟨rfl,g,rfl,kn,m⟩;simp;apply yJ;simp;have E:=m.okF.1;obtain⟨c,F,G,o⟩:=az g E m.c1 y.config u;have Q:=(Bx E).2.2.2.1;simp[Hp]at Q;obtain⟨s,q⟩:∃s:Nat,g.start=s:=⟨g.start.toNat,by omega⟩;obtain⟨M,H,K,R⟩:∃M:Nat,(if(40:Int)<(Z y.l:Int)then(40:Int)else Z y.l)=M/\M<=Z y.l/\M<=40:=by
  by_cases h:40<Z y.l
  .exact⟨40,by rw[ca (by omega)];rfl,by omega,by omega⟩
  .exact⟨Z y.l,by rw[bv (by omega)],by omega,by omega⟩
 have L:(M:Int)<=Z y.l:=by omega
 obtain⟨t,ok,N,j⟩:=dZ g E (by have:=m.c1;omega) m.n1 m.sh.r c (by omega) s (by omega) (y.l.take M) (by simp;omega) (λk A=>w k (ab2 A));apply yS;apply yJ;simp;refine Bq (o) rfl (by simp[xN]) (yJ ?_);simp;refine yD (A7 15 [31,33,34]) (by kernel_rfl) ?_;simp;apply yA 1;simp[AA,q,H,L];refine B6 (j) rfl (by simp[AA,q]) ?_;simp[AA,q];apply yA 1;simp;apply xX 0 (by kernel_rfl);simp[AY,Ak];apply xX 32766 (by kernel_rfl);simp[AY,Ak];apply yA 1;simp;(repeat apply xS);refine yE (A7 4 [9,10,13,14]) (by kernel_rfl) ?_;simp;apply yA 1;simp;apply xX 8 (by kernel_rfl);simp[AY];apply yA 1;simp;apply xX 13 (by kernel_rfl);simp[AY];apply yA 1;simp;apply Aj;refine⟨_,_,a9,?_,_,_,⟨rfl,g,c,t,ok,kn,rfl,m,F,G,by rw[q];exact N⟩,.inl ⟨.CX [AA g,Dt c,BN t,.bool ok],_,?_,rfl,gc 0 rfl (by simp)⟩⟩
 .simp[BN]
 .simp[BO,Ht,B4,F5,AA,BN,q]
def fR(g:Option Nat):Fence:={fn:=λ_=>True,depth:=none,alive:=false,round:=g}
section
variable {P:Program} {ro:Option Nat} {m:Nat}
theorem qE{f:FuncId}{args:Array Value}{w:cR}{R:Ending->cR->Prop}(h:Calls P f args w R):CallsIn (fR ro) m P f args w R:=
 show CallsIn Fence.wide m P f args w R from callsIn_wide.2 h
theorem vl{row:String}{args:Array Value}{w:cR}{R:Value->cR->Prop}(h:Rows P row args w R):RowsIn (fR ro) m P row args w R:=
 show RowsIn Fence.wide m P row args w R from λc g _=>by
  obtain⟨v,i,r,s⟩:=h c g;exact⟨v,i,r,stepsIn_wide.2 s⟩
theorem qI{o:Oper}(q:∀c,o.op≠.defer c){a:Act}{w:cR}{next g:Act->cR->Prop}{Q:Exit->Act->cR->Prop}(j:∀a w,next a w->g a w)(h:o.wp P a w next Q):o.wpIn (fR ro) m P a w g Q:=by
 refine⟨λ_ _=>trivial,?_⟩;rw[show o.semAt (fR ro).round a.eval=execOp a.eval o from Oper.semAt_eq _ _ _ q];unfold Oper.wp at h;generalize(execOp a.eval o).run P w=r at h⊢;cases r with
 |ok v u=>
  cases v with
  |value v=>exact j _ _ h
  |skip=>exact j _ _ h
  |enter f args=>
   refine⟨(by intro i;cases i),qE (Calls.mono h λe k i=>?_)⟩;cases e with
   |returned v=>exact j _ _ i
   |panicked c=>exact i
   |outgrown=>exact i
  |row r args=>exact⟨(by intro i;cases i),vl (Rows.mono h λv k i=>j _ _ i)⟩
  |_=>first|exact h.elim|exact j _ _ h
 |halt i u=>cases i with
  |panic v=>exact h
  |_=>exact h.elim
theorem oI{ops:Array Oper}{Q:Exit->Act->cR->Prop}(g:∀(i:Nat) o c,ops[i]?=am o->o.op≠.defer c)(j:¬LetsOut Q):∀(l:List Nat) (a:Act) (w:cR),wpOps P ops Q l a w->wpOpsIn (fR ro) m P ops Q l a w
 |[],_,_,h=>h
 |i::l,a,w,h=>by
  simp[wpOps]at h;simp[wpOpsIn];cases k:ops[i]? with
  |none=>rw[k]at h;exact oI g j l a w h
  |some o=>
   rw[k]at h;simp[]at h⊢;split at h
   .next q=>
    rw[ca q];rcases h with h|h
    .exact qI (λc=>g i o c k) (λa w=>oI g j l a w) h
    .exact absurd h.2 j
   .next q=>
    rw[bv q];exact⟨λ_ _=>trivial,oI g j l _ w h⟩
variable {n b:Nat} {tm:Tm} {S:Sg}
theorem AS.oM{id:Nat}{ops:Array Oper}{K:Tm->Sg->Prop}(k:∀(i:Nat) o c,ops[i]?=am o->o.op≠.defer c)(h:AS P n b ops ops.toList tm S K){G:Gh}{w:cR}{a:Act}{Q:Exit->Act->cR->Prop}
  (st:St P n G S w a tm) (hb:b<=Z S) (A:∀q u,(∃B v g,IP P n b G S w a.defers q u B v g/\K g v)->Q .normal q u) (C:¬LetsOut Q):(Code.region id ops ap).wpIn (fR ro) m P Q a w:=by
 refine wpIn_region (oI k C _ _ _ ?_);have:=h 0 (λj=>by simp) G w a Q st hb A;rw[acw];simpa using this
end
end Go.Koi
namespace Go.Proofs
open Go.RowKit Go.Maps Go.Sort Go.Shelf Go.Koi
inductive Gm(es:List Int)(e:Int):Int->List Int->Prop
 |nil {j:Int} (h:e=j):Gm es e j []
 |cons {j j':Int} {ks:List Int} (h:j<e) (h0:0<=j) (hj:es[j.toNat]?=am j') (zg:j<j') (hk:Gm es e j' ks):Gm es e j (j::ks)
def nZ:Value->Int
 |.int _ n=>n
 |_=>0
attribute [local go_sem] Oper.semAt_some
abbrev ady:=@Array.replicate_succ
abbrev adz:=@Array.replicate_zero
abbrev adU:=@List.push_toArray
abbrev adM:=@List.append_toArray
theorem vx(n:Nat)(hn:1≤n)(l:Nat)(pi pe ad:Addr)(cap N:Nat)(es:List Int)(_:es.length≤maxLen)(i e:Int)(hi0:0≤i)(hi:es[i.toNat]?=some e)(hrg:∀x∈es,0≤x∧x≤2000000)(hil:i≤2000000)(J:List Int→World→Prop)
  (rd:∀pre W,J pre W→W.cell? pi=some (.int .i64 i)∧W.cell? pe=some (.slice (some ad) es.length cap)∧∀j,j<es.length→W.cell? (ad.add j)=some (.int .i64 (es[j]?.getD 0)))
  (hY:∀pre x W,J pre W→pre.length<N→YieldAt Fence.wide (n - 1) prog l #[.int .i64 x] W fun e W'=>e=.returned (.bool true)∧J (pre++[x]) W')
  (ks:List Int) (hk:Gm es e (i+1) ks) (hN:ks.length≤N) (W:World) (h0:J [] W):
  CallsIn Fence.wide n prog 253 #[.func (.yield l) #[] #[],.pointer (some pi),.pointer (some pe)] W fun e W'=>(∃v,e=.returned v)∧J ks W':=by
 refine callsIn_of_wp func253 rfl trivial ?_ rfl;simp[ntmps253,List.size_toArray,List.length_cons,List.length_nil,Nat.reduceAdd,Nat.reduceSub,Array.replicate_succ,Array.replicate_zero,List.push_toArray,List.append_toArray,List.nil_append,List.cons_append];obtain⟨r1,r2,r3⟩:=rd _ _ h0;obtain⟨hil',he⟩:=List.getElem?_eq_some_iff.1 hi;gi_wp2;gi_loopw [4] (fun j wr=>∃(x:Int) (pre rest:List Int),j=.int .i64 x∧0≤x∧x≤2000001∧Gm es e x rest∧pre++rest=ks∧J pre wr)
  (fun j _=>(e - nZ j).toNat)
 case atStart=>exact⟨_,[],ks,rfl,by omega,by omega,hk,rfl,h0⟩
 case round=>
  obtain⟨x,pre,rest,rfl,hx0,hx1,hkr,hpr,hJ⟩:=hrel;clear r1 r2 r3;obtain⟨r1,r2,r3⟩:=rd _ _ hJ;have r4:=r3 i.toNat hil';rw[hi]at r4;simp[Option.getD_some]at r4;cases hkr with
  |nil h=>
   have h:=Int.le_of_eq h;gi_wp2;go_end0;simp[List.append_nil]at hpr;subst hpr;exact⟨⟨_,rfl⟩,hJ⟩
  |cons h h0' hj zg hk'=>
   obtain⟨hxl,rfl⟩:=List.getElem?_eq_some_iff.1 hj;obtain⟨fn,tmps,assign,body,hy,hR⟩:=hY _ x wr hJ (by rw[←hpr]at hN;simp at hN;omega);gi_wp2;apply hR.mono;rintro e' W3 ⟨rfl,hJ3⟩;obtain⟨q1,q2,q3⟩:=rd _ _ hJ3;have q4:=q3 x.toNat hxl;rw[hj]at q4;simp[Option.getD_some]at q4;gi_wp2;go_roundw;case rel=>exact⟨_,pre++[x],_,rfl,(hrg _ (List.mem_of_getElem? hj)).1,by have:=(hrg _ (List.mem_of_getElem? hj)).2;omega,hk',by simpa using hpr,hJ3⟩
   case measure=>simp[nZ];omega
end Go.Proofs
namespace Go.Koi
open Go renaming World->cR,maxLen->a8
open Go.Proofs
theorem Ic{P:Program}{G:Gh}{S:Sg}{w:cR}(R:Rel P G S w){r:Nat}{d:D}{y:Value}(i:S[r]?=am (.row J 1 [.d d]))(o:CV G S w (.ptr r 1 0 0) y)(q:∀v,CD G.I w d v->v.cells=#[v]):
  ∃a v,y=.pointer (am a)/\w.cell? a=am v/\CD G.I w d v/\a.block<w.heap.size/\v.cells.size=1:=by
 have g:=R.Da r _ i;cases o with
 |ptr _ _ _ _ _ C E u=>
  have e:=(u 1 (by simp[lenOf,i])).2 rfl 1 (by simp[C1,i]);simp only[OK]at g;cases j:G.BG r with
  |some a=>rw[j]at g;exact absurd g.1 (by simp)
  |none=>
   rw[j]at g;obtain⟨c,T,k,F,H,K,A⟩:=g;obtain⟨v,k1,k2,k3,k4⟩:=A 0 (by simp);refine⟨_,v,by rw[e];simp[Gh.addr,j];rfl,?_,?_,?_,k2⟩
   .have m:=k4 0 (by omega);have k5:CD G.I w d v:=by cases k1 with|d _ _ h=>exact h
    have B:v.cells[0]?=am v:=by rw[q v k5];rfl
    rw[B]at m;simp[World.cell?,k];simpa using m
   .cases k1 with|d _ _ h=>exact h
   .exact(abg.1 k).1
theorem XD{P:Program}{G:Gh}{S:Sg}{w:cR}(R:Rel P G S w){es:List Int}{v:Value}(g:CD G.I w (BZ es) v)(h0:es≠[]):
  ∃ad cap,v=.slice (am ad) (Z es) cap/\ad.block<w.heap.size/\Z es<=a8/\∀j,j<Z es->w.cell? (ad.add j)=am (.int .i64 (es[j]?.getD 0)):=by
 simp[BZ]at g;generalize i:es.map encI=A at g;cases g with
 |nil=>simp at i;exact absurd i h0
 |sl sz A b off cap B C E N F H=>
  subst i;have o:Z (es.map encI)=Z es:=by simp
  refine⟨⟨b,off,none⟩,cap,by simp,R.JH b C,by simpa using E,λj hj=>?_⟩;have k:=F j (by simpa using hj);obtain⟨q,u⟩:=H j (by simpa using hj);simp[encI]at k;generalize K:B j=Q at k q u;cases k;have m:sz=1:=by simpa[Value.cells]using q.symm
  subst m;have L:=u 0 (by omega);have M:(⟨b,off,none⟩:Addr).add j=⟨b,off+j * 1+0,none⟩:=by
   unfold Addr.add;split
   .next h=>subst h;simp
   .simp
  rw[M,L];simp[Value.cells,hj]
theorem Lu{I:Nat->Prop}{w:cR}{xs:List D}{v:Value}(h:CD I w (.sl xs) v):v.cells=#[v]:=by cases h<;>rfl
end Go.Koi
