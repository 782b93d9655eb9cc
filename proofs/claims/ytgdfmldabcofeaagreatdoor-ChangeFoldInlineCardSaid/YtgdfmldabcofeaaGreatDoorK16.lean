/-
  Part 17 of the proof that the law ChangeFoldInline returns true for every input.
-/
import Derived.Test.YtgdfmldabcofeaaGreatDoorK15
import Derived.RangeFuncRecord
import Derived.Shelf.SlIterI.Collect
import Derived.Ground.GgzProg
import Derived.RangeFuncBox
import Derived.WalkKit
import Derived.LoopIn
set_option maxHeartbeats 64000000
set_option maxRecDepth 100000
namespace Go.Koi
open Go renaming maxLen->al
open Go.Proofs Tryz DT
def U3(hi:List Int)(s:Symbol):Nat:=if s.token then 0 else(FU hi s.index.toNat).toNat
def tE(g:AE)(hi:List Int)(s:Symbol):Prop:=if s.token then 0<=s.index/\s.index<g.Ae.length else 0<=s.index/\s.index<g.A2.length/\FU hi s.index.toNat<1000
def ux:List ByteArray:=[⟨#[120]⟩,⟨#[121]⟩,⟨#[97,98]⟩,⟨#[105,102]⟩,⟨#[122]⟩,⟨#[101,108,115,101]⟩]
theorem SR{g:AE}{c:Nat}{l:List Int}(h:∀k∈l,0<=k/\k<256){a:Nat}(ha:a<=l.length):(Rr g c l a).2.length<=12:=by
 have h1:=KV h (a:=a) (n:=12) (by omega);have i:=(Rt g c l ha (Kq l a 12 - 9).toNat).2.2;show(M4 g c l a (Kq l a 12 - 9).toNat).2.length<=12
 omega
theorem Zi{g:AE}{c:Nat}{l hi:List Int}(G:Y0 g c l hi)(k:Nat)(v:k<g.Ae.length)(a:Nat)(ha:a<=l.length)(w:Bool)(ns:List BG)(z:ns.length+1<=2 ^ 30):
  ∃(J:ByteArray) (rem:List ByteArray) (E:Nat),a<=E/\E<=l.length/\rem.length<=12/\AG prog 50 [.ptr 0 1 0 0,.d (AI ⟨true,k⟩)] (Hu g c l a hi w ns) (.Cb []) (Hu g c l E hi true (ns++[⟨-1,k,J,rem⟩])):=by
 obtain⟨t,A⟩:=a9 (g.Ae[k]);have U:t∈g.Ae:=A▸b9 v;have i:=Ad.eq_1 t;have H:ByteArray.empty=(⟨#[]⟩:ByteArray):=rfl;have o:1<=al:=by simp[al]
 have F:=λa ha=>Pp g G.Hn G.kN c G.uT l G.uL G.l8 a ha hi w ns;have q:=λa ha=>Rt g c l (a:=a) ha;have K:=λn=>Rz g c l G.uL G.l8 a hi w ns n;by_cases m:t.literal=⟨#[]⟩
 .have W:=KV G.l8 (a:=a) (n:=6) (by omega);obtain⟨j,hj⟩:∃j:Nat,Kq l a 6=j:=⟨(Kq l a 6).toNat,by omega⟩;have L:j<6:=by omega
  have R:(j:Int)<6:=by omega
  obtain⟨u,P⟩:=a9 (ux.getD j ⟨#[]⟩);have Q:j=0\/j=1\/j=2\/j=3\/j=4\/j=5:=by omega
  have M:u.size<=2 ^ 20:=by
   rcases Q with rfl|rfl|rfl|rfl|rfl|rfl<;>(rw[<-P];decide)
  have S:∀h:j<6,[D.str ⟨#[120]⟩,D.str ⟨#[121]⟩,D.str ⟨#[97,98]⟩,D.str ⟨#[105,102]⟩,D.str ⟨#[122]⟩,D.str ⟨#[101,108,115,101]⟩][j]=D.str u:=λh=>by
   rcases Q with rfl|rfl|rfl|rfl|rfl|rfl<;>(rw[<-P];rfl)
  have B:=K 6;rw[hj]at B;have T:=Ok t u M;have N:=Vw l a 6;have C:=F (Mk l a 6) (N.2 ha);have s:Mk l a 6<=(Rr g c l (Mk l a 6)).1/\(Rr g c l (Mk l a 6)).1<=l.length:=by have:=q (Mk l a 6) (N.2 ha) (Kq l (Mk l a 6) 12 - 9).toNat;exact⟨this.1,this.2.1⟩
  refine⟨if oR t u then u else t.Dk,(Rr g c l (Mk l a 6)).2,(Rr g c l (Mk l a 6)).1,by omega,s.2,SR G.l8 (N.2 ha),?_⟩;generalize(Rr g c l (Mk l a 6)).1=E at *;generalize(Rr g c l (Mk l a 6)).2=rem at *;generalize Mk l a 6=X at *;refine zC func50 99 rfl λwf _=>?_;unfold Hu ON at C B⊢;apply yW;simp;refine xS (yW ?_);simp[AI];apply AR;simp;refine yD [0,2,4,6,8,10,12,14,16,19,21] (by kernel_rfl) ?_;simp;apply yA 1;simp[v,A,i];apply xX 0 (by kernel_rfl);simp[Ac,v,A,i];apply xX 511 (by kernel_rfl);simp[Ac,v,A,i];apply xM;apply yW;simp;refine xS (yW ?_);simp[m];apply AR;simp;apply yW;simp;apply yS;apply yJ;simp;refine xF (B) [0,1] rfl ?_;simp;apply yJ;simp;apply yW;simp[al,L,R,S];(repeat apply xS);apply yT;apply yJ;simp;refine B9 (T) rfl (by simp[m,xN]) (yJ ?_);simp;cases hb:oR t u with
  |true=>
   rw[ap rfl];apply AR;simp;apply yV;simp;apply yS;apply yJ;simp;refine xF (C) [0,1] rfl ?_;simp;apply yJ;simp;(repeat apply xS);refine yE [0,2,4,6,8,10,12,15,16,18,21] (by kernel_rfl) ?_;simp;apply yA 1;simp[o];apply xX 5 (by kernel_rfl);simp[Ac,o,z,Ah];apply yA 1;simp;apply xX 125 (by kernel_rfl);simp[Ac];apply xM;(apply Af;refine⟨_,a8 2 (by simp[A1]) (by simp) (by simp) (by simp),?_⟩;simp[Au])
  |false=>
   rw[ao (by simp)];apply AR;simp;apply xK;apply yS;apply yJ;simp;refine xF (C) [0,1] rfl ?_;simp;apply yJ;simp;(repeat apply xS);refine yE [0,2,4,6,8,10,12,15,16,18,21] (by kernel_rfl) ?_;simp;apply yA 1;simp[o];apply xX 5 (by kernel_rfl);simp[Ac,o,z,Ah];apply yA 1;simp;apply xX 125 (by kernel_rfl);simp[Ac];apply xM;(apply Af;refine⟨_,a8 2 (by simp[A1]) (by simp) (by simp) (by simp),?_⟩;simp[Au])
 .have C:=F a ha;have s:a<=(Rr g c l a).1/\(Rr g c l a).1<=l.length:=by have:=q a ha (Kq l a 12 - 9).toNat;exact⟨this.1,this.2.1⟩
  refine⟨t.literal,(Rr g c l a).2,(Rr g c l a).1,s.1,s.2,SR G.l8 ha,?_⟩;generalize(Rr g c l a).1=E at *;generalize(Rr g c l a).2=rem at *;refine zC func50 99 rfl λwf _=>?_;unfold Hu ON at C⊢;apply yW;simp;refine xS (yW ?_);simp[AI];apply AR;simp;refine yD [0,2,4,6,8,10,12,14,16,19,21] (by kernel_rfl) ?_;simp;apply yA 1;simp[v,A,i];apply xX 0 (by kernel_rfl);simp[Ac,v,A,i];apply xX 511 (by kernel_rfl);simp[Ac,v,A,i];apply xM;apply yW;simp;refine xS (yW ?_);simp[m];apply AR;simp;apply xK;apply yS;apply yJ;simp;refine xF (C) [0,1] rfl ?_;simp;apply yJ;simp;(repeat apply xS);refine yE [0,2,4,6,8,10,12,15,16,18,21] (by kernel_rfl) ?_;simp;apply yA 1;simp[o];apply xX 5 (by kernel_rfl);simp[Ac,o,z,Ah];apply yA 1;simp;apply xX 125 (by kernel_rfl);simp[Ac];apply xM;(apply Af;refine⟨_,a8 2 (by simp[A1]) (by simp) (by simp) (by simp),?_⟩;simp[Au])
theorem Y0.fin{g:AE}{c:Nat}{l hi:List Int}(G:Y0 g c l hi){n:Nat}(hn:n<g.A2.length)(h:FU hi n<1000):1<=FU hi n/\FU hi n<=3:=by
 obtain⟨_,k2⟩:=iF g (B0 g c) (o7 g G.Hn);rw[<-G.eq]at k2;obtain⟨h1,p,i,j,k⟩:=k2 n hn h;have m:=SK g (B0 g c) (λn=>hi.getD n 0) p;have e:FU hi n=hi.getD n 0:=rfl;have:=G.n3;omega
theorem Y0.kids{g:AE}{c:Nat}{l hi:List Int}(G:Y0 g c l hi){p:Nat}(o:p<g.AD.length)(i:Gm g (B0 g c) (FU hi) p<1000):∀s∈g.AD[p].right,tE g hi s/\(U3 hi s:Int)+1<=Gm g (B0 g c) (FU hi) p:=by
 intro s j;have q:g.AD[p]∈g.AD:=b9 o;have k:ER g p=g.AD[p].right:=by unfold ER;rw[ci o]
 have u:Gm g (B0 g c) (FU hi) p=E6 (FU hi) g.AD[p].right+1:=by
  unfold Gm at i⊢;rw[k]at i⊢;split at i
  .next h=>rw[ap h];omega
  .omega
 have h0:=Gj (FU hi) g.AD[p].right;unfold tE U3;cases m:s.token with
 |true=>
  rw[ap rfl,ap rfl];exact⟨(MQ G.kN G.Hn).sym _ q s j m,by omega⟩
 |false=>
  rw[ao (by simp),ao (by simp)];have h1:=ME (f:=FU hi) j m;have t:=I5 G.Hn q j m;have v:=G.fin (n:=s.index.toNat) (by omega) (by omega);exact⟨⟨t.1,t.2,by omega⟩,by omega⟩
theorem bp{L a g h:Nat}(h1:g<=L)(i:a<g):(L - g) * 2000+3<(L - a) * 2000+h:=by omega
theorem iD{L a g h:Nat}(h1:g<=L)(i:a<=g):(L - g) * 2000+h<(L - a) * 2000+(h+1):=by omega
theorem bj{B N i X Y L a g h u y:Nat}(h1:u<=i * X+1200 * (h - g))(hi:i+1<=5)(k:y<=X)(m:1+5 * X+1200 * (L - g)<=Y+1200 * (L - g+(g - a)))(o:N+Y+1200 * (L - a)<=B)(q:a<=g)(s:g<=h)(t:h<=L):N+1+u+y+1200 * (L - h)<=B:=by
 have j:(i+1) * X<=5 * X:=wT _ hi;rw[nc,Nat.one_mul]at j;omega
theorem dU{i X h g j u v y:Nat}(h1:u<=i * X+1200 * (g - h))(k:v<=y+1200 * (j - g))(m:y<=X)(o:h<=g)(q:g<=j):u+v<=(i+1) * X+1200 * (j - h):=by
 rw[nc,Nat.one_mul];omega
theorem cn{i X Y a g h u:Nat}(h1:u<=i * X+1200 * (h - g))(hi:i<=5)(j:∀n,1+5 * X+1200 * n<=Y+1200 * (n+(g - a)))(k:a<=g)(m:g<=h):u+1<=Y+1200 * (h - a):=by
 have o:i * X<=5 * X:=wT _ hi;have:=j (h - g);omega
theorem cw{L g i e E a h m:Nat}(j:g<=i)(h1:e<=E)(k:(L - g) * 2000+E<(L - a) * 2000+h)(o:(L - a) * 2000+h<m+1):(L - i) * 2000+e<m:=by
 have q:(L - i) * 2000<=(L - g) * 2000:=wT _ (Nat.sub_le_sub_left j L);exact tv (Nat.lt_of_le_of_lt (Nat.add_le_add q h1) k) (Nat.le_of_lt_succ o)
abbrev adU:=@Nat.pos_of_ne_zero
theorem kL{g:AE}{c:Nat}{l hi:List Int}(G:Y0 g c l hi):∀(m:Nat) (s:Symbol) (a:Nat) (w:Bool) (j:List BG),a<=l.length->tE g hi s->(l.length - a) * 2000+U3 hi s<m->j.length+6 ^ U3 hi s+1200 * (l.length - a)<=2 ^ 30->∃(u:TF) (J:Nat),a<=J/\J<=l.length/\u.fit g [s]/\u.flat.length<=6 ^ U3 hi s+1200 * (J - a)/\(∀n∈u.flat,n.rem.length<=12)/\AG prog 50 [.ptr 0 1 0 0,.d (AI s)] (Hu g c l a hi w j) (.Cb []) (Hu g c l J hi true (j++u.flat)):=by
 intro m;induction m with
 |zero=>intro s a w j _ _ h;omega
 |succ m M=>
  intro s a w j ha t hm hb;obtain⟨tk,z⟩:=s;cases tk with
  |true=>
   have h1:0<=z/\z<g.Ae.length:=t;obtain⟨k,rfl⟩:∃k:Nat,z=k:=⟨z.toNat,by omega⟩;have zt:6 ^ U3 hi ⟨true,k⟩=1:=rfl;rw[zt]at hb;obtain⟨txt,rem,J,e1,e2,e4,e3⟩:=Zi G k (by omega) a ha w j (by omega);exact⟨.leaf k txt rem .nil,J,e1,e2,⟨by omega,by omega,[],rfl,rfl⟩,by rw[zt];show 1<=_;omega,(by intro n hn;simp[TF.flat]at hn;subst hn;exact e4),e3⟩
  |false=>
   have h1:0<=z/\z<g.A2.length/\FU hi z.toNat<1000:=t;obtain⟨k,rfl⟩:∃k:Nat,z=k:=⟨z.toNat,by omega⟩;rw[ii]at h1;have hfk:=G.fin (n:=k) (by omega) h1.2.2;obtain⟨h,hh⟩:=a9 (U3 hi ⟨false,k⟩);have hh2:(h:Int)=FU hi k:=by rw[<-hh];show(((FU hi ((k:Int)).toNat).toNat:Nat):Int)=_;rw[ii];omega
   rw[hh]at hm hb⊢;obtain⟨p,K,p1,p2,p3,Y,p5,Z,N⟩:=aA G k (by omega) h1.2.2 a ha w j;have Q:=G.kids p1 p3;have wK:=SK g (B0 g c) (FU hi) p;obtain⟨q,L⟩:=a9 (g.AD[p]);rw[L]at Q;have yo:q∈g.AD:=L▸b9 p1;have y9:q.left=(k:Int):=by
    have h2:=FC G.Hn yo;unfold DJ at p2;rw[ci p1,L]at p2;simp[]at p2;omega
   have R:q.right.length<=5:=G.r5 q yo;obtain⟨E,F,A,T⟩:∃E,(∀s∈q.right,U3 hi s<=E)/\(∀n,1+5 * 6 ^ E+1200 * n<=6 ^ h+1200 * (n+(K - a)))/\(l.length - K) * 2000+E<(l.length - a) * 2000+h:=by
    rcases Z with Z|Z
    .refine⟨3,λs t=>?_,λn=>?_,bp p5 Z⟩
     .unfold U3;split
      .omega
      .next ht=>
       have ht:s.token=false:=by simpa using ht
       have h2:=I5 G.Hn yo t ht;have:=(Q s t).1;unfold tE at this;rw[ao (by simp[ht])]at this;have:=G.fin (n:=s.index.toNat) (by omega) this.2.2;omega
     .have:1<=6 ^ h:=adU (by simp);have e3:6 ^ 3=216:=by decide
      clear hb M;omega
    .obtain⟨h',rfl⟩:∃h',h=h'+1:=⟨h - 1,by omega⟩;refine⟨h',λs t=>?_,λn=>?_,iD p5 Y⟩
     .have:=(Q s t).2;omega
     .have:1<=6 ^ h':=adU (by simp);rw[Nat.pow_succ];clear hb M;omega
   let P:Nat->TF×Nat->Prop:=λi x=>K<=x.2/\x.2<=l.length/\x.1.fit g (q.right.take i)/\x.1.flat.length<=i * 6 ^ E+1200 * (x.2 - K)/\∀n∈x.1.flat,n.rem.length<=12;let C:Nat->TF×Nat->TF×Nat->Prop:=λi x y=>∀o:i<q.right.length,AG prog 50 [.ptr 0 1 0 0,.d (AI q.right[i])] (Hu g c l x.2 hi true (j++[Ef p]++x.1.flat)) (.Cb []) (Hu g c l y.2 hi true (j++[Ef p]++y.1.flat));have ex:∀i x,i<q.right.length->P i x->∃y,P (i+1) y/\C i x y:=by
    rintro i ⟨u,ai⟩ o ⟨B,U,W,X,q5⟩;have vY:q.right[i]∈q.right:=b9 o;have hk:=(Q _ vY).1;have hy:6 ^ U3 hi q.right[i]<=6 ^ E:=zn (by omega) (F _ vY);have hmm:(l.length - ai) * 2000+U3 hi q.right[i] <m:=cw B (F _ vY) T hm;have wZ:(j++[Ef p]++u.flat).length=j.length+1+u.flat.length:=by simp;omega
    obtain⟨v,aj,r1,r2,r3,r4,r6,r5⟩:=M q.right[i] ai true (j++[Ef p]++u.flat) U hk hmm (by rw[wZ];exact bj X (by omega) hy (A _) hb Y B U);refine⟨(u.app v,aj),⟨ke B r1,r2,?_,?_,λn hn=>?_⟩,λ_=>?_⟩
    .rw[yq,ci o];exact TF.XY W r3
    .show(u.app v).flat.length<=_
     rw[TF.Jc,eN];exact dU X r4 hy B r1
    .rw[TF.Jc]at hn;exact(dl.1 hn).elim (q5 n) (r6 n)
    .show AG _ _ _ _ _ (Hu g c l aj hi true (j++[Ef p]++(u.app v).flat))
     rw[TF.Jc,<-yl];exact r5
   obtain⟨st,vn⟩:∃st:Nat->TF×Nat->TF×Nat,∀i x,i<q.right.length->P i x->P (i+1) (st i x)/\C i x (st i x):=by
    classical
    refine⟨λi x=>if h:i<q.right.length/\P i x then(ex i x h.1 h.2).choose else x,λi x h1 h2=>?_⟩;simp[x0 (And.intro h1 h2)];exact(ex i x h1 h2).choose_spec
   obtain⟨f,f0,fs⟩:∃f:Nat->TF×Nat,f 0=(.nil,K)/\∀i,f (i+1)=st i (f i):=⟨λn=>Nat.rec (.nil,K) (λi x=>st i x) n,rfl,λ_=>rfl⟩;have fP:∀i,i<=q.right.length->P i (f i):=by
    intro i;induction i with
    |zero=>intro _;rw[f0];exact⟨br _,p5,rfl,cq _,λn hn=>by simp[TF.flat]at hn⟩
    |succ i ihi=>intro h;rw[fs];exact(vn i _ (by omega) (ihi (by omega))).1
   have fC:∀i (o:i<q.right.length),AG prog 50 [.ptr 0 1 0 0,.d (AI q.right[i])] (Hu g c l (f i).2 hi true (j++[Ef p]++(f i).1.flat)) (.Cb []) (Hu g c l (f (i+1)).2 hi true (j++[Ef p]++(f (i+1)).1.flat)):=λi o=>by
    rw[fs];exact(vn i _ o (fP i (by omega))).2 o
   obtain⟨B,U,W,X,q5⟩:=fP q.right.length (br _);rw[ne]at W;refine⟨.node p (f q.right.length).1 .nil,(f q.right.length).2,ke Y B,U,⟨q,by rw[ci p1,L],W,[],by rw[y9],rfl⟩,?_,λn hn=>?_,?_⟩
   .show(Ef p::((f q.right.length).1.flat++[])).length<=_
    rw[xl,ea];exact cn X R A Y B
   .simp[TF.flat]at hn;rcases hn with rfl|hn
    .exact cq _
    .exact q5 n hn
   have H:(TF.node p (f q.right.length).1 .nil).flat=Ef p::(f q.right.length).1.flat:=by simp[TF.flat]
   rw[H];have hns:j.length+1<=2 ^ 30:=by
    have:1<=6 ^ h:=adU (by simp);clear M A ex vn fP fC;omega
   clear M F A T ex vn fP B U W X Q hb hm;have vf:=AH.eq_1 q;have a1m:q.right.length<=al:=by unfold al;omega
   have b3:1<=al:=by simp[al]
   have yp:ByteArray.empty=(⟨#[]⟩:ByteArray):=rfl;refine zC func50 99 rfl λwf _=>?_;unfold Hu ON at N⊢;apply yW;simp;refine xS (yW ?_);simp[AI];apply AR;simp;apply xK;apply yS;apply yJ;simp;refine xF (N) [0,1] rfl ?_;simp;apply yJ;simp;apply yW;simp[b3,hns,Ah];apply yW;simp;apply Bx;refine zL q.right.length (λi tm S=>tm 0=.ptr 0 1 0 0/\tm 8=.d (AF p)/\tm 9=.d (.int .i64 i)/\S=Hu g c l (f i).2 hi true (j++[Ef p]++(f i).1.flat)++[.row true 2 [.d (AI ⟨false,k⟩)]]) (by simp[Hu,ON,f0,TF.flat,A1,Ef,AI]) ?_;rintro i tm S hiN ⟨t0,t8,t9,rfl⟩;have hp1':p<g.AD.length:=p1;unfold Hu ON;refine xS (yW ?_);simp[t0,t8,t9,p1,L,vf];apply AR;simp;refine⟨λo=>?_,λvw=>?_⟩
   .obtain⟨s,t⟩:=a9 (q.right[i]);have hc:=fC i o;rw[t]at hc;unfold Hu ON at hc;have vQ:=AI.eq_1 s;apply xK;apply xB;apply yT;apply yJ;simp[t0,t8,t9,p1,L,vf,o,t];refine xF (hc) [0,1] rfl ?_;simp[vQ];apply yJ;simp;apply yV;simp[t9];refine⟨o,_,_,am,?_⟩;simp[t0,t8,AL o a1m]
   .have e:i=q.right.length:=by omega
    subst e;apply C7;refine⟨_,a8 2 (by simp) (by simp) (by simp) (by simp),?_⟩;simp[Au]
@[simp] def Fx(l:List BG):D:=.sl (l.map A1)
def Aj(x:Term):D:=.agg [Fx x.nodes,By x.tail]
@[simp] theorem bT(x:Term):Ai (.d (Aj x))=[.d (Fx x.nodes),.d (By x.tail)]:=rfl
@[simp] theorem eO(x:Term):At (.d (Aj x))=true:=rfl
@[simp] theorem lx(x:Term):Bw (.d (Aj x))=false:=rfl
@[simp] theorem gG(x:Term):BN (Aj x)=[Fx x.nodes,By x.tail]:=rfl
@[simp] theorem mU(x:Term):CZ.oneD (Aj x)=true:=rfl
@[simp] theorem pd(x:Term):DZ (Aj x)=Bs [Fx x.nodes,By x.tail]:=rfl
@[simp] theorem je(S:Sg)(x:Term):Dm S (.d (Aj x))=some [Fx x.nodes,By x.tail]:=rfl
theorem gV{x:Int}{n a L:Nat}(h1:x<=3)(g:n<=6 ^ x.toNat+1200 * (a - 0))(h:a<=L)(i:L<=40):n<=50000:=by
 have j:6 ^ x.toNat<=6 ^ 3:=zn (by omega) (by omega);have k:6 ^ 3=216:=by decide
 omega
theorem du(g:AE)(A:C2 g=0)(hn:g.conds.length<=12)(B:g.A2.length<=3)(C:∀q∈g.AD,q.right.length<=5)(c:Nat)(E:c<2 ^ 64)(left:Nat)(w:left<g.A2.length)(l:List Int)(F:l.length<=40)(m:∀k∈l,0<=k/\k<256):
  ∃(t:Term) (ok:Bool),(ok=true->∃u:TF,t.nodes=u.flat/\u.fit g [⟨false,left⟩]/\u.flat.length<=50000/\(∀n∈u.flat,n.rem.length<=12)/\t.tail.length<=12)/\Pure prog 14 [AA g,Fs c,AF left,.sl (l.map (D.int .u8))] (.Cb [Aj t,.bool ok]):=by
 have o:=VV g A hn c E;obtain⟨hi,K⟩:∃hi,hi=L4 g (B0 g c):=⟨_,rfl⟩;rw[<-K]at o;have G:Y0 g c l hi:=⟨A,hn,E,F,m,K,B,C⟩;have L:=G.len;have H:left<hi.length:=by omega
 have M:FU hi left=hi[left]:=by simp[FU,List.getD,H]
 by_cases s:FU hi left<1000
 .obtain⟨u,v,W,z,Q,R,S,J⟩:=kL G ((l.length - 0) * 2000+U3 hi ⟨false,left⟩+1) ⟨false,left⟩ 0 false [] (cq _) ⟨by simp,by simp;omega,by simpa using s⟩ (Nat.lt_succ_self _) (by
   have h1:=G.fin w s;have T:U3 hi ⟨false,left⟩<=3:=by show(FU hi ((left:Int)).toNat).toNat<=3;rw[ii];omega
   have X:6 ^ U3 hi ⟨false,left⟩<=6 ^ 3:=zn (by omega) T;have Y:6 ^ 3=216:=by decide
   show 0+6 ^ U3 hi ⟨false,left⟩+1200 * (l.length - 0)<=2 ^ 30
   generalize 6 ^ U3 hi ⟨false,left⟩=x at *;omega)
  have N:=Pp g A hn c E l F m v z hi true u.flat;rw[vV]at J;have Z:=(Rt g c l z (Kq l v 12 - 9).toNat);refine⟨⟨u.flat,(Rr g c l v).2⟩,true,λ_=>⟨u,rfl,Q,gV (G.fin w s).2 R z F,S,SR m z⟩,eJ func14 rfl rfl (by simp) λwf=>?_⟩;generalize(Rr g c l v).2=rem at *;generalize(Rr g c l v).1=a2 at *;rw[ntmps14];have P:=J.Fm (args':=[.ptr 0 1 0 0,.agg [.d (.bool false),.d (.int .i64 left)]]) rfl λi h h'=>by
   match i,h with
   |0,_=>exact .inl rfl
   |1,_=>exact .inr ⟨_,by simp[Ba,Dx,CF,AI],rfl⟩
  clear J;unfold Hu ON at P N;apply yW;simp;(repeat apply xS);refine yE [0,2,4,6,8,10,12,15,16] (by kernel_rfl) ?_;simp;apply yA 1;simp[AA];refine B5 (o) rfl (by simp[AA]) ?_;simp[AA];apply yA 1;simp;apply xX 1 (by kernel_rfl);simp[Ac,Al];apply yA 1;simp;rw[M]at s;have j:¬(1000:Int)<=hi[left]:=by omega
  refine xS (yW ?_);simp[H,j];apply AR;simp;apply xK;refine ed (AJ.Pm 2 0 13 4 (xs:=[]) (by simp;exact⟨rfl,rfl⟩) rfl rfl) ?_;simp;apply yS;apply yJ;simp;refine xF (P) [2,3] rfl ?_;simp;apply yJ;simp;apply yW;simp;apply yS;apply yJ;simp;refine xF (N) [2,3] rfl ?_;simp;apply yJ;simp;(repeat apply xS);apply yV;simp;(apply Af;refine⟨_,_,c9 3 (xs:=u.flat.map A1) rfl (by simp),?_⟩;simp[Ba,CF,Aj])
 .have U:¬hi[left] <1000:=by rw[<-M];exact s
  have j:(1000:Int)<=hi[left]:=by omega
  refine⟨⟨[],[]⟩,false,by simp,eJ func14 rfl rfl (by simp) λwf=>?_⟩;rw[ntmps14];apply yW;simp;refine yD [0,2,4,6,8,10,12,15,16] (by kernel_rfl) ?_;simp;apply yA 1;simp[AA];refine B5 (o) rfl (by simp[AA]) ?_;simp[AA];apply yA 1;simp;apply xX 1 (by kernel_rfl);simp[Ac,Al];apply yA 1;simp;refine xS (yW ?_);simp[H,j];apply AR;simp;(repeat apply xS);apply yV;simp;(apply Af;refine⟨_,_,am,?_⟩;simp[Ba,CF,Aj])
noncomputable def GL(g:AE)(i:Nat):List Nat:=(List.range i).filter (hasB g)
theorem ZG(g:AE)(i:Nat):GL g (i+1)=GL g i++if hasB g i then [i]else []:=by
 unfold GL;rw[acL,acE];cases h:hasB g i<;>simp[h]
theorem Tp(g:AE)(i:Nat):(GL g i).length<=i:=by
 have:=acF (hasB g) (List.range i);simpa[GL]using this
theorem Vd(g:AE)(v:C2 g=0)(hn:g.conds.length<=12)(k:Nat)(K:k<256)(o:0<(GL g 8).length):Pure prog 13 [AA g,.int .u8 k] (Fs ((GL g 8).getD (k % (GL g 8).length) 0)):=by
 have h:=λc z=>ng g v hn c z;have A:1<=al:=by simp[al]
 refine zP func13 26 rfl λwf=>?_;apply yW;simp;apply yW;simp;refine ed (ll 5 1 (xs:=[]) (by simp)) ?_;refine k7 (R:=λtm S=>tm 1=.d (.int .u8 k)/\tm 5=.row 1 (GL g 8).length/\∃w,S=[.row true 9 [.d (AA g)],.row w 1 ((GL g 8).map λ(c:Nat)=>.d (Fs c))]) ?_ ?_
 .apply yW;simp;apply Bx;refine zL 8 (λi tm S=>tm 1=.d (.int .u8 k)/\tm 2=.ptr 0 1 0 0/\tm 5=.row 1 (GL g i).length/\tm 6=.d (Fs i)/\∃w,S=[.row true 9 [.d (AA g)],.row w 1 ((GL g i).map λ(c:Nat)=>.d (Fs c))]) (by simp[GL,AA]) ?_;rintro i tm S hi ⟨t1,t2,t5,t6,w,rfl⟩;have j:=ZG g i;have B:=Tp g i;have C:=h i (by omega);generalize E:GL g i=L at *;have F:L.length+1<=2 ^ 30:=by omega
  have u:IntKind.u64.wrap ((i:Int)+1)=((i+1:Nat):Int):=by rw[show(i:Int)+1=((i+1:Nat):Int) by omega,Ps,qr (by omega)]
  by_cases G:i<8
  .have H:(i:Int)<8:=by omega
   refine xS (yW ?_);simp[t6];apply AR;simp[H,G];apply xK;apply xB;(repeat apply xS);apply yT;apply yJ;simp[t2,t6];refine B9 (C) rfl (by simp[xN]) (yJ ?_);simp;cases hb:hasB g i with
   |true=>
    rw[hb,ap rfl]at j;apply AR;simp;apply yV;simp[t5,t6,F,A,Ah];apply yV;simp[t6,u];refine⟨_,_,am,?_⟩;simp[t1,t2,j]
   |false=>
    rw[hb,ao (by simp)]at j;apply AR;simp;apply CT;apply yV;simp[t6,u];refine⟨_,_,am,?_⟩;simp[t1,t2,t5,j]
  .have e:i=8:=by omega
   subst e;refine xS (yW ?_);simp[t6];apply AR;simp;apply C7;rw[E];cases w<;>simp[t1,t5]
 .rintro tm S ⟨t1,t5,w,rfl⟩;have B:=Tp g 8;generalize GL g 8=L at *;have hj:k % L.length<L.length:=gc _ o;have q:IntKind.i64.wrap (k:Int)=k:=by rw[bv];omega
  have J:(k:Int).tmod L.length=((k % L.length:Nat):Int):=by rw[c8 (by omega)];push_cast;rfl
  have s:¬L=[]:=λe=>by rw[e]at o;simp at o
  generalize M:k % L.length=m at *;have t:L.getD m 0=L[m]:=by simp[List.getD,hj]
  rw[t];apply yW;simp[t1,t5,q,J,s,hj];apply zT;try simp
theorem M8{n:Nat}{s g:Int->Bool}(h:∀v:Int,0<=v->v<n->s v=g v):∀{t:DT},t.Good->t.Below n->t.Ca s=t.Ca g
 |.leaf _,_,_=>rfl
 |.node v l r,i,hb=>by
  obtain⟨h0,h1,_,_,_,j,k⟩:=i;obtain⟨m,bl,o⟩:=hb;simp[Ca,h v h0 m,M8 h j bl,M8 h k o]
def OL(b:Bool):Nat:=if b then 1 else 0
theorem oa(n:Nat)(hn:n<=3)(s:Int->Bool):∃c,c<2 ^ n/\∀v:Int,0<=v->v<n->s v=cfg c v:=by
 have i:∀a b c:Bool,∀v:Nat,v<3->cfg (OL a+2 * OL b+4 * OL c) v=if v=0 then a else if v=1 then b else c:=by
  intro a b c v g;have:v=0\/v=1\/v=2:=by omega
  rcases this with rfl|rfl|rfl<;>cases a<;>cases b<;>cases c<;>decide
 have g:∀v:Int,0<=v->∃k:Nat,v=k:=λv h=>⟨v.toNat,by omega⟩;have:n=0\/n=1\/n=2\/n=3:=by omega
 rcases this with rfl|rfl|rfl|rfl
 .exact⟨0,by decide,λv h1 j=>by omega⟩
 .refine⟨OL (s 0)+2 * OL false+4 * OL false,by cases s 0<;>decide,λv h1 j=>?_⟩;obtain⟨k,rfl⟩:=g v h1;rw[i _ _ _ k (by omega)];have:k=0:=by omega
  subst this;rfl
 .refine⟨OL (s 0)+2 * OL (s 1)+4 * OL false,by cases s 0<;>cases s 1<;>decide,λv h1 j=>?_⟩;obtain⟨k,rfl⟩:=g v h1;rw[i _ _ _ k (by omega)];have:k=0\/k=1:=by omega
  rcases this with rfl|rfl<;>rfl
 .refine⟨OL (s 0)+2 * OL (s 1)+4 * OL (s 2),by cases s 0<;>cases s 1<;>cases s 2<;>decide,λv h1 j=>?_⟩;obtain⟨k,rfl⟩:=g v h1;rw[i _ _ _ k (by omega)];have:k=0\/k=1\/k=2:=by omega
  rcases this with rfl|rfl|rfl<;>rfl
theorem bW{g:AE}(m:C2 g=0)(k:g.conds.length<=3):0<(GL g 8).length:=by
 have h:=(Ck m).2.1;simp[Fb]at h;obtain⟨o,i⟩:=HR h.1.2;have q:tr g.fam≠.leaf false:=λe=>by
  have:=Ep o;rw[e]at this;exact h.2 (by rw[<-this];rfl)
 obtain⟨s,t⟩:=TH i.HD q;obtain⟨c,u,v⟩:=oa g.conds.length k s;have j:c<8:=by
  have:2 ^ g.conds.length<=2 ^ 3:=zn (by omega) k;omega
 have hb:hasB g c=true:=by
  unfold hasB HY;rw[<-M8 v i.HD i.below,t];simp[u]
 exact acw (ms.2 ⟨by simpa using j,hb⟩)
theorem Uw{g:AE}{c i:Nat}(h:c∈GL g i):c<i/\hasB g c=true:=by
 obtain⟨h1,j⟩:=ms.1 h;exact⟨by simpa using h1,j⟩
theorem Yh(g:AE)(h:C2 g=0)(o:g.conds.length<=3)(k:Nat)(q:k<256):∃c,c<8/\hasB g c=true/\Pure prog 13 [AA g,.int .u8 k] (Fs c):=by
 have i:=bW h o;have j:=Vd g h (by omega) k q i;have hj:k % (GL g 8).length<(GL g 8).length:=gc _ i;have m:(GL g 8)[k % (GL g 8).length]∈GL g 8:=b9 hj;have s:(GL g 8).getD (k % (GL g 8).length) 0=(GL g 8)[k % (GL g 8).length]:=by simp[List.getD,hj]
 rw[s]at j;exact⟨_,(Uw m).1,(Uw m).2,j⟩
structure Input where
 x:Raw
 config:Nat
 l:List Int
 lines:List Int
def Dj(x:Input):D:=.agg [D.int .u8 (x.x.base:Nat),D.int .u8 (x.x.n:Nat),D.sl (x.x.fam.map λ(k:Nat)=>D.int .u8 k),D.sl (x.x.lines.map Cj),D.sl (x.x.rules.map Br),D.int .u8 (x.config:Nat),D.sl (x.l.map (D.int .u8)),D.sl (x.lines.map (D.int .u8))]
@[simp] theorem bM(x:Input):Ai (.d (Dj x))=[.d (D.int .u8 (x.x.base:Nat)),.d (D.int .u8 (x.x.n:Nat)),.d (D.sl (x.x.fam.map λ(k:Nat)=>D.int .u8 k)),.d (D.sl (x.x.lines.map Cj)),.d (D.sl (x.x.rules.map Br)),.d (D.int .u8 (x.config:Nat)),.d (D.sl (x.l.map (D.int .u8))),.d (D.sl (x.lines.map (D.int .u8)))]:=rfl
@[simp] theorem ax(x:Input):At (.d (Dj x))=true:=rfl
@[simp] theorem jA(x:Input):Bw (.d (Dj x))=false:=rfl
@[simp] theorem aQ(x:Input):BN (Dj x)=[D.int .u8 (x.x.base:Nat),D.int .u8 (x.x.n:Nat),D.sl (x.x.fam.map λ(k:Nat)=>D.int .u8 k),D.sl (x.x.lines.map Cj),D.sl (x.x.rules.map Br),D.int .u8 (x.config:Nat),D.sl (x.l.map (D.int .u8)),D.sl (x.lines.map (D.int .u8))]:=rfl
@[simp] theorem jJ(x:Input):CZ.oneD (Dj x)=true:=rfl
@[simp] theorem nT(x:Input):DZ (Dj x)=Bs [D.int .u8 (x.x.base:Nat),D.int .u8 (x.x.n:Nat),D.sl (x.x.fam.map λ(k:Nat)=>D.int .u8 k),D.sl (x.x.lines.map Cj),D.sl (x.x.rules.map Br),D.int .u8 (x.config:Nat),D.sl (x.l.map (D.int .u8)),D.sl (x.lines.map (D.int .u8))]:=rfl
@[simp] theorem fy(S:Sg)(x:Input):Dm S (.d (Dj x))=some [D.int .u8 (x.x.base:Nat),D.int .u8 (x.x.n:Nat),D.sl (x.x.fam.map λ(k:Nat)=>D.int .u8 k),D.sl (x.x.lines.map Cj),D.sl (x.x.rules.map Br),D.int .u8 (x.config:Nat),D.sl (x.l.map (D.int .u8)),D.sl (x.lines.map (D.int .u8))]:=rfl
def uq(v:V)(S':Sg):Prop:=S'=[]/\∃(g:AE) (c:Nat) (t:Term) (ok kn:Bool),v=.d (.Cb [AA g,Fs c,Aj t,.bool ok])/\XT g kn 10 6/\c<8/\hasB g c=true/\(ok=true->∃u:TF,t.nodes=u.flat/\u.fit g [⟨false,g.start⟩]/\u.flat.length<=50000/\(∀n∈u.flat,n.rem.length<=12)/\t.tail.length<=12)
theorem eX(y:Input):BP prog 5 [.d (Dj y)] [] uq:=by
 refine BP.AK func5 rfl rfl (by simp) λwf _=>?_;have u:y.config<256:=by have:=wf.1;simp[JQ,DZ,Bs,IL]at this;omega
 have w:∀k∈y.l,0<=k/\k<256:=by
  have:=wf.1;simp[JQ,DZ,Bs,Di,IL]at this;exact λk z=>by have:=this.2.2.2.2.2.2.1.2 k z;omega
 have P:y.l.length<=al:=by have:=wf.1;simp[JQ,DZ,Bs]at this;exact this.2.2.2.2.2.2.1.1
 rw[ntmps5];apply yW;simp;(repeat apply xS);apply yT;apply yJ;simp[Dj];have A:=(gQ y.x).Fm (args':=[.agg [.d (.int .u8 y.x.base),.d (.int .u8 y.x.n),.d (.sl (y.x.fam.map λ(k:Nat)=>D.int .u8 k)),.d (.sl (y.x.lines.map Cj)),.d (.sl (y.x.rules.map Br))]]) rfl λi h Q=>by
  match i,h with
  |0,_=>exact .inr ⟨_,by simp[Ba,Dx,CF,Gq],rfl⟩
 refine AV.LO A [] rfl ?_ ?_ ?_
 .simp
 .rintro v B ⟨rfl,g,rfl,_⟩;simp
 rintro v B ⟨rfl,g,rfl,kn,m⟩;simp;apply yJ;simp;have C:=m.okF.1;obtain⟨c,E,F,o⟩:=Yh g C m.c1 y.config u;have L:=(Ck C).2.2.2.1;simp[Ia]at L;obtain⟨s,q⟩:∃s:Nat,g.start=s:=⟨g.start.toNat,by omega⟩;obtain⟨M,G,H,N⟩:∃M:Nat,(if(40:Int)<(y.l.length:Int)then(40:Int)else y.l.length)=M/\M<=y.l.length/\M<=40:=by
  by_cases h:40<y.l.length
  .exact⟨40,by rw[ap (by omega)];rfl,by omega,by omega⟩
  .exact⟨y.l.length,by rw[ao (by omega)],by omega,by omega⟩
 have J:(M:Int)<=y.l.length:=by omega
 obtain⟨t,ok,K,j⟩:=du g C (by have:=m.c1;omega) m.n1 m.sh.r c (by omega) s (by omega) (y.l.take M) (by simp;omega) (λk z=>w k (W0 z));apply yS;apply yJ;simp;refine B9 (o) rfl (by simp[xN]) (yJ ?_);simp;refine yD [0,2,4,6,8,10,12,14,16,18,20,22,24,26,28,31,33,34] (by kernel_rfl) ?_;simp;apply yA 1;simp[AA,q,G,J];refine B5 (j) rfl (by simp[AA,q]) ?_;simp[AA,q];apply yA 1;simp;apply xX 0 (by kernel_rfl);simp[Ac,Al];apply xX 32766 (by kernel_rfl);simp[Ac,Al];apply yA 1;simp;(repeat apply xS);refine yE [0,2,4,6,9,10,13,14] (by kernel_rfl) ?_;simp;apply yA 1;simp;apply xX 8 (by kernel_rfl);simp[Ac];apply yA 1;simp;apply xX 13 (by kernel_rfl);simp[Ac];apply yA 1;simp;apply Af;refine⟨_,_,am,?_,_,_,⟨rfl,g,c,t,ok,kn,rfl,m,E,F,by rw[q];exact K⟩,.inl ⟨.Cb [AA g,Fs c,Aj t,.bool ok],_,?_,rfl,a8 0 rfl (by simp) (by simp) (by simp)⟩⟩
 .simp[Aj]
 .simp[Ba,LF,CF,Kx,AA,Aj,q]
def fR(g:Option Nat):Fence:={fn:=λ_=>True,depth:=none,alive:=false,round:=g}
section
variable {P:Program} {ro:Option Nat} {m:Nat}
theorem pQ{f:FuncId}{args:Array Value}{w:World}{R:Ending->World->Prop}(h:Calls P f args w R):CallsIn (fR ro) m P f args w R:=
 show CallsIn Fence.wide m P f args w R from callsIn_wide.2 h
theorem rT{row:String}{args:Array Value}{w:World}{R:Value->World->Prop}(h:Rows P row args w R):RowsIn (fR ro) m P row args w R:=
 show RowsIn Fence.wide m P row args w R from λc g _=>by
  obtain⟨v,i,r,s⟩:=h c g;exact⟨v,i,r,stepsIn_wide.2 s⟩
theorem qn{o:Oper}(k:∀c,o.op≠.defer c){a:Act}{w:World}{next g:Act->World->Prop}{Q:Exit->Act->World->Prop}(hn:∀a w,next a w->g a w)(h:o.wp P a w next Q):o.wpIn (fR ro) m P a w g Q:=by
 refine⟨λ_ _=>trivial,?_⟩;rw[show o.semAt (fR ro).round a.eval=execOp a.eval o from Oper.semAt_eq _ _ _ k];unfold Oper.wp at h;generalize(execOp a.eval o).run P w=r at h⊢;cases r with
 |ok v q=>
  cases v with
  |value v=>exact hn _ _ h
  |skip=>exact hn _ _ h
  |enter f args=>
   refine⟨(by intro i;cases i),pQ (Calls.mono h λe j i=>?_)⟩;cases e with
   |returned v=>exact hn _ _ i
   |panicked c=>exact i
   |outgrown=>exact i
  |row r args=>exact⟨(by intro i;cases i),rT (Rows.mono h λv j i=>hn _ _ i)⟩
  |_=>first|exact h.elim|exact hn _ _ h
 |halt i q=>cases i with
  |panic v=>exact h
  |_=>exact h.elim
theorem lY{ops:Array Oper}{Q:Exit->Act->World->Prop}(g:∀(i:Nat) o c,ops[i]?=some o->o.op≠.defer c)(j:¬LetsOut Q):∀(l:List Nat) (a:Act) (w:World),wpOps P ops Q l a w->wpOpsIn (fR ro) m P ops Q l a w
 |[],_,_,h=>h
 |i::l,a,w,h=>by
  simp[wpOps]at h;simp[wpOpsIn];cases k:ops[i]? with
  |none=>rw[k]at h;exact lY g j l a w h
  |some o=>
   rw[k]at h;simp[]at h⊢;split at h
   .next q=>
    rw[ap q];rcases h with h|h
    .exact qn (λc=>g i o c k) (λa w=>lY g j l a w) h
    .exact absurd h.2 j
   .next q=>
    rw[ao q];exact⟨λ_ _=>trivial,lY g j l _ w h⟩
variable {n b:Nat} {tm:Tm} {S:Sg}
theorem AV.sY{id:Nat}{ops:Array Oper}{K:Tm->Sg->Prop}(t:∀(i:Nat) o c,ops[i]?=some o->o.op≠.defer c)(h:AV P n b ops ops.toList tm S K){G:Gh}{w:World}{a:Act}{Q:Exit->Act->World->Prop}
  (st:St P n G S w a tm) (hb:b<=S.length) (u:∀k q,(∃v s g,Gu P n b G S w a.defers k q v s g/\K g s)->Q .normal k q) (z:¬LetsOut Q):(Code.region id ops false).wpIn (fR ro) m P Q a w:=by
 refine wpIn_region (lY t z _ _ _ ?_);have:=h 0 (λj=>by simp) G w a Q st hb u;rw[In];simpa using this
end
end Go.Koi
namespace Go.Proofs
open Go.RowKit Go.Maps Go.Sort Go.Shelf Go.Koi
def collA_ren:Go.Shelf.Ren:=⟨fun|8=>31|11=>115|n=>n,fun|26=>3|28=>123|24=>88|0=>0|33=>195|4=>4|n=>n,fun|n=>n⟩
theorem collA:SlLaysZI.n8 Tryz.prog collA_ren:={mixed:=by kernel_rfl,f8:=⟨Tryz.f31.name,by decide,Tryz.func31.trans (congrArg some (by kernel_rfl))⟩,f11:=⟨Tryz.f115.name,by decide,Tryz.func115.trans (congrArg some (by kernel_rfl))⟩,t0:=Tryz.underlying0,a0:=Tryz.isAgg0,z0:=Tryz.sizeOf0,v0:=Tryz.zeroValue0,t24:=Tryz.underlying88,a24:=Tryz.isAgg88,z24:=Tryz.sizeOf88,v24:=Tryz.zeroValue88,t26:=Tryz.underlying3,a26:=Tryz.isAgg3,z26:=Tryz.sizeOf3,v26:=Tryz.zeroValue3,t28:=Tryz.underlying123,a28:=Tryz.isAgg123,z28:=Tryz.sizeOf123,v28:=Tryz.zeroValue123,i26:=by kernel_rfl}
inductive FM (es : List Int) (e : Int) : Int → List Int → Prop
  | nil {j : Int} (h : e ≤ j) : FM es e j []
  | cons {j j' : Int} {ks : List Int} (h : j < e) (h0 : 0 ≤ j) (hj : es[j.toNat]? = some j') (hlt : j < j') (hk : FM es e j' ks) : FM es e j (j :: ks)
def sS : Value → Int
  | .int _ n => n
  | _ => 0
attribute [local go_sem] Oper.semAt_some
theorem cY (n : Nat) (hn : 1 ≤ n) (l : Nat) (pi pe ad : Addr) (cap N : Nat) (es : List Int) (_ : es.length ≤ maxLen) (i e : Int) (hi0 : 0 ≤ i) (hi : es[i.toNat]? = some e) (hrg : ∀ x ∈ es, 0 ≤ x ∧ x ≤ 2000000) (hil : i ≤ 2000000) (J : List Int → World → Prop)
    (rd : ∀ pre W, J pre W → W.cell? pi = some (.int .i64 i) ∧ W.cell? pe = some (.slice (some ad) es.length cap) ∧ ∀ j, j < es.length → W.cell? (ad.add j) = some (.int .i64 (es[j]?.getD 0)))
    (hY : ∀ pre x W, J pre W → pre.length < N → YieldAt Fence.wide (n - 1) Tryz.prog l #[.int .i64 x] W fun e W' => e = .returned (.bool true) ∧ J (pre ++ [x]) W')
    (ks : List Int) (hk : FM es e (i + 1) ks) (hN : ks.length ≤ N) (W : World) (h0 : J [] W) :
    CallsIn Fence.wide n Tryz.prog 116 #[.func (.yield l) #[] #[], .pointer (some pi), .pointer (some pe)] W fun e W' => (∃ v, e = .returned v) ∧ J ks W' := by
  refine callsIn_of_wp Tryz.func116 rfl trivial ?_ rfl
  simp only [Tryz.ntmps116, List.size_toArray, List.length_cons, List.length_nil, Nat.reduceAdd, Nat.reduceSub, Array.replicate_succ, Array.replicate_zero, List.push_toArray, List.append_toArray, List.nil_append, List.cons_append]
  obtain ⟨r1, r2, r3⟩ := rd _ _ h0
  obtain ⟨hil', he⟩ := List.getElem?_eq_some_iff.1 hi
  gi_wp2
  gi_loopw [4] (fun j wr => ∃ (x : Int) (pre rest : List Int), j = .int .i64 x ∧ 0 ≤ x ∧ x ≤ 2000001 ∧ FM es e x rest ∧ pre ++ rest = ks ∧ J pre wr)
    (fun j _ => (e - sS j).toNat)
  case atStart => exact ⟨_, [], ks, rfl, by omega, by omega, hk, rfl, h0⟩
  case round =>
    obtain ⟨x, pre, rest, rfl, hx0, hx1, hkr, hpr, hJ⟩ := hrel
    clear r1 r2 r3
    obtain ⟨r1, r2, r3⟩ := rd _ _ hJ
    have r4 := r3 i.toNat hil'
    rw [hi] at r4
    simp only [Option.getD_some] at r4
    cases hkr with
    | nil h =>
      gi_wp2
      go_end0
      simp only [List.append_nil] at hpr
      subst hpr
      exact ⟨⟨_, rfl⟩, hJ⟩
    | cons h h0' hj hlt hk' =>
      obtain ⟨hxl, rfl⟩ := List.getElem?_eq_some_iff.1 hj
      obtain ⟨fn, tmps, assign, body, hy, hR⟩ := hY _ x wr hJ (by rw [← hpr] at hN; simp at hN; omega)
      gi_wp2
      refine hR.mono ?_
      rintro e' W3 ⟨rfl, hJ3⟩
      obtain ⟨q1, q2, q3⟩ := rd _ _ hJ3
      have q4 := q3 x.toNat hxl
      rw [hj] at q4
      simp only [Option.getD_some] at q4
      gi_wp2
      go_roundw
      case rel => exact ⟨_, pre ++ [x], _, rfl, (hrg _ (List.mem_of_getElem? hj)).1, by have := (hrg _ (List.mem_of_getElem? hj)).2; omega, hk', by simpa using hpr, hJ3⟩
      case measure => simp [sS]; omega
theorem YC (n : Nat) (hn : 4 ≤ n) (pi pe ad : Addr) (cap : Nat) (es : List Int) (hcap : es.length ≤ maxLen) (i e : Int) (hi0 : 0 ≤ i) (hi : es[i.toNat]? = some e) (hrg : ∀ x ∈ es, 0 ≤ x ∧ x ≤ 2000000) (hil : i ≤ 2000000)
    (w : World) (b1 : pi.block < w.heap.size) (b2 : pe.block < w.heap.size) (b3 : ad.block < w.heap.size)
    (r1 : w.cell? pi = some (.int .i64 i)) (r2 : w.cell? pe = some (.slice (some ad) es.length cap)) (r3 : ∀ j, j < es.length → w.cell? (ad.add j) = some (.int .i64 (es[j]?.getD 0)))
    (ks : List Int) (hk : FM es e (i + 1) ks) (hN : ks.length ≤ 2000000) :
    CallsIn Fence.wide n Tryz.prog 115 #[.slice none 0 0, .func (.func 116) #[] #[.pointer (some pi), .pointer (some pe)]] w fun e w' => ∃ v : Value, e = .returned v ∧ w'.ownsRow w.heap.size 3 1 v ks.length (ks.map encZ) ∧ Below w.heap.size w w' := by
  refine callsIn_of_wp_marks Tryz.func115 rfl trivial ?_ rfl
  simp only [Tryz.ntmps115, List.size_toArray, List.length_cons, List.length_nil, Nat.reduceAdd, Nat.reduceSub, Array.replicate_succ, Array.replicate_zero, List.push_toArray, List.append_toArray, List.nil_append, List.cons_append]
  gi_wp2
  refine wpIn_rangeFunc ?_
  intro fn hfn
  have hsv : ∃ sv : Value, sv = .func (.func 116) #[] #[.pointer (some pi), .pointer (some pe)] := ⟨_, rfl⟩
  obtain ⟨sv, hsv⟩ := hsv
  have hne : (88 : TypeId) ≠ 3 := by decide
  have hmx : 2000000 ≤ maxLen := by decide
  have hW0 : ∃ W0, w.alloc (.cells #[.slice none 0 0] 88) = W0 := ⟨_, rfl⟩
  obtain ⟨W0, hW0⟩ := hW0
  have hs0 : W0.heap.size = w.heap.size + 1 := by rw [← hW0]; simp
  have hv0 : W0.heap[w.heap.size]? = some (.cells #[.slice none 0 0] 88 (0, 0)) := by rw [← hW0]; exact World.alloc_heap_new w _
  have hb0 : Below w.heap.size w W0 := by rw [← hW0]; exact (Below.refl _ w).alloc (Nat.le_refl _) _
  rw [hW0]
  have hW1 : ∃ W1, (W0.alloc (.deferred (some []))).alloc (.loop (AnyZI.apRec collA_ren fn sv w.heap.size W0.heap.size .ready none)) = W1 := ⟨_, rfl⟩
  obtain ⟨W1, hW1⟩ := hW1
  have hold : ∀ k, k < W0.heap.size → W1.heap[k]? = W0.heap[k]? := fun k hk => by
    rw [← hW1]; exact (Below.heap_alloc _ _ k (by simp; omega)).trans (Below.heap_alloc _ _ k hk)
  have hb1 : Below w.heap.size w W1 := by rw [← hW1]; exact (hb0.alloc hb0.size _).alloc (by have := hb0.size; simp; omega) _
  have hM : AnyZI.ApAt collA_ren w fn sv w.heap.size (W0.heap.size + 1) W0.heap.size [] W1 :=
    ⟨⟨_, (hold w.heap.size (by omega)).trans hv0, ⟨rfl, .inl ⟨rfl, rfl⟩⟩, by simp⟩,
     by rw [← hW1]; have := World.alloc_heap_new (W0.alloc (.deferred (some []))) (.loop (AnyZI.apRec collA_ren fn sv w.heap.size W0.heap.size .ready none)); rwa [World.size_alloc] at this,
     by rw [← hW1]; exact (Below.heap_alloc _ _ _ (by simp)).trans (World.alloc_heap_new W0 _), hb1⟩
  refine ⟨W0.heap.size + 1, [{ target := .collected W0.heap.size, args := #[] }], W1, { target := .fn (.func 116) #[.pointer (some pi), .pointer (some pe)], args := #[.func (.yield (W0.heap.size + 1)) #[] #[]] }, W1, 116,
    #[.func (.yield (W0.heap.size + 1)) #[] #[], .pointer (some pi), .pointer (some pe)], W1, ?_, ?_, ?_, ?_, fun _ => by omega, ?_⟩
  · rw [← hW1, hsv]; exact run_enterLoop_outer _ _ _ _ _
  · simp [resolve, go_sem]
  · intro f' hf'; exact trivial
  · simp [invoke, go_sem]
  · have cell : ∀ (a : Addr) pre W, a.block < w.heap.size → AnyZI.ApAt collA_ren w fn sv w.heap.size (W0.heap.size + 1) W0.heap.size pre W → W.cell? a = w.cell? a := fun a pre W ha h => h.below.cell ha
    refine (cY (n - 1) (by omega) (W0.heap.size + 1) pi pe ad cap ks.length es hcap i e hi0 hi hrg hil (AnyZI.ApAt collA_ren w fn sv w.heap.size (W0.heap.size + 1) W0.heap.size)
      (fun pre W h => ⟨(cell pi pre W b1 h).trans r1, (cell pe pre W b2 h).trans r2, fun j hj => (cell (ad.add j) pre W (by unfold Addr.add; split <;> exact b3) h).trans (r3 j hj)⟩)
      (fun pre x W hJ hl => ?_) ks hk (Nat.le_refl _) W1 hM).mono ?_
    · obtain ⟨f, t, a, b, y1, y2⟩ := AnyZI.apYield { collA with } Fence.wide (n - 1 - 1) w fn hfn sv w.heap.size (W0.heap.size + 1) W0.heap.size (by omega) (by omega) (by omega) (Nat.le_refl _) (by omega) ks.length (by omega) (by omega) pre x W hJ hl
      exact ⟨f, t, a, b, y1, y2.mono fun e W' h => ⟨h.1, h.2.1⟩⟩
    · rintro e W2 ⟨⟨v0, rfl⟩, h2⟩
      obtain ⟨v, hv, hrow, hnil⟩ := h2.box
      have hend := run_endLoop (P := Tryz.prog) h2.L (by simp [AnyZI.apRec])
      have hW3 : ∃ W3, W2.putObj (W0.heap.size + 1) (.loop { AnyZI.apRec collA_ren fn sv w.heap.size W0.heap.size .ready none with state := .exhausted }) = W3 := ⟨_, rfl⟩
      obtain ⟨W3, hW3⟩ := hW3
      rw [hW3] at hend
      have hg3 : W2.grownBy W3 (some (W0.heap.size + 1)) := by rw [← hW3]; exact grownBy_putObj_a _ _ _
      have hv3 : W3.heap[w.heap.size]? = some (.cells #[v] 88 (0, 0)) := by rw [← hW3]; exact (World.putObj_heap_other (by omega)).trans hv
      have hK3 : W3.heap[W0.heap.size]? = some (.deferred (some [])) := by rw [← hW3]; exact (World.putObj_heap_other (by omega)).trans h2.K
      have hrow3 := hrow.kept hg3 (ownsRow_ne_a hrow h2.L (fun cur e => by first | cases e | exact hne (Obj.cells.inj e).2.1))
      have hb3 : Below w.heap.size w W3 := h2.below.grown hg3 h2.below.size (fun k e => by cases e; omega)
      obtain ⟨hc3, hf3⟩ := cell_of_box_a hv3
      clear hW3
      refine ⟨none, W3, hend, ?_⟩
      gi_wp2
      rw [← hs0]
      refine ⟨by simp, .inl ⟨_, _, rfl, run_takeDeferred hK3, ?_⟩⟩
      exact ⟨_, results_tmp rfl _ _ _, v, rfl, hrow3.kept (grownBy_putObj_a _ _ _) (ownsRow_ne_a hrow3 hK3 (fun cur e => by first | cases e | exact hne (Obj.cells.inj e).2.1)), hb3.grown (grownBy_putObj_a _ _ _) hb3.size (fun k e => by cases e; omega)⟩
theorem ju (n : Nat) (hn : 5 ≤ n) (pi pe ad : Addr) (cap : Nat) (es : List Int) (hcap : es.length ≤ maxLen) (i e : Int) (hi0 : 0 ≤ i) (hi : es[i.toNat]? = some e) (hrg : ∀ x ∈ es, 0 ≤ x ∧ x ≤ 2000000) (hil : i ≤ 2000000)
    (w : World) (b1 : pi.block < w.heap.size) (b2 : pe.block < w.heap.size) (b3 : ad.block < w.heap.size)
    (r1 : w.cell? pi = some (.int .i64 i)) (r2 : w.cell? pe = some (.slice (some ad) es.length cap)) (r3 : ∀ j, j < es.length → w.cell? (ad.add j) = some (.int .i64 (es[j]?.getD 0)))
    (ks : List Int) (hk : FM es e (i + 1) ks) (hN : ks.length ≤ 2000000) :
    CallsIn Fence.wide n Tryz.prog 31 #[.func (.func 116) #[] #[.pointer (some pi), .pointer (some pe)]] w fun e w' => ∃ v : Value, e = .returned v ∧ w'.ownsRow w.heap.size 3 1 v ks.length (ks.map encZ) ∧ Below w.heap.size w w' := by
  refine callsIn_of_wp Tryz.func31 rfl trivial ?_ rfl
  simp only [Tryz.ntmps31, List.size_toArray, List.length_cons, List.length_nil, Nat.reduceAdd, Nat.reduceSub, Array.replicate_succ, Array.replicate_zero, List.push_toArray, List.append_toArray, List.nil_append, List.cons_append]
  have ht : Fence.wide.fn 115 := trivial
  have h1 : 1 ≤ n := by omega
  gi_wp2_with (gi_at_call 115; refine (YC (n - 1) (by omega) pi pe ad cap es hcap i e hi0 hi hrg hil w b1 b2 b3 r1 r2 r3 ks hk hN).mono ?_; rintro e w' ⟨v, rfl, hrow, hb⟩)
  go_ret
  exact ⟨v, rfl, hrow, hb⟩
end Go.Proofs
namespace Go.Koi
open Go renaming maxLen->al
open Go.Proofs Tryz
theorem Rel.wider{P:Program}{G:Gh}{S:Sg}{w w':World}(R:Rel P G S w)(g:Nat->Prop)(h1:∀b,G.I b->g b)(i:∀b,g b->G.I b\/(w.heap.size<=b/\b<w'.heap.size))
  (hs:w.heap.size<=w'.heap.size) (j:∀b,b<w.heap.size->w'.heap[b]?=w.heap[b]?) (q:w'.os=w.os) (s:w'.output=w.output):
  Rel P {G with I:=g} S w'/\Tr G S w {G with I:=g} S w'/\BL G S w {G with I:=g} S w':=by
 have L:BL G S w {G with I:=g} S w':=
  ⟨h1,λk h=>j k (R.JY k h),br _,λr _ n h=>⟨n,h,br _,λ_=>⟨rfl,rfl,rfl,.inl rfl⟩⟩,λr _ h=>⟨h,rfl⟩⟩
 have v:∀b,Fy {G with I:=g} S b↔Fy G S b:=λb=>UV;refine⟨⟨R.GQ.later L,λr x m=>(R.DG r x m).later L (λt=>j _ (R.HL _ ⟨r,x,m,t,rfl⟩)) rfl rfl rfl,R.inj,λb hb u=>?_,λb hb=>?_,λb hb=>?_⟩,⟨hs,h1,λb hb _=>j b hb,λb hb=>.inl hb,λb hb=>?_,q,s⟩,L⟩
 .have o:Fy G S b:=hb;rcases i b u with h|h
  .exact R.nI b o h
  .have:=R.HL b o;omega
 .rcases i b hb with h|h
  .have:=R.JY b h;omega
  .exact h.2
 .have:=R.HL b (show Fy G S b from hb);omega
 .rcases i b hb with h|h
  .exact .inl h
  .exact .inr (.inr h.1)
theorem Tj{P:Program}{G:Gh}{S:Sg}{w:World}(R:Rel P G S w){r:Nat}{d:D}{y:Value}(i:S[r]?=some (.row true 1 [.d d]))(o:CV G S w (.ptr r 1 0 0) y)(q:∀v,CD G.I w d v->v.cells=#[v]):
  ∃a v,y=.pointer (some a)/\w.cell? a=some v/\CD G.I w d v/\a.block<w.heap.size/\v.cells.size=1:=by
 have g:=R.DG r _ i;cases o with
 |ptr _ _ _ _ _ h1 z s=>
  have e:=(s 1 (by simp[lenOf,i])).2 rfl 1 (by simp[C0,i]);simp only[OK]at g;cases j:G.BB r with
  |some a=>rw[j]at g;exact absurd g.1 (by simp)
  |none=>
   rw[j]at g;obtain⟨c,T,k,A,B,C,t⟩:=g;obtain⟨v,k1,k2,k3,k4⟩:=t 0 (by simp);refine⟨_,v,by rw[e];simp[Gh.addr,j];rfl,?_,?_,?_,k2⟩
   .have m:=k4 0 (by omega);have k5:CD G.I w d v:=by cases k1 with|d _ _ h=>exact h
    have u:v.cells[0]?=some v:=by rw[q v k5];rfl
    rw[u]at m;simp[World.cell?,k];simpa using m
   .cases k1 with|d _ _ h=>exact h
   .exact(ac9.1 k).1
theorem VT{P:Program}{G:Gh}{S:Sg}{w:World}(R:Rel P G S w){es:List Int}{v:Value}(g:CD G.I w (A9 es) v)(h0:es≠[]):
  ∃ad cap,v=.slice (some ad) es.length cap/\ad.block<w.heap.size/\es.length<=maxLen/\∀j,j<es.length->w.cell? (ad.add j)=some (.int .i64 (es[j]?.getD 0)):=by
 simp[A9]at g;generalize i:es.map AF=s at g;cases g with
 |nil=>simp at i;exact absurd i h0
 |sl sz s b off cap t u z J A B=>
  subst i;have m:(es.map AF).length=es.length:=by simp
  refine⟨⟨b,off,none⟩,cap,by simp,R.JY b u,by simpa using z,λj hj=>?_⟩;have k:=A j (by simpa using hj);obtain⟨o,q⟩:=B j (by simpa using hj);simp[AF]at k;generalize C:t j=K at k o q;cases k;have E:sz=1:=by simpa[Value.cells]using o.symm
  subst E;have F:=q 0 (by omega);have H:(⟨b,off,none⟩:Addr).add j=⟨b,off+j * 1+0,none⟩:=by
   unfold Addr.add;split
   .next h=>subst h;simp
   .simp
  rw[H,F];simp[Value.cells,hj]
theorem jx{es:List Int}{e j:Int}{ks:List Int}(h:FM es e j ks)(m:e<=2000000):∀k∈ks,0<=k/\k<=2000000:=by
 induction h with
 |nil=>simp
 |cons h h0 hj o g i=>intro k g;rcases fi.1 g with rfl|g;exact⟨h0,by omega⟩;exact i k g
theorem fA{I:Nat->Prop}{w:World}{xs:List D}{v:Value}(h:CD I w (.sl xs) v):v.cells=#[v]:=by cases h<;>rfl
abbrev adg:=@List.getElem?_take_of_lt
theorem Vo{S:Sg}{ri re:Nat}{es:List Int}{i e:Int}{ks:List Int}(u:S[ri]?=some (.row true 1 [.d (AF i)]))(z:S[re]?=some (.row true 1 [.d (A9 es)]))
  (A:0<=i) (hi:es[i.toNat]?=some e) (o:∀x∈es,0<=x/\x<=2000000) (vP:i<=2000000) (Q:FM es e (i+1) ks) (hN:ks.length<=2000000):
  AG prog 31 [.fn (.func 116) [] [.ptr ri 1 0 0,.ptr re 1 0 0]] S (.d (A9 ks)) S:=by
 refine⟨by simp only[OO,func31];kernel_rfl,λG w k R q T=>?_⟩;have B:=T 0 (by simp) (by simp[q]);have U:k=#[k[0]'(by simp[q])]:=by
  apply Array.ext
  .simp[q]
  .intro i h1 m;have:i=0:=by simp at m;exact m
   subst this;simp
 rw[U];generalize k[0]'(by simp[q])=c0 at B;clear U q T;simp at B;cases B with
 |fn _ _ _ xs ys k1 k2 k3 k4=>
  have y0:=k4 0 (by simp);have y1:=k4 1 (by simp);obtain⟨W,vi,e0,c0,d0,b0,_⟩:=Tj R u (by simpa using y0) (λv h=>by cases h;rfl);obtain⟨X,ve,e1,c1,d1,b1,_⟩:=Tj R z (by simpa using y1) (λv h=>fA h);have C:xs=#[]:=by apply adt;simpa using k1
  have E:ys=#[.pointer (some W),.pointer (some X)]:=by
   apply Array.ext
   .simpa using k2
   .intro i h1 m;have:i=0\/i=1:=by simp at m;omega
    rcases this with rfl|rfl
    .simpa using e0
    .simpa using e1
  subst C E;have vh:es≠[]:=by intro h;subst h;simp at hi
  obtain⟨ad,cap,rfl,b2,F,yI⟩:=VT R d1 vh;cases d0;have wU:=jx Q (o e (lw hi)).2;refine Calls.mono ((callsIn_wide (n:=6)).1 (ju 6 (by omega) W X ad cap es F i e A hi o vP w b0 b1 b2 c0 c1 yI ks Q hN)) λe' Y h=>?_;obtain⟨v,rfl,x8,hb⟩:=h;have Z:2000000<=maxLen:=by decide
  rcases x8.2 with⟨rfl,h0⟩|⟨g,cp,H,rfl,h1,m,h3,h4,h5,h6⟩
  .obtain⟨J,K,L⟩:=R.wider G.I (λ_ h=>h) (λ_ h=>.inl h) hb.size (λb M=>hb.block b M) hb.os hb.output;have N:ks=[]:=by simpa using h0
   subst N;exact⟨_,_,rfl,.d _ _ (.nil _ _),J,K,L⟩
  .have hg:g<Y.heap.size:=(ac9.1 m).1;obtain⟨J,K,L⟩:=R.wider (λb=>G.I b\/b=g) (λ_ h=>.inl h) (λb h=>h.elim .inl (λh=>.inr (by omega))) hb.size (λb M=>hb.block b M) hb.os hb.output;refine⟨_,_,rfl,.d _ _ ?_,J,K,L⟩;have s:(ks.map AF).length=ks.length:=by simp
   show CD _ Y (.sl (ks.map AF)) _
   rw[<-s];refine .sl 1 (ks.map AF) g 0 cp (λj=>.int .i64 (ks[j]?.getD 0)) (.inr rfl) (by simp;omega) (by simp;omega) (λj hj=>?_) (λj hj=>⟨by simp[Value.cells],λj' xe=>?_⟩)
   .have xe:j<ks.length:=by simpa using hj
    have:=wU ks[j] (b9 _);simp[AF,ci xe];exact .int _ _ (by simp[IL];omega)
   .have t:j<ks.length:=by simpa using hj
    have:j'=0:=by omega
    subst this;have P:(H.toList.take (ks.length * 1))[j]?=(ks.map encZ)[j]?:=by rw[h6]
    simp[World.cell?,m];rw[adg (by omega)]at P;simp[Value.cells,t,encZ]at P⊢;exact P
open Go.Proofs DT
namespace TF
def ends:TF->Nat->List Int
 |nil,_=>[]
 |leaf _ _ _ x,i=>((i+1:Nat):Int)::x.ends (i+1)
 |node _ k x,i=>((i+1+k.flat.length:Nat):Int)::(k.ends (i+1)++x.ends (i+1+k.flat.length))
def pos:TF->Nat->List Int
 |nil,_=>[]
 |leaf _ _ _ x,i=>(i:Int)::x.pos (i+1)
 |node _ k x,i=>(i:Int)::x.pos (i+1+k.flat.length)
theorem Js(u:TF)(i:Nat):(u.ends i).length=u.flat.length:=by
 induction u generalizing i with
 |nil=>rfl
 |leaf k s r x g=>simp[ends,flat,g]
 |node p k x h g=>simp[ends,flat,g,h]
theorem Wx(u:TF)(i:Nat):(u.pos i).length=u.roots.length:=by
 induction u generalizing i with
 |nil=>rfl
 |leaf k s r x g=>simp[pos,roots,g]
 |node p k x h g=>simp[pos,roots,g]
theorem Lp(u:TF):u.roots.length<=u.flat.length:=by
 induction u with
 |nil=>exact br _
 |leaf k s r x g=>simp[roots,flat,g]
 |node p k x h g=>simp[roots,flat];omega
theorem bP(u:TF)(i:Nat):∀x∈u.ends i,(i:Int)<x/\x<=i+u.flat.length:=by
 induction u generalizing i with
 |nil=>simp[ends]
 |leaf k s r x h=>
  intro y g;simp[ends]at g;simp[flat];rcases g with rfl|g
  .omega
  .have:=h (i+1) y g;omega
 |node p k x j h=>
  intro y g;simp[ends]at g;simp[flat];rcases g with rfl|g|g
  .omega
  .have:=j (i+1) y g;omega
  .have:=h (i+1+k.flat.length) y g;omega
end TF
theorem GH{α:Type}{A L R:List α}{i:Nat}(h:A.drop i=L++R)(j:Nat)(hj:j<L.length):A[i+j]?=some L[j]:=by
 rw[<-acC,h,ej hj,ci hj]
theorem GX{α:Type}{A L R:List α}{i:Nat}{x:α}(h:A.drop i=x::L++R):A.drop (i+1)=L++R:=by
 rw[<-co,h];rfl
theorem SW{α:Type}{A L M R:List α}{i:Nat}(h:A.drop i=(L++M)++R):A.drop (i+L.length)=M++R:=by
 rw[<-co,h,yl,List.drop_left]
theorem kc(u:TF)(A R:List Int)(i:Nat)(h:A.drop i=u.ends i++R):FM A ((i+u.flat.length:Nat):Int) i (u.pos i):=by
 induction u generalizing i R with
 |nil=>exact .nil (by simp[TF.flat])
 |leaf k s r x g=>
  have j:=GX (x:=((i+1:Nat):Int)) h;have:=g R (i+1) j;have e:i+(TF.leaf k s r x).flat.length=i+1+x.flat.length:=by simp[TF.flat];omega
  rw[e];refine .cons (by omega) (by omega) ?_ (by omega) this;have m:=GH h 0 (by simp[TF.ends]);simpa[TF.ends]using m
 |node p k x q g=>
  have j:=GX (x:=((i+1+k.flat.length:Nat):Int)) (L:=k.ends (i+1)++x.ends (i+1+k.flat.length)) h;have o:=SW j;rw[TF.Js]at o;have:=g R (i+1+k.flat.length) o;have e:i+(TF.node p k x).flat.length=i+1+k.flat.length+x.flat.length:=by simp[TF.flat];omega
  rw[e];refine .cons (by omega) (by omega) ?_ (by omega) this;have m:=GH h 0 (by simp[TF.ends]);simpa[TF.ends]using m
abbrev Qp:=List (Nat×List Symbol)
def Fc(g:AE)(n:BG):List Symbol:=if n.prod<0 then []else ER g n.prod.toNat
def Qb:Qp->Qp
 |(_,[])::K=>Qb K
 |(s,x::g)::K=>(s,x::g)::K
 |[]=>[]
def Sa(e:Int):Qp->List Int->List Int
 |(s,[])::K,E=>Sa e K (E.set s e)
 |(_,_::_)::_,E=>E
 |[],E=>E
def Jh(g:AE)(n:BG)(i:Nat):Qp->Qp
 |[]=>[(i,Fc g n)]
 |(s,h)::K=>(i,Fc g n)::(s,h.tail)::K
def OA(g:AE)(p k:Int):Symbol:=if p<0 then⟨true,k⟩else⟨false,DJ g p.toNat⟩
def WM(g:AE)(n:BG):Prop:=(n.prod= -1/\0<=n.token/\n.token<g.Ae.length)\/(0<=n.prod/\n.prod<g.AD.length/\n.token= -1/\n.text=ByteArray.empty/\n.rem=[])
def uG(g:AE)(A:List Int):Qp->List TF->Nat->Prop
 |[],[],_=>True
 |(s,h)::K,x::j,i=>x.fit g h/\A[s]?=some ((i+x.flat.length:Nat):Int)/\uG g A K j (i+x.flat.length)
 |_,_,_=>False
def Nb:List TF->Nat->List Int
 |[],_=>[]
 |x::g,i=>x.ends i++Nb g (i+x.flat.length)
structure EI(g:AE)(A:List Int)(N:List BG)(i:Nat)(K:Qp)(E:List Int)(xs:List TF):Prop where
 st:uG g A K xs i
 nd:N.drop i=(xs.map TF.flat).flatten
 ad:A.drop i=Nb xs i
 el:E.length=A.length
 ok:∀j,j<i->j∉K.map (·.1)->E[j]?=A[j]?
def lQ:Qp->Prop
 |(_,[])::_=>False
 |_=>True
theorem EI.pop{g:AE}{A:List Int}{N:List BG}{i:Nat}:∀{K:Qp} {E:List Int} {xs:List TF},EI g A N i K E xs->∃m,EI g A N i (Qb K) (Sa i K E) m/\lQ (Qb K)
 |[],E,xs,h=>⟨xs,h,trivial⟩
 |(s,y::B)::K,E,xs,h=>⟨xs,h,trivial⟩
 |(s,[])::K,E,xs,h=>by
  match xs,h with
  |[],h=>exact h.st.elim
  |x::xs,⟨⟨h1,o,q⟩,t,u,v,w⟩=>
   have z:x=.nil:=by cases x with|nil=>rfl|leaf k s r x=>obtain⟨_,_,_,h,_⟩:=h1;cases h|node p k x=>obtain⟨_,_,_,_,h,_⟩:=h1;cases h
   subst z;simp[TF.flat]at o q;refine EI.pop (K:=K) (E:=E.set s i) (xs:=xs) ⟨q,by simpa[TF.flat]using t,by simpa[Nb,TF.ends,TF.flat]using u,by simp[v],λj hj hn=>?_⟩;by_cases e:s=j
   .subst e;rw[o];have:s<A.length:=(df.1 o).1;rw[zl (by omega)]
   .rw[nt e];exact w j hj (by simp;exact⟨λh=>e h.symm,by simpa using hn⟩)
theorem iG{g:AE}{k:Int}{s:ByteArray}{r:List ByteArray}(h1:0<=k)(h:k<g.Ae.length):WM g ⟨-1,k,s,r⟩:=.inl ⟨rfl,h1,h⟩
theorem fU{g:AE}{p:Nat}(h:p<g.AD.length):WM g (Ef p):=.inr ⟨by simp[Ef],by simp[Ef];omega,rfl,rfl,rfl⟩
theorem EI.step{g:AE}(M:C2 g=0){A:List Int}{N:List BG}{i:Nat}{K:Qp}{E:List Int}{xs:List TF}(h:EI g A N i K E xs)(C:lQ K)(_:N.length=A.length)(P:K≠[])(hi:i<N.length):
  WM g N[i]/\(∃s o Q,K=(s,OA g N[i].prod N[i].token::o)::Q)/\∃F,EI g A N (i+1) (Jh g N[i] i K) E F:=by
 match K,xs,h,C with
 |[],_,_,_=>exact absurd rfl P
 |(s,[])::K,_,_,C=>exact C.elim
 |(s,y::o)::K,[],h,_=>exact h.st.elim
 |(s,y::o)::K,x::xs,⟨⟨h1,G,w⟩,z,B,H,J⟩,_=>
  cases x with
  |nil=>simp[TF.fit]at h1
  |leaf k t r x=>
   obtain⟨k1,k2,S,k3,k4⟩:=h1;cases k3;have hn:N[i]=⟨-1,k,t,r⟩:=by
    have:=GH (L:=(TF.leaf k t r x).flat) (R:=(xs.map TF.flat).flatten) (by simpa using z) 0 (by simp[TF.flat]);simpa[TF.flat,hi]using this
   have ha:A[i]?=some ((i+1:Nat):Int):=by
    have:=GH (L:=(TF.leaf k t r x).ends i) (R:=Nb xs (i+(TF.leaf k t r x).flat.length)) B 0 (by simp[TF.ends]);simpa[TF.ends]using this
   rw[hn];have u:(TF.leaf k t r x).flat.length=x.flat.length+1:=by simp[TF.flat]
   refine⟨iG k1 k2,⟨s,o,K,by simp[OA]⟩,.nil::x::xs,⟨⟨?_,?_,?_,?_,?_⟩,?_,?_,H,λj hj m=>?_⟩⟩
   .simp[Fc,TF.fit]
   .simpa[TF.flat]using ha
   .simpa using k4
   .rw[G,u];congr 1;simp[TF.flat];omega
   .rw[u]at w;simp[TF.flat];rw[show i+1+0+x.flat.length=i+(x.flat.length+1) by omega];exact w
   .rw[<-co,z];simp[TF.flat]
   .rw[<-co,B];simp[Nb,TF.ends,List.drop_succ_cons,TF.flat];rw[show i+(x.flat.length+1)=i+1+x.flat.length by omega]
   .simp[Jh]at m;exact J j (by omega) (by simp;exact⟨m.2.1,by simpa using m.2.2⟩)
  |node p k x=>
   obtain⟨q,k1,k2,S,k3,k4⟩:=h1;cases k3;have T:p<g.AD.length:=(df.1 k1).1;have hn:N[i]=Ef p:=by
    have:=GH (L:=(TF.node p k x).flat) (R:=(xs.map TF.flat).flatten) (by simpa using z) 0 (by simp[TF.flat]);simpa[TF.flat,hi]using this
   have ha:A[i]?=some ((i+1+k.flat.length:Nat):Int):=by
    have:=GH (L:=(TF.node p k x).ends i) (R:=Nb xs (i+(TF.node p k x).flat.length)) B 0 (by simp[TF.ends]);simpa[TF.ends]using this
   have U:((DJ g p:Nat):Int)=q.left:=by
    have:=FC M (lw k1);unfold DJ;rw[k1];simp[];omega
   rw[hn];have u:(TF.node p k x).flat.length=k.flat.length+x.flat.length+1:=by simp[TF.flat]
   have v:¬((p:Int)<0):=by omega
   refine⟨fU T,⟨s,o,K,by simp[OA,Ef,v,U]⟩,k::x::xs,⟨⟨?_,?_,?_,?_,?_⟩,?_,?_,H,λj hj m=>?_⟩⟩
   .simp[Fc,Ef,v,ER,k1];exact k2
   .exact ha
   .simpa using k4
   .rw[G,u];congr 1;omega
   .rw[u]at w;rw[show i+1+k.flat.length+x.flat.length=i+(k.flat.length+x.flat.length+1) by omega];exact w
   .rw[<-co,z];simp[TF.flat]
   .rw[<-co,B];simp[Nb,TF.ends,List.drop_succ_cons,TF.flat];rw[show i+(k.flat.length+x.flat.length+1)=i+1+k.flat.length+x.flat.length by omega]
   .simp[Jh]at m;exact J j (by omega) (by simp;exact⟨m.2.1,by simpa using m.2.2⟩)
theorem EI.first{g:AE}(_:C2 g=0){u:TF}{l:Int}(i:u.fit g [⟨false,l⟩]):
  ∃(h0:0<u.flat.length),WM g u.flat[0]/\∃m,EI g (u.ends 0) u.flat 1 (Jh g u.flat[0] 0 []) (List.replicate u.flat.length 0) m:=by
 cases u with
 |nil=>simp[TF.fit]at i
 |leaf k A r x=>obtain⟨_,_,t,h,_⟩:=i;cases h
 |node p k x=>
  obtain⟨q,k1,k2,t,k3,k4⟩:=i;cases k3;have v:x=.nil:=by cases x with|nil=>rfl|leaf k s r x=>obtain⟨_,_,_,h,_⟩:=k4;cases h|node p k x=>obtain⟨_,_,_,_,h,_⟩:=k4;cases h
  subst v;have w:p<g.AD.length:=(df.1 k1).1;have o:¬((p:Int)<0):=by omega
  refine⟨by simp[TF.flat],by simpa[TF.flat]using fU w,[k],⟨⟨?_,?_,trivial⟩,by simp[TF.flat],by simp[TF.ends,Nb],by simp[TF.Js],λj hj hn=>?_⟩⟩
  .simp[TF.flat,Fc,Ef,o,ER,k1];exact k2
  .simp[TF.ends]
  .exact absurd (by
    have:j=0:=by omega
    subst this;simp[Jh]) hn
theorem EI.last{g:AE}{A:List Int}{N:List BG}{i:Nat}{K:Qp}{E:List Int}{xs:List TF}(h:EI g A N i K E xs)(m:lQ K)(u:N.length=A.length)(hi:i=N.length):K=[]/\E=A:=by
 have q:K=[]:=by
  match K,xs,h,m with
  |[],_,_,_=>rfl
  |(s,[])::K,_,_,m=>exact m.elim
  |(s,y::t)::K,[],h,_=>exact h.st.elim
  |(s,y::t)::K,x::xs,⟨⟨h1,v,w⟩,o,_,_,_⟩,_=>
   rw[ace (by omega)]at o;cases x with
   |nil=>simp[TF.fit]at h1
   |leaf k z r x=>simp[TF.flat]at o
   |node p k x=>simp[TF.flat]at o
 subst q;refine⟨rfl,acp λj=>?_⟩;by_cases hj:j<i
 .exact h.ok j hj (by simp)
 .rw[np (by have:=h.el;omega),np (by omega)]
open Go.Proofs Tryz DT
theorem k9(g:AE)(m:C2 g=0)(p k:Int)(s:p<g.AD.length):Pure prog 173 [AA g,AF p,AF k] (AI (OA g p k)):=by
 refine zP func173 18 rfl λwf=>?_;apply yW;simp;refine xS (yW ?_);simp;by_cases h:p<0
 .have e:OA g p k=⟨true,k⟩:=ap h;rw[e];apply AR;simp[h];apply yW;simp;refine Af ⟨_,_,am,?_⟩;simp[AI]
 .have e:OA g p k=⟨false,DJ g p.toNat⟩:=ao h;rw[e];obtain⟨n,rfl⟩:∃n:Nat,p=n:=⟨p.toNat,by omega⟩;have hn:n<g.AD.length:=by omega
  have i:((DJ g n:Nat):Int)=g.AD[n].left:=by
   have:=FC m (b9 hn);unfold DJ;rw[ci hn];simp[];omega
  obtain⟨q,j⟩:=a9 (g.AD[n]);rw[j]at i;have o:=AH.eq_1 q;apply AR;simp[h];apply xK;apply yW;simp[AA,hn,j,o];apply zT;simp[AI,i]
theorem Z0(g:AE)(t:Term)(i:Nat)(hi:i<t.nodes.length)(hn:WM g t.nodes[i]):
  AG prog 113 [.d (AF i),.ptr 0 1 0 0,.ptr 1 1 0 0] [.row true 2 [.d (Aj t)],.row true 9 [.d (AA g)]] (.d (.Cb [AF t.nodes[i].prod,AF t.nodes[i].token,.bool true])) [.row true 2 [.d (Aj t)],.row true 9 [.d (AA g)]]:=by
 obtain⟨n,m⟩:=a9 (t.nodes[i]);rw[m]at hn⊢;have k:=A1.eq_1 n;refine zD func113 60 rfl λwf _=>?_;apply yW;simp;apply yW;simp[Aj,hi,m];refine xS (yW ?_);simp;rcases hn with⟨h1,h,j⟩|⟨h1,h,j,o,q⟩
 .apply AR;simp[h1];(repeat apply xS);refine yE [0,2,4,6,8,10,12,14,16,18,20,22,24,26,28,30] (by kernel_rfl) ?_;simp;apply yA 1;simp[AA,h,j];apply Af;exact⟨_,_,_,am,by simp,by simp[Ba,CF,Kx,LF],a8 2 (by simp) (by simp) (by simp) (by simp)⟩
 .have:¬(n.prod= -1):=by omega
  apply AR;simp[this];apply xK;(repeat apply xS);refine yE [0,2,4,6,8,10,12,14,16,18,20,22,24,26,28,30,32,34,36,38,40,42,44,46,48,50,52,54,56,58,60,62,64,66] (by kernel_rfl) ?_;simp;apply yA 1;simp[AA,h1,h,j,o,q];apply Af;exact⟨_,_,_,am,by simp,by simp[Ba,CF,Kx,LF,j];rfl,a8 2 (by simp) (by simp) (by simp) (by simp)⟩
def jN(x:Nat×List Symbol):D:=.agg [AF x.1,.sl (x.2.map AI)]
def an(x:Nat×List Symbol):V:=.d (jN x)
def JU(K:Qp):List V:=K.reverse.map an
theorem F3(x:Nat×List Symbol)(K:Qp):JU (x::K)=JU K++[an x]:=by simp[JU]
theorem GJ(K:Qp):(JU K).length=K.length:=by simp[JU]
theorem mP(K:Qp):∀y,y∈JU K->(Ai y).length=2/\(At y=true\/Bw y=true):=λy g=>by
 simp only[JU,eo]at g;obtain⟨x,_,rfl⟩:=g;simp[an,jN]
theorem WY{k:Nat}{K:Qp}{B:List V}(h:JU K=B):Aw k B=true:=by
 subst h;unfold JU;generalize K.reverse=L;induction L with
 |nil=>rfl
 |cons x L g=>simp[Aw,AP,an,g]
theorem R8{f:Nat->Nat}:∀{xs:List V},(∀x∈xs,∃d,x=V.d d)->Cn f xs=xs
 |[],_=>rfl
 |x::xs,h=>by
  obtain⟨d,rfl⟩:=h x (by simp);simp[Cn,Bc,R8 (f:=f) (xs:=xs) λy g=>h y (by simp[g])]
theorem IS{k:Nat}:∀{xs:List V},(∀x∈xs,∃d,x=V.d d)->Aw k xs=true
 |[],_=>rfl
 |x::xs,h=>by
  obtain⟨d,rfl⟩:=h x (by simp);simp[Aw,AP,IS (k:=k) (xs:=xs) λy g=>h y (by simp[g])]
theorem iC{g:AE}{A:List Int}:∀{K:Qp} {k:List TF} {i:Nat},uG g A K k i->∀x∈K,x.1<A.length
 |[],_,_,_=>by simp
 |(s,m)::K,[],_,h=>h.elim
 |(s,m)::K,x::k,i,⟨_,o,q⟩=>by
  intro y j;rcases fi.1 j with rfl|j
  .exact(df.1 o).1
  .exact iC q y j
def OM(g:AE)(t:Term):Sg:=[.row true 2 [.d (Aj t)],.row true 9 [.d (AA g)]]
def OZ(g:AE)(n:Nat):List V:=(BN (AA g)).map V.d++[.d (AF n),.fn (.func 113) [] [.ptr 0 1 0 0,.ptr 1 1 0 0]]
def L6(g:AE)(t:Term)(E:List Int)(w:Bool)(K:Qp):Sg:=OM g t++[.row true 11 [.agg (OZ g t.nodes.length)],.row true 1 (E.map λx=>.d (AF x)),.row w 2 (JU K)]
theorem lL(g:AE)(hG:C2 g=0)(t:Term)(u:TF)(l:Int)(hu:t.nodes=u.flat)(hf:u.fit g [⟨false,l⟩])(hlen:u.flat.length<=2000000):
  AG prog 114 [.agg (OZ g t.nodes.length)] (OM g t) (.d (A9 (u.ends 0))) (OM g t):=by
 obtain⟨h0,hok0,xs0,hx0⟩:=EI.first hG hf
 have Y:t.nodes.length=(u.ends 0).length:=by rw[hu,TF.Js]
 have wv:0<t.nodes.length:=by rw[hu];exact h0
 have wS:t.nodes.length<=2000000:=by rw[hu];exact hlen
 obtain⟨A,hA⟩:=a9 (u.ends 0);obtain⟨n,hn⟩:=a9 (t.nodes.length);rw[hA]at hx0 Y⊢;rw[hn]at wv wS;have wD:¬(n=0):=by omega
 have zr:¬(2000000<n):=by omega
 have vu:¬((2000000:Int)<n):=by omega
 have hmk:(n:Int)<=1073741824:=by omega
 have hmx:n<=maxLen:=by unfold maxLen;omega
 have zM:=λ(i:Nat) (hi:i<t.nodes.length) (h:WM g t.nodes[i])=>Z0 g t i hi h;refine AG.CJ func114 (by kernel_rfl) rfl (by simp) λwf _=>?_;rw[ntmps114];unfold OZ OM;rw[hn];refine xW λK j=>?_;simp;apply j;refine xS (FX λK j=>?_);(repeat((first|refine FJ rfl ?_ ?_;(·simp[wD])|refine QX rfl ?_ ?_;(·simp[wD])|refine Cd ?_ ?_;(·simp));simp[vu]));refine B6 (j _ _ ?_);(try simp only[C4,BW,reduceIte]);refine AR ?_;simp[wD];refine xK ?_;refine xW λK j=>?_;simp[hmk];apply j;refine xW λK j=>?_;simp;apply j;refine ed (ll 4 2 (xs:=[]) (by simp)) ?_;refine xS (xW λK j=>?_);simp;apply j;refine Bx ?_;refine DV n (λi tm S=>tm 1=.ptr 2 1 0 0/\tm 3=.row 3 n/\tm 24=.d (.int .i64 n)/\tm 25=.d (.int .i64 i)/\∃o E w,tm 4=.row 4 o.length/\S=L6 g t E w o/\(i=0/\o=[]/\E=List.replicate n 0\/0<i/\∃xs,EI g A t.nodes i o E xs)/\lQ o/\o.length<=i/\E.length=n/\(o≠[]->w=true)) (i0:=0) (cq _) (by simp;exact⟨[],rfl,List.replicate n 0,.inl ⟨by simp[L6,OM,OZ,JU,hn,AA],⟨rfl,rfl⟩,trivial,rfl,by simp,rfl⟩⟩) ?_;rintro i tm S hi ⟨t1,t3,t24,t25,o,E,w,t4,rfl,hI,htp,hKl,hEl,hw⟩;unfold L6 OM OZ;rw[hn];refine xW λK j=>?_;simp[t24,t25];apply j;refine xC ?_;simp;refine⟨λvc=>?_,λvw=>?_⟩
 .have yr:i<t.nodes.length:=by omega
  have vx:WM g t.nodes[i]/\((i=0/\o=[])\/0<i/\∃s J K',o=(s,OA g t.nodes[i].prod t.nodes[i].token::J)::K')/\∃xs2,EI g A t.nodes (i+1) (Jh g t.nodes[i] i o) E xs2:=by
   rcases hI with⟨rfl,rfl,rfl⟩|⟨h1,xs,h2⟩
   .have e1:t.nodes[0]=u.flat[0]:=by simp only[hu]
    rw[e1];refine⟨hok0,.inl ⟨rfl,rfl⟩,xs0,?_⟩;have e2:u.flat.length=n:=by rw[<-hu];exact hn
    rw[hu,<-e2];exact hx0
   .by_cases j:o=[]
    .subst j;exfalso;have h3:=h2.st;match xs,h3 with
     |[],_=>
      have:=h2.nd;simp at this;omega
    .obtain⟨a1,a2,a3⟩:=h2.step hG htp (by omega) j yr;exact⟨a1,.inr ⟨h1,a2⟩,a3⟩
  obtain⟨vz,ye,xs2,hE2⟩:=vx;obtain⟨xs3,L,htp3⟩:=hE2.pop;have zM:=zM i yr vz;obtain⟨nd,vW⟩:=a9 (t.nodes[i]);rw[vW]at vz ye hE2 L htp3 zM;refine xK ?_;refine xB ?_;refine xW λK j=>?_;simp[t25];apply j;(repeat refine xS ?_);refine HA λK j=>?_;refine xJ ?_;simp[t1];refine xF (zM) [0,1] rfl ?_;simp;refine xJ ?_;simp;refine B6 (j _ _ ?_);(try simp only[xQ,reduceIte]);have wX:nd.prod<g.AD.length:=by
   rcases vz with h|h
   .have:=h.1;omega
   .exact h.2.1
  have hsb:=k9 g hG nd.prod nd.token wX;obtain⟨sy,hsye⟩:=a9 (OA g nd.prod nd.token);rw[hsye]at ye hsb;have hse:=AI.eq_1 sy;refine k7 (R:=λtm S=>tm 1=.ptr 2 1 0 0/\tm 3=.row 3 n/\tm 4=.row 4 o.length/\tm 5=.d (.int .i64 i)/\tm 6=.d (AF nd.prod)/\tm 7=.d (AF nd.token)/\tm 24=.d (.int .i64 n)/\tm 25=.d (.int .i64 i)/\S=L6 g t E w o) ?_ ?_
  .rcases ye with⟨rfl,rfl⟩|⟨hi0,s,J,K',rfl⟩
   .skip;refine FX λK j=>?_;refine xH ?_;simp;refine B6 (j _ _ ?_);refine AR ?_;simp;refine CT ?_;simp[t1,t3,t4,t24,t25,L6,OM,OZ,hn,AA]
   .have xp:¬((K'.length:Int)+1=0):=by omega
    refine FX λK j=>?_;refine xH ?_;simp[t4,hi0,GJ];refine B6 (j _ _ ?_);refine AR ?_;simp[xp];refine CT ?_;simp[t1,t3,t4,t24,t25,L6,OM,OZ,hn,AA]
  rintro tm S ⟨t1,t3,t4,t5,t6,t7,t24,t25,rfl⟩;unfold L6 OM OZ;rw[hn];(repeat refine xS ?_);refine HA λK j=>?_;refine xJ ?_;simp[t1,t6,t7];refine B9 (hsb) rfl (by simp[AA]) ?_;simp[AA];refine xJ ?_;simp;refine B6 (j _ _ ?_);(try simp only[xQ,reduceIte]);obtain⟨H,Z⟩:∃H:Qp,H=(match o with|[]=>[]|(s,J)::K=>(s,J.tail)::K):=⟨_,rfl⟩;have hK1l:H.length=o.length:=by rw[Z];cases o<;>rfl
  have hsK:Jh g nd i o=(i,Fc g nd)::H:=by rw[Z];cases o<;>rfl
  refine AW.Ju (R:=λtm S=>tm 1=.ptr 2 1 0 0/\tm 3=.row 3 n/\tm 4=.row 4 H.length/\tm 5=.d (.int .i64 i)/\tm 6=.d (AF nd.prod)/\tm 24=.d (.int .i64 n)/\tm 25=.d (.int .i64 i)/\S=L6 g t E w H++[.row true 2 [.d (AI sy)]]) ?_ ?_
  .rcases ye with⟨rfl,rfl⟩|⟨hi0,s,J,K',rfl⟩
   .have hK2:H=[]:=Z;subst hK2;have hwm:IntKind.i64.wrap (-1)= -1:=by decide
    refine xW λK j=>?_;simp[t4,GJ];apply j;refine xW λK j=>?_;simp;apply j;refine AR ?_;simp[hwm];refine CT ?_;refine⟨_,_,am,?_⟩;simp[t1,t3,t4,t5,t6,t24,t25,L6,OM,OZ,hn,AA,hse]
   .subst Z;have hwt:w=true:=hw (by simp);subst hwt;rw[F3];obtain⟨B,P⟩:=a9 (JU K');have hBl:B.length=K'.length:=by rw[<-P,GJ]
    simp only[ea,<-hBl]at t4⊢;rw[P];obtain⟨m,F⟩:=a9 (B.length);have yN:m<=2000000:=by simp only[ea]at hKl;omega
    have vS:IntKind.i64.wrap (m:Int)=m:=by rw[bv];omega
    simp only[an,jN]at *;refine xW λK j=>?_;simp[t4,vS,F];apply j;refine xW λK j=>?_;simp;apply j;refine AR ?_;simp;refine xS ?_;refine xD [0,2,4,6,8,10,12,14,16] (by kernel_rfl) λK j=>?_;simp;have v:(m:Int)<m+1:=by omega
    refine xA 1 ?_;simp[t4,F,hse,v];refine xM (j _ _ ?_);(try simp only[xQ,reduceIte]);refine AR ?_;simp;refine xK ?_;refine HA λK j=>?_;(repeat(refine Cd ?_ ?_;(·simp[F,v]);simp[t4,F]));refine Cd ?_ ?_
    .simp;exact⟨by omega,by cases J<;>simp⟩
    simp;refine xJ ?_;simp[F,v];refine B6 (j _ _ ?_);refine⟨_,_,i5 4 (xs:=((s,J)::K').reverse.map jN) rfl ?_,?_⟩
    .rw[CO,<-P];simp[JU,an,jN,Ba,CF,kw];exact s9 (by simp)
    simp[t1,t3,t4,t5,t6,t24,t25,L6,OM,OZ,hn,AA,hse,JU,an,F]
  rintro tm S ⟨t1,t3,t4,t5,t6,t24,t25,rfl⟩;unfold L6 OM OZ;rw[hn];refine xW λK j=>?_;simp;apply j;refine AW.Ju (R:=λtm S=>tm 1=.ptr 2 1 0 0/\tm 3=.row 3 n/\tm 4=.row 4 H.length/\tm 5=.d (.int .i64 i)/\tm 11=.d (.sl ((Fc g nd).map AI))/\tm 24=.d (.int .i64 n)/\tm 25=.d (.int .i64 i)/\S=L6 g t E w H++[.row true 2 [.d (AI sy)]]) ?_ ?_
  .by_cases hp0:nd.prod<0
   .have zt:¬(0<=nd.prod):=by omega
    have zA:Fc g nd=[]:=ap hp0;refine xW λK j=>?_;simp[t6];apply j;refine AR ?_;simp[zt];refine CT ?_;refine⟨_,_,AJ.qm 11 (d:=.sl []) (by simp[Ba,CF]),?_⟩;simp[t1,t3,t4,t5,t24,t25,L6,OM,OZ,hn,AA,zA]
   .have zt:0<=nd.prod:=by omega
    obtain⟨p,hp⟩:∃p:Nat,nd.prod=p:=⟨nd.prod.toNat,by omega⟩;have wF:p<g.AD.length:=by omega
    obtain⟨q,hq⟩:=a9 (g.AD[p]);have zA:Fc g nd=q.right:=by
     unfold Fc;rw[ao hp0,hp,ii];unfold ER;rw[ci wF,hq]
    have hqe:=AH.eq_1 q;rw[hp]at t6;refine xW λK j=>?_;simp[t6];apply j;refine AR ?_;simp;refine xV λK j=>?_;simp[t1,t6,wF,hq,hqe];apply j;refine⟨_,_,am,?_⟩;simp[t1,t3,t4,t5,t24,t25,L6,OM,OZ,hn,AA,zA]
  rintro tm S ⟨t1,t3,t4,t5,t11,t24,t25,rfl⟩;unfold L6 OM OZ;rw[hn];obtain⟨C,hC⟩:=a9 (JU H);have hCl:C.length=H.length:=by rw[<-hC,GJ]
  have wM:H.length+1<=2 ^ 30:=by omega
  have wx:C.length+1<=2 ^ 30:=by omega
  have yU:1<=maxLen:=by simp[maxLen]
  rw[hC];(repeat refine xS ?_);refine HA λK j=>?_;(repeat(refine Cd ?_ ?_;(·simp[wM,yU,hCl,Ah]);simp[t4,t5,t11]));refine Cd ?_ ?_
  .simp[wM,hCl,Ah];rw[<-hC];exact mP H
  simp;refine xJ ?_;simp;refine B6 (j _ _ ?_);(try simp only[xQ,reduceIte]);obtain⟨K3,Q⟩:∃K3:Qp,K3=(i,Fc g nd)::H:=⟨_,rfl⟩;have hKE:Qb K3=Qb (Jh g nd i o)/\Sa (i+1) K3 E=Sa (i+1) (Jh g nd i o) E:=by rw[hsK,Q];exact⟨rfl,rfl⟩
  obtain⟨K4,hK4⟩:∃K4,K4=Qb (Jh g nd i o):=⟨_,rfl⟩;obtain⟨E4,hE4⟩:∃E4,E4=Sa (i+1) (Jh g nd i o) E:=⟨_,rfl⟩;rw[<-hK4,show((i+1:Nat):Int)=(i:Int)+1 by omega]at L;rw[<-hK4]at htp3;have hK3lt:∀x∈K3,x.1<n:=by
   have:=iC hE2.st;rw[<-Y,hn,hsK,<-Q]at this;exact this
  have hK3l:K3.length<=i+1:=by rw[Q];simp;omega
  have hi1:(i:Int)+1<=2000000:=by omega
  have yx:IntKind.i64.wrap ((i:Int)+1)=((i+1:Nat):Int):=by rw[bv];omega
  refine Bx ?_;refine aeA (λm tm S=>tm 1=.ptr 2 1 0 0/\tm 3=.row 3 n/\tm 5=.d (.int .i64 i)/\tm 24=.d (.int .i64 n)/\tm 25=.d (.int .i64 i)/\∃k G,m=k.length/\tm 4=.row 4 k.length/\S=L6 g t G true k++[.row true 2 [.d (AI sy)]]/\Qb k=K4/\Sa (i+1) k G=E4/\G.length=n/\(∀x∈k,x.1<n)/\k.length<=i+1)
   ⟨K3.length,_,_,am,by simp[t1],by simp[t3],by simp[t5],by simp[t24],by simp[t25],K3,E,rfl,by simp[Q],by simp[L6,OM,OZ,hn,AA,Q,F3,hC,an,jN],by rw[hKE.1,hK4],by rw[hKE.2,hE4],hEl,hK3lt,hK3l⟩ ?_
  rintro m tm S ⟨t1,t3,t5,t24,t25,k,G,rfl,t4,rfl,U,W,hq3,M,z⟩;unfold L6 OM OZ;rw[hn];match k,U,W,M,z,t4 with
  |[],U,W,M,z,t4=>
   refine xS (FX λK j=>?_);refine xH ?_;simp[t4,GJ];refine B6 (j _ _ ?_);(try simp only[xQ,reduceIte]);refine AR ?_;simp;refine C7 ?_;refine xV λK j=>?_;simp[t25,yx];apply j;simp only[Qb,Sa]at U W;rw[<-hE4,<-W]at L;subst U;exact⟨vc,_,_,a8 5 (S':=L6 g t G true []) (by simp[L6,OM,OZ,hn,AA]) (by simp) (by simp) (by simp[JU]),by simp[clean,t1],by simp[clean,t3],by simp[clean,t24],by simp[clean],[],by simp[clean,t4],G,.inr ⟨by simp[L6,OM,OZ,hn,AA],⟨xs3,L⟩,trivial,by simp,hq3⟩⟩
  |(s,y::J)::k,U,W,M,z,t4=>
   have N:=GJ k;have T:(0:Int)<(k.length:Int)+1:=by omega
   have wm:IntKind.i64.wrap (k.length:Int)=k.length:=by simp only[ea]at z;rw[bv];omega
   have xk:(k.length:Int)<(k.length:Int)+1:=by omega
   have hk3:¬((J.length:Int)+1=0):=by omega
   rw[F3];obtain⟨B,P⟩:=a9 (JU k);rw[P]at N⊢;simp only[an,jN,eP];obtain⟨m,F⟩:=a9 (k.length);simp only[ea,F]at t4 N T wm xk;refine xS (FX λK j=>?_);refine xH ?_;simp[t4,N,T,wm,xk];refine B6 (j _ _ ?_);(try simp only[xQ,reduceIte]);refine AR ?_;simp[hk3];refine C7 ?_;refine xV λK j=>?_;simp[t25,yx];apply j;have hS1:∀X,L6 g t G true ((s,y::J)::k)++[X]=[.row true 2 [.d (Aj t)],.row true 9 [.d (AA g)],.row true 11 [.agg (OZ g t.nodes.length)],.row true 1 (G.map λx=>.d (.int .i64 x)),.row true 2 (B++[.d (.agg [.int .i64 s,.sl (AI y::J.map AI)])]),X]:=λX=>by
    simp[L6,OM,F3,P,an,jN]
   simp only[Qb,Sa]at U W;rw[<-hE4,<-W]at L;subst U;exact⟨vc,_,_,a8 5 (S':=L6 g t G true ((s,y::J)::k)) (by simp[L6,OM,OZ,hn,AA,F3,P,an,jN]) (by simp) (by simp) (by simp;exact WY P),by simp[clean,t1],by simp[clean,t3],by simp[clean,t24],by simp[clean],(s,y::J)::k,by simp[clean,t4,F],G,.inr ⟨by simp[L6,OM,OZ,hn,AA],⟨xs3,L⟩,trivial,by simpa using z,hq3⟩⟩
  |(s,[])::k,U,W,M,z,t4=>
   have N:=GJ k;have T:(0:Int)<(k.length:Int)+1:=by omega
   have wm:IntKind.i64.wrap (k.length:Int)=k.length:=by simp only[ea]at z;rw[bv];omega
   have xk:(k.length:Int)<(k.length:Int)+1:=by omega
   have hsn:s<n:=M (s,[]) (by simp);have hsE:s<G.length:=by omega
   rw[F3];obtain⟨B,P⟩:=a9 (JU k);rw[P]at N⊢;simp only[an,jN,zN];obtain⟨m,F⟩:=a9 (k.length);simp only[ea,F]at t4 N T wm xk;refine xS (FX λK j=>?_);refine xH ?_;simp[t4,N,T,wm,xk];refine B6 (j _ _ ?_);(try simp only[xQ,reduceIte]);refine AR ?_;simp;refine xK ?_;refine Bx ?_;refine xW λK j=>?_;simp[t3,t4,t5,N,wm,xk,hsn,hq3,yx];apply j;refine HA λK j=>?_;(repeat(refine Cd ?_ ?_;(·simp[N]);simp[t4,wm]));refine AV.J2 4 (m+1) 2 (B++[.d (.agg [.int .i64 s,.sl []])]) 0 m rfl (by simp[N];omega) ?_;simp[<-N];refine xJ ?_;simp;refine B6 (j _ _ ?_);have hE5:(G.map λx=>V.d (D.int IntKind.i64 x)).set s (V.d (D.int IntKind.i64 (↑i+1)))=(G.set s ((i:Int)+1)).map λx=>V.d (D.int IntKind.i64 x):=by rw[eQ]
   simp only[Qb,Sa]at U W;refine⟨k.length,by simp[F],_,_,rx [0,1,2,3,6,5] (S0:=L6 g t (G.set s ((i:Int)+1)) true k++[.row true 2 [.d (AI sy)]]) ?_ ?_ ?_,?_,?_,?_,?_,?_,k,rfl,?_,G.set s ((i:Int)+1),?_,U,W,by simp[hq3],?_,?_⟩
   .have hd1:∀x∈(G.map λx=>V.d (D.int IntKind.i64 x)).set s (V.d (D.int IntKind.i64 (↑i+1))),∃d,x=V.d d:=by
     rw[hE5];intro x hx;obtain⟨y,_,rfl⟩:=eo.1 hx;exact⟨_,rfl⟩
    have zq:∀x∈B,∃d,x=V.d d:=by rw[<-P];intro x hx;obtain⟨y,_,rfl⟩:=eo.1 hx;exact⟨_,rfl⟩
    simp[L6,OM,OZ,hn,AA,P];exact⟨⟨(R8 hd1).symm,(R8 zq).symm⟩,IS hd1,IS zq⟩
   .simp
   .rfl
   .simp[pick,t1];try decide
   .simp[pick,t3];try decide
   .simp[pick,t5]
   .simp[pick,t24]
   .simp[pick,t25]
   .simp[pick,F,N];try decide
   .simp[L6,OM,OZ,hn,AA]
   .intro x ss' hx;exact M (x,ss') (by simp[hx])
   .simp only[ea]at z;omega
 .have e:i=n:=by omega
  subst e;obtain⟨xs,hx⟩:∃xs,EI g A t.nodes i o E xs:=by
   rcases hI with⟨h1,_,_⟩|⟨_,h⟩
   .omega
   .exact h
  obtain⟨rfl,rfl⟩:=hx.last htp Y hn.symm;refine C7 ?_;refine xS (xW λK j=>?_);simp[t4,GJ];apply j;refine AR ?_;simp;refine xK ?_;(repeat refine xS ?_);refine xV λK j=>?_;simp[t3];refine j _ _ ?_;(try simp only[xQ,reduceIte]);(refine Af ?_;(try simp only[xQ,reduceIte]);refine⟨_,_,_,c9 3 (xs:=E.map AF) rfl (by simp),by simp,by simp[Ba,CF,Y,<-hn],a8 2 (by simp[AA]) (by simp) (by simp) (by simp)⟩)
theorem Ui(g:AE)(v:C2 g=0)(t:Term)(u:TF)(l:Int)(j:t.nodes=u.flat)(m:u.fit g [⟨false,l⟩])(i:u.flat.length<=2000000):
  Pure prog 28 [AA g,Aj t] (A9 (u.ends 0)):=by
 have o:=lL g v t u l j m i;obtain⟨k,rfl,p,w,q⟩:∃k,u=k/\∃p:Nat,(∃h:0<t.nodes.length,t.nodes[0].prod=p):=by
  refine⟨u,rfl,?_⟩;cases u with
  |nil=>simp[TF.fit]at m
  |leaf k B r x=>obtain⟨_,_,C,h,_⟩:=m;cases h
  |node p k x=>exact⟨p,by rw[j];simp[TF.flat],by simp[j,TF.flat,Ef]⟩
 obtain⟨nd,s⟩:=a9 (t.nodes[0]);rw[s]at q;have z:=A1.eq_1 nd;have A:¬((p:Int)<0):=by omega
 refine zP func28 24 rfl λwf=>?_;unfold OM OZ at o;apply yW;simp;refine xS (yS ?_);apply yH;simp[Aj,w,s,z,q,A];apply AR;simp;apply xK;(repeat apply xS);apply yT;apply yJ;simp;refine xF (o) [1,0] rfl ?_;simp[Aj,AA];apply yJ;simp;apply zT;try simp
def GV{α:Type}(g:List (List α))(i:Nat):List α:=(g.take i).flatten
theorem IN{α:Type}(g:List (List α)){i:Nat}(h:i<g.length):GV g (i+1)=GV g i++g[i]:=by
 unfold GV;rw[pe h,zo];simp[List.flatten_nil]
theorem KA{α:Type}(g:List (List α)):GV g g.length=g.flatten:=by unfold GV;rw[ne]
theorem Ro{α:Type}(g:List (List α))(i:Nat):(GV g i).length<=g.flatten.length:=by
 unfold GV;conv=>rhs;rw[<-wN i g,zo,eN]
 omega
theorem eG(n:Nat)(hn:n<=2 ^ 30):AG prog 117 [.full [],.d (AF n)] [] (.row 0 0) [.row (decide (0<n)) 1 []]:=by
 refine zC func117 27 rfl λwf _=>?_;apply yW;simp;refine xS (yW ?_);simp;apply AR;simp;refine⟨λh=>absurd h (by omega),?_⟩;apply CT;have i:IntKind.i64.wrap (n:Int)=n:=by rw[bv];omega
 have g:IntKind.i64.wrap 0=0:=by decide
 refine xS (yW ?_);simp[i,g];apply yW;simp;apply AR;simp;refine⟨λh=>?_,λh=>?_⟩
 .have h0:0<n:=by omega
  have j:prog.underlying 3=some (.int .i64):=by kernel_rfl
  apply yT;(iterate 3 (refine Cd (by simp) ?_;simp));refine AV.WG (E:=3) (sz:=1) rfl (by simp) (by simp) (by simp) ?_;simp;(iterate 1 (refine Cd (by simp) ?_;simp));refine AV.SL (E:=3) (bt:=8) n (.d (.int .i64 0)) 1 rfl rfl rfl rfl (by simp) j (by simp) (by simp) (by simp) (by simp) (by simp) (by simp) h0 hn ?_;simp;(iterate 2 (refine Cd (by simp) ?_;simp));(refine AV.J2 0 n 1 (List.replicate n (.d (.int .i64 0))) 0 0 rfl ?_ ?_)
  .simp[sE]
  .simp;apply yJ;simp;apply yW;simp;apply Af;refine⟨_,rx [1] (S0:=[.row (decide (0<n)) 1 []]) (by simp[h0]) (by simp) (by simp),?_⟩;simp[Au,pick];try decide
 .have h0:n=0:=by omega
  subst h0;apply xK;apply yW;simp;apply Af;refine⟨_,ll 4 1 (xs:=[]) (by simp),?_⟩;simp[Au]
theorem WC(g:List (List Int))(hn:g.flatten.length<=2 ^ 30):Pure prog 35 [.sl (g.map λxs=>A9 xs)] (A9 g.flatten):=by
 have q:∀i,(GV g i).length<=2 ^ 30:=λi=>ke (Ro g i) hn;have k:GV g 0=[]:=rfl;refine eJ func35 rfl rfl (by simp) λwf=>?_;have t:g.length<=maxLen:=by have:=wf.1;simp[DZ]at this;simpa using this.1
 rw[ntmps35];apply yW;simp;apply yW;simp;refine xS (yW ?_);simp;apply Bx;refine DV g.length (λi tm S=>tm 0=.d (.sl (g.map λxs=>A9 xs))/\tm 9=.d (.sl (g.map λxs=>A9 xs))/\tm 11=.d (.int .i64 i)/\tm 10=.d (.int .i64 g.length)/\tm 3=.d (AF (GV g i).length)/\S=[]) (cq _) (by simp[k]) ?_;rintro i tm S hi ⟨t0,t9,t11,t10,t3,rfl⟩;apply yW;simp[t10,t11];apply xC;simp;refine⟨λj=>?_,λu=>?_⟩
 .apply xK;apply xB;have m:(GV g (i+1)).length=(GV g i).length+g[i].length:=by rw[IN g j,eN]
  have o:=q (i+1);have A:=q i;rw[m]at o;have v:IntKind.i64.wrap ((GV g i).length+g[i].length:Int)=((GV g (i+1)).length:Int):=by rw[bv,m];omega
  apply yW;simp[t9,t11,j];apply yW;simp[t3,v];apply yW;simp;apply AR;simp;refine⟨λh=>?_,?_⟩
  .exact absurd h (by omega)
  .apply CT;apply yV;simp[t11];refine⟨j,_,_,am,?_⟩;simp[t0,t9,t10,AL j t]
 .have e:i=g.length:=by omega
  subst e;rw[KA]at t3;apply C7;apply yS;apply yJ;simp[t3];refine xF (eG g.flatten.length hn) [] rfl ?_;simp;apply yJ;simp;refine xS (yW ?_);simp[t0];apply Bx;generalize s:g.flatten.length=F at *;refine DV g.length (λi tm S=>tm 25=.d (.sl (g.map λxs=>A9 xs))/\tm 27=.d (.int .i64 i)/\tm 26=.d (.int .i64 g.length)/\tm 6=.row 0 (GV g i).length/\S=[.row (decide (0<F)) 1 ((GV g i).map λx=>.d (AF x))]) (cq _) (by simp[k,<-s]) ?_;rintro i tm S hi ⟨t25,t27,t26,t6,rfl⟩;apply yW;simp[t26,t27];apply xC;simp;refine⟨λj=>?_,λu=>?_⟩
  .have m:=IN g j;have o:=q (i+1);rw[m,eN]at o;have w:(decide (0<F)||!g[i].isEmpty)=decide (0<F):=by
    cases h:g[i]with
    |nil=>simp
    |cons y B=>
     have:y∈g.flatten:=adA.2 ⟨_,b9 j,by rw[h];simp⟩;have:0<F:=by rw[<-s];exact acw this
     simp[this]
   apply xK;apply xB;apply yW;simp[t25,t27,j];apply yT;apply yJ;simp[t6,o,Ah];apply yV;simp[t27];refine⟨j,_,_,am,?_⟩;simp[t25,t26,AL j t,m,w]
  .have e:i=g.length:=by omega
   subst e;rw[KA]at t6⊢;generalize z:g.flatten=L at *;apply C7;apply yW;simp[t6];apply Af;refine⟨_,_,c9 0 (xs:=L.map AF) rfl (by simp),?_⟩;simp[s,Ba];rw[<-z];simp
theorem gi(n:Nat)(hn:n<=2 ^ 30):AG prog 118 [.full [],.d (AF n)] [] (.row 0 0) [.row (decide (0<n)) 1 []]:=by
 refine zC func118 27 rfl λwf _=>?_;apply yW;simp;refine xS (yW ?_);simp;apply AR;simp;refine⟨λh=>absurd h (by omega),?_⟩;apply CT;have i:IntKind.i64.wrap (n:Int)=n:=by rw[bv];omega
 have g:IntKind.i64.wrap 0=0:=by decide
 refine xS (yW ?_);simp[i,g];apply yW;simp;apply AR;simp;refine⟨λh=>?_,λh=>?_⟩
 .have h0:0<n:=by omega
  have j:prog.underlying 3=some (.int .i64):=by kernel_rfl
  apply yT;(iterate 3 (refine Cd (by simp) ?_;simp));refine AV.WG (E:=9) (sz:=1) rfl (by simp) (by simp) (by simp) ?_;simp;(iterate 1 (refine Cd (by simp) ?_;simp));refine AV.SL (E:=9) (bt:=16) n (.d (.str ByteArray.empty)) 1 rfl rfl rfl rfl (by simp) j (by simp) (by simp) (by simp) (by simp) (by simp) (by simp) h0 hn ?_;simp;(iterate 2 (refine Cd (by simp) ?_;simp));(refine AV.J2 0 n 1 (List.replicate n (.d (.str ByteArray.empty))) 0 0 rfl ?_ ?_)
  .simp[sE]
  .simp;apply yJ;simp;apply yW;simp;apply Af;refine⟨_,rx [1] (S0:=[.row (decide (0<n)) 1 []]) (by simp[h0]) (by simp) (by simp),?_⟩;simp[Au,pick];try decide
 .have h0:n=0:=by omega
  subst h0;apply xK;apply yW;simp;apply Af;refine⟨_,ll 4 1 (xs:=[]) (by simp),?_⟩;simp[Au]
theorem VC(g:List (List ByteArray))(hn:g.flatten.length<=2 ^ 30):Pure prog 36 [.sl (g.map λxs=>By xs)] (By g.flatten):=by
 have q:∀i,(GV g i).length<=2 ^ 30:=λi=>ke (Ro g i) hn;have k:GV g 0=[]:=rfl;refine eJ func36 rfl rfl (by simp) λwf=>?_;have t:g.length<=maxLen:=by have:=wf.1;simp[DZ]at this;simpa using this.1
 rw[ntmps36];apply yW;simp;apply yW;simp;refine xS (yW ?_);simp;apply Bx;refine DV g.length (λi tm S=>tm 0=.d (.sl (g.map λxs=>By xs))/\tm 9=.d (.sl (g.map λxs=>By xs))/\tm 11=.d (.int .i64 i)/\tm 10=.d (.int .i64 g.length)/\tm 3=.d (AF (GV g i).length)/\S=[]) (cq _) (by simp[k]) ?_;rintro i tm S hi ⟨t0,t9,t11,t10,t3,rfl⟩;apply yW;simp[t10,t11];apply xC;simp;refine⟨λj=>?_,λu=>?_⟩
 .apply xK;apply xB;have m:(GV g (i+1)).length=(GV g i).length+g[i].length:=by rw[IN g j,eN]
  have o:=q (i+1);have A:=q i;rw[m]at o;have v:IntKind.i64.wrap ((GV g i).length+g[i].length:Int)=((GV g (i+1)).length:Int):=by rw[bv,m];omega
  apply yW;simp[t9,t11,j];apply yW;simp[t3,v];apply yW;simp;apply AR;simp;refine⟨λh=>?_,?_⟩
  .exact absurd h (by omega)
  .apply CT;apply yV;simp[t11];refine⟨j,_,_,am,?_⟩;simp[t0,t9,t10,AL j t]
 .have e:i=g.length:=by omega
  subst e;rw[KA]at t3;apply C7;apply yS;apply yJ;simp[t3];refine xF (gi g.flatten.length hn) [] rfl ?_;simp;apply yJ;simp;refine xS (yW ?_);simp[t0];apply Bx;generalize s:g.flatten.length=F at *;refine DV g.length (λi tm S=>tm 25=.d (.sl (g.map λxs=>By xs))/\tm 27=.d (.int .i64 i)/\tm 26=.d (.int .i64 g.length)/\tm 6=.row 0 (GV g i).length/\S=[.row (decide (0<F)) 1 ((GV g i).map λx=>.d (BO x))]) (cq _) (by simp[k,<-s]) ?_;rintro i tm S hi ⟨t25,t27,t26,t6,rfl⟩;apply yW;simp[t26,t27];apply xC;simp;refine⟨λj=>?_,λu=>?_⟩
  .have m:=IN g j;have o:=q (i+1);rw[m,eN]at o;have w:(decide (0<F)||!g[i].isEmpty)=decide (0<F):=by
    cases h:g[i]with
    |nil=>simp
    |cons y B=>
     have:y∈g.flatten:=adA.2 ⟨_,b9 j,by rw[h];simp⟩;have:0<F:=by rw[<-s];exact acw this
     simp[this]
   apply xK;apply xB;apply yW;simp[t25,t27,j];apply yT;apply yJ;simp[t6,o,Ah];apply yV;simp[t27];refine⟨j,_,_,am,?_⟩;simp[t25,t26,AL j t,m,w]
  .have e:i=g.length:=by omega
   subst e;rw[KA]at t6⊢;generalize z:g.flatten=L at *;apply C7;apply yW;simp[t6];apply Af;refine⟨_,_,c9 0 (xs:=L.map BO) rfl (by simp),?_⟩;simp[s,Ba];rw[<-z];simp
theorem SM(es:List Int)(i:Nat):AG prog 32 [.d (A9 es),.d (AF i)] [] (.fn (.func 116) [] [.ptr 1 1 0 0,.ptr 0 1 0 0]) [.row true 1 [.d (A9 es)],.row true 1 [.d (AF i)]]:=by
 refine zC func32 6 rfl λwf _=>?_;apply yW;simp;apply yW;simp;apply Af;refine⟨_,am,?_⟩;simp[Au]
theorem Jq{es:List Int}{i:Nat}{e:Int}{ks:List Int}(hi:es[i]?=some e)(g:∀x∈es,0<=x/\x<=2000000)(k:i<=2000000)(h:FM es e ((i:Int)+1) ks)(j:ks.length<=2000000):
  AG prog 31 [.fn (.func 116) [] [.ptr 1 1 0 0,.ptr 0 1 0 0]] [.row true 1 [.d (A9 es)],.row true 1 [.d (AF i)]] (.d (A9 ks)) [.row true 1 [.d (A9 es)],.row true 1 [.d (AF i)]]:=
 Vo (ri:=1) (re:=0) rfl rfl (by omega) (by simpa using hi) g (by omega) h j
def qy(ns:List BG)(w:Bool):Sg:=[.row true 1 [.row 1 ns.length],.row w 4 (ns.map λx=>.d (A1 x))]
theorem Vk(x:BG)(ns:List BG)(w:Bool)(h:ns.length<=2000000):AG prog 29 [.d (A1 x),.ptr 0 1 0 0] (qy ns w) (.Cb []) (qy (ns++[x]) true):=by
 have hb:ns.length+1<=2 ^ 30:=by omega
 have g:1<=maxLen:=by simp[maxLen]
 have i:(ns.length:Int)<=2000000:=by omega
 refine zC func29 10 rfl λwf _=>?_;unfold qy;apply yW;simp;apply yW;simp;apply AR;simp[i];apply yV;simp[hb,g,Ah];refine⟨_,a8 2 (by simp) (by simp) (by simp) (by simp),?_⟩;simp[Au]
theorem Xr(t:Term)(p:Nat)(ks i:List Int)(r:Rewrite)(F:ks.length=i.length)(Df:r.prod=p->r.at_<ks.length)
  (z:∀(j:Nat) (h:j<ks.length) (G:j<i.length),0<=ks[j]/\∃(h:ks[j].toNat<t.nodes.length),t.nodes[ks[j].toNat].prod=i[j]):
  AG prog 34 [.d (Ab r),.ptr 0 1 0 0,.ptr 1 1 0 0,.ptr 2 1 0 0] [.row true 4 [.d (A1 (Ef p))],.row true 2 [.d (Aj t)],.row true 1 [.d (A9 ks)]] (.d (.bool (EV p i r)))
   [.row true 4 [.d (A1 (Ef p))],.row true 2 [.d (Aj t)],.row true 1 [.d (A9 ks)]]:=by
 have g:=Ab.eq_1 r;have m:A1 (Ef p)=.agg [AF p,AF (-1),BO ByteArray.empty,.sl []]:=rfl;refine zD func34 31 rfl λwf _=>?_;have fin:∀(tm:Tm) X,tm 5=.d (.bool (EV p i r))->AW prog 31 3 .ret (qF prog 31 3 Tryz.f34.results.toList (D.bool (EV p i r)) [.row true 4 [.d (A1 (Ef p))],.row true 2 [.d (Aj t)],.row true 1 [.d (A9 ks)]]) tm
   [.row true 4 [.d (A1 (Ef p))],.row true 2 [.d (Aj t)],.row true 1 [.d (A9 ks)],X]:=λtm X h=>by
  apply Af;exact⟨_,_,_,am,by simp,by simp[h,Ba,CF],a8 3 (by simp) (by simp) (by simp) (by simp)⟩
 by_cases h1:r.prod=p
 .by_cases s:r.at_<0
  .have hb:EV p i r=true:=by simp[EV,h1,s]
   apply yW;simp;(repeat apply xS);refine yE [0,2,4,6,8,10,12,14,16,18,20,22,24,26,28,30,32,34,36,38,40,42,44,46,48,50] (by kernel_rfl) ?_;simp;apply yZ;simp[g,m,h1,s];refine fin _ _ ?_;simp[hb]
  .obtain⟨a,ha⟩:∃a:Nat,r.at_=a:=⟨r.at_.toNat,by omega⟩;have u:a<ks.length:=by have:=Df h1;omega
   obtain⟨A,v,o⟩:=z a u (by omega);obtain⟨k,q⟩:∃k:Nat,ks[a]=k:=⟨ks[a].toNat,by omega⟩;rw[q]at A;simp[q]at v o;obtain⟨nd,w⟩:=a9 (t.nodes[k]);rw[w]at o;have B:=A1.eq_1 nd;have C:i.getD a (-2)=nd.prod:=by rw[o];simp[show a<i.length by omega]
   have hb:EV p i r=decide (nd.prod=r.child):=by
    unfold EV;rw[ha,ii,C];simp[h1,show ¬((a:Int)<0) by omega]
   have E:¬((a:Int)<0):=by omega
   apply yW;simp;(repeat apply xS);refine yE [0,2,4,6,8,10,12,14,16,18,20,22,24,26,28,30,32,34,36,38,40,42,44,46,48,50] (by kernel_rfl) ?_;simp;apply yZ;simp[g,m,h1,E,ha,u,q,Aj,v,w,B];refine fin _ _ ?_;simp[hb];rfl
 .have hb:EV p i r=false:=by simp[EV,h1]
  apply yW;simp;(repeat apply xS);refine yE [0,2,4,6,8,10,12,14,16,18,20,22,24,26,28,30,32,34,36,38,40,42,44,46,48,50] (by kernel_rfl) ?_;simp;(repeat((first|refine Pv rfl rfl ?_ ?_;(·simp[h1])|refine gX rfl rfl ?_ ?_;(·simp[g,m,h1])|refine Hz ?_ ?_;(·simp[g,m,h1]));simp[g,m]));apply xM;refine fin _ _ ?_;simp[hb]
def N9:List V:=[.ptr 0 1 0 0,.ptr 1 1 0 0,.ptr 2 1 0 0,.ptr 4 1 0 0,.ptr 6 1 0 0,.ptr 7 1 0 0,.ptr 8 1 0 0]
def K5(t:Term)(A:List Int)(m:List Rewrite)(ns:List BG)(at_:List Int)(w:Bool):Sg:=
 [.row true 2 [.d (Aj t)],.row true 1 [.fn (.func 29) [] [.ptr 2 1 0 0]],.row true 1 [.row 3 ns.length],.row w 4 (ns.map λx=>.d (A1 x)),.row true 1 [.row 5 at_.length],.row true 1 (at_.map λx=>.d (AF x)),.row true 1 [.d (A9 A)],.row true 1 [.d (.sl (m.map Ab))],.row true 1 [.fn (.func 30) [] N9]]
def Px(t:Term)(A:List Int)(m:List Rewrite)(M:List Mv)(ns:List BG)(at_:List Int)(w:Bool):Sg:=K5 t A m (M.foldl Dt (ns,at_)).1 (M.foldl Dt (ns,at_)).2 (w||!M.isEmpty)
def VQ(t:Term)(A:List Int)(m:List Rewrite)(q:Int)(M:List Mv):Prop:=
 ∀g at_ w,at_.length=t.nodes.length->g.length+M.length<=2000000->AG prog 30 (.d (AF q)::N9) (K5 t A m g at_ w) (.Cb []) (Px t A m M g at_ w)
theorem VQ.step{t:Term}{A:List Int}{m:List Rewrite}{q:Int}{M:List Mv}(h:VQ t A m q M)(g:List Mv){ns:List BG}{at_:List Int}{w:Bool}(h1:at_.length=t.nodes.length)(j:ns.length+(g++M).length<=2000000):
  AG prog 30 (.d (AF q)::N9) (Px t A m g ns at_ w) (.Cb []) (Px t A m (g++M) ns at_ w):=by
 have i:=h (g.foldl Dt (ns,at_)).1 (g.foldl Dt (ns,at_)).2 (w||!g.isEmpty) (by rw[TE];exact h1) (by rw[ML];simp at j⊢;omega);have e:Px t A m M (g.foldl Dt (ns,at_)).1 (g.foldl Dt (ns,at_)).2 (w||!g.isEmpty)=Px t A m (g++M) ns at_ w:=by
  unfold Px;rw[E2];congr 1;cases g<;>cases M<;>simp
 rw[e]at i;exact i
theorem Sf(l:List Int)(i:Nat)(v:Int):∀x∈(l.map λx=>V.d (D.int .i64 x)).set i (V.d (D.int .i64 v)),∃d,x=V.d d:=λx g=>by
 have e:(l.map λx=>V.d (D.int .i64 x)).set i (V.d (D.int .i64 v))=(l.set i v).map λx=>V.d (D.int .i64 x):=by rw[eQ]
 rw[e]at g;obtain⟨y,_,rfl⟩:=eo.1 g;exact⟨_,rfl⟩
theorem iO(t:Term)(A:List Int)(m:List Rewrite)(i:Nat)(k:Int)(s:ByteArray)(r:List ByteArray)(hi:i<t.nodes.length)(hn:t.nodes[i]=⟨-1,k,s,r⟩):VQ t A m i [(⟨-1,k,s,r⟩,(i:Int))]:=by
 intro u at_ w Df v;have B:=A1.eq_1 (⟨-1,k,s,r⟩:BG);have j:=A1.eq_1 (⟨-1,k,s,[]⟩:BG);have o:u.length<=2000000:=by simp at v;omega
 have g:=Vk ⟨-1,k,s,[]⟩ u w o;have z:i<at_.length:=by omega
 have C:¬(((i:Int))<0):=by omega
 have E:IntKind.i64.wrap ((u.length:Int)+1)=(u.length:Int)+1:=by rw[bv];omega
 refine md func30 rfl rfl (by simp[N9]) λwf _=>?_;rw[ntmps30];unfold qy at g;have q:=g.Fm (args':=[.agg [.d (.int .i64 (-1)),.d (.int .i64 k),.d (.str s),.full []],.ptr 0 1 0 0]) rfl λi h F=>by
  match i,h with
  |0,_=>exact .inr ⟨_,by simp[Ba,Dx,CF,j],rfl⟩
  |1,_=>exact .inl rfl
 clear g;unfold Px K5 N9;apply yW;simp[Aj,hi,hn];refine xS (yW ?_);simp;apply AR;simp;apply yS;apply yJ;simp;refine xF (q) [2,3] rfl ?_;simp;apply yJ;simp;apply yW;simp[z];apply Af;refine⟨_,a8 9 (by simp[Dt,bare]) (by simp) (by simp) (by simp;exact IS (Sf _ _ _)),?_⟩;simp[Au]
structure XU(t:Term)(A:List Int)(m:List Rewrite)(i p:Nat)(ks rs:List Int)(Y:List (List Mv×List (List Mv))):Prop where
 hi:i<t.nodes.length
 hn:t.nodes[i]=Ef p
 n2:t.nodes.length<=2000000
 ae:∃e,A[i]?=some e/\FM A e ((i:Int)+1) ks
 ar:∀x∈A,0<=x/\x<=2000000
 kl:ks.length=rs.length
 kn:ks.length<=2000000
 Kl:Y.length=ks.length
 kr:∀(j:Nat) (h:j<ks.length) (h':j<rs.length),0<=ks[j]/\∃(h:ks[j].toNat<t.nodes.length),t.nodes[ks[j].toNat].prod=rs[j]
 ud:∀(j:Nat) (h:j<ks.length) (h':j<Y.length),VQ t A m ks[j] Y[j].1
 Df:∀r∈m,r.prod=p->r.at_<ks.length
theorem dN{t:Term}{A:List Int}{m:List Rewrite}{i p:Nat}{ks k:List Int}{Y:List (List Mv×List (List Mv))}(h:XU t A m i p ks k Y)(W:m.find? (EV p k)=none):VQ t A m i (Gb m p k Y):=by
 have xo:Gb m p k Y=(Ef p,-1)::(Y.map (·.1)).flatten:=by unfold Gb;rw[W]
 rw[xo];intro v at_ w Df o;obtain⟨e,he,hk⟩:=h.ae;have hi:=h.hi;have hn:=h.hn;have z:A1 (Ef p)=.agg [AF p,AF (-1),BO ByteArray.empty,.sl []]:=rfl;have e1:(Ef (p:Int)).prod=p:=rfl;have e2:(Ef (p:Int)).token= -1:=rfl;have e3:(Ef (p:Int)).text=ByteArray.empty:=rfl;have e4:(Ef (p:Int)).rem=[]:=rfl;have yw:¬((Ef (p:Int)).prod<0):=by show ¬((p:Int)<0);omega
 have Q:=SM A i;have yj:=h.n2;have R:=Jq he h.ar (by omega) hk h.kn;have B:v.length<=2000000:=by simp at o;omega
 have C:=Vk (Ef p) v w B;have E:=Ff m (EV p k) 34 [.ptr 0 1 0 0,.ptr 1 1 0 0,.ptr 2 1 0 0] [.row true 4 [.d (A1 (Ef p))],.row true 2 [.d (Aj t)],.row true 1 [.d (A9 ks)]] (λr hr=>Xr t p ks k r h.kl (h.Df r hr) h.kr);have xz:firstIdx (EV p k) m= -1:=firstIdx_none λj hj=>by
  have:=List.find?_eq_none.1 W m[j] (b9 hj);simpa using this
 rw[xz]at E;refine md func30 rfl rfl (by simp[N9]) λwf _=>?_;rw[ntmps30];unfold qy at C;unfold K5 N9;apply yW;simp[Aj,hi,hn];refine xS (yW ?_);simp;apply AR;simp[yw];apply xK;(repeat apply xS);apply yT;apply yJ;simp;refine xF (Q) [] rfl ?_;simp;refine xF (R) [10,11] rfl ?_;simp;apply yJ;simp;have zp:¬((-1:Int)≥0):=by omega
 apply yS;apply yJ;simp;refine xF (E) [9,0,12] rfl ?_;simp[z,Aj,e1,e2,e3,e4];apply yJ;simp;refine xS (yW ?_);simp;apply AR;simp;apply yS;apply yJ;simp;have F:=C.Fm (args':=[.agg [.d (.int .i64 p),.d (.int .i64 (-1)),.d (.str ByteArray.empty),.full []],.ptr 0 1 0 0]) rfl λi h h'=>by
  match i,h with
  |0,_=>exact .inr ⟨_,by simp[Ba,Dx,CF,z],rfl⟩
  |1,_=>exact .inl rfl
 refine xF (F) [2,3] rfl ?_;simp;apply yJ;simp;refine xS (yW ?_);simp;apply Bx;obtain⟨L,T⟩:=a9 (Y.map (·.1));have U:L.length=ks.length:=by rw[<-T,li,h.Kl]
 have G:∀j (h1:j<ks.length) (h2:j<L.length),VQ t A m ks[j] L[j]:=λj h1 h2=>by
  have:=h.ud j h1 (by rw[h.Kl];exact h1);simpa[<-T]using this
 rw[T]at o⊢;have wH:bare (Ef (p:Int))=Ef p:=rfl;obtain⟨pre,s⟩:∃pre:Nat->List Mv,∀j,pre j=(Ef (p:Int),(-1:Int))::GV L j:=⟨_,λ_=>rfl⟩;have H:pre 0=[(Ef p,-1)]:=by rw[s];rfl
 have J:∀j,v.length+(pre j).length<=2000000:=λj=>by
  have:=Ro L j;rw[s];simp only[ea]at o⊢;omega
 have g:∀j (hj:j<L.length),pre (j+1)=pre j++L[j]:=λj hj=>by rw[s,s,IN L hj];rfl
 have K:(Ef (p:Int),(-1:Int))::L.flatten=pre L.length:=by rw[s,KA]
 have M:∀j,(w||!(pre j).isEmpty)=true:=λj=>by simp[s]
 have Z:∀j,¬(pre j=[]):=λj=>by simp[s]
 have a1:ks.length<=maxLen:=by have:=h.kn;unfold maxLen;omega
 rw[K,U];refine zL ks.length (λj tm S=>tm 7=.ptr 8 1 0 0/\tm 51=.d (A9 ks)/\tm 52=.d (.int .i64 ks.length)/\tm 53=.d (.int .i64 j)/\S=Px t A m (pre j) v at_ w++[.row true 4 [.d (A1 (Ef p))],.row true 1 [.d (A9 A)],.row true 1 [.d (AF i)],.row true 1 [.d (A9 ks)]]) (by simp[H,Px,K5,N9,Dt,wH,Aj,z]) ?_;rintro j tm S hj ⟨t7,t51,t52,t53,rfl⟩;apply yW;simp[t52,t53];apply xC;simp;refine⟨λP=>?_,λvw=>?_⟩
 .have u:=(G j P (by omega)).step (pre j) (w:=w) Df (by rw[<-g j (by omega)];exact J _);rw[<-g j (by omega)]at u;obtain⟨q,hq⟩:=a9 (ks[j]);rw[hq]at u;unfold Px at u⊢;simp[M]at u⊢;obtain⟨X,hX⟩:=a9 ((pre j).foldl Dt (v,at_));obtain⟨X',N⟩:=a9 ((pre (j+1)).foldl Dt (v,at_));rw[hX,N]at u;rw[hX];unfold K5 N9 at u⊢;apply xK;apply xB;apply yW;simp[t51,t53,P,hq];apply yT;apply yJ;simp[t7];refine xF (u) [0,1,2,3,4,5,6,7,8] rfl ?_;simp;apply yJ;simp;apply yV;simp[t53];refine⟨P,_,_,am,?_⟩;simp[t7,t51,t52,AL P a1,N]
 .have e:j=ks.length:=by omega
  subst e;apply C7;apply Af;refine⟨_,a8 9 (by simp[Px,K5]) (by simp) (by simp[Px,K5]) (by simp[Px,K5,N9]),?_⟩;simp[Au]
theorem Qi{α:Type}{p:α->Bool}{xs:List α}{r:α}(h:xs.find? p=some r):∃n:Nat,firstIdx p xs=n/\xs[n]?=some r:=by
 obtain⟨h1,i,hi,g,k⟩:=ads.1 h;exact⟨i,Cp hi (by rw[g];exact h1) (λj hj=>by simpa using k j hj),by rw[<-g];exact ci hi⟩
def nG(H:List (List Mv))(x:Cw):List Mv:=if 0<=x.hole then H.getD x.hole.toNat []else [(⟨x.prod,x.token,x.text,[]⟩,-1)]
theorem VO(H:List (List Mv))(t:List Cw){j:Nat}(hj:j<t.length):Ew H (t.take (j+1))=Ew H (t.take j)++nG H t[j]:=by
 rw[pe hj,If];congr 1;simp[Ew,nG]
theorem fK(H:List (List Mv))(t:List Cw)(j:Nat):(Ew H (t.take j)).length<=(Ew H t).length:=by
 have:Ew H t=Ew H (t.take j)++Ew H (t.drop j):=by rw[<-If,wN]
 rw[this];simp
def se(t:Term)(A:List Int)(m:List Rewrite)(ks:List Int)(Y:List (List Mv×List (List Mv)))(r:Rewrite)(ks2:List Int):Prop:=
 0<=r.at_->∃(a q:Nat) (g:Int),r.at_=a/\ks[a]?=some (q:Int)/\A[q]?=some g/\FM A g ((q:Int)+1) ks2/\ks2.length<=2000000/\q<=2000000/\ks2.length=(Y.getD a ([],[])).2.length/\∀(l:Nat) (h:l<ks2.length) (i:l<(Y.getD a ([],[])).2.length),VQ t A m ks2[l] (Y.getD a ([],[])).2[l]
def Me(ks ks2:List Int)(r:Rewrite):List Int:=if r.at_<0 then ks else ks.take r.at_.toNat++(ks2++ks.drop (r.at_.toNat+1))
theorem gZ{t:Term}{A:List Int}{m:List Rewrite}{i p:Nat}{ks C:List Int}{Y:List (List Mv×List (List Mv))}(h:XU t A m i p ks C Y){r:Rewrite}{ks2:List Int}(w:se t A m ks Y r ks2):
  (Me ks ks2 r).length=(EM r Y).length/\∀(l:Nat) (h:l<(Me ks ks2 r).length) (L:l<(EM r Y).length),VQ t A m (Me ks ks2 r)[l] (EM r Y)[l]:=by
 have o:∀(j:Nat) (x:Int) (y:List Mv),ks[j]?=some x->(Y.map (·.1))[j]?=some y->VQ t A m x y:=λj x y k g=>by
  obtain⟨s,rfl⟩:=df.1 k;obtain⟨u,rfl⟩:=df.1 g;have:=h.ud j s (by simpa using u);simpa using this
 have key:∀(l:Nat) (x:Int) (y:List Mv),(Me ks ks2 r)[l]?=some x->(EM r Y)[l]?=some y->VQ t A m x y:=by
  intro l x y k g;unfold Me at k;unfold EM at g;by_cases h0:r.at_<0
  .rw[ap h0]at k g;exact o l x y k g
  .rw[ao h0]at k g;obtain⟨a,q,E,s,u,F,G,H,J,z,B⟩:=w (by omega);rw[s,ii]at k g;have ha:a<ks.length:=(df.1 u).1;have M:=h.Kl;have l1:(ks.take a).length=a:=by simp;omega
   have l2:((Y.take a).map (·.1)).length=a:=by simp;omega
   rw[yl]at g;by_cases c1:l<a
   .rw[ej (by omega),adg c1]at k;rw[ej (by omega),l5,adg c1]at g;exact o l x y k g
   .rw[ls (by omega),l1]at k;rw[ls (by omega),l2]at g;by_cases K:l - a<ks2.length
    .rw[ej K]at k;rw[ej (by omega)]at g;obtain⟨f1,rfl⟩:=df.1 k;obtain⟨f2,rfl⟩:=df.1 g;exact B _ f1 f2
    .rw[ls (by omega),acC]at k;rw[ls (by omega),ol,acC,<-z]at g;exact o _ x y k g
 have v:(Me ks ks2 r).length=(EM r Y).length:=by
  unfold Me EM;by_cases h0:r.at_<0
  .rw[ap h0,ap h0,li,h.Kl]
  .rw[ao h0,ao h0];obtain⟨a,q,E,s,u,F,G,H,J,z,B⟩:=w (by omega);rw[s,ii];have:=h.Kl;simp only[eN,up,acy,li];omega
 exact⟨v,λl s u=>key l _ _ (ci s) (ci u)⟩
theorem To{t:Term}{A:List Int}{m:List Rewrite}{i p:Nat}{ks W:List Int}{Y:List (List Mv×List (List Mv))}(h:XU t A m i p ks W Y){r:Rewrite}(hf:m.find? (EV p W)=some r)
  {ks2:List Int} (xk:se t A m ks Y r ks2) (xu:∀x∈r.A4,0<=x.hole->x.hole.toNat<(EM r Y).length) (xg:r.A4.length<=maxLen):VQ t A m i (Gb m p W Y):=by
 have xo:Gb m p W Y=Ew (EM r Y) r.A4:=by unfold Gb;rw[hf]
 rw[xo];intro ns at_ w Df hns;obtain⟨hHl,L⟩:=gZ h xk;obtain⟨H,hH⟩:=a9 (EM r Y);rw[hH]at hns hHl L xu⊢;obtain⟨e,he,hk⟩:=h.ae;have hi:=h.hi;have hn:=h.hn;have wB:A1 (Ef p)=.agg [AF p,AF (-1),BO ByteArray.empty,.sl []]:=rfl;have e1:(Ef (p:Int)).prod=p:=rfl;have e2:(Ef (p:Int)).token= -1:=rfl;have e3:(Ef (p:Int)).text=ByteArray.empty:=rfl;have e4:(Ef (p:Int)).rem=[]:=rfl;have yw:¬((Ef (p:Int)).prod<0):=by show ¬((p:Int)<0);omega
 have hkk:=SM A i;have yj:=h.n2;have hco:=Jq he h.ar (by omega) hk h.kn;have hix:=Ff m (EV p W) 34 [.ptr 0 1 0 0,.ptr 1 1 0 0,.ptr 2 1 0 0] [.row true 4 [.d (A1 (Ef p))],.row true 2 [.d (Aj t)],.row true 1 [.d (A9 ks)]] (λr hr=>Xr t p ks W r h.kl (h.Df r hr) h.kr);obtain⟨n,xz,u⟩:=Qi hf;obtain⟨yt,u⟩:=df.1 u;rw[xz]at hix;have z:=Ab.eq_1 r;have xn:¬((n:Int)<0):=by omega
 refine md func30 rfl rfl (by simp[N9]) λwf _=>?_;rw[ntmps30];unfold K5 N9;apply yW;simp[Aj,hi,hn];refine xS (yW ?_);simp;apply AR;simp[yw];apply xK;apply yS;apply yJ;simp;refine xF (hkk) [] rfl ?_;simp;refine xF (hco) [10,11] rfl ?_;simp;apply yJ;simp;apply yS;apply yJ;simp;refine xF (hix) [9,0,12] rfl ?_;simp[wB,Aj,e1,e2,e3,e4];apply yJ;simp;refine xS (yW ?_);simp;apply AR;simp[xn];apply CT;obtain⟨F,M⟩:=a9 (Me ks ks2 r);rw[M]at hHl L;obtain⟨R4,N⟩:∃R4:Sg,R4=[.row true 4 [.d (A1 (Ef p))],.row true 1 [.d (A9 A)],.row true 1 [.d (AF i)],.row true 1 [.d (A9 F)]]:=⟨_,rfl⟩;refine AW.Ju (R:=λtm S=>tm 2=.ptr 1 1 0 0/\tm 6=.ptr 7 1 0 0/\tm 7=.ptr 8 1 0 0/\tm 10=.ptr 12 1 0 0/\tm 11=.d (AF n)/\S=K5 t A m ns at_ w++R4) ?_ ?_
 .by_cases h0:r.at_<0
  .have h1:¬(0<=r.at_):=by omega
   have P:F=ks:=by rw[<-M];exact ap h0
   apply yW;simp[yt,u,z];apply yW;simp;apply AR;simp[h1];apply CT;refine⟨_,_,am,?_⟩;simp[N,K5,N9,Aj,wB,P]
  .have h1:0<=r.at_:=by omega
   obtain⟨a,q,e',g1,g2,g3,g4,g5,g6,g7,g8⟩:=xk h1;obtain⟨ga,gq⟩:=df.1 g2;have P:F=ks.take a++(ks2++ks.drop (a+1)):=by rw[<-M];unfold Me;rw[ao h0,g1,ii]
   have hkk2:=SM A q;have hco2:=Jq g3 h.ar (by omega) g4 g5;have hkn:=h.kn;have zu:=WC [ks.take a,ks2,ks.drop (a+1)] (by simp;omega);have B:IntKind.i64.wrap ((a:Int)+1)=((a+1:Nat):Int):=by rw[bv];omega
   have xw:(a:Int)<ks.length:=by omega
   have y6:(a:Int)<=ks.length:=by omega
   have g:(a:Int)+1<=ks.length:=by omega
   apply yW;simp[yt,u,z,g1];apply yW;simp;apply AR;simp;refine yE [0,2,4,6,8,10,12,14,20,22,24,26,17,18,28,30,33] (by kernel_rfl) ?_;simp;have k:a+1=ks.length\/(BN ((Option.map AF ks[a+1]?).getD (D.bool false))).length=1/\CZ.oneD ((Option.map AF ks[a+1]?).getD (D.bool false))=true:=by
    by_cases c:a+1=ks.length
    .exact .inl c
    .have C:a+1<ks.length:=by omega
     right;simp[C]
   have h3:3<=maxLen:=by decide
   have E:(ks.map AF).take ks.length=ks.map AF:=s9 (by simp);have o:(0:Int)<=(a:Int)+1:=by omega
   apply yA 1;simp[ga,gq,B,xw,y6,g,k,o,E];refine ru (xT [0,0,0,0,1,0,0,0,1,0,0,0]) (hkk2) [] (by kernel_rfl) rfl (by simp[ga,gq,B,xw,y6,g,k,o,E,Ac];try rfl) ?_;simp;refine Ag.Sm (hco2) [13,14] rfl (by simp;try rfl) ?_;simp;apply yA 1;simp[h3];refine B5 (zu) rfl (by simp) ?_;simp;apply yA 1;simp;apply xX 8191 (by kernel_rfl);simp[Ac,ga,gq,B,xw,y6,g,k,o,E,h3,Al];apply yA 1;simp;refine⟨_,_,a8 13 (S':=K5 t A m ns at_ w++R4) (by simp[N,K5,N9,Aj,wB,P]) (by simp) (by simp) (by simp),?_⟩;simp[clean]
 rintro tm S ⟨t2,t6,t7,t10,t11,rfl⟩;obtain⟨T,hT⟩:=a9 (r.A4);rw[hT]at hns xu z⊢;obtain⟨pre,wJ⟩:∃pre:Nat->List Mv,∀j,pre j=Ew H (T.take j):=⟨_,λ_=>rfl⟩;have pre0:pre 0=[]:=by rw[wJ];rfl
 have G:∀j,ns.length+(pre j).length<=2000000:=λj=>by
  have:=fK H T j;rw[wJ];omega
 have preS:∀j (hj:j<T.length),pre (j+1)=pre j++nG H T[j]:=λj hj=>by rw[wJ,wJ,VO H T hj]
 have preE:Ew H T=pre T.length:=by rw[wJ,ne]
 have a1:T.length<=maxLen:=hT▸xg;rw[preE];subst N;unfold K5 N9;apply yW;simp[t6,t11,yt,u,z];apply Bx;refine zL T.length (λj tm S=>tm 2=.ptr 1 1 0 0/\tm 7=.ptr 8 1 0 0/\tm 10=.ptr 12 1 0 0/\tm 88=.d (.sl (T.map A7))/\tm 89=.d (.int .i64 T.length)/\tm 90=.d (.int .i64 j)/\S=Px t A m (pre j) ns at_ w++[.row true 4 [.d (A1 (Ef p))],.row true 1 [.d (A9 A)],.row true 1 [.d (AF i)],.row true 1 [.d (A9 F)]]) (by simp[t2,t7,t10,pre0,Px,K5,N9]) ?_;rintro j tm S hj ⟨t2,t7,t10,t88,t89,t90,rfl⟩;apply yW;simp[t89,t90];apply xC;simp;refine⟨λJ=>?_,λvw=>?_⟩
 .obtain⟨x,hx⟩:=a9 (T[j]);have s:=preS j J;rw[hx]at s;have Q:=A7.eq_1 x;have hL1:=G (j+1);have hxm:=xu x (hx▸b9 J);apply xK;apply xB;by_cases h0:0<=x.hole
  .obtain⟨c,C⟩:∃c:Nat,x.hole=c:=⟨x.hole.toNat,by omega⟩;have xd:c<H.length:=by have:=hxm h0;omega
   have yM:c<F.length:=by omega
   have Z:=(L c yM xd).step (pre j) (ns:=ns) (at_:=at_) (w:=w) Df (by
    have:nG H x=H[c]:=by simp[nG,C,xd]
    rw[<-this,<-s];exact hL1)
   have U:nG H x=H[c]:=by simp[nG,C,xd]
   rw[<-U,<-s]at Z;obtain⟨q,hq⟩:=a9 (F[c]);rw[hq]at Z;unfold Px at Z⊢;obtain⟨X,hX⟩:=a9 ((pre j).foldl Dt (ns,at_));obtain⟨X',v⟩:=a9 ((pre (j+1)).foldl Dt (ns,at_));obtain⟨w1,B⟩:=a9 ((w||!(pre j).isEmpty));obtain⟨w2,wm⟩:=a9 ((w||!(pre (j+1)).isEmpty));rw[hX,v,B,wm]at Z;simp[hX,v,B,wm];unfold K5 N9 at Z⊢;apply yW;simp[t88,t90,J,hx,Q];apply yW;simp[C];apply AR;simp;refine yE [0,2,4,6,8,10,13] (by kernel_rfl) ?_;simp;apply yA 1;simp[t7,t10,yM,hq];refine ru (xT [1,0,0,0,0,1]) (Z) [0,1,2,3,4,5,6,7,8] (by kernel_rfl) rfl (by simp[t7,t10,yM,hq,Ac];try rfl) ?_;simp;apply yA 1;simp;apply yV;simp[t90];refine⟨J,_,_,lm 13 (S':=K5 t A m X'.1 X'.2 w2++[.row true 4 [.d (A1 (Ef p))],.row true 1 [.d (A9 A)],.row true 1 [.d (AF i)],.row true 1 [.d (A9 F)]]) (by simp[K5,N9]) (by simp) (by simp) (by simp[K5,N9]),?_⟩;simp[clean,t2,t7,t10,t88,t89,AL J a1,K5,N9]
  .have U:nG H x=[(⟨x.prod,x.token,x.text,[]⟩,-1)]:=ao h0;rw[U]at s;unfold Px;obtain⟨X,hX⟩:=a9 ((pre j).foldl Dt (ns,at_));obtain⟨w1,B⟩:=a9 ((w||!(pre j).isEmpty));have v:(pre (j+1)).foldl Dt (ns,at_)=(X.1++[⟨x.prod,x.token,x.text,[]⟩],X.2):=by rw[s,E2,hX];simp[Dt,bare]
   have vh:¬(pre (j+1)=[]):=by rw[s];simp
   have hXl:X.1.length=ns.length+(pre j).length:=by rw[<-hX,ML];simp
   have hpu:=Vk ⟨x.prod,x.token,x.text,[]⟩ X.1 w1 (by have:=G j;omega);have hen2:=A1.eq_1 (⟨x.prod,x.token,x.text,[]⟩:BG);have K:=hpu.Fm (args':=[.agg [.d (.int .i64 x.prod),.d (.int .i64 x.token),.d (.str x.text),.full []],.ptr 0 1 0 0]) rfl λi h h'=>by
    match i,h with
    |0,_=>exact .inr ⟨_,by simp[Ba,Dx,CF,hen2],rfl⟩
    |1,_=>exact .inl rfl
   unfold qy at K;simp[hX,B];unfold K5 N9;apply yW;simp[t88,t90,J,hx,Q];apply yW;simp;apply AR;simp[h0];apply yT;apply yJ;simp[t2];refine xF (K) [2,3] rfl ?_;simp;apply yJ;simp;apply yV;simp[t90];refine⟨J,_,_,lm 13 (S':=K5 t A m (X.1++[⟨x.prod,x.token,x.text,[]⟩]) X.2 true++[.row true 4 [.d (A1 (Ef p))],.row true 1 [.d (A9 A)],.row true 1 [.d (AF i)],.row true 1 [.d (A9 F)]]) (by simp[K5,N9]) (by simp) (by simp) (by simp[K5,N9]),?_⟩;simp[clean,t2,t7,t10,t88,t89,AL J a1,v,vh,K5,N9]
 .have e:j=T.length:=by omega
  subst e;apply C7;refine⟨_,a8 9 (by simp[Px,K5]) (by simp) (by simp[Px,K5]) (by simp[Px,K5,N9]),?_⟩;simp[Au]
open Go.Proofs DT
structure Xx(g:AE)(r:Rewrite):Prop where
 tl:r.A4.length<=maxLen
 at_:∀(p:Nat) q,r.prod=p->g.AD[p]?=some q->r.at_<q.right.length
 h0:∀(p:Nat) q,r.prod=p->g.AD[p]?=some q->r.at_<0->∀x∈r.A4,x.hole<q.right.length
 ch:0<=r.at_->0<=r.child
 h1:∀(p:Nat) q (c:Nat) q2,r.prod=p->g.AD[p]?=some q->0<=r.at_->r.child=c->g.AD[c]?=some q2->∀x∈r.A4,x.hole+1<q.right.length+q2.right.length
def pB(g:AE)(t:Term)(A:List Int)(m:List Rewrite)(x j:Int)(y:List Mv×List (List Mv)):Prop:=
 ∃(q:Nat) (h:q<t.nodes.length),x=q/\j=t.nodes[q].prod/\VQ t A m x y.1/\(∃k i,A[q]?=some k/\FM A k ((q:Int)+1) i/\i.length<=2000000/\i.length=y.2.length/\∀(l:Nat) (h:l<i.length) (s:l<y.2.length),VQ t A m i[l] y.2[l])/\∀c:Nat,j=c->∃o,g.AD[c]?=some o/\y.2.length=o.right.length
theorem k8(g:AE)(t:Term)(A:List Int)(m:List Rewrite)(hm:∀r∈m,Xx g r)(hn:t.nodes.length<=2000000)(hA:∀x∈A,0<=x/\x<=2000000):
  ∀(u:TF) (i:Nat) (X:List Symbol) (R:List BG) (w:List Int),u.fit g X->t.nodes.drop i=u.flat++R->A.drop i=u.ends i++w->∀(j:Nat) (h1:j<(u.pos i).length) (z:j<u.roots.length) (h3:j<(B4 m u i).length),pB g t A m (u.pos i)[j] u.roots[j] (B4 m u i)[j]:=by
 intro u;induction u with
 |nil=>intro i X R w _ _ _ j h1;simp[TF.pos]at h1
 |leaf k s r x ih=>
  intro i X R w hf h1 z j j1 j2 j3;obtain⟨_,_,ts,rfl,B⟩:=hf;have hi:t.nodes[i]?=some ⟨-1,k,s,r⟩:=by
   have:=GH (L:=(TF.leaf k s r x).flat) h1 0 (by simp[TF.flat]);simpa[TF.flat]using this
  obtain⟨J,K⟩:=df.1 hi;cases j with
  |zero=>
   refine⟨i,J,rfl,by rw[K];rfl,iO t A m i k s r J K,⟨((i+1:Nat):Int),[],?_,.nil (by omega),by simp,rfl,λl h=>by simp at h⟩,λc G=>?_⟩
   .have:=GH (L:=(TF.leaf k s r x).ends i) z 0 (by simp[TF.ends]);simpa[TF.ends]using this
   .have hc':(-1:Int)=c:=G;omega
  |succ j=>
   exact ih (i+1) ts R w B (GX (x:=⟨-1,k,s,r⟩) h1) (GX (x:=((i+1:Nat):Int)) z) j (by simpa[TF.pos]using j1) (by simpa[TF.roots]using j2) (by simpa[B4]using j3)
 |node p k x ihk ih=>
  intro i X R w hf h1 z j j1 j2 j3;obtain⟨q,M,N,ts,rfl,B⟩:=hf;have hi:t.nodes[i]?=some (Ef p):=by
   have:=GH (L:=(TF.node p k x).flat) h1 0 (by simp[TF.flat]);simpa[TF.flat]using this
  obtain⟨J,K⟩:=df.1 hi;have wS:t.nodes.drop (i+1)=k.flat++(x.flat++R):=by
   have:=GX (x:=Ef p) (L:=k.flat++x.flat) h1;rw[this,yl]
  have yj:t.nodes.drop (i+1+k.flat.length)=x.flat++R:=by
   have:=GX (x:=Ef p) (L:=k.flat++x.flat) h1;exact SW this
  have P:A[i]?=some ((i+1+k.flat.length:Nat):Int):=by
   have:=GH (L:=(TF.node p k x).ends i) z 0 (by simp[TF.ends]);simpa[TF.ends]using this
  have xf:A.drop (i+1)=k.ends (i+1)++(x.ends (i+1+k.flat.length)++w):=by
   have:=GX (x:=((i+1+k.flat.length:Nat):Int)) (L:=k.ends (i+1)++x.ends (i+1+k.flat.length)) z;rw[this,yl]
  have ha2:A.drop (i+1+k.flat.length)=x.ends (i+1+k.flat.length)++w:=by
   have:=GX (x:=((i+1+k.flat.length:Nat):Int)) (L:=k.ends (i+1)++x.ends (i+1+k.flat.length)) z;have:=SW this;rwa [TF.Js]at this
  cases j with
  |succ j=>exact ih (i+1+k.flat.length) ts R w B yj ha2 j (by simpa[TF.pos]using j1) (by simpa[TF.roots]using j2) (by simpa[B4]using j3)
  |zero=>
   have v:=ihk (i+1) q.right _ _ N wS xf;have vZ:(k.pos (i+1)).length=k.roots.length:=TF.Wx k (i+1);have C:(B4 m k (i+1)).length=(k.pos (i+1)).length:=by rw[GZ,vZ]
   have wR:k.flat.length<=t.nodes.length:=by
    have:=i6 List.length wS;simp at this;omega
   have wi:k.roots.length=q.right.length:=TF.GB N;have Q:(k.pos (i+1)).length<=2000000:=by have:=k.Lp;omega
   have yg:FM A ((i+1+k.flat.length:Nat):Int) ((i:Int)+1) (k.pos (i+1)):=kc k A _ (i+1) xf;have hN:XU t A m i p (k.pos (i+1)) k.roots (B4 m k (i+1)):=by
    refine⟨J,K,hn,⟨_,P,yg⟩,hA,vZ,Q,C,λj S T=>?_,λj S T=>?_,λr hr hp=>?_⟩
    .obtain⟨Y,Z,U,e2,_⟩:=v j S T (by omega);rw[U,e2];exact⟨by omega,by simpa using Z,by simp⟩
    .obtain⟨Y,Z,U,e2,e3,_⟩:=v j S (by omega) T;exact e3
    .have:=(hm r hr).at_ p q hp M;omega
   have hI:VQ t A m i (Gb m p k.roots (B4 m k (i+1))):=by
    cases o:m.find? (EV p k.roots)with
    |none=>exact dN hN o
    |some r=>
     have hrm:=List.mem_of_find?_eq_some o;have W:=List.find?_some o;simp[EV]at W;obtain⟨E,zk⟩:=W;have H:=hm r hrm;by_cases h0:r.at_<0
     .refine To hN o (ks2:=[]) (λh=>absurd h (by omega)) (λy hy hy0=>?_) H.tl;have:=H.h0 p q E M h0 y hy;simp[EM,ap h0];omega
     .obtain⟨a,ha⟩:∃a:Nat,r.at_=a:=⟨r.at_.toNat,by omega⟩;have xw:a<(k.pos (i+1)).length:=by have:=H.at_ p q E M;omega
      obtain⟨Y,Z,U,e2,e3,⟨e',ks2,f1,f2,f3,f4,f5⟩,f6⟩:=v a xw (by omega) (by omega);have F:(B4 m k (i+1)).getD a ([],[])=(B4 m k (i+1))[a]'(by omega):=by simp[show a<(B4 m k (i+1)).length by omega]
      have hrt:k.roots[a]'(by omega)=r.child:=by
       have:=zk.resolve_left h0;rw[ha,ii]at this;simpa[io,show a<k.roots.length by omega]using this
      obtain⟨c,G⟩:∃c:Nat,r.child=c:=⟨r.child.toNat,by have:=H.ch (by omega);omega⟩;obtain⟨q2,wW,wZ⟩:=f6 c (by rw[hrt,G]);refine To hN o (ks2:=ks2) (λ_=>⟨a,Y,e',ha,by rw[ci xw,U],f1,f2,f3,by omega,by rw[F];exact f4,by rw[F];exact f5⟩) (λy hy hy0=>?_) H.tl;have:=H.h1 p q c q2 E M (by omega) G wW y hy;have hYl2:a<(B4 m k (i+1)).length:=by omega
      unfold EM;rw[ao h0];simp only[ha,ii,eN,li,up,acy,F,wZ];omega
   refine⟨i,J,rfl,by rw[K];rfl,hI,⟨_,_,P,yg,Q,?_,λl S T=>?_⟩,λc G=>⟨q,?_,?_⟩⟩
   .show _=((B4 m k (i+1)).map (·.1)).length
    rw[li,C]
   .have g2':l<(B4 m k (i+1)).length:=by simpa[B4]using T
    obtain⟨Y,Z,U,e2,e3,_⟩:=v l S (by omega) g2';have e4:((B4 m (TF.node p k x) i)[0]).2[l]=(B4 m k (i+1))[l].1:=by simp[B4]
    rw[e4];exact e3
   .have hc':(p:Int)=c:=G;have:p=c:=by omega
    subst this;exact M
   .show((B4 m k (i+1)).map (·.1)).length=_
    rw[li,C,vZ,wi]
section
variable {P:Program} {n b:Nat} {tm:Tm} {S:Sg}
theorem AJ.rV(r i g:Nat){sz:Nat}{els:List V}{xs:List D}(s:S[r]?=some (.row true sz els))(hi:els[i]?=some (.full xs)):
  AJ P n b tm S tm ((S++[O.row false g (xs.map .d)]).set r (.row true sz (els.set i (V.row S.length xs.length)))):=λG w a st hb=>by
 have E:=AZ s;have k:=st.rel.DG r _ s;simp only[OK]at k;cases z:G.BB r with
 |some q=>simp only[z]at k;exact absurd k.1 (by simp)
 |none=>
  simp only[z]at k;obtain⟨d,T,F,X,Y,Z,H⟩:=k;obtain⟨J,t⟩:=df.1 hi;obtain⟨v,f1,f2,f3,f4⟩:=H i J;rw[t]at f1;cases f1 with
  |full _ base A=>
   obtain⟨r1,r2,B⟩:=st.rel.MS g xs base A.len A;have u:St P n (G.at S.length 0 0 (some base)) (S++[.row false g (xs.map .d)]) w a tm:=⟨st.size,st.tm.later B,r1⟩;have C:r≠S.length:=by omega
   have K:(G.at S.length 0 0 (some base)).B3 r=G.B3 r:=by simp[Gh.at,C]
   have L:(G.at S.length 0 0 (some base)).cap r=G.cap r:=by simp[Gh.at,C]
   obtain⟨M,N,Q⟩:=u.setRow (r:=r) (els':=els.set i (V.row S.length xs.length)) (by rw[ej E];exact s) (by simp) λc2 T2 m o=>by
    rw[K,F]at m;cases m;rw[L]at o⊢;intro j hj;have R:j<els.length:=by simpa using hj
    by_cases e:j=i
    .subst e;refine⟨.slice base xs.length xs.length,?_,f2,f3,f4⟩;simp;refine .row _ _ _ rfl (by simp) λU W=>?_;have:U=xs.length:=by simpa[lenOf]using W.symm
     subst this;exact⟨br _,λ_=>by simp[Gh.BZ,Gh.at]⟩
    .rw[acs (λh=>e h.symm)];exact o j R
   exact⟨_,M,r2.trans N,(B.trans Q).late hb⟩
end
theorem cz(l:List Mv)(a:Nat)(s:List BG×List Int)(ha:a<s.2.length)(h:0<s.2.getD a 0\/∃v∈l,v.2=(a:Int)):0<(l.foldl Dt s).2.getD a 0:=by
 induction l generalizing s with
 |nil=>rcases h with h|⟨v,j,_⟩;exact h;simp at j
 |cons v l k=>
  rw[Fr];have o:(Dt s v).2.length=s.2.length:=by simp[Dt];split<;>simp
  refine k _ (by omega) ?_;have m:0<s.2.getD a 0->0<(Dt s v).2.getD a 0:=λh0=>by
   simp[Dt];split
   .simp[yy]at h0⊢;split
    .next e=>subst e;simp[ha]
    .exact h0
   .exact h0
  rcases h with h|⟨w,i,g⟩
  .exact .inl (m h)
  .rcases fi.1 i with rfl|i
   .left;simp[Dt];rw[ap (by omega),g,ii];simp[ha]
   .exact .inr ⟨w,i,g⟩
theorem mZ(l:List Mv)(a:Nat)(s:List BG×List Int)(h:s.2.getD a 0<=s.1.length):(l.foldl Dt s).2.getD a 0<=(s.1.length+l.length:Nat):=by
 induction l generalizing s with
 |nil=>simpa using h
 |cons v l i=>
  rw[Fr];have g:(Dt s v).1.length=s.1.length+1:=by simp[Dt]
  have:=i (Dt s v) (by
   rw[g];simp only[Dt];split
   .simp only[io,yy]at h⊢;split
    .split
     .simp
     .simp;omega
    .omega
   .omega)
  rw[g]at this;simp only[ea];omega
def LN(N:List BG)(g:List Int)(out:List BG):Nat->List BG
 |0=>out
 |i+1=>match N[i]? with
  |some n=>if 0<g.getD i 0 then(LN N g out i).modify (g.getD i 0 - 1).toNat λx=>{x with rem:=n.rem}else LN N g out i
  |none=>LN N g out i
theorem iV(N:List BG)(g:List Int)(out:List BG)(i:Nat):(LN N g out i).length=out.length:=by
 induction i with
 |zero=>rfl
 |succ i h=>simp[LN];split<;>(try split)<;>simp[h]
theorem lu(N:List BG)(g:List Int)(out:List BG)(h:∀(i:Nat) n,N[i]?=some n->0<g.getD i 0\/n.rem=[])(i:Nat)(hi:i<=N.length):
  P4 N 0 g out []=P4 (N.drop i) i g (LN N g out i) []:=by
 induction i with
 |zero=>rfl
 |succ i m=>
  rw[m (by omega)];have k:i<N.length:=by omega
  rw[sw k];simp only[P4,LN,ci k,vV];by_cases j:0<g.getD i 0
  .rw[ap j,ap j]
  .rw[ao j,ao j];have:=(h i _ (ci k)).resolve_left j;rw[this]
theorem iR(N:List BG)(g:List Int)(out:List BG)(h:∀(i:Nat) n,N[i]?=some n->0<g.getD i 0\/n.rem=[]):P4 N 0 g out []=(LN N g out N.length,[]):=by
 rw[lu N g out h N.length (br _),List.drop_length];rfl
theorem fT{S:Sg}{α:Type}(f:α->D)(l:List α)(c:Nat)(u:α->α)(v:V)(h:∀x,l[c]?=some x->Ba S v=some (f (u x))):Dw S ((l.map λx=>V.d (f x)).set c v)=some ((l.modify c u).map f):=by
 rw[CO];apply acp;intro j;simp only[eQ,yy,li,xi,kv,List.getElem?_modify];by_cases e:c=j
 .subst e;by_cases g:c<l.length
  .simp only[er,g,h _ (ci g)];simp[g]
  .simp[g]
 .simp[e,kw,Ba,CF]
def aC(g h:AE)(m:List Rewrite)(t:Term)(A i:List Int)(out:List BG):Sg:=
 [.row true 9 [.d (AA g)],.row true 9 [.d (AA h)],.row true 1 [.d (A8 m)],.row true 2 [.d (Aj t)],.row true 2 [.agg [.full [],.full []]],.row true 1 [.d (A9 A)],.row true 1 [.row 11 out.length],.row true 1 (i.map λx=>.d (AF x)),.row true 1 [.row 7 i.length],.row true 1 [.fn (.func 29) [] [.ptr 6 1 0 0]],.row true 1 [.fn (.func 30) [] [.ptr 3 1 0 0,.ptr 9 1 0 0,.ptr 6 1 0 0,.ptr 8 1 0 0,.ptr 5 1 0 0,.ptr 2 1 0 0,.ptr 10 1 0 0]],.row true 4 (out.map λx=>.d (A1 x))]
theorem cO(g h:AE)(m:List Rewrite)(t:Term)(u:TF)(l:Int)(hG:C2 g=0)(hc:g.conds.length<=12)(vu:h.conds.length<=12)(hv:S5 g h m=0)(z:t.nodes=u.flat)(R:u.fit g [⟨false,l⟩])(w:u.flat.length<=2000000)
  (hr1:∀n∈u.flat,n.rem.length<=12) (hr2:t.tail.length<=12) (hm:∀r∈m,Xx g r) {M:List Mv} {Y:List (List Mv)} (hM:B4 m u 0=[(M,Y)]) (hMl:M.length<=2000000) (hM0:M≠[]) (hI:Hr m u 0=u.Lt 0):
  Pure prog 9 [AA g,AA h,A8 m,Aj t] (.Cb [Aj ⟨MX M,t.tail⟩,AF 0]):=by
 have T:=Mb g h m hc vu;rw[hv]at T;have U:=Ui g hG t u l z R w;obtain⟨A,hA⟩:=a9 (u.ends 0);have W:A.length=t.nodes.length:=by rw[<-hA,TF.Js,z]
 have hAr:∀x∈A,0<=x/\x<=2000000:=λx L=>by
  have:=u.bP 0 x (hA▸L);omega
 have vk:=k8 g t A m hm (by rw[z];exact w) hAr u 0 [⟨false,l⟩] [] [] R (by simp[z]) (by simp[hA]) 0;have Z:VQ t A m 0 M:=by
  have hp:0<(u.pos 0).length:=by
   rw[TF.Wx,TF.GB R];simp
  obtain⟨q,hq,e1,e2,e3,_⟩:=vk hp (by rw[TF.GB R];simp) (by rw[hM];simp);have e4:(u.pos 0)[0]=0:=by
   cases u with
   |nil=>simp[TF.pos]at hp
   |leaf k s r x=>rfl
   |node p k x=>rfl
  rw[e4]at e3;simpa[hM]using e3
 obtain⟨n,hn⟩:=a9 (t.nodes.length);have wv:0<n:=by rw[<-hn,z];have:=u.Lp;rw[TF.GB R]at this;simp at this;omega
 have yj:n<=2000000:=by rw[<-hn,z];exact w
 rw[hA]at U;have B:=Z [] (List.replicate n 0) false (by simp[hn]) (by simpa using hMl);unfold Px at B;obtain⟨X,N⟩:=a9 (M.foldl Dt (([]:List BG),List.replicate n (0:Int)));have hW:(false||!M.isEmpty)=true:=by cases M<;>simp at hM0⊢
 rw[N,hW]at B;unfold K5 N9 at B;have hmk:(n:Int)<=1073741824:=by omega
 have hAne:¬(A=[]):=by intro e;rw[e]at W;simp at W;omega
 refine zP func9 79 rfl λwf=>?_;apply yW;simp;refine xS (yS ?_);apply yJ;simp;refine B9 (T) rfl (by simp[xN]) (yJ ?_);simp;apply yW;simp;apply AR;simp;apply xK;apply yS;apply yJ;simp;refine B9 (U) rfl (by simp[xN]) (yJ ?_);simp;refine xS (yS ?_);(repeat(refine Cd ?_ ?_;(·simp);simp));refine AV.JT (neg:=false) (xs:=A.map AF) rfl (by simp) λtt J=>?_;have J:tt=false:=J (by simpa using hAne);subst J;simp;apply yJ;simp;apply AR;simp;apply xK;apply yW;simp;apply yW;simp[Aj,hn,hmk];apply yW;simp;apply yW;simp;apply yW;simp;refine ed (AJ.rV 6 0 4 (xs:=[]) rfl rfl) ?_;simp;(repeat apply xS);apply yT;apply yJ;simp;refine xF (B) [3,9,6,11,8,7,5,2,10] rfl ?_;simp[Aj];apply yJ;simp;have hX1:X.1.length=M.length:=by rw[<-N,ML];simp
 have hX2:X.2.length=n:=by rw[<-N,TE];simp
 have hXs:¬((2000000:Int)<X.1.length):=by omega
 have C:¬(2000000<X.1.length):=by omega
 have hkm:∀(i:Nat) nd,t.nodes[i]?=some nd->0<X.2.getD i 0\/nd.rem=[]:=λi nd E=>by
  have vP:=(df.1 E).1;rw[z]at E;by_cases hp:nd.prod<0
  .left;have wV:=(OU u 0 i).2 ⟨i,nd,by simp,E,hp⟩;rw[<-hI]at wV;simp only[Hr,hM,eP,zN,K2,List.flatten_nil,xl,Oa,ms,eo]at wV;obtain⟨⟨v,hv1,hv2⟩,_⟩:=wV;rw[<-N];exact cz M i _ (by simp;omega) (.inr ⟨v,hv1,hv2⟩)
  .right;exact LH u nd (lw E) hp
 have vZ:∀i:Nat,X.2.getD i 0<=(X.1.length:Int):=λi=>by
  have:=mZ M i (([]:List BG),List.replicate n (0:Int)) (by simp[List.getElem?_replicate];split<;>simp);rw[N]at this;rw[hX1];simpa using this
 have xx:=lF m hM hI;rw[<-z,hn,N,iR t.nodes X.2 X.1 hkm,hn]at xx;have xx:=i6 Prod.fst xx;simp only at xx;refine xS (yW ?_);simp[hXs];apply AR;simp;apply xK;apply yW;simp;refine ed (ll 16 1 (xs:=[]) (by simp)) ?_;refine xS (yW ?_);simp[hn];apply Bx;refine zL n (λi tm S=>tm 7=.ptr 3 1 0 0/\tm 8=.ptr 4 1 0 0/\tm 9=.d (AF 0)/\tm 12=.ptr 6 1 0 0/\tm 13=.ptr 8 1 0 0/\tm 16=.row 12 0/\tm 46=.d (Fx t.nodes)/\tm 47=.d (.int .i64 n)/\tm 48=.d (.int .i64 i)/\S=aC g h m t A X.2 (LN t.nodes X.2 X.1 i)++[.row false 1 []]) (by simp[aC,LN,Aj]) ?_;rintro i tm S hi ⟨t7,t8,t9,t12,t13,t16,t46,t47,t48,rfl⟩;have hol:=iV t.nodes X.2 X.1 i;apply yW;simp[t47,t48];apply xC;simp;refine⟨λvc=>?_,λvw=>?_⟩
 .have vM:i<t.nodes.length:=by omega
  have ym:i<X.2.length:=by omega
  obtain⟨nd,E⟩:=a9 (t.nodes[i]);have F:t.nodes[i]?=some nd:=by rw[ci vM,E]
  obtain⟨P,j⟩:=a9 (X.2[i]);have hkd:X.2.getD i 0=P:=by simp[ym,j]
  have G:=hkm i nd F;have hkv2:=vZ i;rw[hkd]at G hkv2;have hnr:nd.rem.length<=12:=hr1 nd (by rw[<-z,<-E];exact b9 vM);have hnr2:nd.rem.length<=2 ^ 30:=by omega
  have wB:=A1.eq_1 nd;have o:LN t.nodes X.2 X.1 (i+1)=if 0<P then(LN t.nodes X.2 X.1 i).modify (P - 1).toNat λx=>{x with rem:=nd.rem}else LN t.nodes X.2 X.1 i:=by simp only[LN,F,hkd]
  obtain⟨Q,hO⟩:=a9 (LN t.nodes X.2 X.1 i);rw[hO]at o hol⊢;unfold aC;have yx:IntKind.i64.wrap ((i:Int)+1)=((i+1:Nat):Int):=by rw[bv];omega
  apply xK;apply xB;apply yW;simp[t46,t48,vM,E];(repeat apply xS);apply yV;simp[t16,hnr2,Ah];by_cases hk:0<P
  .rw[ap hk]at o;obtain⟨c,hc⟩:∃c:Nat,P=((c+1:Nat):Int):=⟨(P - 1).toNat,by omega⟩;have xd:c<Q.length:=by omega
   have wm:IntKind.i64.wrap (((c+1:Nat):Int) - 1)=c:=by rw[bv];omega
   have zZ:IntKind.i64.wrap (c:Int)=c:=by rw[bv];omega
   have xp:(0:Int)<((c+1:Nat):Int):=by omega
   have xk:(0:Int)<(c:Int)+1:=by omega
   rw[hc]at j;rw[hc,show(((c+1:Nat):Int) - 1).toNat=c by omega]at o;obtain⟨od,K⟩:=a9 (Q[c]);have hoe:=A1.eq_1 od;apply yW;simp[t13,ym,j];apply AR;simp;refine ed (c9 12 (xs:=nd.rem.map BO) (wr:=!nd.rem.isEmpty) (sz:=1) (els:=nd.rem.map λx=>V.d (BO x)) ?_ ?_) ?_
   .simp
   .simp
   refine ed (AJ.qm 16 (d:=.sl (nd.rem.map BO)) ?_) ?_
   .simp[Ba,CF]
   simp;refine yD [0,2,4,6,8,10,12,14,16,19] (by kernel_rfl) ?_;simp;apply yA 1;simp[t12,t13,ym,j,zZ,xd];apply xX 509 (by kernel_rfl);simp[Ac,t12,t13,ym,j,zZ,xd,K,hoe];apply yA 1;simp;apply yV;simp;apply yV;simp[t48,yx];refine⟨vc,_,_,(i5 11 (xs:=(Q.modify c λx=>{x with rem:=nd.rem}).map A1) rfl ?_).trans ((a8 12 (S':=aC g h m t A X.2 (Q.modify c λx=>{x with rem:=nd.rem})) ?_ ?_ ?_ ?_).trans (ll 16 1 (xs:=[]) ?_)),?_⟩
   .exact fT A1 Q c _ _ λx L=>by
     rw[ci xd,K]at L;cases L;simp[Ba,CF,Dx,A1]
   .simp[aC]
   .simp
   .simp
   .simp;exact IS (λx L=>by obtain⟨y,_,rfl⟩:=eo.1 L;exact⟨_,rfl⟩)
   .simp[clean]
   simp[clean,t7,t8,t9,t12,t13,t46,t47,o,aC]
  .rw[ao hk]at o;have H:=G.resolve_left hk;rw[H];apply yW;simp[t13,ym,j];apply AR;simp[hk];apply CT;apply yV;simp[t48,yx];refine⟨vc,_,_,a8 13 (S':=aC g h m t A X.2 Q++[.row false 1 []]) (by simp[aC]) (by simp) (by simp) (by simp),?_⟩;simp[clean,t7,t8,t9,t12,t13,t46,t47,o,aC]
 .have e:i=n:=by omega
  subst e;have zu:=VC [[],t.tail] (by simp;omega);have h2:2<=al:=by decide
  rw[xx];unfold aC;apply C7;refine ed (c9 12 (xs:=[]) (wr:=false) (sz:=1) (els:=[]) ?_ ?_) ?_
  .simp
  .rfl
  refine ed (AJ.qm 16 (d:=.sl []) ?_) ?_
  .simp[t16,Ba,CF]
  simp;(repeat apply xS);refine yE [0,2,4,6,8,10,12,15,16] (by kernel_rfl) ?_;simp;apply yA 1;simp[t7,t12,Aj,h2];refine B5 (zu) rfl (by simp[xN]) ?_;simp;apply yA 1;simp;apply xX 127 (by kernel_rfl);simp[Ac,Al,t7,t8,t12,h2];apply yA 1;simp;(apply Af;refine⟨_,_,c9 11 (xs:=(MX M).map A1) rfl (by simp),?_⟩;simp[Ba,CF,Dx,t8])
theorem J3(xs:List ByteArray):Pure prog 119 [By xs,By xs] (.bool true):=by
 refine eJ func119 rfl rfl (by simp) λwf=>?_;have h:xs.length<=al:=by have:=wf.1;simp[DZ]at this;exact this.1
 rw[ntmps119];apply yW;simp;refine xS (yW ?_);simp;apply AR;simp;apply xK;refine xS (yW ?_);simp;apply Bx;refine zL xs.length (λi tm S=>tm 0=.d (By xs)/\tm 1=.d (By xs)/\tm 5=.d (.int .i64 i)/\S=[]) (by simp) ?_;rintro i tm S hi ⟨t0,t1,t5,rfl⟩;refine xS (yW ?_);simp[t0,t5];apply AR;simp;refine⟨λg=>?_,λj=>?_⟩
 .apply xK;apply xB;refine yD [0,2,4,6,8,10,12,14,16] (by kernel_rfl) ?_;simp;apply yA 1;simp[t0,t1,t5,g];apply AR;simp;apply CT;apply yV;simp[t5];refine⟨g,_,_,am,?_⟩;simp[t0,t1,AL g h]
 .apply C7;apply yW;simp;apply zT;try simp
theorem T7(x:BG):Pure prog 120 [A1 x,A1 x] (.bool true):=by
 have g:=A1.eq_1 x;have h:=J3 x.rem;refine zP func120 31 rfl λwf=>?_;apply yW;simp;(repeat apply xS);apply yT;apply yH;simp[g];refine i7 (h) rfl rfl (by simp;try rfl) ?_;simp;apply yH;simp;apply zT;try simp
theorem fF(t:Term):Pure prog 37 [Aj t,Aj t] (.bool true):=by
 have j:=J3 t.tail;have g:=λx=>T7 x;refine eJ func37 rfl rfl (by simp) λwf=>?_;have k:t.nodes.length<=al:=by have:=wf.1;simp[Aj,DZ,Bs]at this;exact this.1.1
 rw[ntmps37];apply yW;simp;refine xS (yS ?_);apply yH;simp[Aj];refine i7 (j) rfl rfl (by simp;try rfl) ?_;simp;apply yH;simp;apply AR;simp;apply xK;refine xS (yW ?_);simp;apply Bx;refine zL t.nodes.length (λi tm S=>tm 2=.ptr 0 1 0 0/\tm 3=.ptr 1 1 0 0/\tm 5=.d (.int .i64 i)/\S=[.row true 2 [.d (Aj t)],.row true 2 [.d (Aj t)]]) (by simp[Aj]) ?_;rintro i tm S hi ⟨t2,t3,t5,rfl⟩;refine xS (yW ?_);simp[t2,t5,Aj];apply AR;simp;refine⟨λh=>?_,λo=>?_⟩
 .obtain⟨nd,m⟩:=a9 (t.nodes[i]);have g:=g nd;apply xK;apply xB;refine yD [0,2,4,6,8,10,12,14,16,18,20,22] (by kernel_rfl) ?_;simp;apply yA 1;simp[t2,t3,t5,h,m];refine B5 (g) rfl (by simp[A1]) ?_;simp[A1];apply yA 1;simp;apply AR;simp;apply CT;apply yV;simp[t5];refine⟨h,_,_,am,?_⟩;simp[t2,t3,AL h k]
 .apply C7;apply yW;simp;apply zT;try simp
theorem Qt(t:Term)(v:t.nodes.length<=2 ^ 29):Pure prog 38 [Aj t] (Fx (Ip t.nodes)):=by
 have k:∀i,(Ip (t.nodes.take i)).length<=2 ^ 29:=λi=>by
  have h1:(Ip (t.nodes.take i)).length<=(t.nodes.take i).length:=acF _ _;simp at h1;omega
 have s:1<=al:=by simp[al]
 refine eJ func38 rfl rfl (by simp) λwf=>?_;have o:t.nodes.length<=al:=by have:=wf.1;simp[Aj,DZ,Bs]at this;exact this.1.1
 rw[ntmps38];apply yW;simp;apply yS;((refine AV.Ii rfl ?_ ?_);(focus(simp[FD,al];done));simp);apply yJ;simp;refine xS (yW ?_);simp;apply Bx;refine zL t.nodes.length (λi tm S=>tm 1=.ptr 0 1 0 0/\tm 3=.row 1 (Ip (t.nodes.take i)).length/\tm 4=.d (.int .i64 i)/\∃w,S=[.row true 2 [.d (Aj t)],.row w 4 ((Ip (t.nodes.take i)).map λx=>.d (A1 x))]) (by simp[Aj,Ip]) ?_;rintro i tm S hi ⟨t1,t3,t4,w,rfl⟩;refine xS (yW ?_);simp[t1,t4,Aj];apply AR;simp;refine⟨λg=>?_,λz=>?_⟩
 .obtain⟨nd,m⟩:=a9 (t.nodes[i]);have q:=A1.eq_1 nd;have hb:=k i;have u:(Ip (t.nodes.take i)).length+1<=2 ^ 30:=by omega
  have hS:Ip (t.nodes.take (i+1))=if nd.prod<0 then Ip (t.nodes.take i)++[nd]else Ip (t.nodes.take i):=by
   rw[pe g,m,Iy];split
   .next h=>simp[Ip,h]
   .next h=>simp[Ip,h]
  apply xK;apply xB;(repeat apply xS);apply yV;simp[t1,t4,g,m,q];by_cases j:nd.prod<0
  .rw[ap j]at hS;apply AR;simp[j];apply yV;simp[t1,t3,t4,g,m,u,s,Ah];apply yV;simp[t4];refine⟨g,_,_,am,?_⟩;simp[t1,AL g o,hS,q]
  .rw[ao j]at hS;apply AR;simp[j];apply CT;apply yV;simp[t4];refine⟨g,_,_,am,?_⟩;simp[t1,t3,AL g o,hS]
 .have e:i=t.nodes.length:=by omega
  subst e;rw[ne]at t3⊢;apply C7;(repeat apply xS);apply yV;simp[t3];(apply Af;refine⟨_,_,c9 1 (xs:=(Ip t.nodes).map A1) rfl (by simp),?_⟩;simp[Ba,CF])
theorem Kv(t s:Term)(h:Ip t.nodes=Ip s.nodes)(g:t.tail=s.tail)(j:t.nodes.length<=2 ^ 29)(k:s.nodes.length<=2 ^ 29):Pure prog 10 [Aj t,Aj s] (.bool true):=by
 have m:=Qt t j;have i:=Qt s k;rw[<-h]at i;have o:=fF ⟨Ip t.nodes,t.tail⟩;refine zP func10 16 rfl λwf=>?_;apply yW;simp;(repeat apply xS);refine yE [0,2,4,6,8,10,12,14,16,18,20,22] (by kernel_rfl) ?_;simp;apply yA 1;simp;refine B5 (m) rfl (by simp[Aj]) ?_;simp[Aj];apply yA 1;simp;refine B5 (i) rfl (by simp[Aj]) ?_;simp[Aj];apply yA 1;simp[g];refine B5 (o) rfl (by simp[Aj,g]) ?_;simp[Aj,g];apply yA 1;simp;apply zT;try simp
open Go.Proofs Tryz
structure IX where
 kind:Nat
 a:Nat
 b:Nat
 c:Nat
 right:List Nat
def DB(x:IX):D:=.agg [D.int .u8 (x.kind:Nat),D.int .u8 (x.a:Nat),D.int .u8 (x.b:Nat),D.int .u8 (x.c:Nat),D.sl (x.right.map λ(k:Nat)=>D.int .u8 k)]
@[simp] theorem aq(x:IX):Ai (.d (DB x))=[.d (D.int .u8 (x.kind:Nat)),.d (D.int .u8 (x.a:Nat)),.d (D.int .u8 (x.b:Nat)),.d (D.int .u8 (x.c:Nat)),.d (D.sl (x.right.map λ(k:Nat)=>D.int .u8 k))]:=rfl
@[simp] theorem aa(x:IX):At (.d (DB x))=true:=rfl
@[simp] theorem iy(x:IX):Bw (.d (DB x))=false:=rfl
@[simp] theorem aY(x:IX):BN (DB x)=[D.int .u8 (x.kind:Nat),D.int .u8 (x.a:Nat),D.int .u8 (x.b:Nat),D.int .u8 (x.c:Nat),D.sl (x.right.map λ(k:Nat)=>D.int .u8 k)]:=rfl
@[simp] theorem jc(x:IX):CZ.oneD (DB x)=true:=rfl
@[simp] theorem nP(x:IX):DZ (DB x)=Bs [D.int .u8 (x.kind:Nat),D.int .u8 (x.a:Nat),D.int .u8 (x.b:Nat),D.int .u8 (x.c:Nat),D.sl (x.right.map λ(k:Nat)=>D.int .u8 k)]:=rfl
@[simp] theorem ef(S:Sg)(x:IX):Dm S (.d (DB x))=some [D.int .u8 (x.kind:Nat),D.int .u8 (x.a:Nat),D.int .u8 (x.b:Nat),D.int .u8 (x.c:Nat),D.sl (x.right.map λ(k:Nat)=>D.int .u8 k)]:=rfl
def cG:AX:=⟨0,0,0,0,ByteArray.empty,false,⟨[],0⟩,[],[],⟨ByteArray.empty,0,ByteArray.empty,[],ByteArray.empty,⟨[],0⟩⟩,⟨ByteArray.empty,0,[],⟨[],0⟩,false,0,[],⟨false,0,0,0,0⟩⟩,[]⟩
def NL:V:=.agg [.d (.int .i64 0),.d (.int .i64 0),.d (.int .i64 0),.d (.int .i64 0),.d (.str ByteArray.empty),.d (.bool false),.full [],.d (.int .i64 0),.full [],.full [],.d (.str ByteArray.empty),.d (.int .i64 0),.d (.str ByteArray.empty),.full [],.d (.str ByteArray.empty),.full [],.d (.int .i64 0),.d (.str ByteArray.empty),.d (.int .i64 0),.full [],.full [],.d (.int .i64 0),.d (.bool false),.d (.int .i64 0),.full [],.d (.bool false),.d (.int .i64 0),.d (.int .i64 0),.d (.int .i64 0),.d (.int .i64 0),.full []]
def vD(v:V)(S':Sg):Prop:=S'=[]/\∃c,v=.d (Ao c)/\c.kind=8/\c.name.size=5
theorem fM(b:Nat):(Ys ⟨#[102,111,108,100]⟩ b).size=5:=by
 unfold Ys;rw[adv,FN];rfl
theorem Z3(g:AE)(x:IX)(Z:MG g 10 6)(hr:∀p∈g.AD,p.right.length<=16)(B:x.kind=7):BP prog 6 [.d (AA g),.d (DB x)] [] vD:=by
 obtain⟨wD,wv,wS,ht1,ho1,s,zt,yc,wZ,hf1⟩:=Z;refine BP.AK func6 (by kernel_rfl) rfl (by simp) λwf _=>?_;have hx:x.kind<256/\x.a<256/\x.b<256/\x.c<256/\∀k∈x.right,k<256:=by
  have:=wf.2.1;simp[JQ,DZ,Bs,Di,IL]at this;refine⟨by omega,by omega,by omega,by omega,λk hk=>?_⟩;have:=this.2.2.2.2.2 k hk;omega
 clear wf;obtain⟨hxk,hxa,t,hxc,hxr⟩:=hx;have wy:=GD x.b g.conds.length t (by omega);generalize Ir x.b g.conds.length=d at *;obtain⟨n,hn⟩:=a9 (g.conds.length);obtain⟨A,T⟩:=a9 (x.a % g.AD.length);have u:A<g.AD.length:=by rw[<-T];exact gc _ s
 have qa:((x.a:Int).tmod g.AD.length)=A:=by rw[c8 (by omega),<-T];simp
 have wa:IntKind.i64.wrap (x.a:Int)=x.a:=by rw[bv];omega
 have wb:IntKind.i64.wrap (x.b:Int)=x.b:=by rw[bv];omega
 have C:IntKind.i64.wrap (x.c:Int)=x.c:=by rw[bv];omega
 have wk:IntKind.i64.wrap (x.kind:Int)=x.kind:=by rw[bv];omega
 have yX:¬g.AD.length=0:=by omega
 have yY:g.AD≠[]:=by intro e;simp[e]at s
 have xn:¬g.A2.length=0:=by omega
 have yw:g.A2≠[]:=by intro e;simp[e]at wv
 have vv:1<=al:=by unfold al;omega
 obtain⟨L,hL⟩:=a9 (x.a % g.A2.length);have ql:((x.a:Int).tmod g.A2.length)=L:=by rw[c8 (by omega),<-hL];simp
 obtain⟨U,E⟩:=a9 (1+x.kind % 14);have wq:IntKind.i64.wrap (1+(x.kind:Int).tmod 14)=U:=by rw[c8 (by omega),bv];omega
 rw[ntmps6];refine xW λK h=>?_;simp;apply h;refine xW λK h=>?_;simp[wk,wq];apply h;(repeat refine xS ?_);refine xV λK h=>?_;simp[hn];refine h _ _ ?_;(try simp only[xQ,reduceIte]);have F:U=8:=by rw[<-E,B]
 subst F;refine k7 (R:=λtm S=>tm 2=.ptr 0 1 0 0/\tm 3=.ptr 1 1 0 0/\tm 4=.ptr 2 1 0 0/\tm 5=.d (.int .i64 8)/\tm 6=.d (.int .i64 n)/\S=[.row true 9 [.d (AA g)],.row true 5 [.d (DB x)],.row true 31 [NL]]) ?_ ?_
 .by_cases i:n=0
  .refine FX λK h=>?_;refine xH ?_;simp[i];refine B6 (h _ _ ?_);refine AR ?_;simp;refine CT ?_;simp[i,NL]
  ·(repeat refine xS ?_);refine HA λK h=>?_;(repeat((first|refine FJ rfl ?_ ?_;(·simp[i])|refine QX rfl ?_ ?_;(·simp[i])|refine Cd ?_ ?_;(·simp[i]));simp));refine B6 (h _ _ ?_);(try simp only[C4]);refine AR ?_;simp;refine CT ?_;simp[NL]
 rintro tm S ⟨t2,t3,t4,t5,t6,rfl⟩;refine k7 (R:=λtm S=>tm 2=.ptr 0 1 0 0/\tm 3=.ptr 1 1 0 0/\tm 4=.ptr 2 1 0 0/\tm 5=.d (.int .i64 8)/\tm 6=.d (.int .i64 n)/\tm 7=.d (.int .i64 A)/\S=[.row true 9 [.d (AA g)],.row true 5 [.d (DB x)],.row true 31 [NL]]) ?_ ?_
 .refine xV λK h=>?_;simp[t2,t3,wa,qa,yX];apply h;simp[t2,t3,t4,t5,t6]
 rintro tm S ⟨t2,t3,t4,t5,t6,t7,rfl⟩;refine k7 (R:=λtm S=>tm 2=.ptr 0 1 0 0/\tm 3=.ptr 1 1 0 0/\tm 4=.ptr 2 1 0 0/\tm 5=.d (.int .i64 8)/\tm 6=.d (.int .i64 n)/\tm 7=.d (.int .i64 A)/\tm 8=.ptr 3 1 0 0/\S=[.row true 9 [.d (AA g)],.row true 5 [.d (DB x)],.row true 31 [NL],.row true 2 [.d (AB d)]]) ?_ ?_
 .refine HA λK h=>?_;refine xJ ?_;simp[t3,t6];refine B9 (wy) rfl (by simp[hn,xN]) ?_;simp;refine xJ ?_;simp;refine B6 (h _ _ ?_);simp[t2,t3,t4,t5,t6,t7]
 rintro tm S ⟨t2,t3,t4,t5,t6,t7,t8,rfl⟩;refine xS (xW λK h=>?_);simp[t5];apply h;refine Bx ?_;refine xW λK h=>?_;simp;apply h;refine AR ?_;simp;refine xW λK h=>?_;simp;apply h;refine AR ?_;simp;refine xW λK h=>?_;simp;apply h;refine AR ?_;simp;refine xW λK h=>?_;simp;apply h;refine AR ?_;simp;refine xW λK h=>?_;simp;apply h;refine AR ?_;simp;refine xW λK h=>?_;simp;apply h;refine AR ?_;simp;refine xW λK h=>?_;simp;apply h;refine AR ?_;simp;refine xW λK h=>?_;simp;apply h;refine AR ?_;simp;refine xW λK h=>?_;simp;apply h;refine AR ?_;simp;obtain⟨o,W⟩:=a9 (g.AD[A]);have zm:=AH.eq_1 o;have hol:o.right.length<=16:=by rw[<-W];exact hr _ (b9 u)
 obtain⟨j,xw⟩:=a9 (max 1 o.right.length);have G:(if(1:Int)<o.right.length then(o.right.length:Int)else 1)=j:=by split<;>omega
 have v:(if 1<o.right.length then(o.right.length:Int)else 1)=j:=by split<;>omega
 have H:¬j=0:=by omega
 obtain⟨at_,Df⟩:=a9 (x.b % j);have X:at_<j:=by rw[<-Df];exact gc _ (by omega)
 have J:((x.b:Int).tmod j)=at_:=by rw[c8 (by omega),<-Df];simp
 have M:IntKind.i64.wrap ((at_:Int)+1)=((at_+1:Nat):Int):=by rw[bv];omega
 obtain⟨w,hdf⟩:=a9 (j - at_);have N:IntKind.i64.wrap ((j:Int) - at_)=w:=by rw[bv];omega
 have m:¬w=0:=by omega
 obtain⟨q,z⟩:=a9 (x.c % w);have xd:q<w:=by rw[<-z];exact gc _ (by omega)
 have P:((x.c:Int).tmod w)=q:=by rw[c8 (by omega),<-z];simp
 have Q:IntKind.i64.wrap (((at_+1:Nat):Int)+q)=((at_+1+q:Nat):Int):=by rw[bv];omega
 generalize xf:at_+1=Y at *;refine xW λK h=>?_;simp[t2,t7,u,W,zm,G];apply h;refine xW λK h=>?_;simp[t3,wb,J,H];apply h;(repeat refine xS ?_);refine xE [0,2,4,6,8,10,12,14,16,18,20,22,24,26,28,30,32,35] (by kernel_rfl) λK h=>?_;simp;refine xA 1 ?_;simp[t3,t5,t7,M,C,N,P,m,Q];refine B5 (YL ⟨#[102,111,108,100]⟩ x.b t (by decide)) rfl (by simp[al,xN]) ?_;simp;refine xA 1 ?_;simp[al];refine xX 131071 (by kernel_rfl) ?_;simp[Ac,Al,t3,t4,t5,t7,M,C,N,P,m,Q,al,NL];refine xM (h _ _ ?_);(try simp only[xQ,reduceIte]);refine Af ?_;(try simp only[xQ,reduceIte]);refine⟨_,_,am,by simp[t4],_,_,⟨rfl,{cG with kind:=8,number:=A,at_:=at_,to:=((Y+q:Nat):Int),name:=Ys ⟨#[102,111,108,100]⟩ x.b},rfl,rfl,fM x.b⟩,.inl ⟨Ao {cG with kind:=8,number:=A,at_:=at_,to:=((Y+q:Nat):Int),name:=Ys ⟨#[102,111,108,100]⟩ x.b},_,by simp[t4,Ba,Ao,cG],rfl,a8 0 (S':=[]) rfl (by simp) (by simp) (by simp)⟩⟩
theorem Ta(g:AE)(u fit:Bool)(ae:Int)(h:AE)(i:List Rewrite):
  (M5 g (VK g u fit ae h i false)).2.2≠0\/(NY g=0/\fit=true/\ae=0/\NY h=0/\S5 g h i=0/\M5 g (VK g u fit ae h i false)=(h,i,0)):=by
 unfold M5 VK;by_cases h1:NY g=0
 .rw[ao (by simp[h1])];by_cases j:(u&&fit)=false
  .left;rw[ap j];simp
  .rw[ao j];by_cases k:ae=0
   .rw[ao (by simp[k]),ao (by simp)];by_cases m:NY h=0
    .rw[ao (by simp[m])];by_cases o:S5 g h i=0
     .right;rw[ao (by simp[o])];simp[Bool.not_eq_false]at j;exact⟨h1,j.2,k,m,o,rfl⟩
     .left;rw[ap o];exact o
    .left;rw[ap m];exact m
   .left;rw[ap k];exact k
 .left;rw[ap h1];exact h1
theorem Vt(g:AE)(x:AX)(u:x.kind=8)(v:g.conds.length<=12):
  ∃(h:AE) (m:List Rewrite) (e:Int),Pure prog 7 [AA g,Ao x] (GI (h,m,e))/\(e≠0\/e=0/\h=A6 g x/\m=foldM g x/\S5 g (A6 g x) (foldM g x)=0/\∃j a b,BR g x j a b):=by
 have i:=sR g x u v;rcases Ta g (Hd ((λx:AX=>{x with number:=0,at_:=0,to:=0,name:=⟨#[]⟩}) x)) (IF g x) (if Ct g x.number then 311 else 0) (if Ct g x.number then g else A6 g x) (if Ct g x.number then []else foldM g x)with h|⟨h1,w,k,o,q,s⟩
 .exact⟨_,_,_,i,.inl h⟩
 .have hb:Ct g x.number=false:=by
   cases hb:Ct g x.number with
   |false=>rfl
   |true=>rw[hb]at k;simp at k
  simp[hb]at o q s i;rw[s]at i;obtain⟨B,j,a,t,hj,ha,z,A,l1,l2⟩:=Ib w;exact⟨_,_,_,i,.inr ⟨rfl,rfl,rfl,q,j,a,t,(Du.1 h1).1,o,hj,ha,z,A,l1,l2,hb⟩⟩
theorem VR{g:AE}{x:AX}{j a b:Nat}(F:BR g x j a b)(o:g.conds.length<=12)(k:∀p∈g.AD,2<=p.name.size/\p.name.size<=7)(i:x.name.size=5)(q:g.AD.length<=1000){N:Int->Bool}{r:Int->Nat}(s:Hf g N r):
  Pure prog 7 [AA (A6 g x),Ao (C1 x)] (GI (CC g x,G9 g x,0))/\S5 (A6 g x) (CC g x) (G9 g x)=0:=by
 have t:=qI (A6 g x) (C1 x) rfl o (λp h=>by
  rw[F.AD]at h;rcases y3 h with h|rfl
  .rcases dl.1 h with h|h
   .have:=k p h;omega
   .simp at h;subst h;show x.name.size<=_
    omega
  .have:=k _ F.mem;show(A3 g x).name.size<=_
   omega)
 rw[F.back o k i q s]at t;obtain⟨u,v,m⟩:=F.kW s;exact⟨t,F.rZ (Du.2 ⟨F.nF k i q,m.none⟩)⟩
theorem Vc{l k:List BG}(h:Ip l=Ip k)(i:∀n∈k,n.rem.length<=12)(hi:∀n∈l,¬n.prod<0->n.rem=[]):∀n∈l,n.rem.length<=12:=λn hn=>by
 by_cases g:n.prod<0
 .have:n∈Ip l:=ms.2 ⟨hn,by simpa using g⟩;rw[h]at this;exact i n (ms.1 this).1
 .rw[hi n hn g];simp
theorem Tk{g:AE}{u:TF}{s:Symbol}(h:u.fit g [s])(m:List Rewrite):∃M Y,B4 m u 0=[(M,Y)]:=by
 have h1:=TF.GB h;have i:=GZ m u 0;rw[h1]at i;match B4 m u 0,i with
 |[(M,Y)],_=>exact⟨M,Y,rfl⟩
theorem Oj{a k:Nat}:∀x∈BF a k,x.hole<((a+k:Nat):Int):=by
 induction k with
 |zero=>simp[BF]
 |succ k h=>
  intro x g;rcases dl.1 g with g|g
  .have:=h x g;omega
  .simp at g;subst g;show((a+k:Nat):Int)<_
   omega
theorem ZD{g:AE}{u:TF}{s:Symbol}(h:u.fit g [s]):u.Cs=[u.flat]:=by
 have h1:=TF.Qu u;rw[TF.GB h]at h1;have i:=TF.Cu u;match j:u.Cs,h1 with
 |[l],_=>rw[j]at i;simp at i;rw[i]
theorem BR.maps{g:AE}{x:AX}{j a b:Nat}(F:BR g x j a b)(T:g.conds.length<=12)(zI:S5 g (A6 g x) (foldM g x)=0)(yN:S5 (A6 g x) (CC g x) (G9 g x)=0)
  (t:Term) (u:TF) (l:Int) (U:t.nodes=u.flat) (G:u.fit g [⟨false,l⟩]) (hlen:u.flat.length<=100) (J:∀n∈u.flat,n.rem.length<=12) (K:t.tail.length<=12):
  ∃t1 t2:Term,Pure prog 9 [AA g,AA (A6 g x),A8 (foldM g x),Aj t] (.Cb [Aj t1,AF 0])/\Pure prog 9 [AA (A6 g x),AA (CC g x),A8 (G9 g x),Aj t1] (.Cb [Aj t2,AF 0])/\Ip t.nodes=Ip t1.nodes/\t.tail=t1.tail/\Ip t.nodes=Ip t2.nodes/\t.tail=t2.tail/\t1.nodes.length<=200/\t2.nodes.length=t.nodes.length:=by
 have ab:a<=b:=by have:=F.ab;omega
 obtain⟨n,hn⟩:=a9 ((A3 g x).right.length);have X:b<=n:=by have:=F.bl;omega
 have n16:n<=16:=hn▸DH F.c0 _ F.mem;have A:g.AD[j]?=some (A3 g x):=by rw[F.Hy];exact ci F.jl
 have L:u.arity j n:=hn▸TF.YT A G;obtain⟨c,M⟩:=a9 (g.AD.length);have hjc:j<c:=M▸F.jl;have N:foldM g x=[⟨j,-1,-1,([Be j]++BF 0 a)++[Be c]++BF a (n - a)⟩]:=by simp[foldM,Wr,F.hj,F.ha,hn,M]
 obtain⟨Y,i2⟩:=cZ (c:=c) ab X L 0;rw[<-N]at Y i2;obtain⟨M1,Y1,e1⟩:=Tk G (foldM g x);have m:(u.BM j c a b).fit (A6 g x) [⟨false,l⟩]:=by
  refine TF.Z8 (g:=g) (h:=A6 g x) A ab (by rw[hn];exact X) rfl (λp q hp H=>?_) ⟨{A3 g x with right:=Koi.DE g x},by rw[F.at,ap rfl],rfl,F.DE⟩ ⟨Er g x,?_,rfl,F.part⟩ G
  .have wF:=(df.1 H).1;rw[F.at,ao hp,ao (by omega)];exact H
  .rw[F.at,ao (by omega),ap M.symm]
 have Z:MX M1=(u.BM j c a b).flat:=by
  rw[IW,e1,ZD m]at Y;simpa using Y
 have yc:(u.BM j c a b).flat.length<=200:=by have:=TF.YN j c ab u;omega
 have o:M1.length=(u.BM j c a b).flat.length:=by rw[<-Z];simp[MX]
 have hu0:0<(u.BM j c a b).flat.length:=by have:=(u.BM j c a b).Lp;rw[TF.GB m]at this;simp at this;omega
 have B:∀r∈foldM g x,Xx g r:=by
  rw[N];intro r P;simp only[cR]at P;subst P;have H:∀(p:Nat) q,(j:Int)=p->g.AD[p]?=some q->q=A3 g x:=λp q h1 i=>by
   have:j=p:=by omega
   subst this;rw[A]at i;cases i;rfl
  refine⟨?_,λp q h1 i=>?_,λp q h1 i _ y s=>?_,λh=>?_,λp q c2 q2 _ _ h=>?_⟩
  .simp[CL,al];omega
  .show(-1:Int)<_;omega
  .rw[H p q h1 i,hn];have v:∀k:Int,(Be k).hole= -1:=λ_=>rfl;simp only[dl,cR]at s;rcases s with((rfl|s)|rfl)|s
   .rw[v];omega
   .have:=Oj y s;omega
   .rw[v];omega
   .have:=Oj y s;omega
  .have h':(0:Int)<=-1:=h;omega
  .have h':(0:Int)<=-1:=h;omega
 have P1:=cO g (A6 g x) (foldM g x) t u l F.c0 T T zI U G (by omega) J K B e1 (by omega) (by intro h;rw[h]at o;simp at o;omega) i2;rw[Z]at P1;obtain⟨W,C⟩:=a9 (u.BM j c a b);have Q:G9 g x=[⟨j,a,c,[Be ((c+1:Nat):Int)]++BF 0 n⟩]:=by simp[G9,F.hj,F.ha,hn,M]
 obtain⟨k1,k2⟩:=mN (c:=c) (d:=c+1) (by omega) ab X L 0;rw[<-Q,C]at k1 k2;rw[C]at m Z yc o hu0 P1;obtain⟨M2,Y2,e2⟩:=Tk m (G9 g x);have R:(u.Hv j (c+1)).Cs=[(u.Hv j (c+1)).flat]:=by
  have h1:=TF.Qu (u.Hv j (c+1));rw[TF.PT,TF.GB G]at h1;have i:=TF.Cu (u.Hv j (c+1));match H:(u.Hv j (c+1)).Cs,h1 with
  |[l],_=>rw[H]at i;simp at i;rw[i]
 have yj:MX M2=(u.Hv j (c+1)).flat:=by
  rw[IW,e2,R]at k1;simpa using k1
 have w:M2.length=u.flat.length:=by rw[<-TF.U1 j (c+1) u,<-yj];simp[MX]
 have z:Ip W.flat=Ip u.flat:=C▸TF.Y3 j c ab u;have hu00:0<u.flat.length:=by have:=u.Lp;rw[TF.GB G]at this;simp at this;omega
 have hc0:C2 (A6 g x)=0:=(Du.1 F.h0).1;have S:(A6 g x).AD[j]?=some {A3 g x with right:=Koi.DE g x}:=by rw[F.at,ap rfl]
 have hhc:(A6 g x).AD[c]?=some (Er g x):=by rw[F.at,ao (by omega),ap M.symm]
 have wi:(Koi.DE g x).length=n - (b - a)+1:=by
  rw[F.DE];simp[hn];omega
 have wF:(Er g x).right.length=b - a:=by rw[F.part];simp[hn];omega
 have E:∀r∈G9 g x,Xx (A6 g x) r:=by
  rw[Q];intro r P;simp at P;subst P;refine⟨?_,λp q h1 i=>?_,λp q h1 i h y s=>?_,λh=>?_,λp q c2 q2 h1 i _ h3 h4 y s=>?_⟩
  .simp[CL,al];omega
  .have ya:(j:Int)=p:=h1;have:j=p:=by omega
   subst this;rw[S]at i;cases i;show(a:Int)<((Koi.DE g x).length:Int)
   rw[wi];have:=F.ab;omega
  .have h':(a:Int)<0:=h;omega
  .show(0:Int)<=(c:Int);omega
  .have ya:(j:Int)=p:=h1;have h3':(c:Int)=c2:=h3;have:j=p:=by omega
   subst this;have:c=c2:=by omega
   subst this;rw[S]at i;cases i;rw[hhc]at h4;cases h4;show y.hole+1<((Koi.DE g x).length:Int)+((Er g x).right.length:Int)
   rw[wi,wF];have hy':y=Be ((c+1:Nat):Int)\/y∈BF 0 n:=by simpa using s
   rcases hy' with rfl|s
   .have v:(Be ((c+1:Nat):Int)).hole= -1:=rfl;rw[v];omega
   .have:=Oj y s;omega
 have P2:=cO (A6 g x) (CC g x) (G9 g x) ⟨W.flat,t.tail⟩ W l hc0 T T yN rfl m (by omega) (Vc z J (LH W)) K E e2 (by omega) (by intro h;rw[h]at w;simp at w;omega) k2;rw[yj]at P2;exact⟨_,_,P1,P2,by rw[U];exact z.symm,rfl,by rw[U];exact(TF.iE j (c+1) u).symm,rfl,yc,by rw[U];exact TF.U1 j (c+1) u⟩
noncomputable def pj(y:Input)(x:IX)(g:AE)(t:Term)(ch:AX)(h:AE)(o:AO):Sg:=
 [.row true 8 [.d (Dj y)],.row true 5 [.d (DB {x with kind:=7})],.row true 9 [.d (AA g)],.row true 2 [.d (Aj t)],.row true 31 [.d (Ao ch)],.row true 9 [.d (AA (A6 g ch))],.row true 9 [.d (AA h)],.row true 13 [.d (AH (D9 g ch))],.row true 13 [.d (AH o)]]
theorem pA(T:Pure prog 4 [] (.bool true))(y:Input)(x:IX):AG prog 3 [.d (Dj y),.d (DB x)] [] (.d (.bool true)) []:=by
 refine zD func3 187 rfl λwf _=>?_;apply yW;simp;apply yS;apply yJ;simp;refine B9 (T) rfl (by simp) (yJ ?_);simp;apply yS;apply yJ;simp;refine AV.LO (eX y) [] rfl ?_ ?_ ?_
 .simp
 .rintro v P ⟨rfl,g,c,t,ok,kn,rfl,_⟩;simp
 rintro v P ⟨rfl,g,c,t,ok,kn,rfl,K,_,_,htu⟩;simp;apply yJ;simp;apply yW;simp[DB];refine ed (i5 1 (xs:=[DB {x with kind:=7}]) rfl ?_) ?_
 .simp[Dw,DB,Ba,Dx,CF]
 simp;have M:=K.okF;have U:=Z3 g {x with kind:=7} K.toMG (DH M.1) rfl;(repeat apply xS);apply yT;apply yJ;simp;refine AV.LO U [] rfl ?_ ?_ ?_
 .simp
 .rintro v P ⟨rfl,c,rfl,_⟩;simp
 rintro v P ⟨rfl,ch,rfl,hck,yM⟩;simp;apply yJ;simp;obtain⟨h,m,e,W,yd⟩:=Vt g ch hck (by have:=K.c1;omega);simp[GI]at W;(repeat apply xS);apply yT;apply yJ;simp;refine B9 (W) rfl (by simp[xN]) (yJ ?_);simp;rcases yd with he|⟨rfl,rfl,rfl,zI,j,a,b,F⟩
 .refine xS (yW ?_);simp;apply AR;simp[he];(repeat apply xS);apply yV;simp;(apply Af;refine⟨_,_,_,am,?_,?_,a8 0 (S':=[]) rfl (by simp) (by simp) (by simp)⟩<;>simp[Ba])
 obtain⟨N,hac,_⟩:=K.vg.ac;obtain⟨yk,yN⟩:=VR F (by have:=K.c1;omega) K.sh.p2 yM (by have:=K.p1;omega) hac;simp[GI]at yk;have zs:=Ao.eq_1 ch;have hbe:Ao (C1 ch)=.agg [AF 7,AF ch.number,AF ch.at_,AF 0,BO ByteArray.empty,.bool false,.sl [],AF 0,.sl [],.sl [],BO ByteArray.empty,AF 0,BO ByteArray.empty,.sl [],BO ByteArray.empty,.sl [],AF 0,BO ByteArray.empty,AF 0,.sl [],.sl [],AF 0,.bool false,AF 0,.sl [],.bool false,AF 0,AF 0,AF 0,AF 0,.sl []]:=rfl;refine xS (yW ?_);simp;apply AR;simp;apply xK;(repeat apply xS);apply yT;apply yJ;simp[zs];rw[hbe]at yk;refine B9 (yk) rfl (by simp[xN]) (yJ ?_);simp;obtain⟨w,G⟩:=a9 (g.AD.length);have hp22:w<=22:=by have:=K.p1;omega
 obtain⟨X,z⟩:=a9 (CC g ch);have zY:X.AD.length=w+2:=by rw[<-z,F.NR,eN,vU,F.len,G];rfl
 have Q:X.AD[w+1]?=some (D9 g ch):=by
  rw[<-z,F.NR,ls (by rw[vU,F.len];omega)];simp[F.len,G]
 have hjn:j<w:=G▸F.jl;have hjq:∃q,X.AD[j]?=some q/\q.cond.root=0:=by
  refine⟨{A3 g ch with right:=Koi.DE g ch,cond:=⟨[],0⟩},?_,rfl⟩;rw[<-z,F.NR,ej (by rw[vU,F.len];omega),zl (by rw[F.len];omega)]
 obtain⟨q,wz,wW⟩:=hjq;obtain⟨hq3,hq4⟩:=df.1 wz;obtain⟨hl3,hl4⟩:=df.1 Q;have Y:g.AD[j]?=some (A3 g ch):=by rw[F.Hy];exact ci F.jl
 obtain⟨ho3,Z⟩:=df.1 Y;have A:=F.hj;rw[z]at yN⊢;rw[A]at zs;have w1:IntKind.i64.wrap ((w:Int)+2)=(w:Int)+2:=by rw[bv];omega
 have w2:IntKind.i64.wrap ((w:Int)+2 - 1)=((w+1:Nat):Int):=by rw[bv];omega
 have n1:¬((w:Int)+1<0):=by omega
 have l1:(w:Int)+1<(w:Int)+2:=by omega
 refine xS (yS ?_);apply yH;simp[zY,G,w1];apply AR;simp;apply CT;have n2:(0:Int)<=(w:Int)+1:=by omega
 (repeat apply xS);apply yV;simp[zY,w2,hl4,l1,n2];obtain⟨o,J⟩:=a9 (A3 g ch);rw[J]at Z;have H:(D9 g ch).left=o.left:=by rw[<-J];rfl
 have s:(D9 g ch).right=o.right:=by rw[<-J];rfl
 have B:(D9 g ch).cond=o.cond:=by rw[<-J];rfl
 have C:=AH.eq_1 o;have L:=AH.eq_1 (D9 g ch);have hqe:=AH.eq_1 q;rw[H,s,B]at L;have vY:=MM o.cond o.cond;have hjz:(0:Int)<=(j:Int):=by omega
 have wP:(j:Int)<w:=by omega
 have hjl2:(j:Int)<(w:Int)+2:=by omega
 have hjl3:j<w+2:=by omega
 apply yW;simp[A,G,Z,wP,hjn];refine xS (yS ?_);apply yH;simp[H,s,B];refine i7 (vY) rfl rfl (by simp[xN];try rfl) ?_;simp;apply yH;simp[zY,hq4,hqe,wW,hjl2,hjl3];apply AR;simp;apply CT;have hor:o.right.length<=al:=by
  have h1:=DH M.1 _ F.mem;rw[J]at h1;unfold al;omega
 refine k7 (R:=λtm S=>tm 5=.d (.bool true)/\tm 6=.ptr 2 1 0 0/\tm 8=.ptr 3 1 0 0/\tm 9=.d (.bool ok)/\tm 11=.ptr 5 1 0 0/\tm 12=.d (A8 (foldM g ch))/\tm 14=.ptr 6 1 0 0/\tm 15=.d (A8 (G9 g ch))/\S=pj y x g t ch X o) ?_ ?_
 .apply yW;simp;apply Bx;refine zL o.right.length (λi tm S=>tm 5=.d (.bool true)/\tm 6=.ptr 2 1 0 0/\tm 8=.ptr 3 1 0 0/\tm 9=.d (.bool ok)/\tm 11=.ptr 5 1 0 0/\tm 12=.d (A8 (foldM g ch))/\tm 14=.ptr 6 1 0 0/\tm 15=.d (A8 (G9 g ch))/\tm 17=.ptr 7 1 0 0/\tm 18=.ptr 8 1 0 0/\tm 19=.d (.int .i64 i)/\S=pj y x g t ch X o) (by simp[pj,Ao,AA,AH];exact⟨A.symm,H.symm,by rw[s],by rw[B],by rw[B]⟩) ?_;rintro i tm S hi ⟨t5,t6,t8,t9,t11,t12,t14,t15,t17,t18,t19,rfl⟩;unfold pj;refine xS (yW ?_);simp[t17,t19,L];apply AR;simp;refine⟨λvc=>?_,λvw=>?_⟩
  .obtain⟨sy,ye⟩:=a9 (o.right[i]);have hse:=AI.eq_1 sy;apply xK;apply xB;refine yD [0,2,4,6,8,10,12,14,16,18,20] (by kernel_rfl) ?_;simp;apply yA 1;simp[t17,t18,t19,vc,C,ye];apply AR;simp;apply CT;apply yV;simp[t19];refine⟨vc,_,_,am,?_⟩;simp[t5,t6,t8,t9,t11,t12,t14,t15,t17,t18,AL vc hor,L,C]
  .apply C7;simp[t5,t6,t8,t9,t11,t12,t14,t15,L,C]
 rintro tm S ⟨t5,t6,t8,t9,t11,t12,t14,t15,rfl⟩;unfold pj;have k:=Aj.eq_1 t;cases ok with
 |false=>
  refine xS (yS ?_);apply yH;simp[t9];apply AR;simp;(repeat apply xS);apply yV;simp[t5];(apply Af;refine⟨_,_,_,am,?_,?_,a8 0 (S':=[]) rfl (by simp) (by simp) (by simp)⟩<;>simp[Ba])
 |true=>
  obtain⟨u,hu,hf,_,hr1,hr2⟩:=htu rfl;by_cases E:100<t.nodes.length
  .have zS:(100:Int)<t.nodes.length:=by omega
   refine xS (yS ?_);apply yH;simp[t8,t9,k,zS];apply AR;simp;(repeat apply xS);apply yV;simp[t5];(apply Af;refine⟨_,_,_,am,?_,?_,a8 0 (S':=[]) rfl (by simp) (by simp) (by simp)⟩<;>simp[Ba])
  .have zS:¬(100:Int)<t.nodes.length:=by omega
   obtain⟨s1,s2,P1,P2,v1,v2,v3,v4,v5,v6⟩:=F.maps (by have:=K.c1;omega) zI (z▸yN) t u g.start hu hf (by rw[<-hu];omega) hr1 hr2;rw[z]at P2;have L1:=Kv t s1 v1 v2 (by omega) (by omega);have L2:=Kv t s2 v3 v4 (by omega) (by omega);have yu:=Aj.eq_1 s2;refine xS (yS ?_);apply yH;simp[t8,t9,k,zS];apply AR;simp;apply xK;apply yS;apply yJ;simp[t6,t8,t11,t12];refine B9 (P1) rfl (by simp[k,xN]) (yJ ?_);simp;apply yS;apply yJ;simp[t11,t14,t15];refine B9 (P2) rfl (by simp[xN]) (yJ ?_);simp;(repeat apply xS);apply yT;apply yH;simp[t8];refine i7 (L1) rfl rfl (by simp[k,xN];try rfl) ?_;simp;apply yH;simp[t8];refine i7 (L2) rfl rfl (by simp[k,xN];try rfl) ?_;simp;apply yH;simp[t8,yu,v6,t5];(apply Af;refine⟨_,_,_,am,?_,?_,a8 0 (S':=[]) rfl (by simp) (by simp) (by simp)⟩<;>simp[Ba])
end Go.Koi
