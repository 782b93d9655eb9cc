/-
  Part 19 of the proof that the law ChangeRestricts returns true for every input.
-/
import Derived.Test.YtbpjppgjnkklnaaGreatDoorG17
set_option maxHeartbeats 64000000
set_option maxRecDepth 100000
open List renaming length->Z
open Go.IntKind renaming wrap->b8
open ByteArray renaming empty->h9
open Bool renaming true->J,false->ap
open Go.Koi.D renaming int->br
namespace Go.Koi
open Go.Proofs Tryz DT
theorem Kz.F7{h:AE}{c:Nat}(L:okF h)(H:Z h.conds<=12)(U:c<2 ^ 64){u:TF}{N:List BD}{A:List Int}{ws rs:List Wd}{e:Int}(D:Kz u N A ws rs e)(W:u.fit h [⟨ap,h.start⟩])(hN:Z N<=100)(hR:Z rs<=2 ^ 19)
  (X:∀n∈u.flat,n.prod<0->∃k:Nat,n.token=k/\∃hk:k<Z h.AT,D6 h.AT[k].cond c=J/\h.AT[k].cls=0)
  (Y:∀j (hj:j<Z N),N[j].prod<0->∃w,ws[lc N j]?=some w/\w.tok=N[j].token) (hr:∀r∈rs,oq h r):
  Pure prog 11 [AA h,Dt c,C7 ⟨ws,rs,e⟩,CE (Cg N A ws e)] (encI (if hasB h c then if JR (Cg N A ws e) (V6 h c)then 0 else 90 else 1)):=by
 have C:Z (Cg N A ws e)=Z N:=Dy ..;have hS:=D.yx L.1 H U W (by omega) λn H hp=>let⟨k,a,b,d,_⟩:=X n H hp;⟨k,a,b,d⟩;obtain⟨f0,-,-⟩:=EI.first L.1 W
 have h0:0<Z N:=by rw[D.n];exact f0
 obtain⟨l1,l2⟩:=ZP C (λi hi M=>by rw[C4 hi];exact(D.xp M).1) (Z (Cg N A ws e)) 0 (by omega);have lz:lc N 0=0:=rfl;have P:Z (QL (Cg N A ws e) 0)=Z ws:=by rw[D.wl];omega
 have hwN:Z ws<=100:=by rw[D.wl];have:=Qp N (Z N);omega
 have g:∀m (E:m<Z ws),∃j:Nat,(QL (Cg N A ws e) 0)[m]'(by omega)=j/\∃hj:j<Z N,N[j].prod<0/\lc N j=m:=λm E=>by
  obtain⟨j,Q,o,v,K⟩:=l2 m (by omega);exact⟨j,Q,o,v,by omega⟩
 have o1:W7 h ws e 0:=by
  refine⟨D.sp.w1,λa ha=>D.sp.b1 a (fi.2 (.inl ha)),λa ha=>?_⟩;obtain⟨m,E,rfl⟩:=lm.1 ha;obtain⟨j,_,o,v,K⟩:=g m E;obtain⟨w,w1,R⟩:=Y j o v;rw[K,ej E]at w1;obtain⟨k,e1,e2,e3,e4⟩:=X N[j] (by rw[<-D.n];exact cL o) v;exact⟨k,by rw[nu w1,R,e1],e2,e4⟩
 have o2:W7 h rs e 2:=⟨D.sp.r1,λa ha=>D.sp.b1 a (fi.2 (.inr ha)),hr⟩;have S:=Y2 h ⟨ws,rs,e⟩ o1 o2 D.sp.x1 D.sp.e0 (by simp only[jp];omega);have T:=Yv ⟨ws,rs,e⟩ (Cg N A ws e) (by rw[C];omega) (λh=>by rw[h]at C;simp at C;omega) P (by show Z ws<=_;omega) λm E=>by
  have B:m<Z ws:=by omega
  obtain⟨j,Q,o,v,K⟩:=g m B;have q:j<Z (Cg N A ws e):=by rw[C];exact o
  obtain⟨w,w1,R⟩:=Y j o v;have F:=D.xl o v;have G:ws[lc N j]'(D.wk o v)=ws[m]:=by congr 1
  rw[K,ej B]at w1;refine⟨j,Q,q,B,?_,?_,?_⟩
  .rw[C4 q,F,<-G]
  .rw[C4 q,F,<-G]
  .rw[C4 q,(D.xp o).2];show _=ws[m].tok
   rw[nu w1,R]
 exact Zv hS (by rw[C];omega) (Yo h L H c U) S T D.zW
open Go.Proofs DT
theorem VG.all{g:AE}{kn:Bool}(h:VG g kn)(P:Token->Bool)(i:∀t,P (Mm t)=P t)(j:De.all P=J):∀t∈g.AT,P t=true:=λt k=>by
 have m:Mm t∈De:=by rw[<-h.tk];exact List.mem_map_of_mem k
 rw[<-i];exact ed.1 j _ m
def x9(t:Token):Bool:=decide (t.literal.size<=64)&&decide (t.C6.size<=64)&&(decide (0<t.literal.size)||decide (0<t.C6.size)||decide (t.cls=2)||decide (t.cls=1))
theorem lG:De.all x9=true:=by decide+kernel
theorem YY:∀s∈VW,0<s.size/\s.size<=8:=by decide
theorem vP:∀s∈wQ,0<s.size/\s.size<=64:=by decide
theorem uk{s:ByteArray}(h:s≠⟨#[]⟩):0<s.size:=by
 obtain⟨⟨l⟩⟩:=s;cases l with
 |nil=>exact absurd rfl h
 |cons a l=>exact Nat.succ_pos _
theorem TY.sm{g:AE}{kn:Bool}(q:VG g kn){c:Nat}{n:BD}(h:TY g c n)(u:n.prod<0->∃t,g.AT[n.token.toNat]?=some t/\t.cls=0)(v:¬n.prod<0->n.text=h9):vC n/\wD n:=by
 obtain⟨w,o,A,_⟩:=h;have key:n.prod<0->0<n.text.size/\n.text.size<=64:=λk=>by
  obtain⟨t,t1,t2⟩:=A k;obtain⟨C,t3,t4⟩:=u k;rw[t1]at t3;cases t3;have j:=q.all x9 (λ_=>rfl) lG t (oj t1);simp only[x9,cF,ru,fc]at j;rcases t2 with⟨i,m⟩|B|⟨m,i⟩
  .rw[i];exact⟨uk m,j.1.1⟩
  .exact vP _ B
  .have z:t.literal.size=0:=by rw[m];rfl
   rw[i];refine⟨?_,j.1.2⟩;have:=j.2;omega
 refine⟨⟨w,λs j=>(YY s (o s j)).2,?_⟩,λs j=>(YY s (o s j)).1,λk=>(key k).1⟩;by_cases k:n.prod<0
 .exact(key k).2
 .rw[v k];exact er _
theorem iL{g:AE}(K:B3 g=0)(u:TF):∀{o:List Symbol},u.fit g o->(∀s∈o,Fi g s=J)->∀n∈u.flat,n.prod<0->∃k:Nat,n.token=k/\∃F:k<Z g.AT,g.AT[k].cls=0:=by
 obtain⟨n1,_⟩:=(HV _ _).1 (Bx K).2.2.2.2.1;induction u with
 |nil=>intro o _ _ n i;exact absurd i (by simp[TF.flat])
 |leaf k s r x A=>
  intro o B w n i v;obtain⟨k1,k2,L,rfl,C⟩:=B;rw[TF.flat,ke]at i;rcases i with rfl|i
  .have h:=w ⟨J,k⟩ (by simp);obtain⟨m,rfl⟩:∃m:Nat,k=m:=⟨k.toNat,by omega⟩;have G:m<Z g.AT:=by omega
   refine⟨m,rfl,G,?_⟩;simpa[Fi,G]using h
  .exact A C (λs j=>w s (by simp[j])) n i v
 |node p k x E A=>
  intro o B w n i v;obtain⟨q,k1,F,L,rfl,C⟩:=B;rw[TF.flat,ke,fi]at i;rcases i with rfl|i|i
  .exact absurd v (by simp[Gs])
  .have H:=(n1 q (oj k1)).1;simp only[Es,cF,ed]at H;exact E F H.2 n i v
  .exact A C (λs j=>w s (by simp[j])) n i v
theorem RY{g:AE}{c:Nat}(q:B3 g=0){u:TF}{l:Int}(i:u.fit g [⟨ap,l⟩])(v:∀n∈u.flat,TY g c n)(w:Fi g ⟨ap,l⟩=J):∀n∈u.flat,n.prod<0->∃k:Nat,n.token=k/\∃C:k<Z g.AT,D6 g.AT[k].cond c=J/\g.AT[k].cls=0:=λn j o=>by
 obtain⟨k,k1,k2,k3⟩:=gW u i (λs h=>by rw[go.1 h];rfl) v n j o;obtain⟨m,A,m2,B⟩:=iL q u i (λs h=>by rw[go.1 h];exact w) n j o;have e:m=k:=by omega
 subst e;exact⟨m,A,m2,k3,B⟩
theorem Kz.of{g:AE}{lines:List Int}{N:List BD}{u:TF}(F:N=u.flat)(hS:∀n∈N,vC n)(G:∀n∈N,wD n){h:List ByteArray}(o:∀s∈h,0<s.size/\s.size<=8){DG:ByteArray}{rs:List Wd}{f:Bool}
  (H:EF g ((Cv g lines N).DG,(Cv g lines N).rs,(Cv g lines N).f2) h=(DG,rs,f)):
  Kz u N (u.ends 0) (Cv g lines N).ws rs DG.size/\(∀r∈rs,oq g r)/\(∀j (hj:j<Z N),N[j].prod<0->∃w,(Cv g lines N).ws[lc N j]?=some w/\w.tok=N[j].token)/\Z rs<=12 * Z N+Z h:=by
 have q:=λi hi=>VJ g lines N hS i hi;obtain⟨v,A,B⟩:=mw g lines N G (λi hi=>(q i hi).2.1) (Z N) (c9 _);obtain⟨w1,C,K⟩:=q (Z N) (c9 _);rw[ns]at v A B w1 C K;obtain⟨E,m2⟩:=Wf g (Cv g lines N).ws h ((Cv g lines N).DG,(Cv g lines N).rs,(Cv g lines N).f2) (λs m=>(o s m).1) v A;have k:=IT g h ((Cv g lines N).DG,(Cv g lines N).rs,(Cv g lines N).f2) (λs m=>(o s m).2);rw[H]at E m2 k;simp only[]at k;exact⟨⟨F,rfl,E,C⟩,m2,λj hj L=>B j hj hj L,by omega⟩
theorem RZ{g:AE}(i:B3 g=0):Fi g ⟨ap,g.start⟩=true:=by
 have h:=(Bx i).2.2.2.1;simp only[Hp,cF,fc]at h;simp[Fi,h.1.2,h.2]
theorem Ee.okF{g h:AE}(H:Ee g h){kn:Bool}(i:VG g kn):Koi.okF h:=by
 obtain⟨N,j,_⟩:=i.ac;exact⟨H.ck,(H.sJ j).none⟩
def QY(k:Int)(n:Int)(v:Bool)(d:AL):AZ:=⟨k,n,0,0,h9,v,d,[],[],⟨h9,0,h9,[],h9,⟨[],0⟩⟩,⟨h9,0,[],⟨[],0⟩,ap,0,[],⟨ap,0,0,0,0⟩⟩,[]⟩
theorem Sm(k:Int):HP (QY k 0 ap ⟨[],0⟩)=true:=by
 simp[HP,sQ,tC,rF,sq,QY,Ro];and_intros<;>exact ab9 rfl
theorem T6{g h:AE}(k:MD g=0){u fit j:Bool}(m:u=J)(o:fit=J)(q:j=ap)(v:MD h=0->cE g h []=0):Mn g (Wh g u fit 0 h [] j)=if MD h≠0 then(FX,[],MD h)else(h,[],0):=by
 subst m o q;unfold Mn Wh;rw[bv (by simp[k]),bv (by simp),bv (by simp),bv (by simp)];by_cases i:MD h=0
 .simp[i,v i]
 .simp[i]
theorem Rg{g h:AE}{kn:Bool}(k:VG g kn)(i:Koi.okF g)(H:Ee g h){u fit j:Bool}(m:u=J)(o:fit=J)(q:j=ap):Mn g (Wh g u fit 0 h [] j)=(h,[],0):=by
 have h0:=D0.2 (H.okF k);rw[T6 (D0.2 i) m o q λ_=>H.wg (D0.2 i) h0,bv (by simp[h0])]
theorem guard_apply{g:AE}{kn:Bool}(u:VG g kn)(k:Koi.okF g)(i:Z g.conds<=12){n:Nat}(j:n<Z g.AD){d:AL}(m:B1 d (Z g.conds)=J):
  ∃h:AE,Pure prog 7 [AA g,Ad (QY 6 n ap d)] (Fz (h,[],0))/\Ee g h:=by
 have o:=wo g (QY 6 n ap d) rfl i;have q:(QY 6 n ap d).number=n:=rfl;have v:(QY 6 n ap d).cond=d:=rfl;have w:Bd g (QY 6 n ap d)=g.AD[n]:=by simp[Bd,q,List.getD,j]
 obtain⟨_,A⟩:=PA i (HJ k.1 (cL j)) m;obtain⟨B,_⟩:=PA i (HJ k.1 (cL j)) m;have H:=Rp k.1 j A;rw[w,q,v,ne]at o;rw[Rg u k H]at o
 .exact⟨_,o,H⟩
 .exact Sm 6
 .have h0:F7 d=0:=by
   simp only[B1,cF,fc]at m;exact m.1
  simp[DQ,q,j,h0]
 .simp[B]
theorem Zq{g:AE}{kn:Bool}(C:VG g kn)(o:Koi.okF g)(i:Z g.conds<=12){n:Nat}(u:n<Z g.conds)(v:Bool):
  ∃(h:AE) (e:Int),Pure prog 7 [AA g,Ad (QY 5 n v ⟨[],0⟩)] (Fz (h,[],e))/\(e=0/\Ee g h\/e=54):=by
 have j:=xe g (QY 5 n v ⟨[],0⟩) rfl i;have w:(QY 5 n v ⟨[],0⟩).number=n:=rfl;obtain⟨f1,f2⟩:=eK i w u;have k:=(Bx o.1).2.1;simp only[En,cF]at k;obtain⟨A,E⟩:=PA i k.1.2 f2;obtain⟨n1,B⟩:=Wk o.1 E;have m:Q3 (QY 5 n v ⟨[],0⟩) (Z g.conds)=true:=by simp[Q3,w,u]
 by_cases q:(Dl and g.fam (I9 (QY 5 n v ⟨[],0⟩)).1).1.root=0
 .rw[ca q]at n1;have hb:MD {g with fam:=(Dl and g.fam (I9 (QY 5 n v ⟨[],0⟩)).1).1}=54:=by
   unfold MD pB;rw[n1];simp
  rw[T6 (D0.2 o)]at j
  .rw[hb,ca (by decide)]at j;exact⟨_,_,j,.inr rfl⟩
  .exact Sm 5
  .exact m
  .simp[f1,A]
  .intro h;rw[hb]at h;cases h
 .rw[Rg C o (B q)]at j
  .exact⟨_,_,j,.inl ⟨rfl,B q⟩⟩
  .exact Sm 5
  .exact m
  .simp[f1,A]
theorem Vp{g:AE}{kn:Bool}(q:VG g kn)(j:B3 g=0){c:Nat}{u:TF}(m:u.fit g [⟨ap,g.start⟩])(o:∀n∈u.flat,TY g c n):∀n∈u.flat,vC n/\wD n:=λn h=>
 (o n h).sm q (λi=>by
  obtain⟨k,k1,k2,_,k3⟩:=RY j m o (RZ j) n h i;exact⟨g.AT[k],by rw[k1];simp[k2],k3⟩) λi=>by
  rcases MX u m n h with⟨w,_⟩|⟨_,_,_,v,_⟩
  .exact absurd (by omega) i
  .exact v
theorem Ee.leaf{g h:AE}(H:Ee g h){c:Nat}{N:List BD}(i:∀n∈N,n.prod<0->∃k:Nat,n.token=k/\∃j:k<Z g.AT,D6 g.AT[k].cond c=J/\g.AT[k].cls=0):
  ∀n∈N,n.prod<0->∃k:Nat,n.token=k/\∃j:k<Z h.AT,D6 h.AT[k].cond c=J/\h.AT[k].cls=0:=by
 rw[H.tk];exact i
theorem Ee.rk{g h:AE}(H:Ee g h){rs:List Wd}(i:∀r∈rs,oq g r):∀r∈rs,oq h r:=by
 unfold oq at *;rw[H.tk];exact i
theorem Y0{g:AE}{c:Nat}{u:TF}{N:List BD}{A:List Int}{ws rs:List Wd}{e:Int}(D:Kz u N A ws rs e)(o:∀n∈u.flat,TY g c n):JR (Cg N A ws e) (V6 g c)=true:=by
 unfold JR;rw[ed];intro x v;obtain⟨i,hi,rfl⟩:=lm.1 v;have j:i<Z N:=by rw[Dy]at hi;exact hi
 rw[C4 hi,(D.xp j).1,ru,fc];by_cases w:N[i].prod<0
 .exact .inl w
 .refine .inr ?_;obtain⟨p,k⟩:∃p:Nat,N[i].prod=p:=⟨N[i].prod.toNat,by omega⟩;have h:=(o N[i] (by rw[<-D.n];exact cL j)).2.2.2 p k;rw[k,ne];unfold Bk at h;unfold V6;cases m:g.AD[p]? with
  |none=>rw[m]at h;cases h
  |some q=>
   rw[m]at h;simp only[cF]at h;exact h.2
theorem Kz.pd{h:AE}{c:Nat}(o:B3 h=0)(q:c<2 ^ 64){u:TF}{N:List BD}{A:List Int}{ws rs:List Wd}{e:Int}(D:Kz u N A ws rs e){ss:List Symbol}(v:u.fit h ss){i:Nat}(hi:i<Z (Cg N A ws e)):
  (Cg N A ws e)[i].prod<0\/∃p:Nat,(Cg N A ws e)[i].prod=p/\∃m:p<Z h.AD,Pure prog 10 [AB h.AD[p].cond,Dt c] (.bool (V6 h c p)):=by
 have j:i<Z N:=by rw[Dy]at hi;exact hi
 rw[C4 hi,(D.xp j).1];rcases MX u v N[i] (by rw[<-D.n];exact cL j)with⟨w,_⟩|⟨w,C,_⟩
 .exact .inl (by omega)
 .obtain⟨p,m⟩:∃p:Nat,N[i].prod=p:=⟨N[i].prod.toNat,by omega⟩;have g:p<Z h.AD:=by omega
  refine .inr ⟨p,m,g,?_⟩;have B:=Ip (HJ o (cL g)) c q;have k:V6 h c p=D6 h.AD[p].cond c:=by unfold V6;rw[ej g]
  rw[k];exact B
open Go.Proofs Tryz
structure Ih where
 kind:Nat
 a:Nat
 b:Nat
 c:Nat
 right:List Nat
def B2(x:Ih):D:=.agg [br .u8 (x.kind:Nat),br .u8 (x.a:Nat),br .u8 (x.b:Nat),br .u8 (x.c:Nat),D.sl (x.right.map λ(k:Nat)=>br .u8 k)]
@[simp] theorem bM(x:Ih):Ae (.d (B2 x))=[.d (br .u8 (x.kind:Nat)),.d (br .u8 (x.a:Nat)),.d (br .u8 (x.b:Nat)),.d (br .u8 (x.c:Nat)),.d (D.sl (x.right.map λ(k:Nat)=>br .u8 k))]:=rfl
@[simp] theorem bY(x:Ih):Ap (.d (B2 x))=true:=rfl
@[simp] theorem kJ(x:Ih):Bp (.d (B2 x))=false:=rfl
@[simp] theorem cM(x:Ih):BE (B2 x)=[br .u8 (x.kind:Nat),br .u8 (x.a:Nat),br .u8 (x.b:Nat),br .u8 (x.c:Nat),D.sl (x.right.map λ(k:Nat)=>br .u8 k)]:=rfl
@[simp] theorem kg(x:Ih):CL.oneD (B2 x)=true:=rfl
@[simp] theorem pC(x:Ih):DY (B2 x)=Bm [br .u8 (x.kind:Nat),br .u8 (x.a:Nat),br .u8 (x.b:Nat),br .u8 (x.c:Nat),D.sl (x.right.map λ(k:Nat)=>br .u8 k)]:=rfl
@[simp] theorem fo(S:Sg)(x:Ih):DS S (.d (B2 x))=some [br .u8 (x.kind:Nat),br .u8 (x.a:Nat),br .u8 (x.b:Nat),br .u8 (x.c:Nat),D.sl (x.right.map λ(k:Nat)=>br .u8 k)]:=rfl
def LR:V:=.agg [.d (.int .i64 0),.d (.int .i64 0),.d (.int .i64 0),.d (.int .i64 0),.d (.str h9),.d (.bool ap),.full [],.d (.int .i64 0),.full [],.full [],.d (.str h9),.d (.int .i64 0),.d (.str h9),.full [],.d (.str h9),.full [],.d (.int .i64 0),.d (.str h9),.d (.int .i64 0),.full [],.full [],.d (.int .i64 0),.d (.bool ap),.d (.int .i64 0),.full [],.d (.bool ap),.d (.int .i64 0),.d (.int .i64 0),.d (.int .i64 0),.d (.int .i64 0),.full []]
def y6(g:AE)(k:Nat)(v:V)(S':Sg):Prop:=S'=[]/\∃c,v=.d (Ad c)/\((k=4/\∃(n:Nat) (b:Bool),n<Z g.conds/\c=QY 5 n b ⟨[],0⟩)\/k=5/\∃(n:Nat) (d:AL),n<Z g.AD/\B1 d (Z g.conds)=J/\c=QY 6 n ap d)
theorem XG(g:AE)(x:Ih)(U:MG g 10 6)(N:x.kind=4/\Z g.conds≠0\/x.kind=5):BH prog 6 [.d (AA g),.d (B2 x)] [] (y6 g x.kind):=by
 obtain⟨W,X,Y,ht1,ho1,k,hp1,hl1,hl2,hf1⟩:=U;refine BH.Aw func6 (by kernel_rfl) rfl (by simp) λwf _=>?_;have hx:x.kind<256/\x.a<256/\x.b<256:=by
  have:=wf.2.1;simp[Ij,DY,Bm,Di,GZ]at this;omega
 clear wf;obtain⟨hxk,hxa,m⟩:=hx;have o:=GO x.b (Z g.conds) m (by omega);have q:=Ec m (show Z g.conds<4 by omega);generalize Iv x.b (Z g.conds)=d at *;obtain⟨n,u⟩:=ce (Z g.conds);obtain⟨A,P⟩:=ce (x.a % Z g.AD);have w:A<Z g.AD:=by rw[<-P];exact i7 _ k
 have qa:((x.a:Int).tmod (Z g.AD))=A:=by rw[ge (by omega),<-P];simp
 have Q:b8 .i64 (x.a:Int)=x.a:=by rw[c8];omega
 have wk:b8 .i64 (x.kind:Int)=x.kind:=by rw[c8];omega
 have B:¬Z g.AD=0:=by omega
 have E:g.AD≠[]:=by intro e;simp[e]at k
 have zs:1<=maxLen:=by unfold maxLen;omega
 obtain⟨j,hk0⟩:=ce (1+x.kind % 14);have wq:b8 .i64 (1+(x.kind:Int).tmod 14)=j:=by rw[ge (by omega),c8];omega
 have F:j=5/\x.kind=4/\n≠0\/j=6/\x.kind=5:=by omega
 rw[ntmps6];refine xW λK h=>?_;simp;apply h;refine xW λK h=>?_;simp[wk,wq];apply h;refine xW λK h=>?_;simp[u];apply h;refine m7 (R:=λtm S=>tm 2=.ptr 0 1 0 0/\tm 3=.ptr 1 1 0 0/\tm 4=.ptr 2 1 0 0/\tm 5=.d (encI j)/\tm 6=.d (encI n)/\S=[.row J 9 [.d (AA g)],.row J 5 [.d (B2 x)],.row J 31 [LR]]) ?_ ?_
 .by_cases i:n=0
  .obtain⟨rfl,_⟩:j=6/\x.kind=5:=by omega
   refine E5 λK h=>?_;refine xH ?_;simp[i];refine BY (h _ _ ?_);refine AP ?_;simp;refine CF ?_;simp[i,LR]
  ·(repeat refine xS ?_);refine FG λK h=>?_;(repeat((first|refine FI rfl ?_ ?_;(·simp[i])|refine Pe rfl ?_ ?_;(·simp[i])|refine Cc ?_ ?_;(·simp[i]));simp));refine BY (h _ _ ?_);(try simp only[B5]);refine AP ?_;simp;refine CF ?_;simp[LR]
 rintro tm S ⟨t2,t3,t4,t5,t6,rfl⟩;refine m7 (R:=λtm S=>tm 2=.ptr 0 1 0 0/\tm 3=.ptr 1 1 0 0/\tm 4=.ptr 2 1 0 0/\tm 5=.d (encI j)/\tm 6=.d (encI n)/\tm 7=.d (encI A)/\S=[.row J 9 [.d (AA g)],.row J 5 [.d (B2 x)],.row J 31 [LR]]) ?_ ?_
 .refine xV λK h=>?_;simp[t2,t3,Q,qa,B];apply h;simp[t2,t3,t4,t5,t6]
 rintro tm S ⟨t2,t3,t4,t5,t6,t7,rfl⟩;refine m7 (R:=λtm S=>tm 2=.ptr 0 1 0 0/\tm 3=.ptr 1 1 0 0/\tm 4=.ptr 2 1 0 0/\tm 5=.d (encI j)/\tm 6=.d (encI n)/\tm 7=.d (encI A)/\tm 8=.ptr 3 1 0 0/\S=[.row J 9 [.d (AA g)],.row J 5 [.d (B2 x)],.row J 31 [LR],.row J 2 [.d (AB d)]]) ?_ ?_
 .refine FG λK h=>?_;refine xJ ?_;simp[t3,t6];refine Bq (o) rfl (by simp[u,xN]) ?_;simp;refine xJ ?_;simp;refine BY (h _ _ ?_);simp[t2,t3,t4,t5,t6,t7]
 rintro tm S ⟨t2,t3,t4,t5,t6,t7,t8,rfl⟩;rcases F with⟨rfl,G,i⟩|⟨rfl,H⟩
 .refine xS (xW λK h=>?_);simp[t5];apply h;refine Bo ?_;refine xW λK h=>?_;simp;apply h;refine AP ?_;simp;refine xW λK h=>?_;simp;apply h;refine AP ?_;simp;refine xW λK h=>?_;simp;apply h;refine AP ?_;simp;refine xW λK h=>?_;simp;apply h;refine AP ?_;simp;refine xW λK h=>?_;simp;apply h;refine AP ?_;simp;obtain⟨C,T⟩:=ce (x.a % n);have hCl:C<n:=by rw[<-T];exact i7 _ (by omega)
  have qn:((x.a:Int).tmod n)=C:=by rw[ge (by omega),<-T];simp
  obtain⟨v,L⟩:=ce (x.b % 2);have q2:((x.b:Int).tmod 2)=v:=by rw[ge (by omega),<-L];simp
  have M:(x.b:Int) % 2=v:=by omega
  (repeat refine xS ?_);refine xE (A7 11 [23]) (by kernel_rfl) λK h=>?_;simp;refine xA 1 ?_;simp[t3,t5,t6,Q,qn,i,q2,maxLen];refine xX 2047 (by kernel_rfl) ?_;simp[AY,t4,LR];refine xM (h _ _ ?_);(try simp only[xQ,reduceIte]);refine Aj ?_;(try simp only[xQ,reduceIte]);refine⟨_,_,a9,by simp[t4],_,_,⟨rfl,QY 5 C ((v:Int)==1) ⟨[],0⟩,rfl,.inl ⟨G,C,_,by omega,rfl⟩⟩,.inl ⟨Ad (QY 5 C ((v:Int)==1) ⟨[],0⟩),_,by simp[t4,BO,Ad,QY],rfl,gc 0 (S':=[]) rfl (by simp)⟩⟩
 .refine xS (xW λK h=>?_);simp[t5];apply h;refine Bo ?_;refine xW λK h=>?_;simp;apply h;refine AP ?_;simp;refine xW λK h=>?_;simp;apply h;refine AP ?_;simp;refine xW λK h=>?_;simp;apply h;refine AP ?_;simp;refine xW λK h=>?_;simp;apply h;refine AP ?_;simp;refine xW λK h=>?_;simp;apply h;refine AP ?_;simp;refine xW λK h=>?_;simp;apply h;refine AP ?_;simp;refine xW λK h=>?_;simp[t4,t5,t7,t8,LR];apply h;refine Aj ?_;(try simp only[xQ,reduceIte]);refine⟨_,_,a9,by simp[t4],_,_,⟨rfl,QY 6 A ap d,rfl,.inr ⟨H,A,d,w,q,rfl⟩⟩,.inl ⟨Ad (QY 6 A ap d),_,by simp[t4,BO,Ad,QY,AB],rfl,gc 0 (S':=[]) rfl (by simp)⟩⟩
noncomputable def td(y:Input)(x:Ih)(k:Nat)(g:AE)(t:Term)(i:AZ)(h:AE)(p:PT):Sg:=
 [.row J 8 [.d (DF y)],.row J 5 [.d (B2 {x with kind:=k})],.row J 9 [.d (AA g)],.row J 2 [.d (BN t)],.row J 31 [.d (Ad i)],.row J 9 [.d (AA h)],.row J 4 [.d (C7 p)]]
def yv(k n:Nat):Prop:=k=4/\n≠0\/k=5
theorem qz(hsan:Pure prog 4 [] (.bool J))(y:Input)(x:Ih)(gd:Bool):AG prog 3 [.d (DF y),.d (B2 x),.d (.bool gd)] [] (.d (.bool J)) []:=by
 refine AG.Gp func3 (by kernel_rfl) rfl (by simp) λwf _=>?_;rw[ntmps3];refine xW λK j=>?_;simp;apply j;refine E5 λK j=>?_;refine xJ ?_;simp;refine Bq (hsan) rfl (by simp) ?_;simp;refine xJ ?_;simp;refine BY (j _ _ ?_);refine E5 λK j=>?_;refine xJ ?_;simp;refine AS.Jq (eD y) [] rfl ?_ ?_ ?_
 .simp
 .rintro v Q ⟨rfl,g,c,t,ok,kn,rfl,_⟩;simp
 rintro v Q ⟨rfl,g,c,t,ok,kn,rfl,N,hc8,hcb,htu⟩;simp;refine xJ ?_;simp;refine BY (j _ _ ?_);refine xW λK j=>?_;simp[B2];apply j;refine gs (j2 1 (xs:=[B2 {x with kind:=4}]) rfl ?_) ?_
 .simp[Df,B2,BO,DL,B4]
 simp;have w:=N.okF;refine AW.Jp (R:=λtm S=>∃k:Nat,yv k (Z g.conds)/\tm 3=.ptr 0 1 0 0/\tm 4=.ptr 1 1 0 0/\tm 7=.d (.bool J)/\tm 8=.ptr 2 1 0 0/\tm 9=.d (Dt c)/\tm 10=.ptr 3 1 0 0/\tm 11=.d (.bool ok)/\S=[.row J 8 [.d (DF y)],.row J 5 [.d (B2 {x with kind:=k})],.row J 9 [.d (AA g)],.row J 2 [.d (BN t)]]) ?_ ?_
 .cases gd with
  |true=>
   refine E5 λK j=>?_;refine xH ?_;simp[AA];refine BY (j _ _ ?_);refine AP ?_;simp;refine xV λK j=>?_;simp[B2];apply j;refine⟨_,_,j2 1 (xs:=[B2 {x with kind:=5}]) rfl ?_,5,.inr rfl,?_⟩
   .simp[Df,B2,BO,DL,B4]
   .simp[AA]
  |false=>
   by_cases hz:g.conds=[]
   .refine E5 λK j=>?_;refine xH ?_;simp[AA,hz];refine BY (j _ _ ?_);refine AP ?_;simp;refine xV λK j=>?_;simp[B2];apply j;refine⟨_,_,j2 1 (xs:=[B2 {x with kind:=5}]) rfl ?_,5,.inr rfl,?_⟩
    .simp[Df,B2,BO,DL,B4]
    .simp[AA,hz]
   .refine E5 λK j=>?_;refine xH ?_;simp[AA];refine BY (j _ _ ?_);refine AP ?_;simp[hz];refine CF ?_;exact⟨_,_,a9,4,.inl ⟨rfl,λh=>hz (abF.1 h)⟩,by simp[AA]⟩
 rintro tm S ⟨k,hk,t3,t4,t7,t8,t9,t10,t11,rfl⟩;(repeat refine xS ?_);refine FG λK j=>?_;refine xJ ?_;simp[t8,t4];refine AS.Jq (XG g {x with kind:=k} N.toMG hk) [] rfl ?_ ?_ ?_
 .simp
 .rintro v Q ⟨rfl,c,rfl,_⟩;simp
 rintro v Q ⟨rfl,ch,rfl,hch⟩;simp;refine xJ ?_;simp;refine BY (j _ _ ?_);(try simp only[xQ,reduceIte]);have C:Z g.conds<=12:=by have:=N.c1;omega
 obtain⟨h,e,hap,U⟩:∃(h:AE) (e:Int),Pure prog 7 [AA g,Ad ch] (Fz (h,[],e))/\(e=0/\Ee g h\/e=54/\ch.kind=5):=by
  rcases hch with⟨_,n,b,E,rfl⟩|⟨_,n,d,E,hd,rfl⟩
  .obtain⟨h,e,h1,h2⟩:=Zq N.vg w C E b;exact⟨h,e,h1,h2.imp id λh=>⟨h,rfl⟩⟩
  .obtain⟨h,h1,h2⟩:=guard_apply N.vg w C E hd;exact⟨h,0,h1,.inl ⟨rfl,h2⟩⟩
 clear hch;simp only[Fz]at hap;have F:=Ad.eq_1 ch;have q:=BN.eq_1 t;(repeat refine xS ?_);refine FG λK j=>?_;refine xJ ?_;simp[t8];refine Bq (hap) rfl (by simp[xN]) ?_;simp;refine xJ ?_;simp;refine BY (j _ _ ?_);(try simp only[xQ,reduceIte]);rcases U with⟨rfl,H⟩|⟨rfl,W⟩
 .cases ok with
  |false=>
   refine xS (E5 λK j=>?_);refine xH ?_;simp[t11];refine BY (j _ _ ?_);(try simp only[xQ,reduceIte]);refine AP ?_;simp;(repeat refine xS ?_);refine FG λK j=>?_;refine xH ?_;simp[t7];refine BY (j _ _ ?_);(try simp only[xQ,reduceIte]);(refine Aj ?_;(try simp only[xQ,reduceIte]);refine⟨_,_,_,a9,?_,?_,gc 0 (S':=[]) rfl (by simp)⟩<;>simp[BO])
  |true=>
   by_cases o:100<Z t.nodes
   .have m:(100:Int)<Z t.nodes:=by omega
    refine xS (E5 λK j=>?_);refine xH ?_;simp[t10,t11,q,m];refine BY (j _ _ ?_);(try simp only[xQ,reduceIte]);refine AP ?_;simp;(repeat refine xS ?_);refine FG λK j=>?_;refine xH ?_;simp[t7];refine BY (j _ _ ?_);(try simp only[xQ,reduceIte]);(refine Aj ?_;(try simp only[xQ,reduceIte]);refine⟨_,_,_,a9,?_,?_,gc 0 (S':=[]) rfl (by simp)⟩<;>simp[BO])
   .have m:¬(100:Int)<Z t.nodes:=by omega
    obtain⟨u,hu,hf,_,hN,hr2,hr3⟩:=htu rfl;have hG:=w.1;have hG2:=H.ck;have A:c<2 ^ 64:=by omega
    have X:=Vp N.vg hG hf hN;obtain⟨DG,rs,f,hR,hsp⟩:=Z6 g hG (by have:=N.t1;omega) t u g.start hu hf (by omega) y.lines (λn E=>(X n (hu▸E)).1) hr2 (λs hs=>(YY s (hr3 s hs)).2);obtain⟨D,hrk,htk,hrl⟩:=Kz.of hu (λn E=>(X n (hu▸E)).1) (λn E=>(X n (hu▸E)).2) (λs hs=>YY s (hr3 s hs)) hR;clear hR;generalize(Cv g y.lines t.nodes).ws=ws at *;generalize(DG.size:Int)=ez at *;have hlb:=RY hG hf hN (RZ hG);have Y:=D.F7 w C A hf (by omega) (by omega) hlb htk hrk;rw[hcb,Y0 D hN]at Y;simp only[ip]at Y;have P:Z h.conds<=12:=by rw[H.cn];exact C
    have hf2:u.fit h [⟨ap,h.start⟩]:=by rw[H.st];exact H.fit u hf
    have hchh:=D.F7 (H.okF N.vg) P A hf2 (by omega) (by omega) (H.leaf hlb) htk (H.rk hrk);have hpd:=λi (hi:i<Z (Cg t.nodes (u.ends 0) ws ez))=>D.pd hG2 A hf2 hi;have hin:=ft h hG2 P c A;have hTl:Z (Cg t.nodes (u.ends 0) ws ez)<=maxLen:=by rw[Dy];unfold maxLen;omega
    generalize Cg t.nodes (u.ends 0) ws ez=T at *;have G:=DF.eq_1 y;have hpe:=C7.eq_1 ⟨ws,rs,ez⟩;refine xS (E5 λK j=>?_);refine xH ?_;simp[t10,t11,q,m];refine BY (j _ _ ?_);(try simp only[xQ,reduceIte]);refine AP ?_;simp;refine xK ?_;refine E5 λK j=>?_;refine xJ ?_;simp[t3,t8,t10,G];refine Bq (hsp) rfl (by simp[q,xN]) ?_;simp;refine xJ ?_;simp;refine BY (j _ _ ?_);refine E5 λK j=>?_;refine xJ ?_;simp[t9];refine Bq (hin) rfl (by simp[xN]) ?_;simp;refine xJ ?_;simp;refine BY (j _ _ ?_);refine xS (xW λK j=>?_);simp;apply j;refine Bo ?_;refine FO (Z T) (λi tm S=>tm 7=.d (.bool J)/\tm 8=.ptr 2 1 0 0/\tm 9=.d (Dt c)/\tm 13=.ptr 5 1 0 0/\tm 17=.ptr 6 1 0 0/\tm 18=.d (CE T)/\tm 19=.d (.bool (hasB h c&&JR (T.take i) (V6 h c)))/\tm 20=.d (encI i)/\S=td y x k g t ch h ⟨ws,rs,ez⟩) (i0:=0) (er _) (by simp[td,t7,t8,t9,JR,G,q,F,hpe]) ?_;rintro i tm S hi ⟨t7,t8,t9,t13,t17,t18,t19,t20,rfl⟩;unfold td;refine xS (xW λK j=>?_);simp[t18,t20];apply j;refine AP ?_;simp;refine⟨λL=>?_,λzu=>?_⟩
    .obtain⟨xn,hxn⟩:=ce (T[i]);have M:=Ei.eq_1 xn;have hs:=RL T (V6 h c) L;have hq:=hpd i L;rw[hxn]at hs hq;obtain⟨pr,hpr⟩:=ce ((hasB h c&&JR (T.take i) (V6 h c)));have hs2:(hasB h c&&JR (T.take (i+1)) (V6 h c))=(pr&&(decide (xn.prod<0)||V6 h c xn.prod.toNat)):=by rw[hs,<-ac1,hpr]
     rw[hpr]at t19;refine xK ?_;refine xB ?_;(repeat refine xS ?_);refine xV λK j=>?_;simp[t18,t20,L,hxn,M];refine j _ _ ?_;(try simp only[xQ,reduceIte]);cases pr with
     |false=>
      refine FG λK j=>?_;refine xH ?_;simp[t19];refine BY (j _ _ ?_);refine xV λK j=>?_;simp[t20];apply j;refine⟨L,_,_,a9,?_⟩;simp[t7,t8,t9,t13,t17,t18,hs2,AK L hTl]
     |true=>
      by_cases hp:xn.prod<0
      .refine FG λK j=>?_;refine xH ?_;simp[t19,hp];refine BY (j _ _ ?_);refine xV λK j=>?_;simp[t20];apply j;refine⟨L,_,_,a9,?_⟩;simp[t7,t8,t9,t13,t17,t18,hs2,hp,AK L hTl]
      .obtain⟨p,hp1,hp2,hho⟩:=hq.resolve_left hp;obtain⟨pp,hpp⟩:=ce (h.AD[p]);rw[hpp]at hho;have B:=AF.eq_1 pp;refine FG λK j=>?_;refine xH ?_;simp[t9,t13,t19,hp1,hp2,hpp,B,AA];refine li (hho) rfl rfl (by simp[xN];try rfl) ?_;simp;refine xH ?_;simp;refine BY (j _ _ ?_);refine xV λK j=>?_;simp[t20];apply j;refine⟨L,_,_,a9,?_⟩;simp[t7,t8,t9,t13,t17,t18,hs2,hp1,AK L hTl,AA]
    .have e:i=Z T:=by omega
     subst e;rw[ns]at t19;refine Ci ?_;refine E5 λK j=>?_;refine xJ ?_;simp[t8,t9,t17,t18];refine Bq (Y) rfl (by simp[xN]) ?_;simp;refine xJ ?_;simp;refine BY (j _ _ ?_);(repeat refine xS ?_);refine FG λK j=>?_;refine xJ ?_;simp[t9,t13,t17,t18];refine Bq (hchh) rfl (by simp[xN]) ?_;simp;refine xJ ?_;simp;refine BY (j _ _ ?_);(try simp only[xQ,reduceIte]);cases hb1:hasB h c<;>cases hb2:JR T (V6 h c)<;>simp only[hb1,hb2]at t19;all_goals
      (repeat refine xS ?_);refine FG λK j=>?_
      refine xH ?_;simp[t7,t19]
      refine BY (j _ _ ?_);try simp only[xQ,reduceIte]
      (refine Aj ?_;(try simp only[xQ,reduceIte]);refine⟨_,_,_,a9,?_,?_,gc 0 (S':=[]) rfl (by simp)⟩<;>simp[BO])
 .cases ok with
  |false=>
   refine xS (E5 λK j=>?_);refine xH ?_;simp[t11];refine BY (j _ _ ?_);(try simp only[xQ,reduceIte]);refine AP ?_;simp;(repeat refine xS ?_);refine FG λK j=>?_;refine xH ?_;simp[t7,F,W];refine BY (j _ _ ?_);(try simp only[xQ,reduceIte]);(refine Aj ?_;(try simp only[xQ,reduceIte]);refine⟨_,_,_,a9,?_,?_,gc 0 (S':=[]) rfl (by simp)⟩<;>simp[BO])
  |true=>
   by_cases o:100<Z t.nodes
   .have m:(100:Int)<Z t.nodes:=by omega
    refine xS (E5 λK j=>?_);refine xH ?_;simp[t10,t11,q,m];refine BY (j _ _ ?_);(try simp only[xQ,reduceIte]);refine AP ?_;simp;(repeat refine xS ?_);refine FG λK j=>?_;refine xH ?_;simp[t7,F,W];refine BY (j _ _ ?_);(try simp only[xQ,reduceIte]);(refine Aj ?_;(try simp only[xQ,reduceIte]);refine⟨_,_,_,a9,?_,?_,gc 0 (S':=[]) rfl (by simp)⟩<;>simp[BO])
   .have m:¬(100:Int)<Z t.nodes:=by omega
    refine xS (E5 λK j=>?_);refine xH ?_;simp[t10,t11,q,m];refine BY (j _ _ ?_);(try simp only[xQ,reduceIte]);refine AP ?_;simp;(repeat refine xS ?_);refine FG λK j=>?_;refine xH ?_;simp[t7,F,W];refine BY (j _ _ ?_);(try simp only[xQ,reduceIte]);(refine Aj ?_;(try simp only[xQ,reduceIte]);refine⟨_,_,_,a9,?_,?_,gc 0 (S':=[]) rfl (by simp)⟩<;>simp[BO])
end Go.Koi
