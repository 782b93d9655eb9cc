/-
  Part 15 of the proof that the law ChangeFoldInline returns true for every input.
-/
import Derived.Test.YtgdfmldabcofeaaGreatDoorK13
set_option maxHeartbeats 64000000
set_option maxRecDepth 100000
namespace Go.Koi
open Go renaming maxLen->al,FuncId->cP
open Go.Proofs DT
def Nr(t:Token):Token:={t with cond:=Dg}
structure VG(g:AE)(kn:Bool):Prop where
 tk:g.Ae.map Nr=Dv
 tf:∀t∈g.Ae,C5 t.cond g.conds.length=true
 fam:Fb g=true
 A2:Ia g=true
 pr:C6 g [⟨#[]⟩] g.AD=0
 lv:ED g [] g.levels=true
 fl:EA g=true
 sz:∀p∈g.AD,p.right.length<=16/\p.layout.length<=16
 nm:∀p∈g.AD,∀k,g.AD.length<=k->k<120->p.name≠KH k
 ac:∃N:Int->Bool,Hf g N Int.toNat/\(kn=false->∀x,N x=true)
theorem VG.len{g:AE}{kn:Bool}(h:VG g kn):g.Ae.length=11:=by
 have:=i6 List.length h.tk;rw[li]at this;exact this.trans rfl
theorem VG.tok{g:AE}{kn:Bool}(h:VG g kn){k:Nat}(j:k<9):∃t,g.Ae[k]?=some t/\t.cls=0/\(IK t=true↔k≠0):=by
 have q:=h.len;have i:k<g.Ae.length:=by omega
 refine⟨g.Ae[k],ci i,?_⟩;have e:Nr g.Ae[k]=Dv[k]'(by show k<11;omega):=by
  have:=i6 (λl=>l[k]?) h.tk;simp[ci i,ci (show k<Dv.length by show k<11;omega)]at this;exact this
 have h1:g.Ae[k].cls=(Nr g.Ae[k]).cls:=rfl;have m:IK g.Ae[k]=IK (Nr g.Ae[k]):=rfl;have o:((List.range 9).all λk=>match Dv[k]? with|some t=>decide (t.cls=0)&&(IK t==decide (k≠0))|none=>false)=true:=by decide+kernel
 have:=cl.1 o k (by simpa using j);rw[ci (show k<Dv.length by show k<11;omega)]at this;simp at this;rw[h1,m,e];exact⟨this.1,by rw[this.2];simp⟩
theorem VG.Ae{g:AE}{kn:Bool}(h:VG g kn):Ex g=true:=by
 have h1:=MD;have hn:g.Ae.map (·.name)=Dv.map (·.name):=by rw[<-h.tk,kv];rfl
 simp[Ex,hn,h1.1];intro t i;have j:Nr t∈Dv:=by rw[<-h.tk];exact eo.2 ⟨t,i,rfl⟩
 have:=cl.1 h1.2 _ j;simp[jq]at this;obtain⟨⟨⟨k,m⟩,_⟩,o⟩:=this;have q:0<=t.cls:=k;have s:t.cls<=2:=m;have u:Ko t=true:=o;simp[H2,q,s,u,h.tf t i]
theorem VG.Hn{g:AE}{kn:Bool}(h:VG g kn)(h1:g.conds.length<=3)(k:g.A2.length<=3)(m:g.AD.length<=100)(o:g.levels.length<=100)(q:g.AU.length<=100):C2 g=0:=by
 have s:=h.len;have i:C3 g=false:=by
  have:g.AD.any Ku=false:=p6.2 λp j=>by
   have:=h.sz p j;simp[Ku];omega
  simp[C3,this];omega
 simp[C2,i,Dh,h.fam,h.Ae,h.A2,h.pr,h.lv,h.fl,F7]
theorem VG.okF{g:AE}{kn:Bool}(h:VG g kn)(h1:g.conds.length<=3)(i:g.A2.length<=3)(j:g.AD.length<=100)(k:g.levels.length<=100)(m:g.AU.length<=100):Koi.okF g:=by
 obtain⟨N,o,_⟩:=h.ac;exact⟨h.Hn h1 i j k m,o.none⟩
theorem Oi{g g':AE}(h1:∀p,EG g' p=EG g p)(i:∀p,F6 g' p=F6 g p){q:AO}(j:EG g q=true)(k:F6 g q=true):
  ∀{l:List AO} {L:List ByteArray},C6 g L l=0->Fi L q.name=false->(∀p∈l,p.name≠q.name)->C6 g' L (l++[q])=0
 |[],L,_,hn,_=>by simp[C6,h1,i,j,k,hn]
 |p::l,L,h,hn,m=>by
  unfold C6 at h;split at h
  .cases h
  .next c1=>
   split at h
   .cases h
   .next o=>
    rw[qs];unfold C6;rw[h1,i,ao c1,ao o];refine Oi h1 i j k h ?_ λx s=>m x (by simp[s]);have:¬(p.name=q.name):=m p (by simp);simp[Fi,List.any_append,this]at hn⊢;exact hn
theorem GK{g g':AE}(h1:∀p,EG g' p=EG g p)(h:∀p,F6 g' p=F6 g p):∀(l:List AO) (L:List ByteArray),C6 g' L l=C6 g L l
 |[],_=>rfl
 |p::l,L=>by simp[C6,h1,h,GK h1 h l]
theorem Ky{N M:Nat}(h:N<=M):∀{l u v:List Int},CB N u l=some v->CB M u l=some v
 |[],_,_,e=>e
 |p::l,u,v,e=>by
  unfold CB at e⊢;split at e
  .cases e
  .next hn=>
   simp at hn;rw[ao (by simp;exact⟨hn.1,by omega,hn.2.2⟩)];exact Ky h e
theorem Ng{N:Nat}:∀{l u v:List Int},CB N u l=some v->v=u++l
 |[],u,v,e=>by simp[CB]at e;simp[e]
 |p::l,u,v,e=>by
  unfold CB at e;split at e
  .cases e
  .have:=Ng e;simp[this]
theorem Nh{N:Nat}:∀{l u:List Int},l.Nodup->(∀p∈l,0<=p/\p<N/\p∉u)->CB N u l=some (u++l)
 |[],u,_,_=>by simp[CB]
 |p::l,u,i,h=>by
  obtain⟨h1,s,k⟩:=h p (by simp);unfold CB;rw[ao (by simp;exact⟨by omega,by omega,k⟩),Nh (NE.1 i).2 λx j=>?_]
  .simp
  .obtain⟨m,o,q⟩:=h x (by simp[j]);refine⟨m,o,λg=>?_⟩;rcases dl.1 g with g|g
   .exact q g
   .simp at g;subst g;exact(NE.1 i).1 j
theorem FH{g g':AE}(k:g'.conds=g.conds)(m:g.AD.length<=g'.AD.length):∀{i:List Level} {u:List Int},ED g u i=true->ED g' u i=true
 |[],_,_=>rfl
 |l::i,u,h=>by
  unfold ED at h⊢;rw[k];split at h
  .next h1=>
   rw[ap h1];cases j:CB g.AD.length u l.AD with
   |none=>rw[j]at h;cases h
   |some v=>rw[j]at h;rw[Ky m j];exact FH k m h
  .cases h
theorem RK{g:AE}{l:Level}(h1:0<=l.assoc)(q:l.assoc<=3)(s:C5 l.cond g.conds.length=true)(t:l.AD.Nodup)(m:∀p∈l.AD,0<=p/\p<g.AD.length):
  ∀{k:List Level} {u:List Int},ED g u k=true->(∀p∈l.AD,p∉u/\∀x∈k,p∉x.AD)->ED g u (k++[l])=true
 |[],u,_,hn=>by
  have:=Nh (u:=u) t λp i=>⟨(m p i).1,(m p i).2,(hn p i).1⟩;simp[ED,h1,q,s,this]
 |a::k,u,h,hn=>by
  rw[qs];unfold ED at h⊢;split at h
  .next w=>
   rw[ap w];cases o:CB g.AD.length u a.AD with
   |none=>rw[o]at h;cases h
   |some v=>
    rw[o]at h;refine RK h1 q s t m h λp i=>⟨λj=>?_,λx z=>(hn p i).2 x (by simp[z])⟩;rw[Ng o]at j;rcases dl.1 j with j|j
    .exact(hn p i).1 j
    .exact(hn p i).2 a (by simp) j
  .cases h
theorem JF{g g':AE}(t:g'.conds=g.conds)(hn:g'.A2=g.A2)(q:g'.Ae=g.Ae)(s:∀(i:Nat) p,g.AD[i]?=some p->g'.AD[i]?=some p){f:Filter}(h:D5 g f=true):D5 g' f=true:=by
 simp[D5]at h⊢;refine⟨?_,h.2⟩;have h1:=h.1;unfold Ee at h1⊢;rw[t,hn];have j:∀k l,Gv g' k l=Gv g k l:=λk l=>by unfold Gv FO;rw[q]
 have u:∀i k,GN g' i k=GN g i k:=λi k=>by unfold GN;rw[q]
 simp only[j,u];split at h1
 .next c=>
  rw[ap c];simp only[bi]at h1⊢;refine⟨h1.1,?_⟩;have m:=h1.2;unfold JP at m⊢;simp only[bi]at m⊢;refine⟨m.1,?_⟩;have o:=m.2;split at o
  .next p c v w=>rw[s _ _ v,s _ _ w];exact o
  .cases o
 .next c=>
  rw[ao c];exact h1
theorem Hf.line{g:AE}{N:Int->Bool}{q:AO}(h:Hf g N Int.toNat)(m:Bq q.right=false->(∀x,N x=true)/\0<=q.left/\∀s∈q.right,q.left<s.index):Hf {g with AD:=g.AD++[q]} N Int.toNat:=by
 refine⟨λp i ha k=>?_,λp i j hj o ha k=>?_⟩
 .rcases dl.1 i with i|i
  .exact h.1 p i ha k
  .simp at i;subst i;exact(m ha).1 _
 .rcases dl.1 i with i|i
  .exact h.2 p i j hj o ha k
  .simp at i;subst i;have t:Bq p.right=false:=by
    unfold Bq Da at *;rw[<-wN j p.right,sw hj];simp only[List.any_append,adj,pw]at ha⊢;exact⟨ha.1,o,ha.2⟩
   obtain⟨_,h0,u⟩:=m t;have:=u _ (b9 hj);omega
theorem VG.line{g:AE}{kn:Bool}(h:VG g kn)(W:g.AD.length<100){q:AO}(m:UA g kn q):VG {g with AD:=g.AD++[q]} kn:=by
 have C:EG g q=true:=by
  obtain⟨E,v,u⟩:=m.left;have h1:F4 g ⟨false,q.left⟩=true:=by simp[F4,u,v]
  simp[EG,h1];intro s F;rcases m.syms s F with⟨w,k,o,z⟩|⟨w,k,o,z⟩
  .obtain⟨t,G,H,_⟩:=h.tok o;simp[F4,w,z,G,H]
  .simp[F4,w,z,o]
 have J:F6 g q=true:=by simp[F6,m.fits,m.r1,m.r2,m.uI]
 have K:∀p∈g.AD,p.name≠q.name:=λp j=>by rw[m.name];exact h.nm p j _ (br _) (by omega)
 have L:Fi [⟨#[]⟩] q.name=false:=by
  rw[m.name];have h1:(KH g.AD.length).size=2:=by simp[KH,FN]
  have A:¬((⟨#[]⟩:ByteArray)=KH g.AD.length):=λe=>by rw[<-e]at h1;simp at h1
  simp[Fi,A]
 refine⟨h.tk,h.tf,h.fam,h.A2,Oi (g:=g) (g':={g with AD:=g.AD++[q]}) (λ_=>rfl) (λ_=>rfl) C J h.pr L K,FH (g:=g) (g':={g with AD:=g.AD++[q]}) rfl (by simp) h.lv,?_,λp j=>?_,λp j k o M=>?_,?_⟩
 .simp[EA];intro f P;refine JF (g:=g) (g':={g with AD:=g.AD++[q]}) rfl rfl rfl (λi p e=>?_) (cl.1 h.fl f P);show(g.AD++[q])[i]?=some p
  rw[ej (by have:=df.1 e;exact this.1)];exact e
 .rcases dl.1 j with j|j
  .exact h.sz p j
  .simp at j;subst j;have:=m.len;have:=m.lay;omega
 .have X:g.AD.length+1<=k:=by simpa using o
  rcases dl.1 j with j|j
  .exact h.nm p j k (by omega) M
  .simp at j;subst j;rw[m.name];intro e;have h1:IntKind.u8.wrap (97+(g.AD.length:Int))=97+(g.AD.length:Int):=by simp[IntKind.wrap,IntKind.signed,IntKind.bits];omega
   have A:IntKind.u8.wrap (97+(k:Int))=97+(k:Int):=by simp[IntKind.wrap,IntKind.signed,IntKind.bits];omega
   have B:=i6 (λs:ByteArray=>s.data.toList) e;simp[KH,Ik,h1,A,ByteArray.data_append,ByteArray.data_push]at B;have Q:UInt8.ofNat (97+(g.AD.length:Int)).toNat=UInt8.ofNat (97+(k:Int)).toNat:=by simpa using B
   have R:=i6 UInt8.toNat Q;simp at R;omega
 .obtain⟨N,S,o⟩:=h.ac;refine⟨N,S.line λha=>?_,o⟩;obtain⟨T,U⟩:=m.later ha;obtain⟨E,_,u⟩:=m.left;exact⟨o T,by omega,U⟩
theorem VN{l g:List Token}(h:g.map Nr=l.map Nr)(i:Nat):(g[i]?=none/\l[i]?=none)\/∃j t,g[i]?=some j/\l[i]?=some t/\Nr j=Nr t:=by
 have h1:=i6 (λx=>x[i]?) h;simp at h1;cases m:g[i]? with
 |none=>
  cases k:l[i]? with
  |none=>exact .inl ⟨rfl,rfl⟩
  |some t=>rw[m,k]at h1;cases h1
 |some j=>
  cases k:l[i]? with
  |none=>rw[m,k]at h1;cases h1
  |some t=>
   rw[m,k]at h1;simp at h1;exact .inr ⟨j,t,rfl,rfl,h1⟩
theorem RU{g:AE}{T:List Token}(k:T.map Nr=g.Ae.map Nr)(s:Symbol):F4 {g with Ae:=T} s=F4 g s:=by
 unfold F4;dsimp only;rcases VN k s.index.toNat with⟨h,i⟩|⟨j,t,h,i,m⟩
 .simp[h,i]
 .have o:j.cls=t.cls:=by
   show(Nr j).cls=(Nr t).cls
   rw[m]
  simp[h,i,o]
theorem WI{g:AE}{T:List Token}(m:T.map Nr=g.Ae.map Nr){k:Token->Bool}(o:∀t,k (Nr t)=k t)(l:List Int)(i:Nat):FO {g with Ae:=T} k l i=FO g k l i:=by
 have s:T.length=g.Ae.length:=by have:=i6 List.length m;simpa using this
 unfold FO;dsimp only;rw[s];rcases VN m (l.getD i 0).toNat with⟨h,j⟩|⟨q,t,h,j,u⟩
 .simp only[h,j]
 .have v:k q=k t:=by rw[<-o q,u,o]
  simp only[h,j,v]
theorem RT{g:AE}{T:List Token}(h:T.map Nr=g.Ae.map Nr){k:Token->Bool}(i:∀t,k (Nr t)=k t)(l:List Int):Gv {g with Ae:=T} k l=Gv g k l:=by
 unfold Gv;rw[show FO {g with Ae:=T} k l=FO g k l from funext (WI h i l)]
theorem WN{g:AE}{T:List Token}(q:T.map Nr=g.Ae.map Nr){k:Token->Bool}(m:∀t,k (Nr t)=k t)(i:Int):GN {g with Ae:=T} i k=GN g i k:=by
 unfold GN;dsimp only;rcases VN q i.toNat with⟨h,j⟩|⟨o,t,h,j,s⟩
 .simp[h,j]
 .have u:k o=k t:=by rw[<-m o,s,m]
  simp[h,j,u]
theorem dS{g:AE}{kn:Bool}(h:VG g kn){f:Filter}(q:uQ g f):D5 g f=true:=by
 obtain⟨d,s,q⟩:=q;rcases q with⟨A,C,B,k,u,F,G,i,rfl⟩|⟨l,t,k,u,J,K,rfl⟩|rfl
 .have v:JP g ⟨k,A,C,B,0,0,[],d⟩=true:=by
   have j:g.AD.getD A FV=g.AD[A]:=by simp[List.getD,F]
   have o:g.AD.getD B FV=g.AD[B]:=by simp[List.getD,G]
   unfold Np at i;rw[j,o]at i;simp only[bi,mp,cF]at i;have H:C<(g.AD[A]).right.length:=by
    refine yP λhn=>?_;have:(g.AD[A]).right.getD C ⟨true,0⟩=⟨true,0⟩:=by rw[io,np (by omega)];rfl
    rw[this]at i;simp at i
   have w:(g.AD[A]).right.getD C ⟨true,0⟩=(g.AD[A]).right[C]:=by simp[List.getD,H]
   rw[w]at i;have L:(g.AD[A]).right[C]=⟨false,(g.AD[B]).left⟩:=by
    generalize(g.AD[A]).right[C]=y at i;cases y;simp only at i;rw[i.1,i.2]
   unfold JP;simp only[ii,ci F,ci G,ci H,L];simp
  rcases u with rfl|rfl<;>simp[D5,Ee,s,v,Ed,Lg]
 .obtain⟨x,j,o,_⟩:=h.tok K;have m:=h.len;have ha:Gv g Ki [(t:Int)]=true:=by simp[Gv,FO,acL,j,Ki,o];omega
  rcases u with rfl|rfl<;>simp[D5,Ee,s,ha,Ed,Lg,J]
 .obtain⟨x,j,o,w⟩:=h.tok (k:=5) (by omega);obtain⟨y,f1,f2,f3⟩:=h.tok (k:=0) (by omega);have m:=h.len;have z:IK x=true:=w.2 (by omega);have E:IK y=false:=by cases M:IK y with|false=>rfl|true=>exact absurd rfl (f3.1 M)
  have ha:Gv g IK [(5:Int)]=true:=by simp[Gv,FO,acL,j,z];omega
  have hb:GN g 0 (λt=>Ki t&&!IK t)=true:=by simp[GN,f1,Ki,f2,E]
  simp[D5,Ee,s,ha,hb,Ed,Lg]
theorem VG.qN{g F:AE}{kn:Bool}(h:VG g kn)(v:IY g F):VG F kn:=by
 rcases v with rfl|⟨l,w,rfl⟩|⟨f,q,rfl⟩|⟨t,o,rfl⟩
 .exact h
 .obtain⟨J,l1,l2,z,A,u⟩:=w;refine⟨h.tk,h.tf,h.fam,h.A2,(GK (g:=g) (g':={g with levels:=g.levels++[l]}) (λ_=>rfl) (λ_=>rfl) _ _).trans h.pr,?_,?_,h.sz,h.nm,h.ac⟩
  .refine FH (g:=g) (g':={g with levels:=g.levels++[l]}) rfl (br _) (RK l1 l2 z A (λp s=>⟨(u p s).1,(u p s).2.1⟩) h.lv λp s=>⟨by simp,λx j m=>?_⟩);have:=p6.1 (u p s).2.2 x j;simp[m]at this
  .simp[EA];exact λf q=>JF (g:=g) (g':={g with levels:=g.levels++[l]}) rfl rfl rfl (λ_ _ e=>e) (cl.1 h.fl f q)
 .refine⟨h.tk,h.tf,h.fam,h.A2,(GK (g:=g) (g':={g with AU:=g.AU++[f]}) (λ_=>rfl) (λ_=>rfl) _ _).trans h.pr,FH (g:=g) (g':={g with AU:=g.AU++[f]}) rfl (br _) h.lv,?_,h.sz,h.nm,h.ac⟩;simp only[EA,cl];intro x j;refine JF (g:=g) (g':={g with AU:=g.AU++[f]}) rfl rfl rfl (λ_ _ e=>e) ?_;rcases dl.1 j with j|j
  .exact cl.1 h.fl x j
  .simp at j;subst j;exact dS h q
 .obtain⟨e,d,B,C,rfl⟩:=o;have m:(g.Ae.set e {g.Ae[e]with cond:=d}).map Nr=g.Ae.map Nr:=by
   rw[eQ];apply un (by simp);intro i h1 K;rw[ada];split
   .next E=>subst E;simp[Nr]
   .rfl
  generalize G:g.Ae.set e {g.Ae[e]with cond:=d}=T at *;have H:∀p,EG {g with Ae:=T} p=EG g p:=λp=>by
   unfold EG;rw[RU m,show F4 {g with Ae:=T}=F4 g from funext (RU m)]
  refine⟨m.trans h.tk,λt o=>?_,h.fam,h.A2,(GK (g:=g) (g':={g with Ae:=T}) H (λ_=>rfl) _ _).trans h.pr,FH (g:=g) (g':={g with Ae:=T}) rfl (br _) h.lv,?_,h.sz,h.nm,h.ac⟩
  .rw[<-G]at o;rcases y3 o with o|rfl
   .exact h.tf t o
   .exact B
  .simp[EA];intro f q;have h1:=cl.1 h.fl f q;simp[D5]at h1⊢;refine⟨?_,h1.2⟩;have:=h1.1;unfold Ee at this⊢;rw[RT m (k:=Ki) (λ_=>rfl),RT m (k:=IK) (λ_=>rfl),WN m (λ_=>rfl)];exact this
theorem VG.kE{g:AE}{kn:Bool}(h:VG g kn){d:AN}(i:C5 d g.conds.length=true)(j:d.root≠0):VG {g with fam:=d} kn:=by
 refine⟨h.tk,h.tf,?_,h.A2,(GK (g:=g) (g':={g with fam:=d}) (λ_=>rfl) (λ_=>rfl) _ _).trans h.pr,FH (g:=g) (g':={g with fam:=d}) rfl (br _) h.lv,?_,h.sz,h.nm,h.ac⟩
 .have:=h.fam;simp[Fb]at this⊢;exact⟨⟨this.1.1,i⟩,by simp[j]⟩
 .simp[EA];exact λf k=>JF (g:=g) (g':={g with fam:=d}) rfl rfl rfl (λ_ _ e=>e) (cl.1 h.fl f k)
def SJ(g:AE):List ByteArray->List AO->Bool
 |_,[]=>true
 |L,p::l=>EG g p&&(!Fi L p.name&&(WH p.cond g.conds.length&&(decide (-1<=p.D6)&&(decide (p.D6<=1)&&(Hx p&&SJ g (L++[p.name]) l)))))
theorem Q2(g:AE):∀(l:List AO) (L:List ByteArray),SJ g L l=true->C6 g L l=0
 |[],_,_=>rfl
 |p::l,L,h=>by
  simp[SJ]at h;obtain⟨h1,i,j,k,m,o,q⟩:=h;have s:F6 g p=true:=by simp[F6,MU j,k,m,o]
  simp[C6,h1,i,s,Q2 g l _ q]
def Xb(g:AE):List Int->List Level->Bool
 |_,[]=>true
 |u,l::h=>decide (0<=l.assoc)&&(decide (l.assoc<=3)&&(WH l.cond g.conds.length&&(match CB g.AD.length u l.AD with|none=>false|some v=>Xb g v h)))
theorem Tg(g:AE):∀(l:List Level) (u:List Int),Xb g u l=true->ED g u l=true
 |[],_,_=>rfl
 |l::k,u,h=>by
  simp[Xb]at h;obtain⟨h1,m,o,i⟩:=h;unfold ED;rw[ap (by simp[h1,m,MU o])];cases j:CB g.AD.length u l.AD with
  |none=>rw[j]at i;cases i
  |some v=>rw[j]at i;exact Tg g k v i
def eL(g:AE)(f:Filter):Bool:=
 WH f.cond g.conds.length&&(if f.kind=1\/f.kind=2 then JP g f
 else if f.kind=3\/f.kind=4 then decide (0<=f.left)&&decide (f.left<g.A2.length)&&Gv g Ki f.tokens
 else if f.kind=5 then Gv g IK f.tokens&&GN g f.token (λt=>Ki t&&!IK t)
 else false)
theorem gy{g:AE}{f:Filter}(h:eL g f=true):Ee g f=true:=by
 simp[eL]at h;obtain⟨h1,i⟩:=h;unfold Ee;rw[MU h1];simpa using i
def uU(g:AE)(N:Int->Bool):Bool:=g.AD.all λp=>(Bq p.right||(!(p.right.all λs=>N s.index)||N p.left))&&
 (List.range p.right.length).all λj=>(p.right.getD j ⟨true,0⟩).token||(Bq (Da p.right j)||(!((Da p.right j).all λs=>N s.index)||decide (p.left.toNat<(p.right.getD j ⟨true,0⟩).index.toNat)))
theorem oz{g:AE}{N:Int->Bool}(h:uU g N=true):Hf g N Int.toNat:=by
 refine⟨λp i ha k=>?_,λp i j hj m ha k=>?_⟩
 .have:=cl.1 h p i;simp[ha,cl.2 k]at this;exact this.1
 .have h0:=cl.1 h p i;simp only[bi]at h0;have:=cl.1 h0.2 j (by simpa using hj);have e:p.right.getD j ⟨true,0⟩=p.right[j]:=by simp[List.getD,hj]
  rw[e]at this;simp only[oj,m,ha,lh,false_or,cl.2 k,adh,cF]at this;exact this
noncomputable def tU(g:AE)(N:Int->Bool):Bool:=g.conds.all Ey&&(DQ [⟨#[]⟩] g.conds&&(Ia g&&(SJ g [⟨#[]⟩] g.AD&&(Xb g [] g.levels&&((g.AU.all λf=>eL g f&&Lg (Ed f))&&
 ((g.AD.all λp=>decide (p.right.length<=16)&&decide (p.layout.length<=16))&&((g.AD.all λp=>(List.range 120).all λk=>decide (k<g.AD.length)||decide (p.name≠KH k))&&uU g N)))))))
theorem LA{g:AE}{N:Int->Bool}{kn:Bool}(o:g.Ae=Dv)(q:g.fam=Dg)(s:kn=false->∀x,N x=true)(h:tU g N=true):VG g kn:=by
 simp only[tU,bi]at h;obtain⟨h1,u,v,w,z,A,B,C,E⟩:=h;have j:∀t∈g.Ae,t.cond=Dg:=λt i=>by
  rw[o]at i;have:=cl.1 MD.2 t i;simp only[jq,bi,cF]at this;exact this.1.2
 refine⟨?_,λt i=>QF (.inl (j t i)) _,?_,v,Q2 g _ _ w,Tg g _ _ z,?_,λp m=>?_,λp m k G F=>?_,N,oz E,s⟩
 .have:g.Ae.map Nr=g.Ae.map id:=rr λt i=>by
   have:=j t i;cases t;simp only at this;subst this;rfl
  rw[this,List.map_id,o]
 .simp only[Fb,h1,u,q,QF (.inl rfl)];rfl
 .simp[EA];intro f i;have:=cl.1 A f i;simp at this;simp[D5,gy this.1,this.2]
 .have:=cl.1 B p m;simpa using this
 .have:=cl.1 (cl.1 C p m) k (by simpa using F);simp at this;exact this.resolve_left (by omega)
def uy(r:Nat)(x:Int):Bool:=match r with|2=>decide (x=0)|4=>decide (x=2)|5=>decide (1<=x)|_=>false
theorem cM(r:Nat):VG (LP r) true:=by
 have i:∀r,(true=false->∀x,uy r x=true):=λ_ h=>by cases h
 match r with
 |0=>exact LA rfl rfl (i 0) (by decide+kernel)
 |1=>exact LA rfl rfl (i 1) (by decide+kernel)
 |2=>exact LA rfl rfl (i 2) (by decide+kernel)
 |3=>exact LA rfl rfl (i 3) (by decide+kernel)
 |4=>exact LA rfl rfl (i 4) (by decide+kernel)
 |r+5=>exact LA (g:=P8) rfl rfl (i 5) (by decide+kernel)
theorem fV:((List.range 3).all λm=>(List.range 4).all λc=>tU (JS m c) λ_=>true)=true:=by decide+kernel
theorem mJ(m c:Nat)(g:m<3)(i:c<4):VG (JS m c) false:=by
 have h:=fV;simp at h;exact LA rfl rfl (λ_ _=>rfl) (h m g c i)
structure Sh(g:AE):Prop where
 n:∀s∈g.A2,s.size<=8
 c:∀s∈g.conds,s.size<=8
 p:∀p∈g.AD,p.name.size<=8
 p2:∀p∈g.AD,2<=p.name.size/\p.name.size<=7
 r:∀p∈g.AD,p.right.length<=5
def ta(g:AE):Bool:=g.A2.all (λs=>decide (s.size<=8))&&(g.conds.all (λs=>decide (s.size<=8))&&(g.AD.all (λp=>decide (p.name.size<=8))&&(g.AD.all (λp=>decide (2<=p.name.size)&&decide (p.name.size<=7))&&g.AD.all λp=>decide (p.right.length<=5))))
theorem LB{g:AE}(h:ta g=true):Sh g:=by
 simp[ta]at h;exact⟨h.1,h.2.1,h.2.2.1,h.2.2.2.1,h.2.2.2.2⟩
theorem cg(r:Nat):Sh (LP r):=by
 match r with
 |0=>exact LB (by decide+kernel)
 |1=>exact LB (by decide+kernel)
 |2=>exact LB (by decide+kernel)
 |3=>exact LB (by decide+kernel)
 |4=>exact LB (by decide+kernel)
 |r+5=>exact LB (g:=P8) (by decide+kernel)
theorem oF:((List.range 3).all λm=>(List.range 4).all λc=>ta (JS m c))=true:=by decide+kernel
theorem mB(m c:Nat)(g:m<3)(i:c<4):Sh (JS m c):=by
 have h:=oF;simp at h;exact LB (h m g c i)
theorem Sh.line{g:AE}{kn:Bool}(h:Sh g){q:AO}(j:UA g kn q):Sh {g with AD:=g.AD++[q]}:=by
 refine⟨h.n,h.c,λp i=>?_,λp i=>?_,λp i=>?_⟩
 .rcases dl.1 i with i|i
  .exact h.p p i
  .simp at i;subst i;rw[j.name];have:(KH g.AD.length).size=2:=by simp[KH,FN]
   omega
 .rcases dl.1 i with i|i
  .exact h.p2 p i
  .simp at i;subst i;rw[j.name];have:(KH g.AD.length).size=2:=by simp[KH,FN]
   omega
 .rcases dl.1 i with i|i
  .exact h.r p i
  .simp at i;subst i;exact Nat.le_succ_of_le j.len
theorem Sh.qN{g F:AE}(h:Sh g)(i:IY g F):Sh F:=by
 rcases i with rfl|⟨l,_,rfl⟩|⟨f,_,rfl⟩|⟨t,_,rfl⟩
 .exact h
 .exact⟨h.n,h.c,h.p,h.p2,h.r⟩
 .exact⟨h.n,h.c,h.p,h.p2,h.r⟩
 .exact⟨h.n,h.c,h.p,h.p2,h.r⟩
open Go.Proofs Tryz
structure XT(g:AE)(kn:Bool)(p l:Nat):Prop extends MG g p l where
 vg:VG g kn
 sh:Sh g
def U7(x:Raw)(g:AE):Sg:=[.row true 5 [.d (Gq x)],.row true 9 [Ji],.row true 9 [.d (AA g)]]
theorem gQ(x:Raw):BP prog 12 [.d (Gq x)] [] (V9 λg=>∃kn,XT g kn 10 6):=by
 refine BP.AK func12 rfl rfl (by simp) λwf _=>?_;have hb:x.base<256:=by have:=wf.1;simp[JQ,DZ,Bs,IL]at this;omega
 have hn:x.n<256:=by have:=wf.1;simp[JQ,DZ,Bs,IL]at this;omega
 have zH:∀k∈x.fam,k<256:=by
  have:=wf.1;simp[JQ,DZ,Bs,Di,IL]at this;intro k G;have:=this.2.2.1.2 k G;omega
 have H:∀y∈x.lines,y.Em<256/\y.mark<256:=by
  have:=wf.1;simp[JQ,DZ,Bs,Di,IL]at this;intro k G;have:=this.2.2.2.1.2 k G;omega
 have J:∀y∈x.rules,y.kind<256/\y.a<256/\y.b<256/\y.c<256/\y.Em<256:=by
  have:=wf.1;simp[JQ,DZ,Bs,Di,IL]at this;intro k G;have:=this.2.2.2.2.2 k G;omega
 have yh:x.lines.length<=al:=by have:=wf.1;simp[JQ,DZ,Bs]at this;exact this.2.2.2.1.1
 have wi:x.rules.length<=al:=by have:=wf.1;simp[JQ,DZ,Bs]at this;exact this.2.2.2.2.1
 have wR:x.fam.length<=al:=by have:=wf.1;simp[JQ,DZ,Bs]at this;exact this.2.2.1.1
 clear wf;obtain⟨w,X⟩:=a9 (x.base % 8);have q1:((x.base:Int).tmod 8)=w:=by rw[c8 (by omega),<-X];simp
 have K:(x.base:Int) % 8=w:=by omega
 have L:=eT w (by omega);have P:XT (LP (w % 6)) true 0 0:=⟨gg _,cM _,cg _⟩;rw[ntmps12];apply yW;simp;apply yW;simp[q1];apply yS;apply yJ;simp[q1];refine B9 (L) rfl (by simp) (yJ ?_);simp;(repeat apply xS);apply yV;simp;generalize LP (w % 6)=g0 at *;refine AW.Ju (R:=λtm S=>tm 1=.ptr 0 1 0 0/\tm 2=.ptr 1 1 0 0/\tm 4=.ptr 2 1 0 0/\(∃m:Nat,m<=10/\tm 5=.d (.int .i64 m))/\∃k,tm 3=.d (.bool k)/\∃g,XT g k 0 0/\S=U7 x g) ?_ ?_
 ·(repeat apply xS);apply yV;simp;by_cases U:w<6
  .have A:(w:Int)<6:=by omega
   apply AR;simp[A];apply CT;refine⟨_,_,am,?_⟩;simp;exact⟨⟨6,by omega,rfl⟩,g0,by simpa[U]using P,rfl⟩
  .have A:¬(w:Int)<6:=by omega
   obtain⟨u,hn4⟩:=a9 (x.n / 4);obtain⟨m,hm⟩:=a9 (u % 3);obtain⟨c,hc⟩:=a9 (x.n % 4);have r1:((x.n:Int).tdiv 4)=u:=by rw[wn (by omega)];omega
   have Y:(x.n:Int) / 4=u:=by omega
   have r2:IntKind.u8.wrap (u:Int)=u:=by simp[IntKind.wrap,IntKind.signed,IntKind.bits];omega
   have r3:IntKind.i64.wrap (u:Int)=u:=by rw[bv];omega
   have r4:((u:Int).tmod 3)=m:=by rw[c8 (by omega),<-hm];simp
   have Z:(u:Int) % 3=m:=by omega
   obtain⟨Q,zI⟩:=a9 (1+m);have r5:IntKind.i64.wrap ((1:Int)+m)=Q:=by rw[bv];omega
   have r6:((x.n:Int).tmod 4)=c:=by rw[c8 (by omega),<-hc];simp
   have r6':(x.n:Int) % 4=c:=by omega
   have r7:IntKind.i64.wrap (c:Int)=c:=by rw[bv];omega
   have s1:(Q:Int)<=3:=by omega
   have s2:(c:Int)<=3:=by omega
   have wH:=(H8 ([⟨#[83]⟩,⟨#[80]⟩,⟨#[81]⟩].take Q));have s:XT (JS m c) false 0 0:=⟨lZ m c (by omega) (by omega),mJ m c (by omega) (by omega),mB m c (by omega) (by omega)⟩;unfold JS at s;rw[zI]at s;apply AR;simp[A];apply yS;apply yJ;simp[al,r1,r2,r3,r4,r5,s1];refine xF (wH) [] rfl ?_;simp[al];apply yJ;simp[Il];apply yW;simp[al,r6,r7,s2];refine yD [0,2,4,6,8,10,13,14,17] (by kernel_rfl) ?_;simp;apply yA 1;simp;refine B5 (Dp 0) rfl (by simp[al,xN]) ?_;simp;apply yA 1;simp[al];refine B5 (Bo ⟨#[102,105,114,115,116]⟩ 0 [⟨true,0⟩]) rfl (by simp[al,xN]) ?_;simp;apply yA 1;simp[al];apply xX 19 (by kernel_rfl);simp[Ac,Al,al,Ah];apply yA 1;simp;apply xX 15 (by kernel_rfl);simp[Ac,Al,al];apply xM;apply yV;simp;refine⟨_,_,((c9 3 (xs:=[AH PG]) rfl (by simp[Dw,Ba,PG,Dg,A0])).trans (i5 2 (xs:=[AA ⟨[⟨#[65]⟩,⟨#[66]⟩,⟨#[67]⟩].take c,Dg,Dv,[⟨#[83]⟩,⟨#[80]⟩,⟨#[81]⟩].take Q,[PG],0,[],[]⟩]) rfl ?_)).trans (a8 3 (S':=U7 x ⟨[⟨#[65]⟩,⟨#[66]⟩,⟨#[67]⟩].take c,Dg,Dv,[⟨#[83]⟩,⟨#[80]⟩,⟨#[81]⟩].take Q,[PG],0,[],[]⟩) ?_ (by simp) (by simp) (by simp)),?_⟩
   .simp[Dw,Dx,CF,AA,Dg]
   .simp[U7,Ji]
   .simp[clean,AP];exact⟨⟨10,by omega,rfl⟩,_,by simpa[U]using s,rfl⟩
 .rintro tm S ⟨t1,t2,t4,⟨o,hmost,t5⟩,kn,t3,g,j,rfl⟩;unfold U7;clear P;obtain⟨d,hd⟩:=Z7 x.fam zH g.conds.length j.c1;have v:=S9 _ g.conds.length (by have:=j.c1;omega) d hd;unfold K9 at v;simp at v;apply yS;apply yJ;simp[t1,t4];refine B9 (v) rfl (by simp[xN]) (yJ ?_);simp;refine AW.Ju (R:=λtm S=>tm 1=.ptr 0 1 0 0/\tm 2=.ptr 1 1 0 0/\tm 3=.d (.bool kn)/\tm 4=.ptr 2 1 0 0/\tm 5=.d (.int .i64 o)/\∃g,XT g kn 0 0/\S=U7 x g) ?_ ?_
  .by_cases W:0<x.fam.length
   .have B:x.fam≠[]:=by intro e;simp[e]at W
    (repeat apply xS);apply yT;apply yH;simp[t1,W];by_cases hr:d.root=0
    .apply AR;simp[hr];apply CT;refine⟨_,_,a8 3 (S':=U7 x g) rfl (by simp) (by simp) (by simp[Ji,AP,Aw]),?_⟩;simp[clean,AP,t1,t2,t3,t4,t5];exact⟨g,j,rfl⟩
    .apply AR;simp[hr];apply yV;simp[t4];refine⟨_,_,(i5 2 (xs:=[AA {g with fam:=d}]) rfl (by simp[Dw,Dx,CF,AA])).trans (a8 3 (S':=U7 x {g with fam:=d}) rfl (by simp) (by simp) (by simp[Ji,AP,Aw])),?_⟩;simp[clean,AP,t1,t2,t3,t4,t5];exact⟨{g with fam:=d},⟨⟨j.c1,j.n0,j.n1,j.t1,j.o1,j.p0,j.p1,j.l1,j.l2,j.f1⟩,j.vg.kE (Zz x.fam zH _ j.c1 hd) hr,⟨j.sh.n,j.sh.c,j.sh.p,j.sh.p2,j.sh.r⟩⟩,rfl⟩
   .have B:x.fam=[]:=by cases h:x.fam with|nil=>rfl|cons a l=>simp[h]at W
    apply yS;apply yH;simp[t1,B];apply AR;simp;apply CT;refine⟨_,_,a8 3 (S':=U7 x g) rfl (by simp) (by simp) (by simp[Ji,AP,Aw]),?_⟩;simp[clean,AP,t1,t2,t3,t4,t5];exact⟨g,j,rfl⟩
  rintro tm S ⟨t1,t2,t3,t4,t5,g1,hg1,rfl⟩;clear v hd j L;obtain⟨N,hN⟩:=a9 (min x.lines.length o);obtain⟨M,hM⟩:=a9 (min x.rules.length 6);refine k7 (R:=λtm S=>tm 1=.ptr 0 1 0 0/\tm 2=.ptr 1 1 0 0/\tm 4=.ptr 2 1 0 0/\∃g,XT g kn N 0/\S=U7 x g) ?_ ?_
  .apply yW;simp;apply Bx;refine DV N (λi tm S=>tm 1=.ptr 0 1 0 0/\tm 2=.ptr 1 1 0 0/\tm 3=.d (.bool kn)/\tm 4=.ptr 2 1 0 0/\tm 5=.d (.int .i64 o)/\tm 7=.d (.int .i64 i)/\∃g,XT g kn i 0/\S=U7 x g) (cq _) ⟨by simp[t1],by simp[t2],by simp[t3],by simp[t4],by simp[t5],by simp,g1,hg1,rfl⟩ ?_;rintro i tm S hi ⟨t1,t2,t3,t4,t5,t7,g,j,rfl⟩;unfold U7;refine xS (yW ?_);simp[t1,t5,t7];(repeat apply xS);refine k6 (t:=decide (i<x.lines.length)&&decide (i<o)) ?_ (λhb=>?_) (λhb=>?_)
   .simp
   .simp at hb;obtain⟨T,him⟩:=hb;have z:=H _ (b9 T);generalize hy:x.lines[i]=y at *;obtain⟨F,C,hp⟩:=Qh g y kn ⟨j.n0,j.n1⟩ j.c1 (by have:=j.p1;omega) z.1 z.2;have E:XT F kn (i+1) 0:=⟨kO j.toMG C,by rcases C with rfl|⟨q,hq,rfl⟩;exact j.vg;exact j.vg.line (by have:=j.p1;omega) hq,by rcases C with rfl|⟨q,hq,rfl⟩;exact j.sh;exact j.sh.line hq⟩;have yx:IntKind.i64.wrap ((i:Int)+1)=(i+1:Nat):=by rw[bv];omega
    apply xK;apply xB;refine yE [0,2,4,6,8,10,12,14,17] (by kernel_rfl) ?_;simp;apply yA 0;simp[t1,t3,t4,t7,T,hy];refine go (hp) rfl (by simp[Cj,xN]) ?_;simp;apply yA 0;simp;apply xX 255 (by kernel_rfl);simp[t4];apply xM;apply yV;simp[t7,yx];refine⟨by omega,_,_,am,?_⟩;simp[t1,t2,t3,t4,t5];exact⟨F,E,rfl⟩
   .have e:i=N:=by simp at hb;omega
    subst e;apply C7;simp[t1,t2,t4];exact⟨g,j,rfl⟩
  rintro tm S ⟨t1,t2,t4,g2,hg2,rfl⟩;refine k7 (R:=λtm S=>tm 2=.ptr 1 1 0 0/\tm 4=.ptr 2 1 0 0/\∃g,XT g kn N M/\S=U7 x g) ?_ ?_
  .apply yW;simp;apply Bx;refine DV M (λi tm S=>tm 1=.ptr 0 1 0 0/\tm 2=.ptr 1 1 0 0/\tm 4=.ptr 2 1 0 0/\tm 8=.d (.int .i64 i)/\∃g,XT g kn N i/\S=U7 x g) (cq _) ⟨by simp[t1],by simp[t2],by simp[t4],by simp,g2,hg2,rfl⟩ ?_;rintro i tm S hi ⟨t1,t2,t4,t8,g,j,rfl⟩;unfold U7;refine xS (yW ?_);simp[t1,t8];(repeat apply xS);refine k6 (t:=decide (i<x.rules.length)&&decide (i<6)) ?_ (λhb=>?_) (λhb=>?_)
   .simp;rw[eg];simp;omega
   .simp at hb;obtain⟨T,him⟩:=hb;have z:=J _ (b9 T);generalize hy:x.rules[i]=y at *;have hro:IG g y:=⟨j.p0,by have:=j.p1;omega,j.n0,by have:=j.n1;omega,j.c1,j.t1,by have:=j.l1;omega,λl hl=>by have:=j.l2 l hl;omega,by have:=j.f1;omega,z.1,z.2.1,z.2.2.1,z.2.2.2.1,z.2.2.2.2⟩;obtain⟨F,C,hp⟩:=UN g y hro;have E:XT F kn N (i+1):=⟨lP j.toMG C,j.vg.qN C,j.sh.qN C⟩;have yx:IntKind.i64.wrap ((i:Int)+1)=(i+1:Nat):=by rw[bv];omega
    apply xK;apply xB;refine yE [0,2,4,6,8,10,12,15] (by kernel_rfl) ?_;simp;apply yA 0;simp[t1,t4,t8,T,hy];refine go (hp) rfl (by simp[Br,xN]) ?_;simp;apply yA 0;simp;apply xX 127 (by kernel_rfl);simp[t4];apply xM;apply yV;simp[t8,yx];refine⟨by omega,_,_,am,?_⟩;simp[t1,t2,t4];exact⟨F,E,rfl⟩
   .have e:i=M:=by simp at hb;omega
    subst e;apply C7;simp[t2,t4];exact⟨g,j,rfl⟩
  rintro tm S ⟨t2,t4,g,j,rfl⟩;unfold U7;apply yW;simp[t2,t4,Ji];apply Af;refine⟨_,_,am,by simp[t2],_,_,⟨rfl,g,rfl,kn,⟨j.c1,j.n0,j.n1,j.t1,j.o1,j.p0,by have:=j.p1;omega,by have:=j.l1;omega,j.l2,by have:=j.f1;omega⟩,j.vg,j.sh⟩,.inl ⟨AA g,_,by simp[t2],rfl,a8 0 rfl (by simp) (by simp) (by simp)⟩⟩
theorem XT.okF{g:AE}{kn:Bool}(h:XT g kn 10 6):Koi.okF g:=
 h.vg.okF h.c1 h.n1 (by have:=h.p1;omega) (by have:=h.l1;omega) (by have:=h.f1;omega)
def Ys(p:ByteArray)(k:Nat):ByteArray:=p++Ik (IntKind.u8.wrap (97+(k % 20:Nat)))
theorem YL(p:ByteArray)(k:Nat)(o:k<256)(s:p.size<=100):Pure prog 16 [.str p,.int .u8 k] (.str (Ys p k)):=by
 obtain⟨m,h⟩:=a9 (k % 20);unfold Ys;rw[h];have q:((k:Int).tmod 20)=m:=by rw[c8 (by omega),<-h];simp
 have i:(k:Int) % 20=m:=by omega
 have g:prog.underlying 9=some .string:=by kernel_rfl
 have j:p.size+1<=al:=by unfold al;omega
 refine zP func16 12 rfl λwf=>?_;apply yW;simp[al];(repeat apply xS);apply yT;(repeat(refine Cd ?_ ?_;(·simp[al]);simp[q,al]));refine AV.Ow 5 (IntKind.u8.wrap (97+m)) rfl (by simp) g (yJ ?_);simp[FN,j];apply zT;try simp
open Go.Proofs Tryz DT
theorem Rl(k:FuncId):AG prog 65 [.fn (.func k) [] []] [] (.fn (.func 151) [] [.ptr 0 1 0 0]) [.row true 1 [.fn (.func k) [] []]]:=by
 refine zC func65 4 rfl λwf _=>?_;apply yW;simp;apply yW;simp;apply Af;refine⟨_,am,?_⟩;simp[Au]
theorem EB(k:FuncId):AG prog 63 [.fn (.func k) [] []] [] (.fn (.func 64) [] [.ptr 0 1 0 0]) [.row true 1 [.fn (.func k) [] []]]:=by
 refine zC func63 4 rfl λwf _=>?_;apply yW;simp;apply yW;simp;apply Af;refine⟨_,am,?_⟩;simp[Au]
def Rm:List (D×V):=[(.int .i64 1,.agg [.fn (.func 61) [] [],.fn (.func 151) [] [.ptr 1 1 0 0],.d (.bool true),.fn (.func 64) [] [.ptr 2 1 0 0]]),(.int .i64 2,.agg [.fn (.func 61) [] [],.fn (.func 68) [] [],.d (.bool true),.fn (.func 64) [] [.ptr 3 1 0 0]]),(.int .i64 3,.agg [.fn (.func 61) [] [],.fn (.func 151) [] [.ptr 4 1 0 0],.d (.bool true),.fn (.func 64) [] [.ptr 5 1 0 0]]),(.int .i64 4,.agg [.fn (.func 72) [] [],.fn (.func 60) [] [],.d (.bool true),.fn (.func 64) [] [.ptr 6 1 0 0]]),(.int .i64 5,.agg [.fn (.func 74) [] [],.fn (.func 151) [] [.ptr 7 1 0 0],.d (.bool false),.fn (.func 64) [] [.ptr 8 1 0 0]]),(.int .i64 6,.agg [.fn (.func 76) [] [],.fn (.func 77) [] [],.d (.bool false),.fn (.func 64) [] [.ptr 9 1 0 0]]),(.int .i64 7,.agg [.fn (.func 81) [] [],.fn (.func 82) [] [],.d (.bool true),.fn (.func 83) [] []]),(.int .i64 8,.agg [.fn (.func 62) [] [],.fn (.func 84) [] [],.d (.bool true),.fn (.func 86) [] []]),(.int .i64 9,.agg [.fn (.func 87) [] [],.fn (.func 82) [] [],.d (.bool true),.fn (.func 88) [] []]),(.int .i64 10,.agg [.fn (.func 89) [] [],.fn (.func 60) [] [],.d (.bool false),.fn (.func 64) [] [.ptr 10 1 0 0]]),(.int .i64 11,.agg [.fn (.func 91) [] [],.fn (.func 60) [] [],.d (.bool false),.fn (.func 64) [] [.ptr 11 1 0 0]]),(.int .i64 12,.agg [.fn (.func 93) [] [],.fn (.func 60) [] [],.d (.bool false),.fn (.func 64) [] [.ptr 12 1 0 0]]),(.int .i64 13,.agg [.fn (.func 95) [] [],.fn (.func 60) [] [],.d (.bool false),.fn (.func 64) [] [.ptr 13 1 0 0]]),(.int .i64 14,.agg [.fn (.func 97) [] [],.fn (.func 68) [] [],.d (.bool false),.fn (.func 64) [] [.ptr 14 1 0 0]])]
def SZ:Sg:=[.row true 1 [.fn (.func 66) [] []],.row true 1 [.fn (.func 67) [] []],.row true 1 [.fn (.func 69) [] []],.row true 1 [.fn (.func 70) [] []],.row true 1 [.fn (.func 71) [] []],.row true 1 [.fn (.func 73) [] []],.row true 1 [.fn (.func 70) [] []],.row true 1 [.fn (.func 75) [] []],.row true 1 [.fn (.func 79) [] []],.row true 1 [.fn (.func 90) [] []],.row true 1 [.fn (.func 92) [] []],.row true 1 [.fn (.func 94) [] []],.row true 1 [.fn (.func 96) [] []],.row true 1 [.fn (.func 98) [] []]]
theorem Tb:AG prog 22 [] [] (.map 0) (.map Rm::SZ):=by
 refine zC func22 55 rfl λwf _=>?_;apply yW;simp;apply yW;simp;apply yW;simp;apply yW;simp;apply yW;simp;(repeat apply xS);apply yT;apply yJ;simp;refine xF (Rl 66) [] rfl ?_;simp;apply yJ;simp;refine xF (EB 67) [] rfl ?_;simp;apply yJ;simp[Ek,DF,Bj,B7,CN];refine xF (EB 69) [] rfl ?_;simp;apply yJ;simp[Ek,DF,De,Bj,B7,CN];refine xF (Rl 70) [] rfl ?_;simp;apply yJ;simp;refine xF (EB 71) [] rfl ?_;simp;apply yJ;simp[Ek,DF,De,Bj,B7,CN];refine xF (EB 73) [] rfl ?_;simp;apply yJ;simp[Ek,DF,De,Bj,B7,CN];refine xF (Rl 70) [] rfl ?_;simp;apply yJ;simp;refine xF (EB 75) [] rfl ?_;simp;apply yJ;simp[Ek,DF,De,Bj,B7,CN];refine xF (EB 79) [] rfl ?_;simp;apply yJ;simp[Ek,DF,De,Bj,B7,CN];refine xF (EB 90) [] rfl ?_;simp;apply yJ;simp[Ek,DF,De,Bj,B7,CN];refine xF (EB 92) [] rfl ?_;simp;apply yJ;simp[Ek,DF,De,Bj,B7,CN];refine xF (EB 94) [] rfl ?_;simp;apply yJ;simp[Ek,DF,De,Bj,B7,CN];refine xF (EB 96) [] rfl ?_;simp;apply yJ;simp[Ek,DF,De,Bj,B7,CN];refine xF (EB 98) [] rfl ?_;simp;apply yJ;simp[Ek,DF,De,Bj,B7,CN];apply Af;refine⟨_,rc (by simp[Rm,SZ]),?_⟩;simp[Au]
section
variable {P:Program} {n b:Nat} {ops:Array Oper} {tm:Tm} {S S1 S2:Sg} {K:Tm->Sg->Prop} {v1 v2:V}
theorem Bm.sW{B:List (Nat×(Sg->Prop))}{g:Array Bool}{h:Nat}{o1 o2:Oper}(i j:Nat)(m o:List Bool)(t:Region.ready .any ops g=[i,j])(hi:ops[i]?=some o1)(hj:ops[j]?=some o2)
  (u:B.map (λp=>waits ops i p.1)=m) (v:B.map (λp=>waits ops j p.1)=o)
  (h1:B1 P n b ops i o1 tm S v1 S1) (w:okB m B S S1) (z:B1 P n b ops j o2 tm S v2 S2) (q:okB o B S S2)
  (k1:Bm P n b ops K (FA m B) h (g.setIfInBounds i true) (put tm o1.dst v1) S1)
  (k2:Bm P n b ops K (FA o B) h (g.setIfInBounds j true) (put tm o2.dst v2) S2):Bm P n b ops K B (h+1) g tm S:=by
 refine⟨λh0=>(by rw[t]at h0;cases h0),λk s=>?_⟩;rw[t]at s;simp at s;rcases s with rfl|rfl
 .exact⟨o1,_,_,hi,h1,FQ u w,by rw[Gl u];exact k1⟩
 .exact⟨o2,_,_,hj,z,FQ v q,by rw[Gl v];exact k2⟩
theorem Bm.uB{B:List (Nat×(Sg->Prop))}{g:Array Bool}{h:Nat}{o1:Oper}(i:Nat)(j:List Bool)(o:Region.ready .any ops g=[i])(hi:ops[i]?=some o1)
  (q:B.map (λp=>waits ops i p.1)=j) (h1:B1 P n b ops i o1 tm S v1 S1) (s:okB j B S S1)
  (k1:Bm P n b ops K (FA j B) h (g.setIfInBounds i true) (put tm o1.dst v1) S1):Bm P n b ops K B (h+1) g tm S:=by
 refine⟨λh0=>(by rw[o]at h0;cases h0),λk m=>?_⟩;rw[o]at m;simp at m;subst m;exact⟨o1,_,_,hi,h1,FQ q s,by rw[Gl q];exact k1⟩
end
def ZK(g:AE)(x:AX)(c f a:FuncId)(h ac:List V)(kp:Bool)(k1 k2:FuncId):Sg:=
 [.row true 9 [.d (AA g)],.row true 31 [.d (Ao x)],.row true 9 [.agg [.full [],.full [],.d (.int .i64 0),.full [],.full [],.full [],.d (.int .i64 0),.full [],.full []]],.row true 4 [.agg [.fn (.func c) [] [],.fn (.func f) [] h,.d (.bool kp),.fn (.func a) [] ac]],.row true 1 [.fn (.func k1) [] []],.row true 1 [.fn (.func k2) [] []]]
section
variable {P:Program} {n b:Nat} {o:Oper} {tm tm':Tm} {S S':Sg} {v:V} {ops:Array Oper} {K:Tm->Sg->Prop}
def rm(P:Program)(n b:Nat)(ops:Array Oper)(i:Nat)(tm:Tm)(S:Sg)(R:Tm->Sg->Prop):Prop:=
 ∀G w a (g:Act->World->Prop) Q,St P n G S w a tm->b<=S.length->(∀tm' S',R tm' S'->∀h j k,Gu P n b G S w a.defers h j k S' tm'->g h j)->wpOp P ops Q i g a w
def J0(P:Program)(n b:Nat)(ops:Array Oper)(i:Nat)(o:Oper)(tm:Tm)(S:Sg)(R:V->Sg->Prop):Prop:=
 ∀tm',(∀t∈o.looksAt ops,tm' t=tm t)->rm P n b ops i tm' S λt S'=>∃v,R v S'/\t=put tm' o.dst v
theorem B1.sY{i:Nat}(h:B1 P n b ops i o tm S v S'):J0 P n b ops i o tm S λu T=>u=v/\T=S':=λtm' g G w a j Q st hb k=>
 h tm' g G w a j Q st hb λm q s t=>k _ _ ⟨v,⟨rfl,rfl⟩,rfl⟩ m q s t
theorem J0.congr{i:Nat}{R:V->Sg->Prop}(h:J0 P n b ops i o tm S R)(k:∀t∈o.looksAt ops,tm' t=tm t):J0 P n b ops i o tm' S R:=λg m=>
 h g λt j=>(m t j).trans (k t j)
theorem J0.O7{i:Nat}{c:Call}{f:cP}{args:List V}{R:V->Sg->Prop}(hi:ops[i]?=some o)(M:o.op=.call c)(hg:o.guard=none)(hd:BA n o.dst)(g:callee tm c=some (f,args))(hn:BE tm c)
  (h:BP P f args S R):J0 P n b ops i o tm S R:=λtm' u G w a K' Q st hb k=>by
 obtain⟨N,T⟩:=HF M u;rw[<-N]at g;rw[<-T]at hn;clear N T u;unfold wpOp;simp[hi,Region.wanted,hg];left;have key:∀(next:Act->World->Prop),(∀cv j m v S',R v S'->CV m S' j v cv->Rel P m S' j->Tr G S w m S' j->BL G S w m S' j->next (a.put o.dst cv) j)->o.wp P a w next Q:=λnext s=>by
  obtain⟨q,h⟩:=h;unfold callee at g;obtain⟨U,yj⟩:=hn;cases z:c.callee with
  |value x=>
   simp only[z]at g U;have C:=(BV st x).strip U;split at g
   .rename_i k' first W E
    simp only[fd,GE]at g;obtain⟨A,Y⟩:=g;subst A;subst Y;rw[E]at C;generalize hX:a.eval x=X at C;cases C with
    |fn _ _ _ Z ys h1 h2 h3 h4=>
     unfold OO at q;have vl:=h G w (Z++c.args.map a.eval++ys) st.rel (by simp[h1,h2]) (λi hi vo=>by
      by_cases A:i<first.length
      .rw[lg (by simp;omega),lg A];rw[ww (by simp;omega),ww (by omega)];exact h3 i A
      .by_cases Y:i<first.length+c.args.size
       .rw[lg (by simp;omega),rg (by omega)];rw[ww (by simp;omega),Hh (by omega)];simp only[kt,adn,tg,h1];exact(BV st _).strip (IP yj _ (by simp))
       .simp at hi;rw[rg (by simp;omega)];rw[Hh (by simp;omega)];simp[h1];exact h4 _ (by omega))
     unfold Oper.wp;have vm:(execOp a.eval o).run P w=.ok (.enter k' (Z++c.args.map a.eval++ys)) w:=by
      split at q
      .rename_i fn t;simp[ne_eq]at q;obtain⟨b,hb⟩:=jw.1 q.2;simp[execOp,M,resolve,z,hX,Deferred.ofValue,invoke,callFunc,t,q.1,hb]
      .cases q
     rw[vm];simp only[Oper.upon];exact vl.mono λe j ⟨cv,m,v,S',F,u,H,J,L,B⟩=>by subst u;exact s cv j m v S' F H J L B
   .cases g
  |invoke=>simp[z]at g
  |builtin=>simp[z]at g
 exact key _ λcv j m v S' F H J L B=>k _ S' ⟨v,F,rfl⟩ _ _ m ⟨st.put hd H J B,B8,L,B.late hb⟩
def Wd(P:Program)(n b:Nat)(ops:Array Oper)(K:Tm->Sg->Prop)(B:List (Nat×(Sg->Prop))):Nat->Array Bool->Tm->Sg->Prop
 |0,g,tm,S=>Region.ready .any ops g=[]/\K tm S
 |h+1,g,tm,S=>(Region.ready .any ops g=[]->K tm S)/\∀i∈Region.ready .any ops g,∃o R,ops[i]?=some o/\J0 P n b ops i o tm S R/\∀v S',R v S'->Wn ops B i S S'/\Wd P n b ops K (B.filter λp=>!waits ops i p.1) h (g.setIfInBounds i true) (put tm o.dst v) S'
theorem KC:∀(g:Nat) (B m:List (Nat×(Sg->Prop))) (i:Array Bool) (tm:Tm) (S:Sg),(∀p∈m,p∈B)->Wd P n b ops K B g i tm S->Wd P n b ops K m g i tm S
 |0,_,_,_,_,_,_,h=>h
 |g+1,B,m,_,_,_,q,h=>⟨h.1,λk u=>by
  obtain⟨o,R,w,z,s⟩:=h.2 k u;refine⟨o,R,w,z,λv S' t=>⟨λp j=>(s v S' t).1 p (q p j),KC g _ _ _ _ _ (λp j=>?_) (s v S' t).2⟩⟩;rw[ms]at j⊢;exact⟨q p j.1,j.2⟩⟩
theorem VU{i:Nat}{L:Oper}{C:Sg->Prop}(hi:ops[i]?=some L):
  ∀(m:Nat) (B:List (Nat×(Sg->Prop))) (g:Array Bool) (tm:Tm) (S:Sg),(∀j E,ops[j]?=some E->j≠i->g.getD j true=false->(∀e∈E.after,Region.binds .any e=true->e.on≠i)->L.apart ops E=true)->i∈Region.ready .any ops g->C S->(∀S',C S'->B1 P n b ops i L tm S' v S')->Wd P n b ops K ((i,C)::B) m (g.setIfInBounds i true) (put tm L.dst v) S->Wd P n b ops K B (m+1) g tm S:=by
 intro m;induction m with
 |zero=>
  intro B g tm S _ M hS U H;refine⟨λh=>(by rw[h]at M;cases M),λj hj=>?_⟩;by_cases F:j=i
  .subst F;refine⟨L,_,hi,(U S hS).sY,?_⟩;rintro _ _ ⟨rfl,rfl⟩;exact⟨λp _=>.inr id,H⟩
  .have:=adX hj F;rw[H.1]at this;cases this
 |succ m ih=>
  intro B g tm S zy M hS U H;refine⟨λh=>(by rw[h]at M;cases M),λj hj=>?_⟩;by_cases F:j=i
  .subst F;refine⟨L,_,hi,(U S hS).sY,?_⟩;rintro _ _ ⟨rfl,rfl⟩;refine⟨λp _=>.inr id,KC _ _ _ _ _ _ (λp W=>?_) H⟩;exact WP _ (ms.1 W).1
  .obtain⟨E,R,s,vx,z⟩:=H.2 j (adX hj F);obtain⟨G,oj',J,vk⟩:=mem_ready.1 hj;rw[s]at J;cases J;have X:∀e∈E.after,Region.binds .any e=true->e.on≠i:=λe N hb w=>by
    have h1:=vk e N hb;have h0:=(mem_ready.1 M).1;rw[w]at h1;rcases pu i g.size with Y|Y
    .simp[Y]at h0 h1;rw[h0]at h1;cases h1
    .simp[wE Y]at h1
   obtain⟨a1,a2,a3⟩:=Oper.apart_spec (zy j E s F G X);have hw:waits ops j i=false:=by
    cases hx:waits ops j i with
    |false=>rfl
    |true=>
     obtain⟨e,N,hb,w⟩:=Ll s hx;exact absurd w (X e N hb)
   have A:∀k ok,ops[k]?=some ok->k≠i->(g.setIfInBounds j true).getD k true=false->(∀e∈ok.after,Region.binds .any e=true->e.on≠i)->L.apart ops ok=true:=λk ok hk Z Q vt=>by
    refine zy k ok hk Z ?_ vt;by_cases T:j=k
    .subst T;exact G
    .rw[getD_set_ne true T]at Q;exact Q
   refine⟨E,R,s,vx.congr λt ht=>(KQ a1 t ht).symm,λu S' hR=>?_⟩;obtain⟨q,v8⟩:=z u S' hR;have hC:C S':=by
    rcases q (i,C) (by simp)with h|h
    .obtain⟨e,N,hb,w⟩:=Ll s h;exact absurd w (X e N hb)
    .exact h hS
   refine⟨λp W=>q p (by simp[W]),?_⟩;refine ih (B.filter λp=>!waits ops j p.1) (g.setIfInBounds j true) (put tm E.dst u) S' A (adX M (le F)) hC (λS2 h2=>(U S2 h2).congr (KQ a3)) ?_;rw[Array.setIfInBounds_comm _ _ F,put_comm u v λd hd h=>a2 d h hd];rw[List.filter_cons_of_pos (by simp[hw])]at v8;exact v8
theorem O2{Q:Exit->Act->World->Prop}:∀(j:Nat) (g:Array Bool) (tm:Tm) (S:Sg),Wd P n b ops K [] j g tm S->∀G w a,St P n G S w a tm->b<=S.length->(∀m q,(∃u S' tm',Gu P n b G S w a.defers m q u S' tm'/\K tm' S')->Q .normal m q)->wpAny P .any ops Q j g a w
 |0,g,tm,S,h,G,w,a,st,hb,s=>⟨h.1,s a w ⟨G,S,tm,.refl st hb,h.2⟩⟩
 |j+1,g,tm,S,h,G,w,a,st,hb,s=>by
  refine⟨λh0=>s a w ⟨G,S,tm,.refl st hb,h.1 h0⟩,λi hi=>?_⟩;obtain⟨o,R,N,A,B⟩:=h.2 i hi;refine A tm (λ_ _=>rfl) G w a _ Q st hb ?_;rintro _ S' ⟨v,C,rfl⟩ m q u k;refine O2 j _ _ _ (B v S' C).2 u q m k.st k.late.len λE F H=>?_;obtain⟨J,L,z,t,M⟩:=H;exact s E F ⟨J,L,z,⟨t.st,t.ds.trans k.ds,k.tr.trans t.tr,k.late.trans t.late⟩,M⟩
def NN(P:Program)(n b:Nat)(ops:Array Oper)(B:List (Nat×(Sg->Prop)))(l:List (Nat×Bool×Oper))(tm:Tm)(S:Sg)(K:Tm->Sg->Prop):Prop:=
 ∀g,(∀p∈l,ops[p.1]?=some p.2.2)->Ec ops (l.map λp=>(p.1,p.2.1)) g=true->Wd P n b ops K B l.length g tm S
theorem NN.nil{B:List (Nat×(Sg->Prop))}(h:K tm S):NN P n b ops B [] tm S K:=λg _ i=>⟨by simpa[Ec]using i,h⟩
theorem NN.uX{B:List (Nat×(Sg->Prop))}{i:Nat}{rest:List (Nat×Bool×Oper)}(h1:EE P n ops o tm S/\oS P o tm S=S)
  (h:NN P n b ops ((i,λS'=>S'=S)::B) rest (put tm o.dst (Dc P ops o tm S)) S K):NN P n b ops B ((i,true,o)::rest) tm S K:=λg k j=>by
 have hi:ops[i]?=some o:=k (i,true,o) (by simp);simp[Ec]at j;obtain⟨⟨m,q⟩,s⟩:=j;refine VU (C:=λS'=>S'=S) hi _ B g tm S (Region.free_spec hi q) (by simpa using m) rfl (λS' hS=>?_) (h _ (λp j=>k p (by simp[j])) s);subst hS;have:=B1.D7 (b:=b) hi h1.1;rwa [h1.2]at this
theorem NN.O7{B:List (Nat×(Sg->Prop))}{i:Nat}{rest:List (Nat×Bool×Oper)}{c:Call}{f:cP}{args:List V}{R:V->Prop}(h:BP P f args S λv S'=>R v/\S'=S)(t:o.op=.call c)
  (g:o.guard=none/\BA n o.dst/\BE tm c/\callee tm c=some (f,args)) (u:∀v,R v->NN P n b ops B rest (put tm o.dst v) S K):NN P n b ops B ((i,false,o)::rest) tm S K:=λk q s=>by
 obtain⟨w,z,A,C⟩:=g;have hi:ops[i]?=some o:=q (i,false,o) (by simp);simp[Ec]at s;obtain⟨h1,m⟩:=s;refine⟨λh0=>(by rw[h1]at h0;cases h0),λj hj=>?_⟩;rw[h1]at hj;have:j=i:=by simpa using hj
 subst this;refine⟨o,_,hi,J0.O7 hi t w z C A h,?_⟩;rintro v S' ⟨E,rfl⟩;exact⟨λp _=>.inr id,KC _ _ _ _ _ _ (λp g=>(ms.1 g).1) (u v E _ (λp g=>q p (by simp[g])) m)⟩
theorem AW.kR{id:Nat}{Q:Exit->Tm->Sg->Prop}(l:List (Nat×Bool))(m:P.follows .mixedOrders=true)(g:l.length=ops.size)(i:Ec ops l (Array.replicate ops.size false)=true)
  (s:l.all (λp=>decide (p.1<ops.size))=true) (h:∀K:Tm->Sg->Prop,(∀tm S,Q .normal tm S->K tm S)->NN P n b ops [] (Fu ops l) tm S K):AW P n b (.region id ops true) Q tm S:=λG w a st hb=>by
 refine wp_region_any m ?_;obtain⟨r1,r2,k⟩:=st.rel.drawn (w':={w with drawn:=w.drawn+1}) rfl rfl rfl;have h1:=h _ (λ_ _ h=>h) (Array.replicate ops.size false) (λp i=>by
  simp only[Fu,eo]at i;obtain⟨q,t,rfl⟩:=i;have u:q.1<ops.size:=by simpa using cl.1 s q t
  simp[u]) (by
   have e:(Fu ops l).map (λp=>(p.1,p.2.1))=l:=by simp[Fu,kw]
   rw[e];exact i)
 have z:(Fu ops l).length=ops.size:=by simp[Fu,g]
 rw[z]at h1;refine O2 _ _ _ _ h1 G {w with drawn:=w.drawn+1} a ⟨st.size,st.tm.later k,r1⟩ hb λE w' A=>?_;obtain⟨B,S',tm',j,C⟩:=A;exact⟨B,S',tm',⟨j.st,j.ds,r2.trans j.tr,(k.late hb).trans j.late⟩,C⟩
end
theorem BP.Fm{P:Program}{f:cP}{args args':List V}{S:Sg}{R:V->Sg->Prop}(h:BP P f args S R)(s:args'.length=args.length)
  (k:∀i (h:i<args.length) (t:i<args'.length),args[i]=args'[i]\/∃d,Ba S args'[i]=some d/\args[i]=.d d):BP P f args' S R:=
 ⟨h.1,λG w g R u ha=>h.2 G w g R (by omega) λi hi m=>by
  have j:=ha i (by omega) m;rcases k i hi (by omega)with e|⟨d,o,q⟩
  .rw[e];exact j
  .rw[q];exact .d _ _ (j.Ba R o)⟩
theorem BP.Wa{P:Program}{f:cP}{ds:List D}{p:Int->Prop}(h:BP P f (ds.map .d) [] λv g=>g=[]/\∃e:Int,v=.d (AF e)/\p e)(S:Sg):
  BP P f (ds.map .d) S λv g=>(∃e:Int,v=.d (AF e)/\p e)/\g=S:=by
 have h1:=h.Eb (S:=S) [] (by simp) (λv i _=>cq _) (by simp[AP]);have j:(ds.map V.d).map (Bc (nameOf []))=ds.map .d:=by simp[kw,Bc]
 rw[j]at h1;apply h1.mono;rintro m g ⟨v,i,⟨rfl,e,rfl,k⟩,rfl,rfl⟩;exact⟨⟨e,by simp[Bc],k⟩,by simp⟩
def lr:Code->Code
 |.seq _ y=>y
 |c=>c
noncomputable def nH:Code:=lr (lr (lr ((Tryz.f7.body).getD .skip)))
def bx(k1 k2:cP):Sg:=[.row true 1 [.fn (.func k1) [] []],.row true 1 [.fn (.func k2) [] []]]
def FZ:AE:=⟨[],⟨[],0⟩,[],[],[],0,[],[]⟩
def Hg(b:Bool)(r:Nat):List V:=if b then [.ptr r 1 0 0]else []
def GI(r:AE×List Rewrite×Int):D:=.Cb [AA r.1,A8 r.2.1,AF r.2.2]
noncomputable def VK(g:AE)(u fit:Bool)(ae:Int)(h:AE)(i:List Rewrite)(j:Bool):AE×List Rewrite×Int:=
 if(u&&fit)=false then(FZ,[],310)else if ae≠0 then(FZ,[],ae)else if j=true then(FZ,[],2)
 else if NY h≠0 then(FZ,[],NY h)else if S5 g h i≠0 then(FZ,[],S5 g h i)else(h,i,0)
def dP:Rewrite:=⟨0,0,0,[]⟩
def mD(g:List Rewrite)(i:Nat):List Rewrite:=(List.range g.length).map λk=>if k<i then g.getD k dP else dP
theorem px(g:List Rewrite)(i:Nat):(mD g i).length=g.length:=by simp[mD]
theorem jz(g:List Rewrite):mD g 0=List.replicate g.length dP:=by
 unfold mD;apply un (by simp);intro k h1 h;simp
theorem kC(g:List Rewrite){i:Nat}(h:i<g.length):mD g (i+1)=(mD g i).set i g[i]:=by
 unfold mD;apply un (by simp);intro k h1 m;have o:k<g.length:=by simpa using h1
 rw[ada];by_cases e:i=k
 .subst e;simp[h]
 .rw[ao e];have j:(k<i+1)=(k<i):=by apply propext;omega
  simp[j]
theorem n9(g:List Rewrite):mD g g.length=g:=by
 unfold mD;apply un (by simp);intro k h1 h;simp[h]
def mS(g h:AE)(x:AX)(i:List Rewrite)(j:Bool)(l:List Rewrite):Sg:=
 [.row true 9 [.d (AA g)],.row true 31 [.d (Ao x)],.row true 9 [.agg [.full [],.full [],.d (.int .i64 0),.full [],.full [],.full [],.d (.int .i64 0),.full [],.full []]],.row true 51 [.d (LG g x h i j)],.row true 4 (l.map λr=>.d (Ab r))]
theorem V1(vY:∀g,C2 g=0->P6 g)(g:AE)(x:AX)(c f a k1 k2:cP)(A:AX->AX)(fb ab kp fit:Bool)(ae:Int)(h:AE)(j:List Rewrite)(B:Bool)
  (N:C2 g=0) (C:sk c A)
  (v7:Hd (A x)=true->AG prog f (.ptr 4 1 0 0::Hg fb 5) (bS g x++bx k1 k2) (.d (.bool fit)) (bS g x++bx k1 k2))
  (Q:fit=true->AG prog a (.ptr 4 1 0 0::Hg ab 6) (bS g x++bx k1 k2) (.d (AF ae)) (Jk g x h j B++bx k1 k2))
  (T:fit=true->ae=0->j.length<=2 ^ 20/\(∀x∈j,x.A4.length<=2 ^ 30)/\h.conds.length<=12) (U:g.conds.length<=12) {tm:Tm}
  (t2:tm 2=.ptr 0 1 0 0) (t3:tm 3=.ptr 1 1 0 0) (t4:tm 4=.ptr 2 1 0 0) (t8:tm 8=.ptr 3 1 0 0) (t9:tm 9=.d (.bool true)):
  AW prog 124 0 nH (qF prog 124 0 Tryz.f7.results.toList (GI (VK g (Hd (A x)) fit ae h j B)) []) tm (ZK g x c f a (Hg fb 4) (Hg ab 5) kp k1 k2):=by
 have xd:=UD g (vY g N);obtain⟨R,m⟩:=a9 (VK g (Hd (A x)) fit ae h j B);rw[m];unfold VK at m;unfold nH Tryz.f7;simp only[lr,ut];unfold ZK;(repeat refine xS ?_);refine yE [0,2,4,7,8,11,12] (by kernel_rfl) ?_;simp;refine yA 1 ?_;simp[t2,t3];refine ru (xT [1,0,0]) (xd) [] (by kernel_rfl) rfl (by simp[Ac,t2,t3];try rfl) ?_;simp;refine yA 1 ?_;simp[hV];refine xX 1 (by kernel_rfl) ?_;simp[Ac,hS,t2,t3];refine yA 1 ?_;simp;(try simp only[yQ,reduceIte]);have yO:=C x;unfold qp at yO;have s:=Ru (A x);generalize A x=y at *;apply yW;simp[t3];refine xS (yW ?_);simp[t9];refine AR ?_;simp;apply yT;refine yJ ?_;simp[t8];refine xF (yO) [11] rfl ?_;simp;refine yJ ?_;simp;cases W:Hd y with
 |false=>
  rw[W]at s m;refine xS (yS ?_);refine yH ?_;simp[t9];refine i7 (s) rfl rfl (by simp[xN];try rfl) ?_;simp;refine yH ?_;simp;(try simp only[yQ,reduceIte]);refine AR ?_;simp;apply yW;simp[t4];refine Af ?_;(try simp only[yQ,reduceIte]);rw[ap (by simp)]at m;subst m;refine⟨_,_,_,am,by simp[t4],by simp[t4,Ba,AA,FZ,GI],a8 0 (S':=[]) rfl (by simp) (by simp) (by simp)⟩
 |true=>
  rw[W]at s m;have t:=v7 W;unfold bS Dl bV bx at t;simp at t;refine xS (yS ?_);refine yH ?_;simp[t9];refine i7 (s) rfl rfl (by simp[xN];try rfl) ?_;simp;refine yH ?_;simp[t8];refine AV.QC t [6,7,8,9,10,4,5] rfl rfl (by cases fb<;>simp[Hg,Ch,callee,nameOf,Bc,Cn]<;>decide) ?_;simp;refine yH ?_;simp;(try simp only[yQ,reduceIte]);clear t;cases fit with
  |false=>
   refine AR ?_;simp;apply yW;simp[t4];refine Af ?_;(try simp only[yQ,reduceIte]);rw[ap (by simp)]at m;subst m;refine⟨_,_,_,am,by simp[t4],by simp[t4,Ba,AA,FZ,GI],a8 0 (S':=[]) rfl (by simp) (by simp) (by simp)⟩
  |true=>
   have L:=Q rfl;unfold bS Jk Dl bV bx at L;simp at L;refine AR ?_;simp;refine xK ?_;refine xS (yS ?_);refine yJ ?_;simp[t8];refine AV.El L [6,7,8,9,10,4,5] rfl (by cases ab<;>simp[Hg,Ch,callee,nameOf,Bc,Cn]<;>decide) ?_;simp;refine yJ ?_;simp;(try simp only[yQ,reduceIte]);clear L;by_cases q:ae=0;case neg=>
    apply yW;simp;refine AR ?_;simp[q];apply yW;simp[t4];refine Af ?_;(try simp only[yQ,reduceIte]);rw[ao (by simp),ap q]at m;subst m;refine⟨_,_,_,am,by simp[t4],by simp[t4,Ba,AA,FZ,GI],a8 0 (S':=[]) rfl (by simp) (by simp) (by simp)⟩
   obtain⟨hmm1,E,hc⟩:=T rfl q;subst q;apply yW;simp;refine AR ?_;simp;refine CT ?_;have k:=LG.eq_1 g x h j B;refine xS (yW ?_);simp[k];cases w:B with
   |true=>
    rw[w]at m;refine AR ?_;simp;apply yW;simp[t4];refine Af ?_;(try simp only[yQ,reduceIte]);rw[ao (by simp),ao (by simp),ap rfl]at m;subst m;refine⟨_,_,_,am,by simp[t4],by simp[t4,Ba,AA,FZ,GI],a8 0 (S':=[]) rfl (by simp) (by simp) (by simp)⟩
   |false=>
    have fh:=Is h hc;rw[w]at m;refine AR ?_;simp;refine CT ?_;rw[w]at k;refine xS (yS ?_);refine yJ ?_;simp;refine sv (AJ.nn 73 (AA h) (by simp[Ba,AA])) ?_;refine B9 (fh) rfl (by simp[xN]) ?_;simp;refine yJ ?_;simp;(try simp only[yQ,reduceIte]);have X:NY h=0->C2 h=0:=λe=>(Du.1 e).1;have Y:=Mb g h j U hc;generalize NY h=r at *;generalize S5 g h j=me at *;by_cases u:r=0
    .apply yW;simp[u];refine AR ?_;simp;refine CT ?_;have zA:C2 h=0:=X u;have zI:=BP.Wa (P:=prog) (f:=25) (ds:=[AA g,AA h,A8 j]) (p:=λe=>e=me) ((AG.sY Y).mono λv S' ⟨e1,e2⟩=>⟨e2,me,e1,rfl⟩);have M:∀S,_:=λS=>(zI S).Fm (args':=[.d (AA g),.agg [.d (By h.conds),.d (AY h.fam.nodes),.d (AF h.fam.root),.d (DI h.Ae),.d (By h.A2),.d (Co h.AD),.d (AF h.start),.d (Bp h.levels),.d (BX h.AU)],.d (A8 j)]) rfl λi h1 h2=>by
      match i,h1 with
      |0,_=>exact .inl rfl
      |1,_=>exact .inr ⟨AA h,by simp[Ba,AA],rfl⟩
      |2,_=>exact .inl rfl
     (repeat refine xS ?_);refine AW.kR [(0,true),(1,true),(2,true),(3,true),(4,true),(5,true),(6,true),(7,true),(8,true),(9,false),(10,true)] (by kernel_rfl) rfl (by kernel_rfl) (by decide) λK hK=>?_;simp;(repeat((refine NN.uX ?_ ?_);(focus(simp[t2];done));simp[t2]));(refine NN.O7 (M _) rfl (by simp[callee];try rfl) ?_);rintro _ ⟨e3,rfl,rfl⟩;simp;(repeat((refine NN.uX ?_ ?_);(focus(simp;done));simp));refine NN.nil (hK _ _ ?_);(try simp only[yQ,reduceIte]);by_cases o:e3=0
     .apply yW;simp[o];refine AR ?_;simp;refine CT ?_;have Z:(j.length:Int)<=1073741824:=by omega
      refine AW.Ju (R:=λtm S=>tm 4=.ptr 2 1 0 0/\tm 10=.ptr 3 1 0 0/\tm 15=.row 4 j.length/\S=mS g h x j false (mD j 0)) ?_ ?_
      .apply yV;simp[Z];refine⟨_,_,(i5 12 (xs:=(List.replicate j.length dP).map Ab) rfl ?_).trans (rx [0,1,2,10,12] (S0:=mS g h x j false (mD j 0)) ?_ (by simp) (by simp)),?_⟩
       .rw[CO];simp[dP,Ab,Ba]
       .rw[jz];simp[mS,k]
       .simp[pick,t4];decide
      rintro tm S ⟨t4,t10,t15,rfl⟩;refine k7 (R:=λtm S=>tm 4=.ptr 2 1 0 0/\tm 10=.ptr 3 1 0 0/\tm 15=.row 4 j.length/\S=mS g h x j false j) ?_ ?_
      .unfold mS;apply yW;simp[t10,k];refine Bx ?_;refine DV j.length (λi tm S=>tm 4=.ptr 2 1 0 0/\tm 10=.ptr 3 1 0 0/\tm 15=.row 4 j.length/\tm 102=.d (A8 j)/\tm 103=.d (.int .i64 j.length)/\tm 104=.d (.int .i64 i)/\S=mS g h x j false (mD j i)) (cq _) (by simp[t4,t10,t15,mS,k]) ?_;rintro i tm S hi ⟨t4,t10,t15,t102,t103,t104,rfl⟩;apply yW;simp[t103,t104];refine xC ?_;simp;refine⟨λF=>?_,λvw=>?_⟩
       .have G:=kC j F;have z:=px j i;have xg:=E _ (b9 F);generalize hr:j[i]=rw at *;have vf:=Ab.eq_1 rw;have H:=Uc rw.A4 xg;generalize mD j i=ml at *;unfold mS;refine xK ?_;refine xB ?_;apply yW;simp[t102,t104,F,hr,vf];apply yS;refine yJ ?_;simp;refine xF (H) [] rfl ?_;simp;refine yJ ?_;simp;refine ed (c9 6 (xs:=rw.A4.map A7) rfl (by simp)) ?_;simp;apply yV;simp[t15,F,z];have yx:IntKind.i64.wrap ((i:Int)+1)=(i+1:Nat):=by rw[bv];omega
        apply yV;simp[t104,yx];obtain⟨ml2,M⟩:=a9 (ml.set i rw);rw[M]at G;refine⟨F,_,_,(i5 4 (xs:=(ml.set i rw).map Ab) rfl ?_).trans (lm 5 (S':=mS g h x j false ml2) ?_ (by simp) (by simp) (by simp[mS])),?_⟩
        .rw[CO,eQ,kv,eQ,eQ,kv];congr 1;simp[Ba,vf]
        .rw[<-M];simp[mS,kw]
        .simp[clean,AP,t4,t10,t15,t102,t103,G,mS]
       .have e:i=j.length:=by omega
        subst e;rw[n9];refine C7 ?_;simp[t4,t10,t15,mS]
      .rintro tm S ⟨t4,t10,t15,rfl⟩;have J:=UD h (vY h zA);unfold hV hS at J;unfold mS;(repeat refine xS ?_);apply yT;refine yJ ?_;simp[t10,k];refine sv (AJ.nn 121 (AA h) (by simp[Ba,AA])) ?_;refine xF (J) [] rfl ?_;simp;refine yJ ?_;simp[t4,t15];(try simp only[yQ,reduceIte]);refine Af ?_;(try simp only[yQ,reduceIte]);rw[ao (by simp),ao (by simp),ao (by simp),ao (by simpa using u),ao (by simpa using o)]at m;subst m;refine⟨_,_,_,(c9 4 (xs:=j.map Ab) rfl (by simp)).trans ((c9 5 (xs:=h.conds.map D.str) rfl (by simp)).trans ((c9 6 (xs:=h.Ae.map Ad) rfl (by simp)).trans ((c9 7 (xs:=h.A2.map D.str) rfl (by simp)).trans (c9 8 (xs:=h.AD.map AH) rfl (by simp))))),by simp[t4],by simp[t4,Ba,AA,GI],a8 0 (S':=[]) rfl (by simp) (by simp) (by simp)⟩
     .apply yW;simp;refine AR ?_;simp[o];apply yW;simp[t4];refine Af ?_;(try simp only[yQ,reduceIte]);rw[ao (by simp),ao (by simp),ao (by simp),ao (by simpa using u),ap o]at m;subst m;refine⟨_,_,_,am,by simp[t4],by simp[t4,Ba,AA,FZ,GI],a8 0 (S':=[]) rfl (by simp) (by simp) (by simp)⟩
    .apply yW;simp;refine AR ?_;simp[u];apply yW;simp[t4];refine Af ?_;(try simp only[yQ,reduceIte]);rw[ao (by simp),ao (by simp),ao (by simp),ap u]at m;subst m;refine⟨_,_,_,am,by simp[t4],by simp[t4,Ba,AA,FZ,GI],a8 0 (S':=[]) rfl (by simp) (by simp) (by simp)⟩
structure KE where
 kd:Int
 c:cP
 f:cP
 a:cP
 fb:Bool
 ab:Bool
 kp:Bool
 k1:cP
 k2:cP
 p1:Nat
 p2:Nat
def eC:List KE:=[⟨1,61,151,64,true,true,true,66,67,4,5⟩,⟨2,61,68,64,false,true,true,66,69,4,6⟩,⟨3,61,151,64,true,true,true,70,71,7,8⟩,⟨4,72,60,64,false,true,true,66,73,4,9⟩,⟨5,74,151,64,true,true,false,70,75,10,11⟩,⟨6,76,77,64,false,true,false,66,79,4,12⟩,⟨7,81,82,83,false,false,true,66,67,4,5⟩,⟨8,62,84,86,false,false,true,66,67,4,5⟩,⟨9,87,82,88,false,false,true,66,67,4,5⟩,⟨10,89,60,64,false,true,false,66,90,4,13⟩,⟨11,91,60,64,false,true,false,66,92,4,14⟩,⟨12,93,60,64,false,true,false,66,94,4,15⟩,⟨13,95,60,64,false,true,false,66,96,4,16⟩,⟨14,97,68,64,false,true,false,66,98,4,17⟩]
noncomputable def M5(g:AE)(r:AE×List Rewrite×Int):AE×List Rewrite×Int:=if NY g≠0 then(FZ,[],NY g)else r
theorem NV(P:∀g,C2 g=0->P6 g)(E:KE)(F:E∈eC)(g:AE)(x:AX)(o:x.kind=E.kd)(G:g.conds.length<=12)(z:AX->AX)(fit:Bool)(ae:Int)(h:AE)(u:List Rewrite)(A:Bool)
  (s:sk E.c z)
  (H:C2 g=0->Hd (z x)=true->AG prog E.f (.ptr 4 1 0 0::Hg E.fb 5) (bS g x++bx E.k1 E.k2) (.d (.bool fit)) (bS g x++bx E.k1 E.k2))
  (v:C2 g=0->fit=true->AG prog E.a (.ptr 4 1 0 0::Hg E.ab 6) (bS g x++bx E.k1 E.k2) (.d (AF ae)) (Jk g x h u A++bx E.k1 E.k2))
  (w:C2 g=0->fit=true->ae=0->u.length<=2 ^ 20/\(∀x∈u,x.A4.length<=2 ^ 30)/\h.conds.length<=12):
  Pure prog 7 [AA g,Ao x] (GI (M5 g (VK g (Hd (z x)) fit ae h u A))):=by
 have B:=Is g G;have C:NY g=0->C2 g=0:=λe=>(Du.1 e).1;unfold M5;generalize NY g=r1 at *;refine AG.CJ func7 (by kernel_rfl) rfl (by simp) λwf _=>?_;rw[ntmps7];apply yW;simp;refine xS (yS ?_);refine yJ ?_;simp;refine B9 (B) rfl (by simp[xN]) ?_;simp;refine yJ ?_;simp;(try simp only[yQ,reduceIte]);by_cases t:r1=0;case neg=>
  rw[ap t];apply yW;simp;refine AR ?_;simp[t];apply yW;simp;refine Af ?_;(try simp only[yQ,reduceIte]);refine⟨_,_,_,am,by simp,by simp[Ba,AA,FZ,GI],a8 0 (S':=[]) rfl (by simp) (by simp) (by simp)⟩
 have i:=C t;rw[ao (by simpa using t)];apply yW;simp[t];refine AR ?_;simp;refine xK ?_;refine AW.Ju (R:=λtm S=>tm 2=.ptr 0 1 0 0/\tm 3=.ptr 1 1 0 0/\tm 4=.ptr 2 1 0 0/\tm 8=.ptr 3 1 0 0/\tm 9=.d (.bool true)/\S=ZK g x E.c E.f E.a (Hg E.fb 4) (Hg E.ab 5) E.kp E.k1 E.k2) ?_ ?_
 .clear s H v w;obtain⟨J,j⟩:∃q,E.p1=q:=⟨_,rfl⟩;obtain⟨L,k⟩:∃q,E.p2=q:=⟨_,rfl⟩;obtain⟨M,m⟩:=a9 (ZK g x E.c E.f E.a (Hg E.fb 4) (Hg E.ab 5) E.kp E.k1 E.k2);rw[m];simp only[eC,fi,acz,ad6]at F;rcases F with rfl|rfl|rfl|rfl|rfl|rfl|rfl|rfl|rfl|rfl|rfl|rfl|rfl|rfl;all_goals
   dsimp only at o j k m⊢
   refine AW.regionF (by kernel_rfl) λK N=>?_
   change Bm _ _ _ _ _ _ 10 (Array.replicate 10 false) _ _
   refine nu 1 rfl (by kernel_rfl) ?_ ?_;(focus(simp;done));simp
   refine nu 2 rfl (by kernel_rfl) ?_ ?_;(focus(simp;done));simp
   refine Bm.sW 0 7 [false,false] [false,false] (by kernel_rfl) rfl rfl (by kernel_rfl) (by kernel_rfl) (wd (args:=[]) rfl rfl rfl (by simp) (by simp[callee]) (by simp) (Tb.Eb [] (by simp) (by simp) (by simp))) ?_ (B1.D7 rfl ?_) ?_ ?_ ?_
   .simp[Ac]
   .simp
   .simp[Ac]
   .simp
    simp[Rm,SZ,EF,Bc,Cn,DK,o]
    refine nu 3 rfl (by kernel_rfl) ?_ ?_;(focus(simp[Bj,B7,CN];done));simp[DF,De]
    refine nu 4 rfl (by kernel_rfl) ?_ ?_;(focus(simp;done));simp
    refine nu 5 rfl (by kernel_rfl) ?_ ?_;(focus(simp;done));simp
    refine nu 6 rfl (by kernel_rfl) ?_ ?_;(focus(simp;done));simp
    refine sn 7 [false,false,false,false,false,false] (by kernel_rfl) rfl (by kernel_rfl) ?_ ?_;(focus(simp[Ac,o,DF,De,Bj,B7,CN];done));simp
    refine sn 8 [false,true,true,true,true,true] (by kernel_rfl) rfl (by kernel_rfl) ?_ ?_;(focus(simp[Ac];done));simp
    refine nu 9 rfl (by kernel_rfl) ?_ ?_;(focus(simp;done));simp
    refine aeB (by kernel_rfl) (N _ _ ⟨_,_,rx [0,1,2,18,J,L] (S0:=M) (by simp[<-m,ZK,Hg,<-j,<-k];try decide) (by simp[<-j,<-k]) (by simp[<-j,<-k]),?_⟩)
    simp[pick,<-j,<-k];decide
   .simp
    (refine Bm.uB 0 [false,false] (by kernel_rfl) rfl (by kernel_rfl) (wd (args:=[]) rfl rfl rfl (by simp) (by simp[callee]) (by simp) (Tb.Eb [] (by simp) (by simp) (by simp))) ?_ ?_)
    .simp[Ac]
    simp[Rm,SZ,EF,Bc,Cn,DK,o]
    refine nu 3 rfl (by kernel_rfl) ?_ ?_;(focus(simp[Bj,B7,CN];done));simp[DF,De]
    refine nu 4 rfl (by kernel_rfl) ?_ ?_;(focus(simp;done));simp
    refine nu 5 rfl (by kernel_rfl) ?_ ?_;(focus(simp;done));simp
    refine nu 6 rfl (by kernel_rfl) ?_ ?_;(focus(simp;done));simp
    refine sn 8 [false,true,true,true,true,true] (by kernel_rfl) rfl (by kernel_rfl) ?_ ?_;(focus(simp[Ac];done));simp
    refine nu 9 rfl (by kernel_rfl) ?_ ?_;(focus(simp;done));simp
    refine aeB (by kernel_rfl) (N _ _ ⟨_,_,rx [0,1,2,3,J+1,L+1] (S0:=M) (by simp[<-m,ZK,Hg,<-j,<-k];try decide) (by simp[<-j,<-k]) (by simp[<-j,<-k]),?_⟩)
    simp[pick,<-j,<-k];decide
 rintro tm S ⟨t2,t3,t4,t8,t9,rfl⟩;exact V1 P g x E.c E.f E.a E.k1 E.k2 z E.fb E.ab E.kp fit ae h u A i s (H i) (v i) (w i) G t2 t3 t4 t8 t9
section
variable {P:Program} {n b:Nat} {ops:Array Oper} {o:Oper} {tm:Tm} {S S':Sg} {K:Tm->Sg->Prop} {v:V}
theorem Ag.Ls{B:List (Nat×(Sg->Prop))}{i:Nat}{rest:List (Nat×Bool×Oper)}{c:Call}{f:FuncId}{args:List V}{j:Nat}{g:Bool}(h:AG P f args S v S)(k:o.op=.call c)(m:o.guard=some (j,g))
  (q:CW ops tm j g=some true/\BA n o.dst/\BE tm c/\callee tm c=some (f,args)) (s:Ag P n b ops ((i,λS'=>S'=S)::B) rest (put tm o.dst v) S K):Ag P n b ops B ((i,true,o)::rest) tm S K:=by
 obtain⟨t,u,w,z⟩:=q;exact o4 (λS'=>S'=S) rfl (λhi S' hS=>by subst hS;exact B1.PA hi k m u t z w h) s
end
theorem m7{n b:Nat}{tm:Tm}(hb:b<=5)(g:AE)(x:AX)(h:AE)(i:List Rewrite)(j q s t u w:Bool)(pre:Sg):
  AJ prog n b tm (Dl g x h (.row (pre.length+5) i.length) j q s t u++(pre++[.row w 4 (i.map λr=>.d (Ab r))])) (clean 5 tm) (Jk g x h i j):=by
 obtain⟨T,k⟩:∃T,T=pre++[O.row w 4 (i.map λr=>.d (Ab r))]:=⟨_,rfl⟩;rw[<-k];have m:T[pre.length]?=some (.row w 4 ((i.map Ab).map .d)):=by rw[k];simp[kw]
 have o:(T.set pre.length (.BY (i.map Ab)))[pre.length]?=some (.BY (i.map Ab)):=by rw[k];simp
 have v:(T.set pre.length (.BY (i.map Ab))).length=pre.length+1:=by rw[k];simp
 have A:∀xs:List D,Dw ([]:Sg) (xs.map .d)=some xs:=λxs=>CQ _ xs;unfold Dl;have z:=c9 (P:=prog) (n:=n) (b:=b) (tm:=tm) (S:=Dl g x h (.row (pre.length+5) i.length) j q s t u++T) 0 rfl (Cy _ D.str h.conds);apply z.trans;refine(c9 1 rfl (Cy _ Ad h.Ae)).trans ?_;refine(c9 2 rfl (Cy _ D.str h.A2)).trans ?_;refine(c9 3 rfl (Cy _ AH h.AD)).trans ?_;refine(c9 (pre.length+5) (wr:=w) (sz:=4) (els:=(i.map Ab).map .d) (xs:=i.map Ab) (by simp[Dl,m]) (CQ _ _)).trans ?_;simp[Dl];generalize T.set pre.length (.BY (i.map Ab))=U at *;refine(i5 (P:=prog) (n:=n) (b:=b) (tm:=tm) 4 (wr:=true) (sz:=51) (xs:=[LG g x h i j]) rfl ?_).trans ?_
 .simp[Dw,bV,Dx,CF,LG,o]
 .exact a8 5 (by simp[Jk]) hb (by simp) (by simp)
def NC(g:AE)(x:AX)(i:Int):List Symbol:=(A3 g x).right.take x.at_.toNat++((Bu g i).right++(A3 g x).right.drop (x.at_.toNat+1))
noncomputable def IH(g:AE)(x:AX)(i:Int):AO:={FV with name:=(A3 g x).name++⟨#[95]⟩++(Bu g i).name,left:=(A3 g x).left,right:=NC g x i,cond:=(Gr and (A3 g x).cond (Bu g i).cond).1}
def Se(g:AE)(x:AX)(k:Nat)(i:Int):Rewrite:=⟨x.number,x.at_,i,Be k::BF 0 (NC g x i).length⟩
def IU(g:AE)(x:AX):Nat->List Int->List Rewrite
 |_,[]=>[]
 |k,i::l=>Se g x k i::IU g x (k+1) l
theorem UY(g:AE)(x:AX):∀(l:List Int) (k:Nat) (i:Int),IU g x k (l++[i])=IU g x k l++[Se g x (k+l.length) i]
 |[],k,i=>by simp[IU]
 |j::l,k,i=>by simp[IU,UY g x l,nl,adS 1]
theorem MR(g:AE)(x:AX):∀(l:List Int) (k:Nat),(IU g x k l).length=l.length
 |[],_=>rfl
 |_::l,k=>by simp[IU,MR g x l]
def Bv(g:AE)(x:AX):List Int:=nQ g (I2 g x).index
noncomputable def O8(g:AE)(x:AX):AE:={g with AD:=(g.AD++(Bv g x).map (IH g x)).set x.number.toNat {A3 g x with cond:=⟨[],0⟩}}
def PJ(g:AE)(x:AX):Bool:=x.at_==(A3 g x).right.length - 1
noncomputable def K6(g:AE)(x:AX)(i:Nat):List AO:=g.AD++((Bv g x).take i).map (IH g x)
def Km(g:AE)(x:AX)(i:Nat):List Rewrite:=IU g x g.AD.length ((Bv g x).take i)
def KF(g:AE)(x:AX)(o:AO)(a:Nat)(P:List AO)(M:List Rewrite)(i:Nat):Sg:=
 Dl g x {g with AD:=P} (.row 8 i) false (!g.conds.isEmpty) (!g.Ae.isEmpty) (!g.A2.isEmpty) true++
  [.row true 1 [.ptr 4 1 0 0],.row true 13 [.d (AH o)],.row true 1 [.d (.bool ((a:Int)==(o.right.length:Int) - 1))],.row (decide (0<i)) 4 (M.map λr=>.d (Ab r))]
theorem US{S:Sg}{r t u:Nat}{g:AE}{x:AX}{h:Bool}(hb:U6 S r g x)(h1:S[t]?=some (.row true 1 [.d (.bool h)]))(v:S[u]?=some (.row true 1 [.ptr r 1 0 0])){i:Int}(B:0<=i/\i<g.AD.length):
  AG prog 156 [.d (AF i),.ptr t 1 0 0,.ptr u 1 0 0] S (.d (.bool (h&&(Bu g i).right.isEmpty))) S:=by
 obtain⟨j,rfl⟩:∃j:Nat,i=j:=⟨i.toNat,by omega⟩;have hj:j<g.AD.length:=by omega
 obtain⟨h0,C,w,E,F,G,H,J,K,m,L,k⟩:=hb;unfold bV at k;have z:Bu g (j:Int)=g.AD[j]:=by simp[Bu,hj]
 rw[z];generalize q:g.AD[j]=o;have A:=AH.eq_1 o;refine zC func156 19 rfl λwf _=>?_;(repeat apply xS);apply yV;simp;have s:((o.right.length:Int)==0)=o.right.isEmpty:=by cases o.right<;>simp;omega
 cases h with
 |false=>
  (repeat apply xS);apply yT;apply yH;simp[h1];apply Af;refine⟨_,am,?_⟩;simp[Au]
 |true=>
  (repeat apply xS);apply yT;apply yH;simp[h1,v,k,hj,q,A];apply Af;refine⟨_,am,?_⟩;simp[Au,s]
theorem X4(g:AE)(x:AX)(hf:Ci g x=true)(hb:Ct g x.number=false)(hbc:Gp g x=false)(yp:(Bv g x).any (λi=>PJ g x&&(Bu g i).right.isEmpty)=false)
  (G:∀i∈Bv g x,(Gr and (A3 g x).cond (Bu g i).cond).2=0) (hl:g.AD.length<=2 ^ 20) (hr:(A3 g x).right.length<=2 ^ 20) (hrq:∀i∈Bv g x,(Bu g i).right.length<=2 ^ 20/\(Bu g i).name.size<=2 ^ 20) (hns:(A3 g x).name.size<=2 ^ 20):
  AG prog 83 [.ptr 4 1 0 0] (bS g x) (.d (AF 0)) (Jk g x (O8 g x) (IU g x g.AD.length (Bv g x)) false):=by
 obtain⟨hp,a,ha,xf,ye,we⟩:=EP hf;have x5:=hp;simp[D1]at x5;obtain⟨j,hj⟩:∃j:Nat,x.number=j:=⟨x.number.toNat,by omega⟩;have wQ:j<g.AD.length:=by omega
 have vh:g.AD.isEmpty=false:=by cases h:g.AD<;>simp[h]at wQ⊢
 obtain⟨B,C⟩:∃B,B=O.row true 1 [.ptr 4 1 0 0]:=⟨_,rfl⟩;obtain⟨Y,hX6⟩:∃Y,Y=O.row true 13 [.d (AH (A3 g x))]:=⟨_,rfl⟩;obtain⟨Z,K⟩:∃Z,Z=O.row true 1 [.d (.bool ((a:Int)==((A3 g x).right.length:Int) - 1))]:=⟨_,rfl⟩;have hlb:PJ g x=((a:Int)==((A3 g x).right.length:Int) - 1):=by unfold PJ;rw[ha]
 rw[hlb]at yp;have hB1:U6 (bS g x++[B]) 4 g x:=⟨_,_,_,_,_,_,_,_,_,_,_,rfl⟩;have v:U6 (bS g x++[B,Y,Z]) 4 g x:=⟨_,_,_,_,_,_,_,_,_,_,_,rfl⟩;have zj:(bS g x++[B]).all (Ar (bS g x++[B]).length)=true:=by simp[bS,Dl,bV,C,AP]
 have E:(bS g x++[B,Y,Z]).all (Ar (bS g x++[B,Y,Z]).length)=true:=by simp[bS,Dl,bV,C,hX6,K,AP]
 have H:=KB hB1 zj hp;have L:AG prog 157 [.ptr 4 1 0 0,.d (AF (I2 g x).index)] _ (.d (A9 (Bv g x))) _:=XN v E hl (I2 g x).index;have yv:=Ho v E (i:=x.number) (by omega);have F:=Kc v E hl hf;have zs:=Io (Bv g x) (λi=>((a:Int)==((A3 g x).right.length:Int) - 1)&&(Bu g i).right.isEmpty) 156 [.ptr 7 1 0 0,.ptr 5 1 0 0] (bS g x++[B,Y,Z]) (λi hi=>US v (by rw[K];rfl) (by rw[C];rfl) (IZ hi));rw[yp]at zs;rw[hb]at yv;rw[hbc]at F;refine zC func83 135 rfl λwf _=>?_;generalize vy:A3 g x=o at *;generalize hss:I2 g x=s at *;have t:=AH.eq_1 o;have vQ:=AI.eq_1 s;subst C hX6 K;unfold bS Dl bV at *;apply yW;simp;apply yS;apply yJ;simp;refine gl rfl rfl (by simp) (f:=85) (args:=[.ptr 4 1 0 0]) (by simp[callee];try rfl) (by simp) H (yJ ?_);simp[t];(repeat apply xS);apply yV;simp;have vS:IntKind.i64.wrap ((o.right.length:Int) - 1)=(o.right.length:Int) - 1:=by rw[bv];omega
 apply yW;simp[vS];(repeat apply xS);apply yV;simp;simp[ha]at L yv F zs;refine yD [0,2,4,6,8,10,12,14,16] (by kernel_rfl) ?_;simp;apply yA 1;simp[ha,xf,ye.symm,vQ];refine Ag.Gs (f:=157) (args:=[.ptr 4 1 0 0,.d (AF s.index)]) L rfl (by simp[callee];try rfl) ?_;simp;apply yA 1;simp;apply xS;refine yD [0,2,4,6,8,10,12,14,16,18,20,22,24,26,28,30] (by kernel_rfl) ?_;simp;apply yA 1;simp;refine Ag.Gs (f:=158) (args:=[.ptr 4 1 0 0,.d (AF x.number)]) yv rfl (by simp[callee];try rfl) ?_;simp;apply yZ;simp;refine Ag.Ls (f:=159) (args:=[.ptr 4 1 0 0]) F rfl rfl (by simp[callee];try rfl) ?_;simp;apply yZ;simp;refine Ag.Ls (f:=160) (args:=[.d (.sl ((Bv g x).map (D.int .i64))),.fn (.func 156) [] [.ptr 7 1 0 0,.ptr 5 1 0 0]]) zs rfl rfl (by simp[callee];try rfl) ?_;simp;apply yZ;simp;apply AR;simp;apply CT;clear H L yv F zs hB1 v zj E;refine xS (yW ?_);simp;refine ed (AJ.Pm 4 0 49 4 rfl rfl rfl) ?_;simp;apply Bx;refine DV (Bv g x).length (λi tm S=>tm 1=.ptr 5 1 0 0/\tm 3=.ptr 6 1 0 0/\tm 4=.d (.int .i64 a)/\tm 52=.d (A9 (Bv g x))/\tm 53=.d (.int .i64 (Bv g x).length)/\tm 54=.d (.int .i64 i)/\S=KF g x o a (K6 g x i) (Km g x i) i) (cq _) (by simp[KF,Dl,bV,ha,t,K6,Km,IU,vh]) ?_;rintro i tm S hi ⟨t1,t3,t4,t52,t53,t54,rfl⟩;have xd:(Bv g x).length<=g.AD.length:=J1 _ _ _;apply yW;simp[t53,t54];apply xC;simp;refine⟨λvc=>?_,λvw=>?_⟩
 .have L4:(Bv g x).take (i+1)=(Bv g x).take i++[(Bv g x)[i]]:=by rw[yq,ci vc];rfl
  have hcr:=IZ (b9 vc);have vW:=G _ (b9 vc);have wi:=hrq _ (b9 vc);obtain⟨c,hc⟩:∃c:Nat,(Bv g x)[i]=c:=⟨(Bv g x)[i].toNat,by omega⟩;have wD:c<g.AD.length:=by omega
  have N:Bu g (c:Int)=g.AD[c]:=by simp[Bu,wD]
  have hRe:NC g x c=o.right.take a++(g.AD[c].right++o.right.drop (a+1)):=by simp[NC,vy,ha,N]
  have hPe:IH g x c={FV with name:=o.name++⟨#[95]⟩++g.AD[c].name,left:=o.left,right:=NC g x c,cond:=(Gr and o.cond g.AD[c].cond).1}:=by simp[IH,vy,N]
  rw[hc]at vW wi L4;rw[N]at vW wi;have hPl:(K6 g x i).length=g.AD.length+i:=by simp[K6];omega
  have u:(Km g x i).length=i:=by unfold Km;rw[MR];simp;omega
  have xg:((Bv g x).take i).length=i:=by simp;omega
  have hPs:K6 g x (i+1)=K6 g x i++[IH g x c]:=by unfold K6;rw[L4];simp
  have hMs:Km g x (i+1)=Km g x i++[Se g x (g.AD.length+i) c]:=by unfold Km;rw[L4,UY,xg]
  clear L4 xg;generalize K6 g x i=P at *;generalize Km g x i=M at *;generalize hq:g.AD[c]=q at *;generalize hR:NC g x c=R at *;have m:=AH.eq_1 q;unfold KF Dl bV;apply xK;apply xB;apply yW;simp[t52,t54,vc,hc];(repeat apply xS);apply yV;simp[t1,wD,hq,m];obtain⟨wi,hnq⟩:=wi;have Q:o.name.size<=9223372036854775806:=by omega
  have T:o.name.size+1+q.name.size<=9223372036854775807:=by omega
  have zu:=Mo [o.right.take a,q.right,o.right.drop (a+1)] (by simp;omega);have wR:[o.right.take a,q.right,o.right.drop (a+1)].flatten=R:=by rw[hRe];simp
  rw[wR]at zu;have hRl:R.length<=2 ^ 22:=by rw[hRe];simp;omega
  have hw:IntKind.i64.wrap ((a:Int)+1)=(a+1:Nat):=by rw[bv];omega
  have d1:a<=o.right.length:=by omega
  have we:List.take o.right.length (List.map AI o.right)=List.map AI o.right:=s9 (by simp);have d7:(a:Int)+1<=o.right.length:=by omega
  have d9:(0:Int)<=a+1:=by omega
  have d8:a+1<=o.right.length:=by omega
  refine k7 (R:=λtm S=>tm 1=.ptr 5 1 0 0/\tm 3=.ptr 6 1 0 0/\tm 4=.d (.int .i64 a)/\tm 9=.d (.int .i64 c)/\tm 10=.ptr 9 1 0 0/\tm 11=.d (Az R)/\tm 52=.d (A9 (Bv g x))/\tm 53=.d (.int .i64 (Bv g x).length)/\tm 54=.d (.int .i64 i)/\S=KF g x o a P M i++[.row true 13 [.d (AH q)]]) ?_ ?_
  .by_cases d5:a+1<o.right.length
   .skip;refine yE [0,2,4,6,8,10,12,14,16,18,20,22,24,26] (by kernel_rfl) ?_;simp;apply yA 1;simp[t,t3,t4,hw,al,d1,d5,d7,d9];refine go (zu) rfl (by simp[we,xN]) ?_;simp[we];apply yA 1;simp;unfold HQ;simp[t1,t3,t4,t52,t53,t54,KF,Dl,bV,t,m]
   .have d6:a+1=o.right.length:=by omega
    refine yE [0,2,4,6,8,10,12,14,16,18,20,22,24,26] (by kernel_rfl) ?_;simp;apply yA 1;simp[t,t3,t4,hw,al,d1,d6];refine go (zu) rfl (by simp[d6,xN]) ?_;simp;apply yA 1;simp;unfold HQ;simp[t1,t3,t4,t52,t53,t54,KF,Dl,bV,t,m]
  rintro tm S ⟨t1,t3,t4,t9,t10,t11,t52,t53,t54,rfl⟩;clear zu wR;have xf:=p9 (S:=KF g x o a P M i++[.row true 13 [.d (AH q)]]) (r:=4) (g:=g) (x:=x) rfl o.cond q.cond (by simp[KF,Dl,bV,AP,Aw]);have w:=xf.Fm (args':=[.ptr 4 1 0 0,.agg [.d (AY o.cond.nodes),.d (AF o.cond.root)],.agg [.d (AY q.cond.nodes),.d (AF q.cond.root)]]) rfl λi h h'=>by
   match i,h with
   |0,_=>exact .inl rfl
   |1,_=>exact .inr ⟨AB o.cond,by simp[Ba,AB],rfl⟩
   |2,_=>exact .inr ⟨AB q.cond,by simp[Ba,AB],rfl⟩
  rw[vW]at w;clear xf;generalize(Gr and o.cond q.cond).1=cd at *;have J:=Sd (S:=KF g x o a P M i++[.row true 13 [.d (AH q)]]) (r:=4) (q:=3) (k:=P.length) (g:=g) (x:=x) rfl rfl (by simp) (by omega) (by simp[Ah]) (IH g x c) (by simp[KF,Dl,bV,AP,Aw]);have w5:=J.Fm (args':=[.ptr 4 1 0 0,.agg [.d (.str (o.name++⟨#[95]⟩++q.name)),.d (.int .i64 o.left),.d (Az R),.d (.sl (cd.nodes.map Aa)),.d (.int .i64 cd.root),.d (.bool false),.d (.int .i64 0),.full [],.d (.bool false),.d (.int .i64 0),.d (.int .i64 0),.d (.int .i64 0),.d (.int .i64 0)]]) rfl λi h h'=>by
   match i,h with
   |0,_=>exact .inl rfl
   |1,_=>exact .inr ⟨_,by simp[Ba,AH,FV,hPe],rfl⟩
  clear J;unfold KF Dl bV at w w5;simp[List.set_cons_succ,List.set_cons_zero,bne_self_eq_false]at w w5;unfold KF Dl bV;(repeat apply xS);refine yE [0,2,4,6,8,10,12,14,16,18,20,22,24,26,28,30,32,35,36] (by kernel_rfl) ?_;simp;apply yA 1;simp[t1,t3,t10,t11,t,m,al,Q,T];refine Ag.Gs (f:=80) (args:=[.ptr 4 1 0 0,.agg [.d (AY o.cond.nodes),.d (AF o.cond.root)],.agg [.d (AY q.cond.nodes),.d (AF q.cond.root)]]) w rfl (by simp[callee];try rfl) ?_;simp;apply yA 1;simp[AB];refine Ag.m6 (xT [1,1,0,0,0,0,0,0,0,0,0,0,0,0,0,0,1]) (w5) (by kernel_rfl) rfl (by simp[Ac,t,m,t1,t3,t10,al,Q,T];try rfl) ?_;simp[t,m];apply yA 1;simp;clear w w5 G hrq;have vt:=MB (P.length:Int);have hh:=J5 [Be P.length] false 0 R.length (by simp;omega) (by omega);have yN:List.map (λx=>V.d (AH x)) P++[V.d (AH (IH g x c))]=List.map (λx=>V.d (AH x)) (P++[IH g x c]):=by simp
  rw[yN];have wZ:P.length+1=(P++[IH g x c]).length:=by simp
  have U:Se g x (g.AD.length+i) c=⟨x.number,a,c,Be P.length::BF 0 R.length⟩:=by simp[Se,ha,hR,hPl]
  generalize P++[IH g x c]=P2 at *;(repeat apply xS);apply yT;apply yJ;simp;refine B9 (vt) rfl (by simp[xN]) (yJ ?_);simp[al,t11];refine sv (ll 99 4 (xs:=[A7 (Be P.length)]) (by simp)) ?_;refine xF (hh) [10] rfl ?_;simp;apply yJ;simp;obtain⟨TT,W⟩:∃TT,TT=Be P.length::BF 0 R.length:=⟨_,rfl⟩;have hTl:TT.length=1+R.length:=by rw[W];simp[CL];omega
  rw[<-hTl];rw[<-W]at U;refine ed (c9 10 (wr:=decide (0<R.length)) (sz:=4) (els:=(TT.map A7).map V.d) (xs:=TT.map A7) (by rw[W];simp[kw]) (CQ _ _)) ?_;simp;have hi1:i+1<=1073741824:=by omega
  refine yE [0,2,4,6,8,10,12,14,16,18,20,22,24,26,28,31,32,34,37] (by kernel_rfl) ?_;simp;apply yA 1;simp[t1,t4,t9,al];apply xX 1025 (by kernel_rfl);simp[Ac,Ah,t1,t4,t9,u,hi1,al,h8];apply yA 1;simp;apply xX 32765 (by kernel_rfl);simp[Ac,t1,t4,t9,al];apply xM;have yx:IntKind.i64.wrap ((i:Int)+1)=(i+1:Nat):=by rw[bv];omega
  apply yV;simp[t54,yx];refine⟨vc,_,_,(i5 8 (xs:=(M++[Se g x (g.AD.length+i) c]).map Ab) rfl ?_).trans (lm 9 (S':=KF g x o a P2 (M++[Se g x (g.AD.length+i) c]) (i+1)) ?_ (by simp) (by simp) (by simp[KF,Dl,bV,AP,Aw])),?_⟩
  .rw[U];simp[CO,Ba,Ab]
  .rw[U];simp[KF,Dl,bV,ha,t,wZ,Ab]
  .simp[clean,AP,t1,t3,t4,t52,t53,hPs,hMs,KF,Dl,bV]
 .have e:i=(Bv g x).length:=by omega
  subst e;apply C7;have hPn:K6 g x (Bv g x).length=g.AD++(Bv g x).map (IH g x):=by simp[K6]
  have hMn:Km g x (Bv g x).length=IU g x g.AD.length (Bv g x):=by simp[Km]
  have u:=MR g x (Bv g x) g.AD.length;rw[hPn,hMn,<-u];have hgj:g.AD[j]=o:=by
   have:A3 g x=g.AD[j]:=by simp[A3,hj,wQ]
   rw[<-this,vy]
  have z:j<(g.AD++(Bv g x).map (IH g x)).length:=by simp;omega
  have X:(g.AD++(Bv g x).map (IH g x))[j]=o:=by rw[lg wQ,hgj]
  have A:(j:Int)<(g.AD++(Bv g x).map (IH g x)).length:=by omega
  have hjn:x.number.toNat=j:=by omega
  unfold O8;rw[vy,hjn];generalize IU g x g.AD.length (Bv g x)=M at *;generalize g.AD++(Bv g x).map (IH g x)=P at *;unfold KF Dl bV;refine yD [0,2,4,6,8,10,12,14,16,18,20,22,24,27] (by kernel_rfl) ?_;simp;apply yA 1;simp[t1,hj];refine go (H7 false) rfl (by simp[xN]) ?_;simp;apply yA 1;simp[z,A,t];apply xX 8189 (by kernel_rfl);simp[Ac,t1,z,X,A,t];apply xM;apply yW;simp;apply Af;refine⟨_,(i5 3 (xs:=(P.set j {o with cond:=⟨[],0⟩}).map AH) rfl ?_).trans ((rc (S':=Dl g x {g with AD:=P.set j {o with cond:=⟨[],0⟩}} (.row 8 M.length) false (!g.conds.isEmpty) (!g.Ae.isEmpty) (!g.A2.isEmpty) true++([.row true 1 [.ptr 4 1 0 0],.row true 13 [.d (AH o)],.row true 1 [.d (.bool ((a:Int)==(o.right.length:Int) - 1))]]++[.row (decide (0<M.length)) 4 (M.map λr=>.d (Ab r))])) ?_).trans (m7 (br 5) g x {g with AD:=P.set j {o with cond:=⟨[],0⟩}} M false _ _ _ _ _ [.row true 1 [.ptr 4 1 0 0],.row true 13 [.d (AH o)],.row true 1 [.d (.bool ((a:Int)==(o.right.length:Int) - 1))]])),?_⟩
  .rw[CO,eQ,kv,eQ,eQ,kv];congr 1
  .simp[Dl,bV,hj,ha,kw,t]
  .simp[Au,clean,FP,AP]
theorem Vs(g:AE)(x:AX)(J:Ci g x=true)(K:(Ct g x.number||(Gp g x||(Bv g x).any (λi=>PJ g x&&(Bu g i).right.isEmpty)))=true)(L:g.AD.length<=2 ^ 20)(hr:(A3 g x).right.length<=2 ^ 20):
  AG prog 83 [.ptr 4 1 0 0] (bS g x) (.d (AF 311)) (Jk g x g [] false):=by
 obtain⟨M,a,ha,P,Q,we⟩:=EP J;have R:=M;simp[D1]at R;obtain⟨j,hj⟩:∃j:Nat,x.number=j:=⟨x.number.toNat,by omega⟩;have S:j<g.AD.length:=by omega
 have vh:g.AD.isEmpty=false:=by cases h:g.AD<;>simp[h]at S⊢
 obtain⟨k,m⟩:∃k,k=O.row true 1 [.ptr 4 1 0 0]:=⟨_,rfl⟩;obtain⟨w,A⟩:∃w,w=O.row true 13 [.d (AH (A3 g x))]:=⟨_,rfl⟩;obtain⟨z,t⟩:∃z,z=O.row true 1 [.d (.bool ((a:Int)==((A3 g x).right.length:Int) - 1))]:=⟨_,rfl⟩;have F:PJ g x=((a:Int)==((A3 g x).right.length:Int) - 1):=by unfold PJ;rw[ha]
 rw[F]at K;have G:U6 (bS g x++[k]) 4 g x:=⟨_,_,_,_,_,_,_,_,_,_,_,rfl⟩;have q:U6 (bS g x++[k,w,z]) 4 g x:=⟨_,_,_,_,_,_,_,_,_,_,_,rfl⟩;have T:(bS g x++[k]).all (Ar (bS g x++[k]).length)=true:=by simp[bS,Dl,bV,m,AP]
 have u:(bS g x++[k,w,z]).all (Ar (bS g x++[k,w,z]).length)=true:=by simp[bS,Dl,bV,m,A,t,AP]
 have B:=KB G T M;have C:AG prog 157 [.ptr 4 1 0 0,.d (AF (I2 g x).index)] _ (.d (A9 (Bv g x))) _:=XN q u L (I2 g x).index;have E:=Ho q u (i:=x.number) (by omega);have v:=Kc q u L J;have N:=Io (Bv g x) (λi=>((a:Int)==((A3 g x).right.length:Int) - 1)&&(Bu g i).right.isEmpty) 156 [.ptr 7 1 0 0,.ptr 5 1 0 0] (bS g x++[k,w,z]) (λi hi=>US q (by rw[t];rfl) (by rw[m];rfl) (IZ hi));generalize Ct g x.number=U at *;generalize Gp g x=W at *;generalize yU:(Bv g x).any (λi=>((a:Int)==((A3 g x).right.length:Int) - 1)&&(Bu g i).right.isEmpty)=X at *;refine zC func83 135 rfl λwf _=>?_;generalize vy:A3 g x=o at *;generalize Y:I2 g x=s at *;have H:=AH.eq_1 o;have Z:=AI.eq_1 s;subst m A t;unfold bS Dl bV at *;apply yW;simp;apply yS;apply yJ;simp;refine gl rfl rfl (by simp) (f:=85) (args:=[.ptr 4 1 0 0]) (by simp[callee];try rfl) (by simp) B (yJ ?_);simp[H];(repeat apply xS);apply yV;simp;have vS:IntKind.i64.wrap ((o.right.length:Int) - 1)=(o.right.length:Int) - 1:=by rw[bv];omega
 apply yW;simp[vS];(repeat apply xS);apply yV;simp;simp[ha]at C E v N;(repeat apply xS);refine yE [0,2,4,6,8,10,12,14,16] (by kernel_rfl) ?_;simp;apply yA 1;simp[ha,P,Q.symm,Z];refine Ag.Gs (f:=157) (args:=[.ptr 4 1 0 0,.d (AF s.index)]) C rfl (by simp[callee];try rfl) ?_;simp;apply yA 1;simp;cases U with
 |true=>
  apply xS;refine yD [0,2,4,6,8,10,12,14,16,18,20,22,24,26,28,30] (by kernel_rfl) ?_;simp;apply yA 1;simp;refine Ag.Gs (f:=158) (args:=[.ptr 4 1 0 0,.d (AF x.number)]) E rfl (by simp[callee];try rfl) ?_;simp;apply yZ;simp;apply AR;simp;apply yW;simp;apply Af;refine⟨_,(a8 5 (S':=Dl g x g (.full []) false (!g.conds.isEmpty) (!g.Ae.isEmpty) (!g.A2.isEmpty) (!g.AD.isEmpty)) (by simp[Dl,bV,ha]) (by simp) (by simp) (by simp)).trans (WA g x _ _ [] false _ _ _ _ rfl),?_⟩;simp[Au,clean,FP,AP]
 |false=>
  cases W with
  |true=>
   apply xS;refine yD [0,2,4,6,8,10,12,14,16,18,20,22,24,26,28,30] (by kernel_rfl) ?_;simp;apply yA 1;simp;refine Ag.Gs (f:=158) (args:=[.ptr 4 1 0 0,.d (AF x.number)]) E rfl (by simp[callee];try rfl) ?_;simp;apply yZ;simp;refine Ag.Ls (f:=159) (args:=[.ptr 4 1 0 0]) v rfl rfl (by simp[callee];try rfl) ?_;simp;apply yZ;simp;apply AR;simp;apply yW;simp;apply Af;refine⟨_,(a8 5 (S':=Dl g x g (.full []) false (!g.conds.isEmpty) (!g.Ae.isEmpty) (!g.A2.isEmpty) (!g.AD.isEmpty)) (by simp[Dl,bV,ha]) (by simp) (by simp) (by simp)).trans (WA g x _ _ [] false _ _ _ _ rfl),?_⟩;simp[Au,clean,FP,AP]
  |false=>
   obtain rfl:X=true:=by simpa using K
   apply xS;refine yD [0,2,4,6,8,10,12,14,16,18,20,22,24,26,28,30] (by kernel_rfl) ?_;simp;apply yA 1;simp;refine Ag.Gs (f:=158) (args:=[.ptr 4 1 0 0,.d (AF x.number)]) E rfl (by simp[callee];try rfl) ?_;simp;apply yZ;simp;refine Ag.Ls (f:=159) (args:=[.ptr 4 1 0 0]) v rfl rfl (by simp[callee];try rfl) ?_;simp;apply yZ;simp;refine Ag.Ls (f:=160) (args:=[.d (.sl ((Bv g x).map (D.int .i64))),.fn (.func 156) [] [.ptr 7 1 0 0,.ptr 5 1 0 0]]) N rfl rfl (by simp[callee];try rfl) ?_;simp;apply yZ;simp;apply AR;simp;apply yW;simp;apply Af;refine⟨_,(a8 5 (S':=Dl g x g (.full []) false (!g.conds.isEmpty) (!g.Ae.isEmpty) (!g.A2.isEmpty) (!g.AD.isEmpty)) (by simp[Dl,bV,ha]) (by simp) (by simp) (by simp)).trans (WA g x _ _ [] false _ _ _ _ rfl),?_⟩;simp[Au,clean,FP,AP]
def uj(g:AE)(x:AX):List Symbol:=(A3 g x).right.set x.at_.toNat ⟨false,g.A2.length⟩
def dZ(g:AE)(_:AX)(i:Int):AO:={Bu g i with name:=(Bu g i).name++⟨#[95,99,111,112,121]⟩,left:=g.A2.length}
def tJ(g:AE)(x:AX)(k:Nat)(i:Int):List Cw:=(([Be x.number]++BF 0 x.at_.toNat)++[Be k])++BF x.at_.toNat ((A3 g x).right.length - 1+(Bu g i).right.length - x.at_.toNat)
def nU(g:AE)(x:AX)(k:Nat)(i:Int):Rewrite:=⟨x.number,x.at_,i,tJ g x k i⟩
def Wk(g:AE)(x:AX):Nat->List Int->List Rewrite
 |_,[]=>[]
 |k,i::l=>nU g x k i::Wk g x (k+1) l
theorem XR(g:AE)(x:AX):∀(l:List Int) (k:Nat) (i:Int),Wk g x k (l++[i])=Wk g x k l++[nU g x (k+l.length) i]
 |[],k,i=>by simp[Wk]
 |j::l,k,i=>by simp[Wk,XR g x l,nl,adS 1]
theorem OT(g:AE)(x:AX):∀(l:List Int) (k:Nat),(Wk g x k l).length=l.length
 |[],_=>rfl
 |_::l,k=>by simp[Wk,OT g x l]
def q8(g:AE)(x:AX):AE:={g with A2:=g.A2++[x.name],AD:=(g.AD++(Bv g x).map (dZ g x)).set x.number.toNat {A3 g x with right:=uj g x}}
def QO(g:AE)(x:AX)(i:Nat):List AO:=g.AD++((Bv g x).take i).map (dZ g x)
def Qc(g:AE)(x:AX)(i:Nat):List Rewrite:=Wk g x g.AD.length ((Bv g x).take i)
def jP(g:AE)(x:AX)(o:AO)(P:List AO)(M:List Rewrite)(i:Nat):Sg:=
 Dl g x {g with A2:=g.A2++[x.name],AD:=P} (.row 7 i) false (!g.conds.isEmpty) (!g.Ae.isEmpty) true true++
  [.row true 13 [.d (AH o)],.row true 2 [.d (AI ⟨false,g.A2.length⟩)],.row (decide (0<i)) 4 (M.map λr=>.d (Ab r))]
theorem gd(g:AE)(x:AX)(hf:Ci g x=true)(hb:Ct g x.number=false)(hbc:Gp g x=false)
  (hl:g.AD.length<=2 ^ 20) (hn:g.A2.length<=2 ^ 20) (hr:(A3 g x).right.length<=2 ^ 20) (T:∀i∈Bv g x,(Bu g i).right.length<=2 ^ 20/\(Bu g i).name.size<=2 ^ 20):
  AG prog 88 [.ptr 4 1 0 0] (bS g x) (.d (AF 0)) (Jk g x (q8 g x) (Wk g x g.AD.length (Bv g x)) false):=by
 obtain⟨hp,a,ha,xf,ye,we⟩:=EP hf;have x5:=hp;simp[D1]at x5;obtain⟨j,hj⟩:∃j:Nat,x.number=j:=⟨x.number.toNat,by omega⟩;have wQ:j<g.AD.length:=by omega
 have vh:g.AD.isEmpty=false:=by cases h:g.AD<;>simp[h]at wQ⊢
 have v:=sI g x;have v9:(bS g x).all (Ar (bS g x).length)=true:=by simp[bS,Dl,bV]
 have z:=KB v v9 hp;have yv:=Ho v v9 (i:=x.number) (by omega);have C:=Kc v v9 hl hf;rw[hb]at yv;rw[hbc]at C;have hla:(A3 g x).right.length<=2 ^ 20:=hr;generalize vy:A3 g x=o at *;have U:U6 (Dl g x {g with A2:=g.A2++[x.name]} (.full []) false (!g.conds.isEmpty) (!g.Ae.isEmpty) true (!g.AD.isEmpty)++[O.row true 13 [.d (AH o)],O.row true 2 [.d (AI ⟨false,g.A2.length⟩)]]) 4 g x:=⟨_,_,_,_,_,_,_,_,_,_,_,rfl⟩;have E:AG prog 157 [.ptr 4 1 0 0,.d (AF (I2 g x).index)] _ (.d (A9 (Bv g x))) _:=XN U (by simp[Dl,bV]) hl (I2 g x).index;generalize hss:I2 g x=s at *;have m:=AH.eq_1 o;have vQ:=AI.eq_1 s;have F:=Ub (S:=bS g x++[O.row true 13 [.d (AH o)]]) (r:=4) (q:=2) (k:=g.A2.length) (g:=g) (x:=x) rfl rfl (by simp) (by omega) (by simp[Ah]) (by simp[bS,Dl,bV]);refine zC func88 128 rfl λwf _=>?_;unfold bS Dl bV at *;simp[m]at F;apply yW;simp;refine xS (yS ?_);apply yJ;simp;refine gl rfl rfl (by simp) (f:=158) (args:=[.ptr 4 1 0 0,.d (AF x.number)]) (by simp[callee];try rfl) (by simp) yv ?_;simp;apply yH;simp;refine AV.I7 (g:=true) (f:=159) (args:=[.ptr 4 1 0 0]) (λ_=>C) rfl rfl (by simp) (by simp) (by simp[callee]) ?_;simp;apply yH;simp;apply AR;simp;apply xK;apply yS;apply yJ;simp;refine gl rfl rfl (by simp) (f:=85) (args:=[.ptr 4 1 0 0]) (by simp[callee];try rfl) (by simp) z (yJ ?_);simp[m];apply yW;simp;(repeat apply xS);apply yT;apply yJ;simp;refine gl rfl rfl (by simp) (f:=165) (args:=[.ptr 4 1 0 0]) (by simp[callee];try rfl) (by simp) F (yJ ?_);simp;simp[ha]at E;refine xS (yS ?_);apply yJ;simp[ha,xf,ye.symm,vQ];refine gl rfl rfl (by simp) (f:=157) (args:=[.ptr 4 1 0 0,.d (AF s.index)]) (by simp[callee];try rfl) (by simp) E (yJ ?_);simp;clear z E yv C F v U v9;refine ed (AJ.Pm 4 0 49 4 rfl rfl rfl) ?_;simp;apply Bx;refine DV (Bv g x).length (λi tm S=>tm 0=.ptr 4 1 0 0/\tm 3=.ptr 5 1 0 0/\tm 4=.d (.int .i64 a)/\tm 5=.ptr 6 1 0 0/\tm 40=.d (A9 (Bv g x))/\tm 41=.d (.int .i64 (Bv g x).length)/\tm 42=.d (.int .i64 i)/\S=jP g x o (QO g x i) (Qc g x i) i) (cq _) (by simp[jP,Dl,bV,ha,m,QO,Qc,Wk,vh]) ?_;rintro i tm S hi ⟨t0,t3,t4,t5,t40,t41,t42,rfl⟩;have xd:(Bv g x).length<=g.AD.length:=J1 _ _ _;apply yW;simp[t41,t42];apply xC;simp;refine⟨λW=>?_,λvw=>?_⟩
 .have L4:(Bv g x).take (i+1)=(Bv g x).take i++[(Bv g x)[i]]:=by rw[yq,ci W];rfl
  have hcr:=IZ (b9 W);have wi:=T _ (b9 W);obtain⟨c,hc⟩:∃c:Nat,(Bv g x)[i]=c:=⟨(Bv g x)[i].toNat,by omega⟩;have wD:c<g.AD.length:=by omega
  have G:Bu g (c:Int)=g.AD[c]:=by simp[Bu,wD]
  have hPe:dZ g x c={g.AD[c]with name:=g.AD[c].name++⟨#[95,99,111,112,121]⟩,left:=g.A2.length}:=by simp[dZ,G]
  rw[hc]at wi L4;rw[G]at wi;obtain⟨wi,hnq⟩:=wi;have hPl:(QO g x i).length=g.AD.length+i:=by simp[QO];omega
  have t:(Qc g x i).length=i:=by unfold Qc;rw[OT];simp;omega
  have xg:((Bv g x).take i).length=i:=by simp;omega
  have hPs:QO g x (i+1)=QO g x i++[dZ g x c]:=by unfold QO;rw[L4];simp
  have hMs:Qc g x (i+1)=Qc g x i++[nU g x (g.AD.length+i) c]:=by unfold Qc;rw[L4,XR,xg]
  clear L4 xg;generalize QO g x i=P at *;generalize Qc g x i=M at *;have X:tJ g x (g.AD.length+i) c=(([Be j]++BF 0 a)++[Be P.length])++BF a (o.right.length - 1+g.AD[c].right.length - a):=by simp[tJ,hj,ha,vy,G,hPl]
  generalize hq:g.AD[c]=q at *;have u:=AH.eq_1 q;have w:q.name.size<=9223372036854775802:=by omega
  generalize hQ:dZ g x c=Q at *;have heQ:=AH.eq_1 Q;have w5:=Sd (S:=jP g x o P M i++[.row true 13 [.d (AH Q)]]) (r:=4) (q:=3) (k:=P.length) (g:=g) (x:=x) rfl rfl (by simp) (by omega) (by simp[Ah]) Q (by simp[jP,Dl,bV,AP,Aw]);unfold jP Dl bV at w5⊢;simp[List.set_cons_succ,List.set_cons_zero]at w5;apply xK;apply xB;apply yW;simp[t40,t42,W,hc];apply yW;simp[t0,wD,hq,u];apply yW;simp;refine yD [0,2,4,6,8,10,13,14,17] (by kernel_rfl) ?_;simp;apply yA 1;simp[al,w,t5];apply xX 57 (by kernel_rfl);simp[Ac,al,w,t5];apply yA 1;simp;apply xX 7 (by kernel_rfl);simp[Ac,t5];apply xM;refine ed (i5 8 (xs:=[AH Q]) rfl (by simp[Dw,Ba,hPe,AH])) ?_;simp;(repeat apply xS);apply yT;apply yJ;simp[t0];refine gl rfl rfl (by simp) (f:=162) (args:=[.ptr 4 1 0 0,.d (AH Q)]) (by simp[callee];try rfl) (by simp) w5 (yJ ?_);simp;clear w5 T;have yN:List.map (λx=>V.d (AH x)) P++[V.d (AH Q)]=List.map (λx=>V.d (AH x)) (P++[Q]):=by simp
  rw[yN];have wZ:P.length+1=(P++[Q]).length:=by simp
  generalize P++[Q]=P2 at *;have Y:=MB (j:Int);have Z:=MB (P.length:Int);obtain⟨N,hN⟩:∃N,N=o.right.length - 1+q.right.length:=⟨_,rfl⟩;have vS:IntKind.i64.wrap ((o.right.length:Int) - 1)=(o.right.length:Int) - 1:=by rw[bv];omega
  have wm:IntKind.i64.wrap ((o.right.length:Int) - 1+q.right.length)=(N:Int):=by rw[bv];omega
  rw[<-hN]at X;have hh1:=J5 [Be j] false 0 a (by simp;omega) (by omega);have H:=J5 (([Be j]++BF 0 a)++[Be P.length]) true a (N - a) (by simp[CL];omega) (by omega);have hrl2:a+(N - a)=N:=by omega
  rw[hrl2]at H;(repeat apply xS);apply yT;apply yJ;simp[t0,hj];refine B9 (Y) rfl (by simp[xN]) (yJ ?_);simp[al,t4];refine sv (ll 73 4 (xs:=[A7 (Be j)]) (by simp)) ?_;refine xF (hh1) [9] rfl ?_;simp;apply yJ;simp;have e5:a+1=1+a:=by omega
  have e6:1+a<=1073741823:=by omega
  simp[CL,e5]at H;(repeat apply xS);refine yE [0,2,4,6,10,12,14,16,18,20,22,9,25,26] (by kernel_rfl) ?_;simp;apply yA 1;simp;refine B5 (Z) rfl (by simp[xN]) ?_;simp;apply yA 1;simp[t3,t4,m,al,vS,wm];apply xX 1408 (by kernel_rfl);simp[Ac,Al,CL,Ah,h9,h8,t3,t4,al,e5,e6,vS,wm];refine ru (xT [1,0,0,0,0,0,1,0]) (H) [9] (by kernel_rfl) rfl (by simp[Ac,t3,t4,al,vS,wm];try rfl) ?_;simp;apply yA 1;simp;obtain⟨L,J⟩:∃L,L=Be j::(BF 0 a++Be (P.length:Int)::BF a (N - a)):=⟨_,rfl⟩;have hTl:L.length=1+a+1+(N - a):=by rw[J];simp[CL];omega
  rw[<-hTl];refine ed (c9 9 (wr:=true) (sz:=4) (els:=(L.map A7).map V.d) (xs:=L.map A7) (by rw[J];simp[kw]) (CQ _ _)) ?_;simp;have hWe:nU g x (g.AD.length+i) c=⟨x.number,a,c,L⟩:=by simp[nU,ha,X,J]
  have hi1:i+1<=1073741824:=by omega
  refine yE [0,2,4,6,8,10,12,14,16,18,20,22,24,26,28,31,32,34,37] (by kernel_rfl) ?_;simp;apply yA 1;simp[t0,t4,al];apply xX 1025 (by kernel_rfl);simp[Ac,Ah,t0,t4,t,hi1,al,h8];apply yA 1;simp;apply xX 32765 (by kernel_rfl);simp[Ac,t0,t4,al];apply xM;have yx:IntKind.i64.wrap ((i:Int)+1)=(i+1:Nat):=by rw[bv];omega
  apply yV;simp[t42,yx];refine⟨W,_,_,(i5 7 (xs:=(M++[nU g x (g.AD.length+i) c]).map Ab) rfl ?_).trans (lm 8 (S':=jP g x o P2 (M++[nU g x (g.AD.length+i) c]) (i+1)) ?_ (by simp) (by simp) (by simp[jP,Dl,bV,AP,Aw])),?_⟩
  .rw[hWe];simp[CO,Ba,Ab,hj]
  .rw[hWe];simp[jP,Dl,bV,ha,hj,m,wZ,Ab]
  .simp[clean,AP,t0,t3,t4,t5,t40,t41,hPs,hMs,jP,Dl,bV]
 .have e:i=(Bv g x).length:=by omega
  subst e;apply C7;have hPn:QO g x (Bv g x).length=g.AD++(Bv g x).map (dZ g x):=by simp[QO]
  have hMn:Qc g x (Bv g x).length=Wk g x g.AD.length (Bv g x):=by simp[Qc]
  have t:=OT g x (Bv g x) g.AD.length;rw[hPn,hMn,<-t];have hgj:g.AD[j]=o:=by
   have:A3 g x=g.AD[j]:=by simp[A3,hj,wQ]
   rw[<-this,vy]
  have A:j<(g.AD++(Bv g x).map (dZ g x)).length:=by simp;omega
  have hPj:(g.AD++(Bv g x).map (dZ g x))[j]=o:=by rw[lg wQ,hgj]
  have B:(j:Int)<(g.AD++(Bv g x).map (dZ g x)).length:=by omega
  have hjn:x.number.toNat=j:=by omega
  have han:x.at_.toNat=a:=by omega
  have hxe:o.right.isEmpty=false:=by cases h:o.right<;>simp[h]at xf⊢
  have yM:=I9 o.right (by omega);rw[hxe]at yM;unfold q8 uj;rw[vy,hjn,han];generalize Wk g x g.AD.length (Bv g x)=M at *;generalize g.AD++(Bv g x).map (dZ g x)=P at *;unfold jP Dl bV;apply yS;apply yJ;simp[t3,m];refine xF (yM) [] rfl ?_;simp;apply yJ;simp;(repeat apply xS);apply yV;simp[t4,t5,xf];obtain⟨R,hR⟩:∃R,R=o.right.set a ⟨false,g.A2.length⟩:=⟨_,rfl⟩;have hRl:R.length=o.right.length:=by rw[hR];simp
  rw[<-hR];obtain⟨P3,K⟩:∃P3,P3=P.set j {o with right:=R}:=⟨_,rfl⟩;rw[<-K];refine ed (c9 8 (wr:=true) (sz:=2) (els:=(R.map AI).map V.d) (xs:=R.map AI) (by rw[hR];simp[kw]) (CQ _ _)) ?_;simp;refine yD [0,2,4,6,8,10,12,14,16,18,20,22,24,27] (by kernel_rfl) ?_;simp;apply yA 1;simp[t0,hj,A,B];apply xX 8189 (by kernel_rfl);simp[Ac,t0,A,hPj,B,m];apply xM;apply yW;simp;apply Af;refine⟨_,(i5 3 (xs:=P3.map AH) rfl ?_).trans ((lm 8 (S':=Dl g x {g with A2:=g.A2++[x.name],AD:=P3} (.row 7 M.length) false (!g.conds.isEmpty) (!g.Ae.isEmpty) true true++([.row true 13 [.d (AH o)],.row true 2 [.d (AI ⟨false,g.A2.length⟩)]]++[.row (decide (0<M.length)) 4 (M.map λr=>.d (Ab r))])) ?_ (by simp) (by simp) (by simp[Dl,bV,AP,Aw])).trans (m7 (br 5) g x {g with A2:=g.A2++[x.name],AD:=P3} M false _ _ _ _ _ [.row true 13 [.d (AH o)],.row true 2 [.d (AI ⟨false,g.A2.length⟩)]])),?_⟩
  .rw[CO,K,eQ,kv,eQ,eQ,kv];congr 1;simp[Ba,AH,hRl]
  .simp[Dl,bV,hj,ha,K,kw,m]
  .simp[Au,clean,FP,AP]
theorem Yt(g:AE)(x:AX)(k:Ci g x=true)(q:(Ct g x.number||Gp g x)=true)(s:g.AD.length<=2 ^ 20):
  AG prog 88 [.ptr 4 1 0 0] (bS g x) (.d (AF 311)) (Jk g x g [] false):=by
 obtain⟨t,a,ha,w,z,A⟩:=EP k;simp[D1]at t;have h:=sI g x;have m:(bS g x).all (Ar (bS g x).length)=true:=by simp[bS,Dl,bV]
 have o:=Ho h m (i:=x.number) (by omega);have j:=Kc h m s k;generalize Ct g x.number=u at *;generalize Gp g x=v at *;refine zC func88 128 rfl λwf _=>?_;unfold bS Dl bV at *;(repeat apply xS);apply yV;simp;cases u with
 |true=>
  refine xS (yS ?_);apply yJ;simp;refine gl rfl rfl (by simp) (f:=158) (args:=[.ptr 4 1 0 0,.d (AF x.number)]) (by simp[callee];try rfl) (by simp) o ?_;simp;apply yH;simp;apply AR;simp;apply yW;simp;apply Af;refine⟨_,(a8 5 (S':=Dl g x g (.full []) false (!g.conds.isEmpty) (!g.Ae.isEmpty) (!g.A2.isEmpty) (!g.AD.isEmpty)) (by simp[Dl,bV]) (by simp) (by simp) (by simp)).trans (WA g x _ _ [] false _ _ _ _ rfl),?_⟩;simp[Au,clean,FP,AP]
 |false=>
  obtain rfl:v=true:=by simpa using q
  refine xS (yS ?_);apply yJ;simp;refine gl rfl rfl (by simp) (f:=158) (args:=[.ptr 4 1 0 0,.d (AF x.number)]) (by simp[callee];try rfl) (by simp) o ?_;simp;apply yH;simp;refine AV.I7 (g:=true) (f:=159) (args:=[.ptr 4 1 0 0]) (λ_=>j) rfl rfl (by simp) (by simp) (by simp[callee]) ?_;simp;apply yH;simp;apply AR;simp;apply yW;simp;apply Af;refine⟨_,(a8 5 (S':=Dl g x g (.full []) false (!g.conds.isEmpty) (!g.Ae.isEmpty) (!g.A2.isEmpty) (!g.AD.isEmpty)) (by simp[Dl,bV]) (by simp) (by simp) (by simp)).trans (WA g x _ _ [] false _ _ _ _ rfl),?_⟩;simp[Au,clean,FP,AP]
theorem fQ(g:AE)(x:AX)(k:IF g x=true)(m:Ct g x.number=true):AG prog 86 [.ptr 4 1 0 0] (bS g x) (.d (AF 311)) (Jk g x g [] false):=by
 obtain⟨o,j,a,t,hj,ha,q,s,h1,u⟩:=Ib k;have h:=Ho (sI g x) (by simp[bS,Dl,bV]) (i:=x.number) (by omega);rw[m]at h;refine zC func86 102 rfl λwf _=>?_;unfold bS Dl bV at *;apply yW;simp;refine xS (yS ?_);apply yJ;simp;refine gl rfl rfl (by simp) (f:=158) (args:=[.ptr 4 1 0 0,.d (AF x.number)]) (by simp[callee];try rfl) (by simp) h (yJ ?_);simp;apply AR;simp;apply yW;simp;apply Af;refine⟨_,(a8 5 (S':=Dl g x g (.full []) false (!g.conds.isEmpty) (!g.Ae.isEmpty) (!g.A2.isEmpty) (!g.AD.isEmpty)) (by simp[Dl,bV]) (by simp) (by simp) (by simp)).trans (WA g x _ _ [] false _ _ _ _ rfl),?_⟩;simp[Au,clean,FP,AP]
theorem n7{g:AE}{x:AX}{h:AE}{i:List Rewrite}{ae:Int}{k:FuncId}(k1 k2:FuncId)(ha:AG prog k [.ptr 4 1 0 0] (bS g x) (.d (AF ae)) (Jk g x h i false)):
  AG prog k (.ptr 4 1 0 0::Hg false 6) (bS g x++bx k1 k2) (.d (AF ae)) (Jk g x h i false++bx k1 k2):=
 ha.Pd (bx k1 k2) (by simp[bS,Dl,Jk]) (by simp[bS,Dl,bV]) (by simp[bS,Dl,Jk]) (by simp[bS,Dl,AP]) (by simp[AP])
theorem nz(g:AE)(x:AX)(k1 k2:FuncId):(bS g x++bx k1 k2).all (Ar (bS g x++bx k1 k2).length)=true:=by simp[bS,Dl,bV,bx,AP,Aw]
theorem oe(g:AE)(x:AX)(k1 k2:FuncId):U6 (bS g x++bx k1 k2) 4 g x:=⟨_,_,_,_,_,_,_,_,_,_,_,rfl⟩
theorem Hk{g:AE}(h:C2 g=0):g.AD.length<=2 ^ 20:=by
 have:=(Ck h).1;simp[C3]at this;omega
theorem fo{g:AE}(h:C2 g=0):g.A2.length<=2 ^ 20:=by
 have:=(Ck h).1;simp[C3]at this;omega
theorem XE{g:AE}{x:AX}:∀{l:List Int} {k:Nat} {r:Rewrite},r∈IU g x k l->∃i∈l,r.A4.length=1+(NC g x i).length
 |[],_,_,h=>by cases h
 |i::l,k,r,h=>by
  rcases fi.1 h with rfl|h
  .exact⟨i,by simp,by simp[Se,CL];omega⟩
  .obtain⟨j,hj,e⟩:=XE h;exact⟨j,by simp[hj],e⟩
theorem gL{g:AE}{x:AX}:∀{l:List Int} {k:Nat} {r:Rewrite},r∈Wk g x k l->∃i∈l,r.A4.length<=2+x.at_.toNat+((A3 g x).right.length+(Bu g i).right.length)
 |[],_,_,h=>by cases h
 |i::l,k,r,h=>by
  rcases fi.1 h with rfl|h
  .exact⟨i,by simp,by simp[nU,tJ,CL];omega⟩
  .obtain⟨j,hj,e⟩:=gL h;exact⟨j,by simp[hj],e⟩
def Ly(g:AE)(x:AX):Bool:=Ct g x.number||(Gp g x||(Bv g x).any (λi=>PJ g x&&(Bu g i).right.isEmpty))
def Vf(g:AE)(x:AX):Bool:=Ct g x.number||Gp g x
theorem GW{g:AE}{x:AX}(h:D1 g x=true):A3 g x∈g.AD:=by
 simp[D1]at h;unfold A3;have:x.number.toNat<g.AD.length:=by omega
 simp[List.getD,this]
theorem F1{g:AE}{x:AX}{i:Int}(h:i∈Bv g x):Bu g i∈g.AD:=by
 have h1:=IZ h;unfold Bu;have:i.toNat<g.AD.length:=by omega
 simp[List.getD,this]
theorem KS{g:AE}(h:C2 g=0){p:AO}(i:p∈g.AD):C5 p.cond g.conds.length=true:=by
 obtain⟨_,_,_,_,j,_⟩:=Ck h;have h1:=(EK j p i).2;simp[F6]at h1;exact h1.1.1.1
theorem fu{g:AE}(h:C2 g=0)(hn:g.conds.length<=12){p q:AO}(m:p∈g.AD)(o:q∈g.AD):(Gr and p.cond q.cond).2=0:=by
 obtain⟨i,s⟩:=HR (KS h m);obtain⟨j,k⟩:=HR (KS h o);rw[(MY hn (Ep i) (Ep j) s k).1]
abbrev ul:=@Bool.false_ne_true
theorem qI(g:AE)(x:AX)(t:x.kind=7)(o:g.conds.length<=12)(q:∀p∈g.AD,p.name.size<=2 ^ 20):
  Pure prog 7 [AA g,Ao x] (GI (M5 g (VK g (Hd ((λx:AX=>{x with number:=0,at_:=0}) x)) (Ci g x) (if Ly g x then 311 else 0) (if Ly g x then g else O8 g x) (if Ly g x then []else IU g x g.AD.length (Bv g x)) false))):=
 NV NW ⟨7,81,82,83,false,false,true,66,67,4,5⟩ (by simp[eC]) g x t o (λx:AX=>{x with number:=0,at_:=0}) (Ci g x) _ _ _ false iQ (λh w=>N6 (oe g x 66 67) (nz g x 66 67)) (λh j=>n7 _ _ (by
  have k:=(EP j).1;have m:=DH h;have u:=m _ (GW k);cases hb:Ly g x with
  |true=>exact Vs g x j hb (Hk h) (by omega)
  |false=>
   simp only[Ly,pw]at hb;exact X4 g x j hb.1 hb.2.1 hb.2.2 (λi hi=>fu h o (GW k) (F1 hi)) (Hk h) (by omega) (λi hi=>⟨by have:=m _ (F1 hi);omega,q _ (F1 hi)⟩) (q _ (GW k))))
  λh j hb=>by
   have k:=(EP j).1;have m:=DH h;have u:=m _ (GW k);cases v:Ly g x with
   |true=>rw[v]at hb;cases hb
   |false=>
    refine⟨?_,λr s=>?_,by simpa[O8]using o⟩
    .simp[MR];exact ke (J1 _ _ _) (Hk h)
    .simp at s;obtain⟨i,hi,e⟩:=XE s;have:=m _ (F1 hi);simp[NC]at e;omega
theorem tc(g:AE)(x:AX)(s:x.kind=9)(o:g.conds.length<=12)(t:∀p∈g.AD,p.name.size<=2 ^ 20):
  Pure prog 7 [AA g,Ao x] (GI (M5 g (VK g (Hd ((λx:AX=>{x with number:=0,at_:=0,name:=⟨#[]⟩}) x)) (Ci g x) (if Vf g x then 311 else 0) (if Vf g x then g else q8 g x) (if Vf g x then []else Wk g x g.AD.length (Bv g x)) false))):=
 NV NW ⟨9,87,82,88,false,false,true,66,67,4,5⟩ (by simp[eC]) g x s o (λx:AX=>{x with number:=0,at_:=0,name:=⟨#[]⟩}) (Ci g x) _ _ _ false dw (λh w=>N6 (oe g x 66 67) (nz g x 66 67)) (λh j=>n7 _ _ (by
  have m:=(EP j).1;have k:=DH h;have u:=k _ (GW m);cases hb:Vf g x with
  |true=>exact Yt g x j hb (Hk h)
  |false=>
   simp[Vf]at hb;exact gd g x j hb.1 hb.2 (Hk h) (fo h) (by omega) (λi hi=>⟨by have:=k _ (F1 hi);omega,t _ (F1 hi)⟩)))
  λh j hb=>by
   obtain⟨m,a,ha,z,_⟩:=EP j;have k:=DH h;have u:=k _ (GW m);cases v:Vf g x with
   |true=>rw[v]at hb;cases hb
   |false=>
    refine⟨?_,λr q=>?_,by simpa[q8]using o⟩
    .simp[OT];exact ke (J1 _ _ _) (Hk h)
    .simp at q;obtain⟨i,hi,e⟩:=gL q;have:=k _ (F1 hi);omega
theorem sR(g:AE)(x:AX)(q:x.kind=8)(m:g.conds.length<=12):
  Pure prog 7 [AA g,Ao x] (GI (M5 g (VK g (Hd ((λx:AX=>{x with number:=0,at_:=0,to:=0,name:=⟨#[]⟩}) x)) (IF g x) (if Ct g x.number then 311 else 0) (if Ct g x.number then g else A6 g x) (if Ct g x.number then []else foldM g x) false))):=
 NV NW ⟨8,62,84,86,false,false,true,66,67,4,5⟩ (by simp[eC]) g x q m (λx:AX=>{x with number:=0,at_:=0,to:=0,name:=⟨#[]⟩}) (IF g x) _ _ _ false fY (λh v=>Zq (oe g x 66 67) (nz g x 66 67)) (λh i=>n7 _ _ (by
  have k:=(Ib i).1;have s:=DH h _ (GW k);cases hb:Ct g x.number with
  |true=>exact fQ g x i hb
  |false=>exact kQ g x i hb (Hk h) (fo h) (by omega)))
  λh i hb=>by
   obtain⟨k,j,a,t,hj,ha,w,z,h1,A⟩:=Ib i;have s:=DH h _ (GW k);cases u:Ct g x.number with
   |true=>rw[u]at hb;cases hb
   |false=>
    refine⟨by simp[foldM],λr o=>?_,by simpa[A6]using m⟩;simp[foldM]at o;subst o;simp[Wr,CL];omega
theorem Sl{g h:AE}{u fit j:Bool}{ae:Int}{i:List Rewrite}(h0:okF g)(h1:(u&&fit)=true)(k:ae=0)(m:j=false)(o:okF h)(q:S5 g h i=0):M5 g (VK g u fit ae h i j)=(h,i,0):=by
 unfold M5 VK;rw[ao (by simpa using Du.2 h0),ao (by simp[h1]),ao (by simpa using k),ao (by simp[m]),ao (by simpa using Du.2 o),ao (by simpa using q)]
theorem SA{g h:AE}{m:List Rewrite}(h0:okF g)(h1:okF h)(k:g.Ae.length<=h.Ae.length/\g.A2.length<=h.A2.length)(i:m.all (Jw g h)=true)(j:((List.range g.AD.length).all λp=>JN g h p||Om g m p)=true):S5 g h m=0:=by
 unfold S5;rw[ao (by simpa using Du.2 h0),ao (by simpa using Du.2 h1),ao (by omega),ap ⟨i,j⟩]
theorem Wq:Gr and Dg Dg=(Dg,0):=by
 have g:(DT.leaf true).Good:=trivial;have h1:tr Dg=.leaf true:=WW g;have h:Valid Dg:=⟨.leaf true,trivial,rfl⟩;have i:Hn Dg=0:=by
  unfold Hn;rw[ao (by decide),ap h]
 have j:mn and Dg Dg=Dg:=by
  unfold mn;rw[Ol (t:=.leaf true) g (λc=>by rw[h1];rfl)];rfl
 have k:La [Dg,Dg]=0:=by simp[La,i]
 unfold Gr;rw[k,j];simp[Dg]
def tX(A2:List ByteArray)(AD:List AO):AE:=⟨[⟨#[65]⟩,⟨#[66]⟩],Dg,Dv,A2,AD,0,[],[]⟩
def dQ(name:ByteArray)(left:Int)(right:List Symbol):AO:=⟨name,left,right,Dg,false,0,[],A0⟩
def U5(k n a t:Int)(name:ByteArray):AX:=⟨k,n,a,t,name,false,⟨[],0⟩,[],[],Qf,Ni,[]⟩
def tn:AO:=dQ ⟨#[110,117,109]⟩ 0 [⟨true,0⟩]
def te:AO:=dQ ⟨#[98,105,110]⟩ 0 [⟨false,0⟩,⟨false,1⟩,⟨false,0⟩]
def tj:AO:=dQ ⟨#[112,108,117,115]⟩ 1 [⟨true,1⟩]
def uK:AO:=dQ ⟨#[116,105,109,101,115]⟩ 1 [⟨true,2⟩]
def Ox:ByteArray:=⟨#[98,105,110,95,112,108,117,115]⟩
def Q5:ByteArray:=⟨#[98,105,110,95,99,111,112,121]⟩
def cH:AX:=U5 7 1 1 0 ⟨#[]⟩
def gH:AE:=tX [⟨#[69]⟩,⟨#[79]⟩] [tn,{te with cond:=tp},tj,uK,dQ Ox 0 [⟨false,0⟩,⟨true,1⟩,⟨false,0⟩],dQ ⟨#[98,105,110,95,116,105,109,101,115]⟩ 0 [⟨false,0⟩,⟨true,2⟩,⟨false,0⟩]]
def mH:List Rewrite:=[⟨1,1,2,Be 4::BF 0 3⟩,⟨1,1,3,Be 5::BF 0 3⟩]
def cK:AX:=U5 8 1 1 3 ⟨#[114,101,115,116]⟩
def gK:AE:=tX [⟨#[69]⟩,⟨#[79]⟩,⟨#[114,101,115,116]⟩] [tn,{te with right:=[⟨false,0⟩,⟨false,2⟩]},tj,uK,dQ ⟨#[114,101,115,116]⟩ 2 [⟨false,1⟩,⟨false,0⟩]]
def mK:List Rewrite:=[⟨1,-1,-1,[Be 1,DO 0,Be 4,DO 1,DO 2]⟩]
def cS:AX:=U5 9 1 2 0 ⟨#[114,105,103,104,116]⟩
def gS:AE:=tX [⟨#[69]⟩,⟨#[79]⟩,⟨#[114,105,103,104,116]⟩] [tn,{te with right:=[⟨false,0⟩,⟨false,1⟩,⟨false,2⟩]},tj,uK,dQ ⟨#[110,117,109,95,99,111,112,121]⟩ 2 [⟨true,0⟩],dQ Q5 2 [⟨false,0⟩,⟨false,1⟩,⟨false,0⟩]]
def td:List Rewrite:=[⟨1,2,0,[Be 1,DO 0,DO 1,Be 4,DO 2]⟩,⟨1,2,1,[Be 1,DO 0,DO 1,Be 5,DO 2,DO 3,DO 4]⟩]
def cN:AX:=U5 7 0 0 0 ⟨#[]⟩
theorem db:okF gH:=⟨Ri _ _ (by decide+kernel),XQ _ (by decide+kernel)⟩
theorem bR:okF gK:=⟨Ri _ _ (by decide+kernel),XQ _ (by decide+kernel)⟩
theorem eW:okF gS:=⟨Ri _ _ (by decide+kernel),XQ _ (by decide+kernel)⟩
theorem qA:Bv KX cH=[2,3]:=by decide+kernel
theorem nq:Bv KX cS=[0,1]:=by decide+kernel
theorem ov:O8 KX cH=gH:=by
 have g:IH KX cH 2=dQ Ox 0 [⟨false,0⟩,⟨true,1⟩,⟨false,0⟩]:=by
  unfold IH;rw[show Gr and (A3 KX cH).cond (Bu KX 2).cond=(Dg,0)from Wq];decide+kernel
 have h:IH KX cH 3=dQ ⟨#[98,105,110,95,116,105,109,101,115]⟩ 0 [⟨false,0⟩,⟨true,2⟩,⟨false,0⟩]:=by
  unfold IH;rw[show Gr and (A3 KX cH).cond (Bu KX 3).cond=(Dg,0)from Wq];decide+kernel
 unfold O8;rw[qA];simp[g,h];rfl
theorem pO:IU KX cH KX.AD.length (Bv KX cH)=mH:=by decide+kernel
theorem lH:A6 KX cK=gK:=by rfl
theorem jg:foldM KX cK=mK:=by decide+kernel
theorem rb:q8 KX cS=gS:=by unfold q8;rw[nq];rfl
theorem rL:Wk KX cS KX.AD.length (Bv KX cS)=td:=by decide+kernel
theorem nv:Pure prog 7 [AA KX,Ao cH] (.Cb [AA gH,A8 mH,AF 0]):=by
 have h:=qI KX cH rfl (by decide) (by decide);have hb:Ly KX cH=false:=by decide+kernel
 rw[hb,ao ul,ao ul,ao ul,ov,pO]at h;rw[Sl Iv (by decide+kernel) rfl rfl db (SA Iv db (by decide) (by decide+kernel) (by decide+kernel))]at h;exact h
theorem p7:Pure prog 7 [AA KX,Ao cK] (.Cb [AA gK,A8 mK,AF 0]):=by
 have h:=sR KX cK rfl (by decide);have hb:Ct KX cK.number=false:=by decide+kernel
 rw[hb,ao ul,ao ul,ao ul,lH,jg]at h;rw[Sl Iv (by decide+kernel) rfl rfl bR (SA Iv bR (by decide) (by decide+kernel) (by decide+kernel))]at h;exact h
theorem ou:Pure prog 7 [AA KX,Ao cS] (.Cb [AA gS,A8 td,AF 0]):=by
 have h:=tc KX cS rfl (by decide) (by decide);have hb:Vf KX cS=false:=by decide+kernel
 rw[hb,ao ul,ao ul,ao ul,rb,rL]at h;rw[Sl Iv (by decide+kernel) rfl rfl eW (SA Iv eW (by decide) (by decide+kernel) (by decide+kernel))]at h;exact h
theorem applyN:Pure prog 7 [AA KX,Ao cN] (.Cb [AA FZ,A8 [],AF 310]):=by
 have h:=qI KX cN rfl (by decide) (by decide);have e:Ci KX cN=false:=by decide+kernel
 unfold M5 VK at h;rw[ao (by simpa using Du.2 Iv),ap (by rw[e,Pi])]at h;exact h
theorem ZC:Pure prog 4 [] (.bool true):=by
 have aH:=nv;have aK:=p7;have aS:=ou;have aN:=applyN;have hl:(5:Nat)<=maxLen:=by decide
 obtain⟨q,Z,fH3,s,fH5⟩:gH.AD.length=6/\(∃p,gH.AD[4]?=some p/\p.name=Ox)/\(∃p,gH.AD[1]?=some p/\p.cond.root=0)/\mH.length=2/\(∃r,mH[1]?=some r/\r.child=3):=
  ⟨rfl,⟨_,rfl,rfl⟩,⟨_,rfl,rfl⟩,rfl,⟨_,rfl,rfl⟩⟩
 obtain⟨X,fK2,fK3,Y,fK5⟩:gK.AD.length=5/\(∃p,gK.AD[4]?=some p/\p.right.length=2)/\(∃p,gK.AD[1]?=some p/\p.right.length=2)/\mK.length=1/\(∃r n,mK[0]?=some r/\r.A4.length=5/\r.A4[2]?=some n/\n.prod=4):=
  ⟨rfl,⟨_,rfl,rfl⟩,⟨_,rfl,rfl⟩,rfl,⟨_,_,rfl,rfl,rfl,rfl⟩⟩
 obtain⟨t,fS2,fS3⟩:gS.AD.length=6/\(∃p y,gS.AD[5]?=some p/\p.name=Q5/\p.right.length=3/\p.right[2]?=some y/\y.index=0)/\(∃p y,gS.AD[1]?=some p/\p.right.length=3/\p.right[2]?=some y/\y.index=2):=
  ⟨rfl,⟨_,_,rfl,rfl,rfl,rfl,rfl⟩,⟨_,_,rfl,rfl,rfl,rfl⟩⟩
 generalize gH=H at *;generalize mH=MH at *;generalize gK=K at *;generalize mK=MK at *;generalize gS=T at *;generalize td=MT at *;have hcH:Ao cH=_:=Ao.eq_1 cH;have hcK:Ao cK=_:=Ao.eq_1 cK;have hcS:Ao cS=_:=Ao.eq_1 cS;have hcN:Ao cN=_:=Ao.eq_1 cN;refine zP func4 175 rfl λwf=>?_;apply yW;simp;(repeat apply xS);apply yT;apply yJ;simp;refine B9 (po) rfl (by simp) (yJ ?_);simp;generalize KX=G at *;apply yS;apply yJ;simp[maxLen];refine sv (AJ.nn 18 (Ao cH) (by simp[Ba,Ao,cH,U5,Qf,Ni,He])) ?_;refine B9 (aH) rfl (by simp[xN]) (yJ ?_);simp;apply yS;apply yJ;simp[maxLen];refine sv (AJ.nn 25 (Ao cK) (by simp[Ba,Ao,cK,U5,Qf,Ni,He])) ?_;refine B9 (aK) rfl (by simp[xN]) (yJ ?_);simp;apply yS;apply yJ;simp[maxLen];refine sv (AJ.nn 32 (Ao cS) (by simp[Ba,Ao,cS,U5,Qf,Ni,He])) ?_;refine B9 (aS) rfl (by simp[xN]) (yJ ?_);simp;(repeat apply xS);apply yT;apply yJ;simp[maxLen];refine sv (AJ.nn 39 (Ao cN) (by simp[Ba,Ao,cN,U5,Qf,Ni,He])) ?_;refine B9 (aN) rfl (by simp[xN]) (yJ ?_);simp;obtain⟨a4,g,u⟩:=Z;obtain⟨a1,h,v⟩:=fH3;obtain⟨r1,i,w⟩:=fH5;obtain⟨k4,R,nK4⟩:=fK2;obtain⟨k1,S,nK1⟩:=fK3;obtain⟨r0,n2,U,nR0,W,nN2⟩:=fK5;obtain⟨s5,y5,j,z,A,k,B⟩:=fS2;obtain⟨s1,y1,m,C,o,E⟩:=fS3;obtain⟨_,g⟩:=df.1 g;obtain⟨_,h⟩:=df.1 h;obtain⟨_,i⟩:=df.1 i;obtain⟨_,R⟩:=df.1 R;obtain⟨_,S⟩:=df.1 S;obtain⟨_,U⟩:=df.1 U;obtain⟨_,W⟩:=df.1 W;obtain⟨_,j⟩:=df.1 j;obtain⟨_,k⟩:=df.1 k;obtain⟨_,m⟩:=df.1 m;obtain⟨_,o⟩:=df.1 o;have F:=AH.eq_1 a4;have J:=AH.eq_1 a1;have L:=Ab.eq_1 r1;have eK4:=AH.eq_1 k4;have eK1:=AH.eq_1 k1;have eR0:=Ab.eq_1 r0;have eN2:=A7.eq_1 n2;have M:=AH.eq_1 s5;have N:=AH.eq_1 s1;have P:=AI.eq_1 y5;have Q:=AI.eq_1 y1;refine xS (yS ?_);apply yH;simp[q,s,X,Y,t];apply AR;simp;apply xK;apply yS;apply yH;simp[U,eR0,nR0,Y,W,eN2,nN2,R,eK4,nK4,S,eK1,nK1,X];(repeat apply xS);apply yT;(repeat((first|refine FJ rfl ?_ ?_;(·simp)|refine QX rfl ?_ ?_;(·simp[h,J,v,q,i,L,w,s,j,M,z,A,k,P,B,m,N,C,o,Q,E,t,Q5,maxLen])|refine Cd ?_ ?_;(·simp[g,F,u,q,Ox,maxLen]));simp[g,F,u,h,J,v,q,i,L,w,s,j,M,z,A,k,P,B,m,N,C,o,Q,E,t,Ox,Q5,maxLen]));apply B6;apply zT;try simp
structure BG where
 prod:Int
 token:Int
 text:ByteArray
 rem:List ByteArray
 deriving DecidableEq
structure Term where
 nodes:List BG
 tail:List ByteArray
 deriving DecidableEq
inductive TF where
 |nil
 |leaf (tok:Int) (text:ByteArray) (rem:List ByteArray) (rest:TF)
 |node (p:Nat) (kids rest:TF)
abbrev Mv:=BG×Int
def Ef(p:Int):BG:=⟨p,-1,ByteArray.empty,[]⟩
namespace TF
def flat:TF->List BG
 |nil=>[]
 |leaf k s r x=>⟨-1,k,s,r⟩::x.flat
 |node p k x=>Ef p::(k.flat++x.flat)
def Cs:TF->List (List BG)
 |nil=>[]
 |leaf k s r x=>[⟨-1,k,s,r⟩]::x.Cs
 |node p k x=>(Ef p::k.flat)::x.Cs
def roots:TF->List Int
 |nil=>[]
 |leaf _ _ _ x=>-1::x.roots
 |node p _ x=>p::x.roots
def fit(g:AE):TF->List Symbol->Prop
 |nil,h=>h=[]
 |leaf k _ _ x,h=>0<=k/\k<g.Ae.length/\∃i,h=⟨true,k⟩::i/\x.fit g i
 |node p k x,h=>∃q,g.AD[p]?=some q/\k.fit g q.right/\∃i,h=⟨false,q.left⟩::i/\x.fit g i
def app:TF->TF->TF
 |nil,y=>y
 |leaf k s r x,y=>leaf k s r (x.app y)
 |node p k x,y=>node p k (x.app y)
def DP:TF->Nat->TF
 |nil,_=>nil
 |leaf _ _ _ _,0=>nil
 |leaf k s r x,n+1=>leaf k s r (x.DP n)
 |node _ _ _,0=>nil
 |node p k x,n+1=>node p k (x.DP n)
def CY:TF->Nat->TF
 |nil,_=>nil
 |leaf k s r x,0=>leaf k s r x
 |leaf _ _ _ x,n+1=>x.CY n
 |node p k x,0=>node p k x
 |node _ _ x,n+1=>x.CY n
def Lt:TF->Nat->List (List Int)
 |nil,_=>[]
 |leaf _ _ _ x,i=>[(i:Int)]::x.Lt (i+1)
 |node _ k x,i=>(k.Lt (i+1)).flatten::x.Lt (i+1+k.flat.length)
theorem Cu(u:TF):u.Cs.flatten=u.flat:=by
 induction u with
 |nil=>rfl
 |leaf k s r x g=>simp[Cs,flat,g]
 |node p k x _ g=>simp[Cs,flat,g]
theorem Qu(u:TF):u.Cs.length=u.roots.length:=by
 induction u with
 |nil=>rfl
 |leaf k s r x g=>simp[Cs,roots,g]
 |node p k x _ g=>simp[Cs,roots,g]
theorem Xn(u:TF)(i:Nat):(u.Lt i).length=u.roots.length:=by
 induction u generalizing i with
 |nil=>rfl
 |leaf k s r x g=>simp[Lt,roots,g]
 |node p k x _ g=>simp[Lt,roots,g]
theorem Yy(u y:TF):(u.app y).Cs=u.Cs++y.Cs:=by
 induction u with
 |nil=>rfl
 |leaf k s r x g=>simp[app,Cs,g]
 |node p k x _ g=>simp[app,Cs,g]
theorem Jc(u y:TF):(u.app y).flat=u.flat++y.flat:=by
 rw[<-Cu,Yy,zo,Cu,Cu]
theorem X9(u y:TF):(u.app y).roots=u.roots++y.roots:=by
 induction u with
 |nil=>rfl
 |leaf k s r x g=>simp[app,roots,g]
 |node p k x _ g=>simp[app,roots,g]
theorem JG(u:TF)(n:Nat):(u.DP n).Cs=u.Cs.take n:=by
 induction u generalizing n with
 |nil=>simp[DP,Cs]
 |leaf k s r x g=>cases n<;>simp[DP,Cs,g]
 |node p k x _ g=>cases n<;>simp[DP,Cs,g]
theorem Iw(u:TF)(n:Nat):(u.CY n).Cs=u.Cs.drop n:=by
 induction u generalizing n with
 |nil=>simp[CY,Cs]
 |leaf k s r x g=>cases n<;>simp[CY,Cs,g]
 |node p k x _ g=>cases n<;>simp[CY,Cs,g]
theorem JB(u:TF)(n:Nat):(u.DP n).roots=u.roots.take n:=by
 induction u generalizing n with
 |nil=>simp[DP,roots]
 |leaf k s r x g=>cases n<;>simp[DP,roots,g]
 |node p k x _ g=>cases n<;>simp[DP,roots,g]
theorem QB(u:TF)(n:Nat):(u.CY n).roots=u.roots.drop n:=by
 induction u generalizing n with
 |nil=>simp[CY,roots]
 |leaf k s r x g=>cases n<;>simp[CY,roots,g]
 |node p k x _ g=>cases n<;>simp[CY,roots,g]
theorem IA(u:TF)(n:Nat):(u.DP n).app (u.CY n)=u:=by
 induction u generalizing n with
 |nil=>simp[DP,CY,app]
 |leaf k s r x g=>cases n<;>simp[DP,CY,app,g]
 |node p k x _ g=>cases n<;>simp[DP,CY,app,g]
theorem Rv(u y:TF)(i:Nat):(u.app y).Lt i=u.Lt i++y.Lt (i+u.flat.length):=by
 induction u generalizing i with
 |nil=>rfl
 |leaf k s r x g=>simp[app,Lt,g,flat,nl,adS 1]
 |node p k x _ g=>
  simp[app,Lt,g,flat];rw[show i+(k.flat.length+x.flat.length+1)=i+1+k.flat.length+x.flat.length by omega]
theorem GB{g:AE}{u:TF}{ss:List Symbol}(h:u.fit g ss):u.roots.length=ss.length:=by
 induction u generalizing ss with
 |nil=>simp[fit]at h;simp[h,roots]
 |leaf k s r x i=>obtain⟨_,_,j,rfl,h⟩:=h;simp[roots,i h]
 |node p k x _ i=>obtain⟨q,_,_,j,rfl,h⟩:=h;simp[roots,i h]
theorem XY{g:AE}{u y:TF}{ss ts:List Symbol}(h:u.fit g ss)(m:y.fit g ts):(u.app y).fit g (ss++ts):=by
 induction u generalizing ss with
 |nil=>simp[fit]at h;simpa[h,app]using m
 |leaf k s r x i=>obtain⟨a,b,j,rfl,h⟩:=h;exact⟨a,b,j++ts,rfl,i h⟩
 |node p k x _ i=>obtain⟨q,a,b,j,rfl,h⟩:=h;exact⟨q,a,b,j++ts,rfl,i h⟩
theorem Us{g:AE}{u:TF}{ss:List Symbol}(h:u.fit g ss)(n:Nat):(u.DP n).fit g (ss.take n):=by
 induction u generalizing ss n with
 |nil=>simp[fit]at h;simp[h,DP,fit]
 |leaf k s r x i=>obtain⟨a,b,j,rfl,h⟩:=h;cases n with
  |zero=>simp[DP,fit]
  |succ n=>exact⟨a,b,j.take n,by simp,i h n⟩
 |node p k x _ i=>obtain⟨q,a,b,j,rfl,h⟩:=h;cases n with
  |zero=>simp[DP,fit]
  |succ n=>exact⟨q,a,b,j.take n,by simp,i h n⟩
theorem fit_drop{g:AE}{u:TF}{ss:List Symbol}(h:u.fit g ss)(n:Nat):(u.CY n).fit g (ss.drop n):=by
 induction u generalizing ss n with
 |nil=>simp[fit]at h;simp[h,CY,fit]
 |leaf k s r x i=>cases n with
  |zero=>simpa[CY]using h
  |succ n=>obtain⟨a,b,j,rfl,h⟩:=h;simpa[CY]using i h n
 |node p k x _ i=>cases n with
  |zero=>simpa[CY]using h
  |succ n=>obtain⟨q,a,b,j,rfl,h⟩:=h;simpa[CY]using i h n
end TF
def EV(p:Nat)(g:List Int)(r:Rewrite):Bool:=decide (r.prod=p)&&(decide (r.at_<0)||decide (g.getD r.at_.toNat (-2)=r.child))
def EM(r:Rewrite)(K:List (List Mv×List (List Mv))):List (List Mv):=
 if r.at_<0 then K.map (·.1)else(K.take r.at_.toNat).map (·.1)++(K.getD r.at_.toNat ([],[])).2++(K.drop (r.at_.toNat+1)).map (·.1)
def Ew(H:List (List Mv))(t:List Cw):List Mv:=t.flatMap λx=>if 0<=x.hole then H.getD x.hole.toNat []else [(⟨x.prod,x.token,x.text,[]⟩,-1)]
def Gb(m:List Rewrite)(p:Nat)(g:List Int)(K:List (List Mv×List (List Mv))):List Mv:=
 match m.find? (EV p g)with
 |none=>(Ef p,-1)::(K.map (·.1)).flatten
 |some r=>Ew (EM r K) r.A4
def B4(m:List Rewrite):TF->Nat->List (List Mv×List (List Mv))
 |.nil,_=>[]
 |.leaf k s r x,i=>([(⟨-1,k,s,r⟩,(i:Int))],[])::B4 m x (i+1)
 |.node p k x,i=>(Gb m p k.roots (B4 m k (i+1)),(B4 m k (i+1)).map (·.1))::B4 m x (i+1+k.flat.length)
theorem GZ(m:List Rewrite)(u:TF)(i:Nat):(B4 m u i).length=u.roots.length:=by
 induction u generalizing i with
 |nil=>rfl
 |leaf k s r x g=>simp[B4,TF.roots,g]
 |node p k x _ g=>simp[B4,TF.roots,g]
theorem PY(m:List Rewrite)(u y:TF)(i:Nat):B4 m (u.app y) i=B4 m u i++B4 m y (i+u.flat.length):=by
 induction u generalizing i with
 |nil=>rfl
 |leaf k s r x g=>simp[TF.app,B4,g,TF.flat,nl,adS 1]
 |node p k x _ g=>
  simp[TF.app,B4,g,TF.flat];rw[show i+(k.flat.length+x.flat.length+1)=i+1+k.flat.length+x.flat.length by omega]
theorem If(H:List (List Mv))(s t:List Cw):Ew H (s++t)=Ew H s++Ew H t:=by simp[Ew]
theorem O1(H:List (List Mv))(p:Int):Ew H [Be p]=[(Ef p,-1)]:=by simp[Ew,Be,Ef]
theorem KG(H:List (List Mv))(a k:Nat)(h:a+k<=H.length):Ew H (BF a k)=((H.drop a).take k).flatten:=by
 induction k with
 |zero=>simp[BF,Ew]
 |succ k g=>
  have e:Ew H [DO ((a+k:Nat):Int)]=H[a+k]'(by omega):=by
   have:(0:Int)<=(a:Int)+k:=by omega
   have i:((a:Int)+k).toNat=a+k:=by omega
   simp[Ew,DO,this,i,show a+k<H.length by omega]
  rw[BF,If,g (by omega),e,yq,acC,ci (by omega)];simp
namespace TF
def BM(j c a b:Nat):TF->TF
 |nil=>nil
 |leaf k s r x=>leaf k s r (x.BM j c a b)
 |node p k x=>if p=j then node j (((k.BM j c a b).DP a).app (node c (((k.BM j c a b).CY a).DP (b - a)) ((k.BM j c a b).CY b))) (x.BM j c a b)else node p (k.BM j c a b) (x.BM j c a b)
def Hv(j d:Nat):TF->TF
 |nil=>nil
 |leaf k s r x=>leaf k s r (x.Hv j d)
 |node p k x=>node (if p=j then d else p) (k.Hv j d) (x.Hv j d)
def arity(j n:Nat):TF->Prop
 |nil=>True
 |leaf _ _ _ x=>x.arity j n
 |node p k x=>(p=j->k.roots.length=n)/\k.arity j n/\x.arity j n
theorem Tf(j c a b:Nat)(u:TF):(u.BM j c a b).roots=u.roots:=by
 induction u with
 |nil=>rfl
 |leaf k s r x g=>simp[BM,roots,g]
 |node p k x _ g=>simp[BM];split<;>simp[roots, *]
theorem PT(j d:Nat)(u:TF):(u.Hv j d).roots.length=u.roots.length:=by
 induction u with
 |nil=>rfl
 |leaf k s r x g=>simp[Hv,roots,g]
 |node p k x _ g=>simp[Hv,roots,g]
theorem U1(j d:Nat)(u:TF):(u.Hv j d).flat.length=u.flat.length:=by
 induction u with
 |nil=>rfl
 |leaf k s r x g=>simp[Hv,flat,g]
 |node p k x h g=>simp[Hv,flat,g,h]
theorem YT{g:AE}{j:Nat}{q:AO}(o:g.AD[j]?=some q){u:TF}{ss:List Symbol}(h:u.fit g ss):u.arity j q.right.length:=by
 induction u generalizing ss with
 |nil=>trivial
 |leaf k s r x i=>obtain⟨_,_,t,rfl,h⟩:=h;exact i h
 |node p k x m i=>
  obtain⟨v,a,b,w,rfl,h⟩:=h;refine⟨λe=>?_,m b,i h⟩;subst e;rw[o]at a;cases a;exact GB b
end TF
def Ip(l:List BG):List BG:=l.filter λn=>decide (n.prod<0)
theorem Iy(l k:List BG):Ip (l++k)=Ip l++Ip k:=by simp[Ip]
theorem QJ(p:Nat)(l:List BG):Ip (Ef p::l)=Ip l:=by
 have:¬((p:Int)<0):=by omega
 simp[Ip,Ef,this]
abbrev co:=@List.drop_drop
namespace TF
theorem cut(u:TF){a b:Nat}(h:a<=b):u.flat=(u.DP a).flat++(((u.CY a).DP (b - a)).flat++(u.CY b).flat):=by
 rw[<-Cu,<-Cu,<-Cu,<-Cu,JG,JG,Iw,Iw,<-zo,<-zo];congr 1;have e:u.Cs.drop b=(u.Cs.drop a).drop (b - a):=by rw[co];congr 1;omega
 rw[e,wN,wN]
theorem Of(j c a b:Nat)(k x:TF):(BM j c a b (node j k x)).flat=Ef j::((((k.BM j c a b).DP a).flat++Ef c::((((k.BM j c a b).CY a).DP (b - a)).flat++((k.BM j c a b).CY b).flat))++(x.BM j c a b).flat):=by
 simp[BM,flat,Jc]
theorem Y3(j c:Nat){a b:Nat}(i:a<=b)(u:TF):Ip (u.BM j c a b).flat=Ip u.flat:=by
 induction u with
 |nil=>rfl
 |leaf k s r x h=>have h1:=h;simp[Ip]at h1;simp[BM,flat,Ip,h1]
 |node p k x g h=>
  by_cases e:p=j
  .subst e;rw[Of,QJ,Iy,Iy,QJ,<-Iy,<-cut _ i,g,h];simp[flat,QJ,Iy]
  .simp[BM,ao e,flat,QJ,Iy,g,h]
theorem iE(j d:Nat)(u:TF):Ip (u.Hv j d).flat=Ip u.flat:=by
 induction u with
 |nil=>rfl
 |leaf k s r x g=>have h1:=g;simp[Ip]at h1;simp[Hv,flat,Ip,h1]
 |node p k x h g=>simp[Hv,flat,QJ,Iy,h,g]
theorem YN(j c:Nat){a b:Nat}(g:a<=b)(u:TF):(u.BM j c a b).flat.length<=2 * u.flat.length:=by
 induction u with
 |nil=>exact br _
 |leaf k s r x h=>simp[BM,flat];omega
 |node p k x i h=>
  by_cases e:p=j
  .subst e;have h1:=i6 List.length (cut (k.BM p c a b) g);rw[Of];simp[flat]at h1⊢;omega
  .simp[BM,ao e,flat];omega
theorem Z8{g h:AE}{j c a b:Nat}{q:AO}{C:Int}(hj:g.AD[j]?=some q)(_:a<=b)(_:b<=q.right.length)(M:h.Ae.length=g.Ae.length)
  (H:∀p x,p≠j->g.AD[p]?=some x->h.AD[p]?=some x)
  (w:∃i,h.AD[j]?=some i/\i.left=q.left/\i.right=q.right.take a++⟨false,C⟩::q.right.drop b) (J:∃m,h.AD[c]?=some m/\m.left=C/\m.right=(q.right.drop a).take (b - a))
  {u:TF} {ss:List Symbol} (z:u.fit g ss):(u.BM j c a b).fit h ss:=by
 induction u generalizing ss with
 |nil=>exact z
 |leaf k s r x t=>obtain⟨K,N,v,rfl,h1⟩:=z;exact⟨K,by omega,v,rfl,t h1⟩
 |node p k x o t=>
  obtain⟨E,A,F,v,rfl,G⟩:=z;by_cases e:p=j
  .subst e;rw[hj]at A;cases A;obtain⟨i,f1,f2,f3⟩:=w;obtain⟨m,f4,f5,f6⟩:=J;simp[BM];refine⟨i,f1,?_,v,by rw[f2],t G⟩;have B:=o F;rw[f3];refine XY (Us B a) ⟨m,f4,?_,_,by rw[f5],fit_drop B b⟩;rw[f6];exact Us (fit_drop B a) (b - a)
  .simp[BM,ao e];exact⟨E,H p E e A,o F,v,rfl,t G⟩
end TF
def MX(l:List Mv):List BG:=l.map (·.1)
def Oa(l:List Mv):List Int:=(l.map (·.2)).filter λi=>decide (0<=i)
theorem GM(L:List (List Mv)):MX L.flatten=(L.map MX).flatten:=by simp[MX,List.map_flatten];rfl
theorem Ge(L:List (List Mv)):Oa L.flatten=(L.map Oa).flatten:=by simp[Oa,List.map_flatten,List.filter_flatten,kw];rfl
theorem lz(l k:List Mv):MX (l++k)=MX l++MX k:=by simp[MX]
theorem mL(l k:List Mv):Oa (l++k)=Oa l++Oa k:=by simp[Oa]
theorem PS(p:Int)(l:List Mv):MX ((Ef p,-1)::l)=Ef p::MX l:=rfl
theorem PU(p:Int)(l:List Mv):Oa ((Ef p,-1)::l)=Oa l:=by simp[Oa]
def IW(m:List Rewrite)(u:TF)(i:Nat):List (List BG):=(B4 m u i).map λy=>MX y.1
def Hr(m:List Rewrite)(u:TF)(i:Nat):List (List Int):=(B4 m u i).map λy=>Oa y.1
theorem KU(m:List Rewrite)(u:TF)(i:Nat):((B4 m u i).map (·.1)).map MX=IW m u i:=by simp[IW,kw]
theorem KN(m:List Rewrite)(u:TF)(i:Nat):((B4 m u i).map (·.1)).map Oa=Hr m u i:=by simp[Hr,kw]
theorem Nv{p:Nat}{g:List Int}{r:Rewrite}(h:r.prod≠p):[r].find? (EV p g)=none:=by simp[EV,h]
theorem cZ{j c a b n:Nat}(F:a<=b)(hb:b<=n){u:TF}(w:u.arity j n)(i:Nat):
  IW [⟨j,-1,-1,([Be j]++BF 0 a)++[Be c]++BF a (n - a)⟩] u i=(u.BM j c a b).Cs/\Hr [⟨j,-1,-1,([Be j]++BF 0 a)++[Be c]++BF a (n - a)⟩] u i=u.Lt i:=by
 generalize z:([⟨j,-1,-1,([Be j]++BF 0 a)++[Be c]++BF a (n - a)⟩]:List Rewrite)=m;induction u generalizing i with
 |nil=>exact⟨rfl,rfl⟩
 |leaf k s r x q=>
  obtain⟨h1,g⟩:=q w (i+1);unfold IW MX at h1;unfold Hr Oa at g;refine⟨?_,?_⟩
  .simp[IW,B4,TF.BM,TF.Cs,h1,MX]
  .have:(0:Int)<=i:=by omega
   simp[Hr,B4,TF.Lt,g,Oa,this]
 |node p k x t q=>
  obtain⟨A,B,C⟩:=w;obtain⟨h1,g⟩:=q C (i+1+k.flat.length);obtain⟨k1,k2⟩:=t B (i+1);have G:=GZ m k (i+1);by_cases e:p=j
  .subst e;have H:=A rfl;have v:m.find? (EV p k.roots)=some ⟨p,-1,-1,([Be p]++BF 0 a)++[Be c]++BF a (n - a)⟩:=by rw[<-z];simp[EV]
   have o:Gb m p k.roots (B4 m k (i+1))=(Ef p,-1)::((((B4 m k (i+1)).map (·.1)).take a).flatten++((Ef c,-1)::(((B4 m k (i+1)).map (·.1)).drop a).flatten)):=by
    unfold Gb;rw[v];simp only[EM,show((-1:Int)<0) by omega,er,If,O1];rw[KG _ 0 a (by simp;omega),KG _ a (n - a) (by simp;omega)];simp;congr 4;exact s9 (by simp;omega)
   refine⟨?_,?_⟩
   .show MX (Gb m p k.roots (B4 m k (i+1)))::IW m x (i+1+k.flat.length)=_
    rw[h1,o,PS,lz,PS,GM,GM,l5,ol,KU,k1];simp[TF.BM,TF.Cs,TF.Jc,TF.flat];have E:(k.BM p c a b).Cs.drop a=((k.BM p c a b).Cs.drop a).take (b - a)++(k.BM p c a b).Cs.drop b:=by
     rw[show(k.BM p c a b).Cs.drop b=((k.BM p c a b).Cs.drop a).drop (b - a) by rw[co];congr 1;omega,wN]
    rw[E,zo,<-TF.JG,<-TF.Iw,<-TF.JG,<-TF.Iw,TF.Cu,TF.Cu,TF.Cu]
   .show Oa (Gb m p k.roots (B4 m k (i+1)))::Hr m x (i+1+k.flat.length)=_
    rw[g,o,PU,mL,PU,Ge,Ge,<-zo,l5,ol,wN,KN,k2];rfl
  .have v:m.find? (EV p k.roots)=none:=by rw[<-z];exact Nv (by simp[ne_eq,Int.natCast_inj];exact λh=>e h.symm)
   have o:Gb m p k.roots (B4 m k (i+1))=(Ef p,-1)::((B4 m k (i+1)).map (·.1)).flatten:=by unfold Gb;rw[v]
   refine⟨?_,?_⟩
   .show MX (Gb m p k.roots (B4 m k (i+1)))::IW m x (i+1+k.flat.length)=_
    rw[h1,o,PS,GM,KU,k1];simp[TF.BM,ao e,TF.Cs,TF.Cu]
   .show Oa (Gb m p k.roots (B4 m k (i+1)))::Hr m x (i+1+k.flat.length)=_
    rw[g,o,PU,Ge,KN,k2];rfl
open Go.Proofs DT
namespace TF
theorem UO(u:TF)(a b:Nat):(u.CY a).CY b=u.CY (a+b):=by
 induction u generalizing a with
 |nil=>simp[CY]
 |leaf k s r x g=>cases a with
  |zero=>simp[CY]
  |succ a=>rw[show a+1+b=a+b+1 by omega];simp[CY,g]
 |node p k x _ g=>cases a with
  |zero=>simp[CY]
  |succ a=>rw[show a+1+b=a+b+1 by omega];simp[CY,g]
end TF
theorem Ts(m:List Rewrite)(u y:TF)(i:Nat):IW m (u.app y) i=IW m u i++IW m y (i+u.flat.length):=by simp[IW,PY]
theorem Ti(m:List Rewrite)(u y:TF)(i:Nat):Hr m (u.app y) i=Hr m u i++Hr m y (i+u.flat.length):=by simp[Hr,PY]
theorem UK(m:List Rewrite)(u:TF)(i:Nat):(IW m u i).length=u.roots.length:=by simp[IW,GZ]
theorem Un(m:List Rewrite)(u:TF)(i:Nat):(Hr m u i).length=u.roots.length:=by simp[Hr,GZ]
abbrev adP:=@List.take_left'
section
variable {α:Type} {X:TF->Nat->List α} (happ:∀u y i,X (u.app y) i=X u i++X y (i+u.flat.length)) (hlen:∀u i,(X u i).length=u.roots.length)
include happ hlen
theorem Vv(u:TF){a:Nat}(h:a<=u.roots.length)(i:Nat):(X u i).take a=X (u.DP a) i:=by
 have e:=happ (u.DP a) (u.CY a) i;rw[TF.IA]at e;rw[e,adP (by rw[hlen,TF.JB,up];omega)]
theorem p8(u:TF){a:Nat}(h:a<=u.roots.length)(i:Nat):(X u i).drop a=X (u.CY a) (i+(u.DP a).flat.length):=by
 have e:=happ (u.DP a) (u.CY a) i;rw[TF.IA]at e;rw[e,List.drop_left' (by rw[hlen,TF.JB,up];omega)]
theorem dE(u:TF){a b:Nat}(g:a<=b)(h:b<=u.roots.length)(i:Nat):
  (X u i).drop a=X ((u.CY a).DP (b - a)) (i+(u.DP a).flat.length)++X (u.CY b) (i+(u.DP a).flat.length+((u.CY a).DP (b - a)).flat.length):=by
 rw[p8 happ hlen u (by omega),<-happ];rw[show u.CY b=(u.CY a).CY (b - a) by rw[TF.UO];congr 1;omega,TF.IA]
end
theorem mN{j c d a b n:Nat}(H:j≠c)(z:a<=b)(hb:b<=n){u:TF}(E:u.arity j n)(i:Nat):
  IW [⟨j,a,c,[Be d]++BF 0 n⟩] (u.BM j c a b) i=(u.Hv j d).Cs/\Hr [⟨j,a,c,[Be d]++BF 0 n⟩] (u.BM j c a b) i=(u.BM j c a b).Lt i:=by
 generalize F:([⟨j,a,c,[Be d]++BF 0 n⟩]:List Rewrite)=m;induction u generalizing i with
 |nil=>exact⟨rfl,rfl⟩
 |leaf k s r x w=>
  obtain⟨h1,q⟩:=w E (i+1);unfold IW MX at h1;unfold Hr Oa at q;refine⟨?_,?_⟩
  .simp[IW,B4,TF.BM,TF.Hv,TF.Cs,h1,MX]
  .have:(0:Int)<=i:=by omega
   simp[Hr,B4,TF.BM,TF.Lt,q,Oa,this]
 |node p k x g w=>
  obtain⟨J,B,G⟩:=E;by_cases e:p=j
  .subst e;have K:=J rfl;have W:(k.BM p c a b).roots.length=n:=by rw[TF.Tf];exact K
   have k1:=g B (i+1);have k2:=g B (i+2);have t1:=Vv (Ts m) (UK m) (k.BM p c a b) (a:=a) (by omega) (i+1);have t2:=Vv (Ti m) (Un m) (k.BM p c a b) (a:=a) (by omega) (i+1);have t3:=Vv TF.Rv TF.Xn (k.BM p c a b) (a:=a) (by omega) (i+1);have d1:=dE (Ts m) (UK m) (k.BM p c a b) z (by omega) (i+2);have d2:=dE (Ti m) (Un m) (k.BM p c a b) z (by omega) (i+2);have d3:=dE TF.Rv TF.Xn (k.BM p c a b) z (by omega) (i+2);rw[k1.1]at t1;rw[k1.2]at t2;rw[k2.1]at d1;rw[k2.2]at d2;simp only[TF.BM,ap];generalize L:(k.BM p c a b).DP a=A at *;generalize N:((k.BM p c a b).CY a).DP (b - a)=M at *;generalize P:(k.BM p c a b).CY b=T at *;have t:A.roots.length=a:=by rw[<-L,TF.JB,up];omega
   have Q:M.roots.length=b - a:=by rw[<-N,TF.JB,TF.QB,up,acy];omega
   have R:T.roots.length=n - b:=by rw[<-P,TF.QB,acy];omega
   have C:m.find? (EV p (A.app (.node c M T)).roots)=some ⟨p,a,c,[Be d]++BF 0 n⟩:=by
    rw[<-F];have:(A.app (.node c M T)).roots[a]?=some (c:Int):=by rw[TF.X9,TF.roots,ls (by omega)];simp[t]
    simp[EV,this]
   have S:B4 m (A.app (.node c M T)) (i+1)=B4 m A (i+1)++(Gb m c M.roots (B4 m M (i+2+A.flat.length)),(B4 m M (i+2+A.flat.length)).map (·.1))::B4 m T (i+2+A.flat.length+M.flat.length):=by
    rw[PY,B4,show i+1+A.flat.length+1=i+2+A.flat.length by omega]
   have o:(B4 m A (i+1)).length=a:=by rw[GZ,t]
   have U:EM ⟨p,a,c,[Be d]++BF 0 n⟩ (B4 m (A.app (.node c M T)) (i+1))=(B4 m A (i+1)).map (·.1)++(B4 m M (i+2+A.flat.length)).map (·.1)++(B4 m T (i+2+A.flat.length+M.flat.length)).map (·.1):=by
    have:¬((a:Int)<0):=by omega
    simp only[EM,this,fc,ii,S];congr 1
    .congr 1
     .rw[adP o]
     .rw[io,ls (by omega)];simp[o]
    .congr 1;rw[List.drop_append,o,ace (by omega)];simp
   have v:Gb m p (A.app (.node c M T)).roots (B4 m (A.app (.node c M T)) (i+1))=(Ef d,-1)::((B4 m A (i+1)).map (·.1)++(B4 m M (i+2+A.flat.length)).map (·.1)++(B4 m T (i+2+A.flat.length+M.flat.length)).map (·.1)).flatten:=by
    unfold Gb;rw[C];simp only[If,O1,U];rw[KG _ 0 n (by simp[GZ];omega)];simp only[acV,acZ];rw[s9 (by simp[GZ];omega)]
   obtain⟨h1,q⟩:=w G (i+1+(A.app (.node c M T)).flat.length);refine⟨?_,?_⟩
   .show MX (Gb m p (A.app (.node c M T)).roots (B4 m (A.app (.node c M T)) (i+1)))::IW m (x.BM p c a b) (i+1+(A.app (.node c M T)).flat.length)=_
    rw[h1,v,PS,GM,su,su,KU,KU,KU,yl,<-d1,<-t1,wN];simp only[TF.Hv,ap,TF.Cs,TF.Cu]
   .show Oa (Gb m p (A.app (.node c M T)).roots (B4 m (A.app (.node c M T)) (i+1)))::Hr m (x.BM p c a b) (i+1+(A.app (.node c M T)).flat.length)=_
    rw[q,v,PU,Ge,su,su,KN,KN,KN,yl,<-d2,<-t2,t3,d3];simp only[TF.Lt,TF.Rv,zo,K2,show i+1+A.flat.length+1=i+2+A.flat.length by omega]
  .have C:m.find? (EV p (k.BM j c a b).roots)=none:=by rw[<-F];exact Nv (by simp only[ne_eq,Int.natCast_inj];exact λh=>e h.symm)
   obtain⟨k1,k2⟩:=g B (i+1);obtain⟨h1,q⟩:=w G (i+1+(k.BM j c a b).flat.length);have v:Gb m p (k.BM j c a b).roots (B4 m (k.BM j c a b) (i+1))=(Ef p,-1)::((B4 m (k.BM j c a b) (i+1)).map (·.1)).flatten:=by unfold Gb;rw[C]
   simp only[TF.BM,ao e];refine⟨?_,?_⟩
   .show MX (Gb m p (k.BM j c a b).roots (B4 m (k.BM j c a b) (i+1)))::IW m (x.BM j c a b) (i+1+(k.BM j c a b).flat.length)=_
    rw[h1,v,PS,GM,KU,k1];simp only[TF.Hv,ao e,TF.Cs,TF.Cu]
   .show Oa (Gb m p (k.BM j c a b).roots (B4 m (k.BM j c a b) (i+1)))::Hr m (x.BM j c a b) (i+1+(k.BM j c a b).flat.length)=_
    rw[q,v,PU,Ge,KN,k2];rfl
def bare(n:BG):BG:={n with rem:=[]}
def Dt(s:List BG×List Int)(v:Mv):List BG×List Int:=(s.1++[bare v.1],if 0<=v.2 then s.2.set v.2.toNat ((s.1.length+1:Nat):Int)else s.2)
theorem ML(l:List Mv)(s:List BG×List Int):(l.foldl Dt s).1=s.1++l.map λv=>bare v.1:=by
 induction l generalizing s with
 |nil=>simp
 |cons v l g=>simp[g,Dt]
theorem TE(l:List Mv)(s:List BG×List Int):(l.foldl Dt s).2.length=s.2.length:=by
 induction l generalizing s with
 |nil=>rfl
 |cons v l g=>rw[Fr,g];simp[Dt];split<;>simp
def P4:List BG->Nat->List Int->List BG->List ByteArray->List BG×List ByteArray
 |[],_,_,out,g=>(out,g)
 |n::l,i,h,out,g=>
  if 0<h.getD i 0 then P4 l (i+1) h (out.modify (h.getD i 0 - 1).toNat λx=>{x with rem:=g++n.rem}) []
  else P4 l (i+1) h out (g++n.rem)
theorem XJ(l:List Mv)(a:Nat)(h:∀v∈l,v.2≠(a:Int))(s:List BG×List Int):(l.foldl Dt s).2.getD a 0=s.2.getD a 0:=by
 induction l generalizing s with
 |nil=>rfl
 |cons v l g=>
  rw[Fr,g (λw i=>h w (by simp[i]))];have j:=h v (by simp);simp[Dt];split
  .next h0=>simp[show v.2.toNat≠a by omega]
  .rfl
theorem gj(l:List Mv)(a k:Nat)(j:k<l.length)(i:l[k].2=(a:Int))(hn:∀g,(h:g<l.length)->k<g->l[g].2≠(a:Int))(s:List BG×List Int)(ha:a<s.2.length):
  (l.foldl Dt s).2.getD a 0=((s.1.length+k+1:Nat):Int):=by
 induction l generalizing s k with
 |nil=>simp at j
 |cons v l o=>
  rw[Fr];have q:(Dt s v).1.length=s.1.length+1:=by simp[Dt]
  have u:(Dt s v).2.length=s.2.length:=by simp[Dt];split<;>simp
  cases k with
  |zero=>
   rw[XJ l a λw t=>by
    obtain⟨g,h1,m⟩:=List.getElem_of_mem t;have:=hn (g+1) (by simp;omega) (by omega);simp[m]at this;exact this]
   simp at i;simp[Dt,i,ha]
  |succ k=>
   rw[o k (by simpa using j) (by simpa using i) (λg h1 m=>by have:=hn (g+1) (by simp;omega) (by omega);simpa using this) _ (by omega),q];congr 1;omega
theorem jt{nodes:List BG}{l:List Mv}(h1:∀v∈l,0<=v.2->∃n,nodes[v.2.toNat]?=some n/\n.rem=v.1.rem)(H:∀v∈l,v.2<0->v.1.rem=[])
  (s:l.Pairwise λv w=>0<=v.2->0<=w.2->v.2≠w.2) (J:∀(i:Nat) (n:BG),nodes[i]?=some n->n.prod<0->∃v∈l,v.2=(i:Int)) (K:∀(i:Nat) (n:BG),nodes[i]?=some n->¬n.prod<0->n.rem=[]/\∀v∈l,v.2≠(i:Int)):
  P4 nodes 0 (l.foldl Dt ([],List.replicate nodes.length 0)).2 (l.foldl Dt ([],List.replicate nodes.length 0)).1 []=(MX l,[]):=by
 have key:∀d i:Nat,nodes.length - i=d->i<=nodes.length->P4 (nodes.drop i) i (l.foldl Dt ([],List.replicate nodes.length 0)).2 (l.map λv=>if 0<=v.2/\v.2<(i:Int)then v.1 else bare v.1) []=(MX l,[]):=by
  intro d;induction d with
  |zero=>
   intro i L hi;have:i=nodes.length:=by omega
   subst this;rw[List.drop_length];simp only[P4,MX,GE,and_true];refine rr λv j=>?_;by_cases h0:0<=v.2
   .obtain⟨n,t,_⟩:=h1 v j h0;have:=(df.1 t).1;rw[ap ⟨h0,by omega⟩]
   .rw[ao (by omega)];have:=H v j (by omega);obtain⟨⟨a,b,c,r⟩,i⟩:=v;simp only at this;subst this;rfl
  |succ d B=>
   intro i L hi;have u:i<nodes.length:=by omega
   rw[sw u];have hn:nodes[i]?=some nodes[i]:=ci u;generalize nodes[i]=n at hn;unfold P4;by_cases C:n.prod<0
   .obtain⟨v,j,m⟩:=J i n hn C;obtain⟨k,z,rfl⟩:=List.getElem_of_mem j;have E:∀g,(h:g<l.length)->g≠k->l[g].2≠(i:Int):=λg o M e=>by
     rw[List.pairwise_iff_getElem]at s;rcases Nat.lt_or_gt_of_ne M with q|q
     .exact s g k o z q (by omega) (by omega) (by omega)
     .exact s k g z o q (by omega) (by omega) (by omega)
    have A:=gj l i k z m (λg o q=>E g o (by omega)) ([],List.replicate nodes.length 0) (by simpa using u);rw[A,ap (by omega)];have t:(((([]:List BG).length+k+1:Nat):Int) - 1).toNat=k:=by simp
    rw[t,<-B (i+1) (by omega) (by omega)];congr 1;apply un (by simp);intro g R N;have P:g<l.length:=by simpa using N
    rw[List.getElem_modify];simp;by_cases e:k=g
    .subst e;obtain⟨S,f1,f2⟩:=h1 _ j (by omega);rw[m,ii,hn]at f1;cases f1;rw[ap rfl,ao (by omega),ap (by omega)];simp[bare,f2]
    .rw[ao e];have:=E g P (λh=>e h.symm);by_cases c:0<=l[g].2/\l[g].2<(i:Int)
     .rw[ap c,ap (by omega)]
     .rw[ao c,ao (by omega)]
   .obtain⟨Q,F⟩:=K i n hn C;rw[XJ l i F];rw[ao (by simp[List.getElem?_replicate];split<;>simp),Q,xl,<-B (i+1) (by omega) (by omega)];congr 1;refine rr λv j=>?_;have:=F v j;by_cases c:0<=v.2/\v.2<(i:Int)
    .rw[ap c,ap (by omega)]
    .rw[ao c,ao (by omega)]
 have G:=key nodes.length 0 (by omega) (by omega);rw[acV]at G;rw[<-G,ML];congr 1;simp only[vV];refine rr λv _=>?_;rw[ao (by omega)]
def PX(L:List BG)(i:Nat)(v:Mv):Prop:=(v.2<0/\v.1.rem=[])\/∃k n,v.2=((i+k:Nat):Int)/\L[k]?=some n/\n.rem=v.1.rem
theorem lN(p:Int)(L:List BG)(i:Nat):PX L i (Ef p,-1):=.inl ⟨by show(-1:Int)<0;omega,rfl⟩
theorem lj(m:List Rewrite)(u:TF)(i:Nat):∀y∈B4 m u i,(∀v∈y.1,PX u.flat i v)/\∀z∈y.2,∀v∈z,PX u.flat i v:=by
 induction u generalizing i with
 |nil=>intro y q;simp[B4]at q
 |leaf k s r x H=>
  intro y q;have C:∀v,PX x.flat (i+1) v->PX (TF.leaf k s r x).flat i v:=by
   rintro v (h|⟨a,n,h1,o,E⟩)
   .exact .inl h
   .exact .inr ⟨a+1,n,by rw[h1];omega,by simpa[TF.flat]using o,E⟩
  rcases fi.1 q with rfl|q
  .refine⟨λv g=>?_,λz j=>by simp at j⟩;simp at g;subst g;exact .inr ⟨0,_,rfl,rfl,rfl⟩
  .obtain⟨h1,o⟩:=H (i+1) y q;exact⟨λv g=>C v (h1 v g),λz j v g=>C v (o z j v g)⟩
 |node p k x J H=>
  intro y q;have C:∀v,PX x.flat (i+1+k.flat.length) v->PX (TF.node p k x).flat i v:=by
   rintro v (h|⟨a,n,h1,o,E⟩)
   .exact .inl h
   .refine .inr ⟨k.flat.length+a+1,n,by rw[h1];omega,?_,E⟩;simp[TF.flat];rw[ls (by omega)];simpa using o
  have A:∀v,PX k.flat (i+1) v->PX (TF.node p k x).flat i v:=by
   rintro v (h|⟨a,n,h1,o,E⟩)
   .exact .inl h
   .refine .inr ⟨a+1,n,by rw[h1];omega,?_,E⟩;simp[TF.flat];rw[ej (df.1 o).1];exact o
  have G:=J (i+1);have K:∀z∈(B4 m k (i+1)).map (·.1),∀v∈z,PX (TF.node p k x).flat i v:=λz j v g=>by
   obtain⟨w,F,rfl⟩:=eo.1 j;exact A v ((G w F).1 v g)
  rcases fi.1 q with rfl|q
  .refine⟨λv g=>?_,K⟩;simp[Gb]at g;split at g
   .rcases fi.1 g with rfl|g
    .exact lN _ _ _
    .obtain⟨z,j,g⟩:=adA.1 g;exact K z j v g
   .next r M=>
    have L:∀z∈EM r (B4 m k (i+1)),∀v∈z,PX (TF.node p k x).flat i v:=by
     intro z j v g;simp only[EM]at j;split at j
     .exact K z j v g
     .rcases dl.1 j with j|j
      .rcases dl.1 j with j|j
       .obtain⟨w,F,rfl⟩:=eo.1 j;exact A v ((G w (W0 F)).1 v g)
       .rw[io]at j;cases B:(B4 m k (i+1))[r.at_.toNat]? with
        |none=>rw[B]at j;simp at j
        |some w=>rw[B]at j;exact A v ((G w (lw B)).2 z j v g)
      .obtain⟨w,F,rfl⟩:=eo.1 j;exact A v ((G w (acJ F)).1 v g)
    obtain⟨t,N,g⟩:=List.mem_flatMap.1 g;split at g
    .rw[io]at g;cases B:(EM r (B4 m k (i+1)))[t.hole.toNat]? with
     |none=>rw[B]at g;simp at g
     |some w=>rw[B]at g;exact L w (lw B) v g
    .simp at g;subst g;exact .inl ⟨by show(-1:Int)<0;omega,rfl⟩
  .obtain⟨h1,o⟩:=H _ y q;exact⟨λv g=>C v (h1 v g),λz j v g=>C v (o z j v g)⟩
theorem OU(u:TF)(i:Nat)(a:Int):a∈(u.Lt i).flatten↔∃k n,a=((i+k:Nat):Int)/\u.flat[k]?=some n/\n.prod<0:=by
 induction u generalizing i with
 |nil=>simp[TF.Lt,TF.flat]
 |leaf k s r x j=>
  simp only[TF.Lt,K2,dl,cR,j,TF.flat];constructor
  .rintro(rfl|⟨b,n,h1,g,h⟩)
   .exact⟨0,_,rfl,rfl,by show(-1:Int)<0;omega⟩
   .exact⟨b+1,n,by rw[h1];omega,by simpa using g,h⟩
  .rintro⟨b,n,h1,g,h⟩;cases b with
   |zero=>exact .inl (by simpa using h1)
   |succ b=>exact .inr ⟨b,n,by rw[h1];omega,by simpa using g,h⟩
 |node p k x m j=>
  simp only[TF.Lt,K2,dl,j,m,TF.flat];constructor
  .rintro(⟨b,n,h1,g,h⟩|⟨b,n,h1,g,h⟩)
   .refine⟨b+1,n,by rw[h1];omega,?_,h⟩;rw[of,ej (df.1 g).1];exact g
   .refine⟨k.flat.length+b+1,n,by rw[h1];omega,?_,h⟩;rw[of,ls (by omega)];simpa using g
  .rintro⟨b,n,h1,g,h⟩;cases b with
   |zero=>
    simp at g;subst g;have:¬((p:Int)<0):=by omega
    exact absurd h this
   |succ b=>
    rw[of]at g;by_cases hb:b<k.flat.length
    .rw[ej hb]at g;exact .inl ⟨b,n,by rw[h1];omega,g,h⟩
    .rw[ls (by omega)]at g;exact .inr ⟨b - k.flat.length,n,by rw[h1];omega,g,h⟩
theorem Mx(u:TF)(i:Nat):∀a∈(u.Lt i).flatten,(i:Int)<=a/\a<((i+u.flat.length:Nat):Int):=λa ha=>by
 obtain⟨k,n,rfl,g,_⟩:=(OU u i a).1 ha;have:=(df.1 g).1;omega
theorem ZE(u:TF)(i:Nat):(u.Lt i).flatten.Nodup:=by
 induction u generalizing i with
 |nil=>simp[TF.Lt]
 |leaf k s r x g=>
  simp only[TF.Lt,K2,acZ,NE];exact⟨λh=>by have:=(Mx x (i+1) _ h).1;omega,g _⟩
 |node p k x j g=>
  simp only[TF.Lt,K2,rt];exact⟨j _,g _,λa ha b hb=>by have:=(Mx k _ _ ha).2;have:=(Mx x _ _ hb).1;omega⟩
theorem LH(u:TF):∀n∈u.flat,¬n.prod<0->n.rem=[]:=by
 induction u with
 |nil=>simp[TF.flat]
 |leaf k s r x g=>
  intro n hn h;rcases fi.1 hn with rfl|hn
  .exact absurd (show(-1:Int)<0 by omega) h
  .exact g n hn h
 |node p k x i g=>
  intro n hn h;rcases fi.1 hn with rfl|hn
  .rfl
  .rcases dl.1 hn with hn|hn
   .exact i n hn h
   .exact g n hn h
theorem lF(m:List Rewrite){u:TF}{M:List Mv}{K:List (List Mv)}(h:B4 m u 0=[(M,K)])(hi:Hr m u 0=u.Lt 0):
  P4 u.flat 0 (M.foldl Dt ([],List.replicate u.flat.length 0)).2 (M.foldl Dt ([],List.replicate u.flat.length 0)).1 []=(MX M,[]):=by
 have t:Oa M=(u.Lt 0).flatten:=by rw[<-hi];simp[Hr,h]
 have w:=(lj m u 0 (M,K) (by rw[h];simp)).1;have z:∀a:Int,0<=a->((∃v∈M,v.2=a)↔a∈(u.Lt 0).flatten):=λa ha=>by
  rw[<-t];simp only[Oa,ms,eo,cF];exact⟨λ⟨v,h1,g⟩=>⟨⟨v,h1,g⟩,ha⟩,λh=>h.1⟩
 refine jt (λv j h0=>?_) (λv j h0=>?_) ?_ (λi n hn o=>?_) (λi n hn o=>⟨LH u n (lw hn) o,λv j e=>?_⟩)
 .rcases w v j with s|⟨k,n,h1,g,q⟩
  .exact absurd s.1 (by omega)
  .exact⟨n,by rw[h1];simpa using g,q⟩
 .rcases w v j with s|⟨k,n,h1,g,q⟩
  .exact s.2
  .omega
 .have:=ZE u 0;rw[<-t]at this;simp[Oa,List.Nodup,List.pairwise_filter,ac8]at this;exact this
 .exact(z i (by omega)).2 ((OU u 0 i).2 ⟨i,n,by simp,hn,o⟩)
 .obtain⟨k,A,h1,g,q⟩:=(OU u 0 i).1 ((z i (by omega)).1 ⟨v,j,e⟩);have:k=i:=by omega
  subst this;rw[hn]at g;cases g;exact o q
open Go.Proofs
section
variable (g:AE) (pr:Nat->Bool)
def E6(f:Nat->Int)(r:List Symbol):Int:=r.foldl (λn s=>if s.token then n else max n (f s.index.toNat)) 0
theorem XF(f:Nat->Int)(k:Int):∀(r:List Symbol) (a:Int),r.foldl (λn s=>if s.token then n else max n (f s.index.toNat)) a<=k↔a<=k/\∀s∈r,s.token=false->f s.index.toNat<=k
 |[],a=>by simp
 |s::r,a=>by
  rw[Fr,XF f k r];cases h:s.token with
  |true=>simp[h]
  |false=>
   simp only[lh,fc,List.forall_mem_cons,h,true_implies,Int.max_le,and_assoc]
theorem Ld{f:Nat->Int}{k:Int}{r:List Symbol}:E6 f r<=k↔0<=k/\∀s∈r,s.token=false->f s.index.toNat<=k:=XF f k r 0
theorem Gj(f:Nat->Int)(r:List Symbol):0<=E6 f r:=((Ld (f:=f) (r:=r)).1 (vb _)).1
theorem ME{f:Nat->Int}{r:List Symbol}{s:Symbol}(hs:s∈r)(h:s.token=false):f s.index.toNat<=E6 f r:=((Ld (f:=f) (r:=r)).1 (vb _)).2 s hs h
theorem Qz{f f':Nat->Int}{r:List Symbol}(h:∀s∈r,s.token=false->f s.index.toNat<=f' s.index.toNat):E6 f r<=E6 f' r:=
 Ld.2 ⟨Gj _ _,λs i j=>Int.le_trans (h s i j) (ME i j)⟩
def DJ(p:Nat):Nat:=match g.AD[p]? with|some q=>q.left.toNat|none=>0
def ER(p:Nat):List Symbol:=match g.AD[p]? with|some q=>q.right|none=>[]
def Gm(f:Nat->Int)(p:Nat):Int:=if pr p then min (E6 f (ER g p)+1) 1000 else 1000
def Im:Prop:=∀p,p<g.AD.length->DJ g p<g.A2.length/\∀s∈ER g p,s.token=false->s.index.toNat<g.A2.length
theorem J8{f f':Nat->Int}(i:Im g)(h:∀n,n<g.A2.length->f n<=f' n){p:Nat}(j:p<g.AD.length):Gm g pr f p<=Gm g pr f' p:=by
 unfold Gm;split
 .have:=Qz (f:=f) (f':=f') (r:=ER g p) λs k m=>h _ ((i p j).2 s k m);omega
 .exact vb _
theorem fO(f:Nat->Int)(p:Nat):Gm g pr f p<=1000:=by unfold Gm;split<;>omega
theorem SK(f:Nat->Int)(p:Nat):1<=Gm g pr f p:=by
 unfold Gm;split
 .have:=Gj f (ER g p);omega
 .omega
def L8(f:Nat->Int)(n:Nat):Int:=(List.range g.AD.length).foldl (λa p=>if DJ g p=n then min a (Gm g pr f p)else a) 1000
theorem Ja(h:Nat->Int)(n:Nat):∀(l:List Nat) (a:Int),(l.foldl (λa p=>if DJ g p=n then min a (h p)else a) a<=a/\∀p∈l,DJ g p=n->l.foldl (λa p=>if DJ g p=n then min a (h p)else a) a<=h p)/\(l.foldl (λa p=>if DJ g p=n then min a (h p)else a) a=a\/∃p∈l,DJ g p=n/\l.foldl (λa p=>if DJ g p=n then min a (h p)else a) a=h p)
 |[],a=>by simp
 |p::l,a=>by
  rw[Fr];by_cases e:DJ g p=n
  .rw[ap e];obtain⟨⟨h1,m⟩,j⟩:=Ja h n l (min a (h p));refine⟨⟨by omega,λq i k=>?_⟩,?_⟩
   .rcases fi.1 i with rfl|i
    .omega
    .exact m q i k
   .rcases j with j|⟨q,i,k,j⟩
    .rcases Int.le_total a (h p)with o|o
     .left;omega
     .right;exact⟨p,by simp,e,by omega⟩
    .right;exact⟨q,by simp[i],k,j⟩
  .rw[ao e];obtain⟨⟨h1,m⟩,j⟩:=Ja h n l a;refine⟨⟨h1,λq i k=>?_⟩,?_⟩
   .rcases fi.1 i with rfl|i
    .exact absurd k e
    .exact m q i k
   .rcases j with j|⟨q,i,k,j⟩
    .exact .inl j
    .exact .inr ⟨q,by simp[i],k,j⟩
theorem OV{f:Nat->Int}{p n:Nat}(i:p<g.AD.length)(h:DJ g p=n):L8 g pr f n<=Gm g pr f p:=(Ja g (Gm g pr f) n _ _).1.2 p (by simpa using i) h
theorem Oy(f:Nat->Int)(n:Nat):L8 g pr f n<=1000:=(Ja g (Gm g pr f) n _ _).1.1
theorem KR(f:Nat->Int)(n:Nat):L8 g pr f n=1000\/∃p,p<g.AD.length/\DJ g p=n/\L8 g pr f n=Gm g pr f p:=by
 rcases(Ja g (Gm g pr f) n (List.range g.AD.length) 1000).2 with h|⟨p,i,h1,j⟩
 .exact .inl h
 .exact .inr ⟨p,by simpa using i,h1,j⟩
def hD:Nat->Nat->Int
 |0,_=>1000
 |r+1,n=>L8 g pr (hD r) n
theorem W6(r n:Nat):hD g pr r n<=1000:=by cases r with
 |zero=>exact vb _
 |succ r=>exact Oy g pr _ _
theorem Mq{f f':Nat->Int}(j:Im g)(h:∀n,n<g.A2.length->f n<=f' n)(n:Nat):L8 g pr f n<=L8 g pr f' n:=by
 rcases KR g pr f' n with e|⟨p,i,k,e⟩
 .rw[e];exact Oy g pr _ _
 .rw[e];exact Int.le_trans (OV g pr i k) (J8 g pr j h i)
theorem Rj(h:Im g):∀(r n:Nat),n<g.A2.length->hD g pr (r+1) n<=hD g pr r n
 |0,_,_=>Oy g pr _ _
 |r+1,n,_=>Mq g pr h (λk i=>Rj h r k i) n
theorem Oz(i:Im g):∀(r n:Nat),hD g pr r n<1000->hD g pr r n<=r
 |0,n,h=>absurd h (by simp[hD])
 |r+1,n,h=>by
  rcases KR g pr (hD g pr r) n with e|⟨p,o,q,e⟩
  .rw[hD,e]at h;exact absurd h (by omega)
  .rw[hD,e]at h⊢;unfold Gm at h⊢;split at h
   .next j=>
    rw[ap j];have:E6 (hD g pr r) (ER g p)<=r:=Ld.2 ⟨by omega,λs k m=>Oz i r _ (by
     have:=ME (f:=hD g pr r) k m;omega)⟩
    omega
   .omega
theorem XZ(q:Im g):∀(r n:Nat),n<g.A2.length->hD g pr (r+1) n<hD g pr r n->((r+1:Nat):Int)<=hD g pr (r+1) n
 |0,n,hn,h=>by
  rcases KR g pr (hD g pr 0) n with e|⟨p,m,t,e⟩
  .rw[hD,e];omega
  .rw[hD,e];exact SK g pr _ _
 |r+1,n,hn,h=>by
  rcases KR g pr (hD g pr (r+1)) n with e|⟨p,m,t,e⟩
  .rw[show hD g pr (r+1+1) n=L8 g pr (hD g pr (r+1)) n from rfl,e]at h;have:=W6 g pr (r+1) n;omega
  .rw[show hD g pr (r+1+1) n=L8 g pr (hD g pr (r+1)) n from rfl,e]at h⊢;have w:hD g pr (r+1) n<=Gm g pr (hD g pr r) p:=OV g pr m t;have o:Gm g pr (hD g pr (r+1)) p<Gm g pr (hD g pr r) p:=by omega
   unfold Gm at o⊢;split
   .next i=>
    rw[ap i,ap i]at o;have:∃s∈ER g p,s.token=false/\hD g pr (r+1) s.index.toNat<hD g pr r s.index.toNat:=by
     apply yP;intro v;have:E6 (hD g pr r) (ER g p)<=E6 (hD g pr (r+1)) (ER g p):=Qz λs j k=>by
      apply yP;intro u;exact v ⟨s,j,k,by omega⟩
     omega
    obtain⟨s,j,k,u⟩:=this;have z:=XZ q r s.index.toNat ((q p m).2 s j k) u;have A:=ME (f:=hD g pr (r+1)) j k;omega
   .next i=>rw[ao i,ao i]at o;omega
def dn(r N:Nat):Nat:=(List.range N).countP λn=>decide (hD g pr r n<1000)
theorem mE(r N:Nat):dn g pr r N<=N:=by have:=List.countP_le_length (p:=λn=>decide (hD g pr r n<1000)) (l:=List.range N);simpa[dn]using this
theorem Pq{p q:Nat->Bool}:∀{l:List Nat},(∀x∈l,p x=true->q x=true)->(∃x∈l,p x=false/\q x=true)->l.countP p<l.countP q
 |[],_,⟨x,i,_⟩=>by simp at i
 |a::l,h,⟨x,i,h1,k⟩=>by
  have m:l.countP p<=l.countP q:=adu λx i=>h x (by simp[i]);rcases fi.1 i with rfl|i
  .rw[acT,acT,h1,k];simp;omega
  .have:=Pq (λx i=>h x (by simp[i])) ⟨x,i,h1,k⟩;rw[acT,acT];have ha:=h a (by simp);cases j:p a with
   |false=>simp;omega
   |true=>rw[ha j];simp;omega
theorem Zr(j:Im g){r:Nat}(h:∀n,n<g.A2.length->hD g pr (r+1) n=hD g pr r n):∀s,r<=s->∀n,n<g.A2.length->hD g pr (s+1) n=hD g pr s n:=by
 intro s u;obtain⟨d,rfl⟩:∃d,s=r+d:=⟨s - r,by omega⟩;induction d with
 |zero=>exact h
 |succ d o=>
  intro n hn;have m:=o (by omega);have q:hD g pr (r+(d+1)+1) n=L8 g pr (hD g pr (r+d+1)) n:=rfl;have t:hD g pr (r+(d+1)) n=L8 g pr (hD g pr (r+d)) n:=rfl;rw[q,t];exact Int.le_antisymm (Mq g pr j (λk i=>Int.le_of_eq (m k i)) n) (Mq g pr j (λk i=>Int.le_of_eq (m k i).symm) n)
theorem Rx(j:Im g):∀n,n<g.A2.length->hD g pr (g.A2.length+1) n=hD g pr g.A2.length n:=by
 have key:∀r,(∃s,s<=r/\∀n,n<g.A2.length->hD g pr (s+1) n=hD g pr s n)\/r+1<=dn g pr (r+1) g.A2.length:=by
  have step:∀r,(¬∀n,n<g.A2.length->hD g pr (r+1) n=hD g pr r n)->dn g pr r g.A2.length<dn g pr (r+1) g.A2.length:=by
   intro r i;apply Pq
   .intro n hn h1;have:=Rj g pr j r n (by simpa using hn);simp only[cF]at h1⊢;omega
   .apply yP;intro o;refine i λn hn=>?_;have ha:=Rj g pr j r n hn;apply yP;intro t;have hj:=XZ g pr j r n hn (by omega);have hb:¬hD g pr r n<1000:=λq=>by
     have:=Oz g pr j r n q;omega
    exact o ⟨n,by simpa using hn,by simpa using hb,by
     have:=W6 g pr r n;simp only[cF];omega⟩
  intro r;induction r with
  |zero=>
   by_cases i:∀n,n<g.A2.length->hD g pr (0+1) n=hD g pr 0 n
   .exact .inl ⟨0,br _,i⟩
   .right;have:=step 0 i;omega
  |succ r k=>
   rcases k with⟨s,m,h⟩|k
   .exact .inl ⟨s,by omega,h⟩
   .by_cases i:∀n,n<g.A2.length->hD g pr (r+1+1) n=hD g pr (r+1) n
    .exact .inl ⟨r+1,br _,i⟩
    .right;have:=step (r+1) i;omega
 rcases key g.A2.length with⟨s,m,h⟩|h
 .exact Zr g pr j h _ m
 .have:=mE g pr (g.A2.length+1) g.A2.length;omega
def NZ(l:List Int)(p:Nat):List Int:=l.set (DJ g p) (min (l.getD (DJ g p) 0) (Gm g pr (λn=>l.getD n 0) p))
def Cz(l:List Int):Nat->List Int
 |0=>l
 |p+1=>NZ g pr (Cz l p) p
def DM:Nat->List Int
 |0=>List.replicate g.A2.length 1000
 |r+1=>Cz g pr (DM r) g.AD.length
def L4:List Int:=DM g pr (g.A2.length+1)
theorem Z1(l:List Int)(p:Nat):(NZ g pr l p).length=l.length:=by simp[NZ]
theorem Iu(l:List Int)(p:Nat):(Cz g pr l p).length=l.length:=by
 induction p with
 |zero=>rfl
 |succ p h=>rw[Cz,Z1,h]
theorem Gg(r:Nat):(DM g pr r).length=g.A2.length:=by
 induction r with
 |zero=>simp[DM]
 |succ r h=>rw[DM,Iu,h]
theorem RP{l:List Int}{p:Nat}(k:l.length=g.A2.length)(i:Im g)(j:p<g.AD.length)(n:Nat):(NZ g pr l p).getD n 0=if n=DJ g p then min (l.getD n 0) (Gm g pr (λn=>l.getD n 0) p)else l.getD n 0:=by
 have h1:=(i p j).1;unfold NZ;by_cases e:n=DJ g p
 .rw[ap e,e];rw[io,yy];simp[show DJ g p<l.length by omega]
 .rw[ao e,io,yy,ao (λh=>e h.symm),<-io]
theorem RY(i:Im g){l:List Int}(j:l.length=g.A2.length){f:Nat->Int}(h:∀n,n<g.A2.length->l.getD n 0<=f n):∀p,p<=g.AD.length->(∀n,n<g.A2.length->(Cz g pr l p).getD n 0<=f n)/\∀q,q<p->(Cz g pr l p).getD (DJ g q) 0<=Gm g pr f q
 |0,_=>⟨h,λq k=>absurd k (by omega)⟩
 |p+1,u=>by
  obtain⟨m,s⟩:=RY i j h p (by omega);have t:(Cz g pr l p).length=g.A2.length:=by rw[Iu,j]
  have o:=RP g pr t i (show p<g.AD.length by omega);have v:Gm g pr (λn=>(Cz g pr l p).getD n 0) p<=Gm g pr f p:=J8 g pr i m (by omega);refine⟨λn hn=>?_,λq k=>?_⟩
  .rw[Cz,o];have:=m n hn;split<;>omega
  .rw[Cz,o];by_cases e:q=p
   .subst e;rw[ap rfl];omega
   .have:=s q (by omega);split<;>omega
theorem Pz(i:Im g){l:List Int}(j:l.length=g.A2.length){f:Nat->Int}(k:∀p,p<g.AD.length->f (DJ g p)<=Gm g pr f p)(h:∀n,n<g.A2.length->f n<=l.getD n 0):∀p,p<=g.AD.length->∀n,n<g.A2.length->f n<=(Cz g pr l p).getD n 0
 |0,_=>h
 |p+1,s=>by
  have m:=Pz i j k h p (by omega);have o:(Cz g pr l p).length=g.A2.length:=by rw[Iu,j]
  have q:=RP g pr o i (show p<g.AD.length by omega);intro n hn;rw[Cz,q];have:=m n hn;split
  .next e=>
   have h1:=k p (by omega);have t:Gm g pr f p<=Gm g pr (λn=>(Cz g pr l p).getD n 0) p:=J8 g pr i m (by omega);rw[e]at this⊢;omega
  .exact this
theorem oY(i:Im g):∀n,n<g.A2.length->(L4 g pr).getD n 0=hD g pr g.A2.length n:=by
 have h:=Rx g pr i;have o:∀r,∀n,n<g.A2.length->(DM g pr r).getD n 0<=hD g pr r n:=by
  intro r;induction r with
  |zero=>intro n hn;simp[DM,hD,hn]
  |succ r k=>
   intro n hn;obtain⟨h1,m⟩:=RY g pr i (Gg g pr r) k g.AD.length (br _);rcases KR g pr (hD g pr r) n with e|⟨p,j,q,e⟩
   .have:=h1 n hn;have:=W6 g pr r n;show(Cz g pr (DM g pr r) g.AD.length).getD n 0<=L8 g pr (hD g pr r) n
    omega
   .have:=m p j;show(Cz g pr (DM g pr r) g.AD.length).getD n 0<=L8 g pr (hD g pr r) n
    rw[e,<-q];exact this
 have s:∀p,p<g.AD.length->hD g pr g.A2.length (DJ g p)<=Gm g pr (hD g pr g.A2.length) p:=λp j=>by
  rw[<-h _ (i p j).1];exact OV g pr j rfl
 have low:∀r,∀n,n<g.A2.length->hD g pr g.A2.length n<=(DM g pr r).getD n 0:=by
  intro r;induction r with
  |zero=>
   intro n hn;have:=W6 g pr g.A2.length n;simp[DM,hn];omega
  |succ r k=>exact Pz g pr i (Gg g pr r) s k g.AD.length (br _)
 intro n hn;have h1:=o (g.A2.length+1) n hn;have m:=low (g.A2.length+1) n hn;have t:=h n hn;unfold L4;omega
theorem iF(j:Im g):(∀p,p<g.AD.length->(L4 g pr).getD (DJ g p) 0<=Gm g pr (λn=>(L4 g pr).getD n 0) p)/\∀n,n<g.A2.length->(L4 g pr).getD n 0<1000->((L4 g pr).getD n 0<=g.A2.length/\∃p,p<g.AD.length/\DJ g p=n/\Gm g pr (λn=>(L4 g pr).getD n 0) p=(L4 g pr).getD n 0):=by
 have k:=oY g pr j;have m:∀p,p<g.AD.length->Gm g pr (λn=>(L4 g pr).getD n 0) p=Gm g pr (hD g pr g.A2.length) p:=λp i=>
  Int.le_antisymm (J8 g pr j (λn hn=>by rw[k n hn];exact vb _) i) (J8 g pr j (λn hn=>by rw[k n hn];exact vb _) i)
 refine⟨λp i=>?_,λn hn h=>?_⟩
 .rw[m p i,k _ (j p i).1,<-Rx g pr j _ (j p i).1];exact OV g pr i rfl
 .rw[k n hn]at h⊢;refine⟨Oz g pr j _ _ h,?_⟩;rcases KR g pr (hD g pr g.A2.length) n with e|⟨p,i,o,e⟩
  .have:=Rx g pr j n hn;rw[show hD g pr (g.A2.length+1) n=L8 g pr (hD g pr g.A2.length) n from rfl,e]at this;omega
  .exact⟨p,i,o,by rw[m p i,<-e];exact Rx g pr j n hn⟩
end
end Go.Koi
