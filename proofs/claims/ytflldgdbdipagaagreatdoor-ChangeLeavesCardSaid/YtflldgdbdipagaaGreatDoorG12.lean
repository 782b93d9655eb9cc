/-
  Part 13 of the proof that the law ChangeLeaves returns true for every input.
-/
import Derived.Test.YtflldgdbdipagaaGreatDoorG11
set_option maxHeartbeats 64000000
set_option maxRecDepth 100000
open List renaming length->Z,range->kv,map->q6
open Go.IntKind renaming wrap->bv,bits->ae6,signed->ae4,wrap->ae5
open Bool renaming true->J,false->am
open Go renaming maxLen->ao,FuncId->go
open Array renaming replicate->QQ
open ByteArray renaming empty->gs
open Go.Proofs.Tryz renaming prog->a8
namespace Go.Koi
open Go.Proofs DT
def NH(t:Token):Token:={t with cond:=Db}
structure VG(g:AD)(kn:Bool):Prop where
 tk:g.AU.map NH=DQ
 tf:∀t∈g.AU,Cp t.cond (Z g.conds)=J
 fam:Fu g=J
 Ay:IF g=J
 pr:Cx g [⟨#[]⟩] g.AE=0
 lv:Ef g [] g.levels=J
 fl:Ec g=J
 sz:∀p∈g.AE,Z p.right<=16/\Z p.layout<=16
 nm:∀p∈g.AE,∀k,Z g.AE<=k->k<120->p.name≠KM k
 ac:∃N:Int->Bool,M5 g N Int.toNat/\(kn=am->∀x,N x=J)
theorem VG.len{g:AD}{kn:Bool}(h:VG g kn):Z g.AU=11:=by
 have:=mn Z h.tk;rw[oj]at this;exact this.trans rfl
theorem VG.tok{g:AD}{kn:Bool}(h:VG g kn){k:Nat}(j:k<9):∃t,g.AU[k]?=some t/\t.cls=0/\(Ib t=J↔k≠0):=by
 have q:=h.len;have i:k<Z g.AU:=by omega
 refine⟨g.AU[k],dl i,?_⟩;have e:NH g.AU[k]=DQ[k]'(by show k<11;omega):=by
  have:=mn (λl=>l[k]?) h.tk;simp[dl i,dl (show k<Z DQ by show k<11;omega)]at this;exact this
 have h1:g.AU[k].cls=(NH g.AU[k]).cls:=rfl;have m:Ib g.AU[k]=Ib (NH g.AU[k]):=rfl;have o:((kv 9).all λk=>match DQ[k]? with|some t=>decide (t.cls=0)&&(Ib t==decide (k≠0))|none=>am)=true:=by decide+kernel
 have:=de.1 o k (by simpa using j);rw[dl (show k<Z DQ by show k<11;omega)]at this;simp at this;rw[h1,m,e];exact⟨this.1,by rw[this.2];simp⟩
theorem VG.AU{g:AD}{kn:Bool}(h:VG g kn):FC g=true:=by
 have h1:=Mp;have hn:g.AU.map (·.name)=DQ.map (·.name):=by rw[<-h.tk,md];rfl
 simp[FC,hn,h1.1];intro t i;have j:NH t∈DQ:=by rw[<-h.tk];exact fd.2 ⟨t,i,rfl⟩
 have:=de.1 h1.2 _ j;simp[nJ]at this;obtain⟨⟨⟨k,m⟩,_⟩,o⟩:=this;have q:0<=t.cls:=k;have s:t.cls<=2:=m;have u:LO t=true:=o;simp[Hu,q,s,u,h.tf t i]
theorem VG.HL{g:AD}{kn:Bool}(h:VG g kn)(h1:Z g.conds<=3)(k:Z g.Ay<=3)(m:Z g.AE<=100)(o:Z g.levels<=100)(q:Z g.AT<=100):B4 g=0:=by
 have s:=h.len;have i:Cz g=false:=by
  have:g.AE.any MZ=false:=E2.2 λp j=>by
   have:=h.sz p j;simp[MZ];omega
  simp[Cz,this];omega
 simp[B4,i,Ds,h.fam,h.AU,h.Ay,h.pr,h.lv,h.fl,HA]
theorem VG.okF{g:AD}{kn:Bool}(h:VG g kn)(h1:Z g.conds<=3)(i:Z g.Ay<=3)(j:Z g.AE<=100)(k:Z g.levels<=100)(m:Z g.AT<=100):Koi.okF g:=by
 obtain⟨N,o,_⟩:=h.ac;exact⟨h.HL h1 i j k m,o.none⟩
theorem Qf{g g':AD}(h1:∀p,EW g' p=EW g p)(k:∀p,IU g' p=IU g p){q:AM}(i:EW g q=J)(j:IU g q=J):
  ∀{l:List AM} {L:List ByteArray},Cx g L l=0->Fm L q.name=am->(∀p∈l,p.name≠q.name)->Cx g' L (l++[q])=0
 |[],L,_,hn,_=>by simp[Cx,h1,k,i,j,hn]
 |p::l,L,h,hn,m=>by
  unfold Cx at h;split at h
  .cases h
  .next c1=>
   split at h
   .cases h
   .next c2=>
    rw[GT];unfold Cx;rw[h1,k,a9 c1,a9 c2];refine Qf h1 k i j h ?_ λx o=>m x (by simp[o]);have:¬(p.name=q.name):=m p (by simp);simp[Fm,List.any_append,List.any_nil,this]at hn⊢;exact hn
theorem Gd{g g':AD}(h1:∀p,EW g' p=EW g p)(h:∀p,IU g' p=IU g p):∀(l:List AM) (L:List ByteArray),Cx g' L l=Cx g L l
 |[],_=>rfl
 |p::l,L=>by simp[Cx,h1,h,Gd h1 h l]
theorem LJ{N M:Nat}(h:N<=M):∀{l u v:List Int},Cc N u l=some v->Cc M u l=some v
 |[],_,_,e=>e
 |p::l,u,v,e=>by
  unfold Cc at e⊢;split at e
  .cases e
  .next hn=>
   simp at hn;rw[a9 (by simp;exact⟨hn.1,by omega,hn.2.2⟩)];exact LJ h e
theorem OA{N:Nat}:∀{l u v:List Int},Cc N u l=some v->v=u++l
 |[],u,v,e=>by simp[Cc]at e;simp[e]
 |p::l,u,v,e=>by
  unfold Cc at e;split at e
  .cases e
  .have:=OA e;simp[this]
theorem OW{N:Nat}:∀{l u:List Int},l.Nodup->(∀p∈l,0<=p/\p<N/\p∉u)->Cc N u l=some (u++l)
 |[],u,_,_=>by simp[Cc]
 |p::l,u,i,h=>by
  obtain⟨h1,s,k⟩:=h p (by simp);unfold Cc;rw[a9 (by simp;exact⟨by omega,by omega,k⟩),OW (acv.1 i).2 λx j=>?_]
  .simp
  .obtain⟨m,o,q⟩:=h x (by simp[j]);refine⟨m,o,λg=>?_⟩;rcases gc.1 g with g|g
   .exact q g
   .simp at g;subst g;exact(acv.1 i).1 j
theorem GF{g g':AD}(k:g'.conds=g.conds)(m:Z g.AE<=Z g'.AE):∀{i:List Level} {u:List Int},Ef g u i=J->Ef g' u i=J
 |[],_,_=>rfl
 |l::i,u,h=>by
  unfold Ef at h⊢;rw[k];split at h
  .next h1=>
   rw[b8 h1];cases j:Cc (Z g.AE) u l.AE with
   |none=>rw[j]at h;cases h
   |some v=>rw[j]at h;rw[LJ m j];exact GF k m h
  .cases h
theorem RV{g:AD}{l:Level}(h1:0<=l.assoc)(q:l.assoc<=3)(s:Cp l.cond (Z g.conds)=J)(t:l.AE.Nodup)(m:∀p∈l.AE,0<=p/\p<Z g.AE):
  ∀{k:List Level} {u:List Int},Ef g u k=J->(∀p∈l.AE,p∉u/\∀x∈k,p∉x.AE)->Ef g u (k++[l])=J
 |[],u,_,hn=>by
  have:=OW (u:=u) t λp i=>⟨(m p i).1,(m p i).2,(hn p i).1⟩;simp[Ef,h1,q,s,this]
 |a::k,u,h,hn=>by
  rw[GT];unfold Ef at h⊢;split at h
  .next w=>
   rw[b8 w];cases o:Cc (Z g.AE) u a.AE with
   |none=>rw[o]at h;cases h
   |some v=>
    rw[o]at h;refine RV h1 q s t m h λp i=>⟨λj=>?_,λx z=>(hn p i).2 x (by simp[z])⟩;rw[OA o]at j;rcases gc.1 j with j|j
    .exact(hn p i).1 j
    .exact(hn p i).2 a (by simp) j
  .cases h
theorem JX{g g':AD}(u:g'.conds=g.conds)(hn:g'.Ay=g.Ay)(s:g'.AU=g.AU)(t:∀(i:Nat) p,g.AE[i]?=some p->g'.AE[i]?=some p){f:Filter}(h:FQ g f=J):FQ g' f=true:=by
 simp[FQ]at h⊢;refine⟨?_,h.2⟩;have h1:=h.1;unfold FG at h1⊢;rw[u,hn];have j:∀k l,H6 g' k l=H6 g k l:=λk l=>by unfold H6 F5;rw[s]
 have m:∀i k,IG g' i k=IG g i k:=λi k=>by unfold IG;rw[s]
 simp only[j,m];split at h1
 .next c=>
  rw[b8 c];simp only[b9]at h1⊢;refine⟨h1.1,?_⟩;have o:=h1.2;unfold LG at o⊢;simp only[b9]at o⊢;refine⟨o.1,?_⟩;have q:=o.2;split at q
  .next p c v w=>rw[t _ _ v,t _ _ w];exact q
  .cases q
 .next c=>
  rw[a9 c];exact h1
theorem M5.line{g:AD}{N:Int->Bool}{q:AM}(h:M5 g N Int.toNat)(m:DL q.right=am->(∀x,N x=J)/\0<=q.left/\∀s∈q.right,q.left<s.index):M5 {g with AE:=g.AE++[q]} N Int.toNat:=by
 refine⟨λp i ha k=>?_,λp i j hj o ha k=>?_⟩
 .rcases gc.1 i with i|i
  .exact h.1 p i ha k
  .simp at i;subst i;exact(m ha).1 _
 .rcases gc.1 i with i|i
  .exact h.2 p i j hj o ha k
  .simp at i;subst i;have t:DL p.right=false:=by
    unfold DL Dq at *;rw[<-abL j p.right,GE hj];simp only[List.any_append,ad1,abt]at ha⊢;exact⟨ha.1,o,ha.2⟩
   obtain⟨_,h0,u⟩:=m t;have:=u _ (cF hj);omega
theorem VG.line{g:AD}{kn:Bool}(h:VG g kn)(Y:Z g.AE<100){q:AM}(m:UP g kn q):VG {g with AE:=g.AE++[q]} kn:=by
 have v:EW g q=true:=by
  obtain⟨F,w,u⟩:=m.left;have h1:Ez g ⟨am,q.left⟩=true:=by simp[Ez,u,w]
  simp[EW,h1];intro s G;rcases m.syms s G with⟨z,k,o,A⟩|⟨z,k,o,A⟩
  .obtain⟨t,H,K,_⟩:=h.tok o;simp[Ez,z,A,H,K]
  .simp[Ez,z,A,o]
 have B:IU g q=true:=by simp[IU,m.fits,m.r1,m.r2,m.wi]
 have L:∀p∈g.AE,p.name≠q.name:=λp j=>by rw[m.name];exact h.nm p j _ (ci _) (by omega)
 have M:Fm [⟨#[]⟩] q.name=false:=by
  rw[m.name];have h1:(KM (Z g.AE)).size=2:=by simp[KM,GU]
  have C:¬((⟨#[]⟩:ByteArray)=KM (Z g.AE)):=λe=>by rw[<-e]at h1;simp at h1
  simp[Fm,C]
 refine⟨h.tk,h.tf,h.fam,h.Ay,Qf (g:=g) (g':={g with AE:=g.AE++[q]}) (λ_=>rfl) (λ_=>rfl) v B h.pr M L,GF (g:=g) (g':={g with AE:=g.AE++[q]}) rfl (by simp) h.lv,?_,λp j=>?_,λp j k o P=>?_,?_⟩
 .simp[Ec];intro f Q;refine JX (g:=g) (g':={g with AE:=g.AE++[q]}) rfl rfl rfl (λi p e=>?_) (de.1 h.fl f Q);show(g.AE++[q])[i]?=some p
  rw[i5 (by have:=er.1 e;exact this.1)];exact e
 .rcases gc.1 j with j|j
  .exact h.sz p j
  .simp at j;subst j;have:=m.len;have:=m.lay;omega
 .have R:Z g.AE+1<=k:=by simpa using o
  rcases gc.1 j with j|j
  .exact h.nm p j k (by omega) P
  .simp at j;subst j;rw[m.name];intro e;have h1:bv .u8 (97+(Z g.AE:Int))=97+(Z g.AE:Int):=by simp[ae5,ae4,ae6];omega
   have C:bv .u8 (97+(k:Int))=97+(k:Int):=by simp[ae5,ae4,ae6];omega
   have E:=mn (λs:ByteArray=>s.data.toList) e;simp[KM,Iz,h1,C,ByteArray.data_append,ByteArray.data_push]at E;have S:UInt8.ofNat (97+(Z g.AE:Int)).toNat=UInt8.ofNat (97+(k:Int)).toNat:=by simpa using E
   have T:=mn UInt8.toNat S;simp at T;omega
 .obtain⟨N,U,o⟩:=h.ac;refine⟨N,U.line λha=>?_,o⟩;obtain⟨W,X⟩:=m.later ha;obtain⟨F,_,u⟩:=m.left;exact⟨o W,by omega,X⟩
theorem WZ{l g:List Token}(h:g.map NH=l.map NH)(i:Nat):(g[i]?=none/\l[i]?=none)\/∃j t,g[i]?=some j/\l[i]?=some t/\NH j=NH t:=by
 have h1:=mn (λx=>x[i]?) h;simp at h1;cases m:g[i]? with
 |none=>
  cases k:l[i]? with
  |none=>exact .inl ⟨rfl,rfl⟩
  |some t=>rw[m,k]at h1;cases h1
 |some j=>
  cases k:l[i]? with
  |none=>rw[m,k]at h1;cases h1
  |some t=>
   rw[m,k]at h1;simp at h1;exact .inr ⟨j,t,rfl,rfl,h1⟩
theorem Rj{g:AD}{T:List Token}(k:T.map NH=g.AU.map NH)(s:Symbol):Ez {g with AU:=T} s=Ez g s:=by
 unfold Ez;dsimp only;rcases WZ k s.index.toNat with⟨h,i⟩|⟨j,t,h,i,m⟩
 .simp[h,i]
 .have o:j.cls=t.cls:=by
   show(NH j).cls=(NH t).cls
   rw[m]
  simp[h,i,o]
theorem V4{g:AD}{T:List Token}(m:T.map NH=g.AU.map NH){k:Token->Bool}(o:∀t,k (NH t)=k t)(l:List Int)(i:Nat):F5 {g with AU:=T} k l i=F5 g k l i:=by
 have s:Z T=Z g.AU:=by have:=mn Z m;simpa using this
 unfold F5;dsimp only;rw[s];rcases WZ m (l.getD i 0).toNat with⟨h,j⟩|⟨q,t,h,j,u⟩
 .simp only[h,j]
 .have v:k q=k t:=by rw[<-o q,u,o]
  simp only[h,j,v]
theorem Ry{g:AD}{T:List Token}(h:T.map NH=g.AU.map NH){k:Token->Bool}(i:∀t,k (NH t)=k t)(l:List Int):H6 {g with AU:=T} k l=H6 g k l:=by
 unfold H6;rw[show F5 {g with AU:=T} k l=F5 g k l from funext (V4 h i l)]
theorem XB{g:AD}{T:List Token}(q:T.map NH=g.AU.map NH){k:Token->Bool}(m:∀t,k (NH t)=k t)(i:Int):IG {g with AU:=T} i k=IG g i k:=by
 unfold IG;dsimp only;rcases WZ q i.toNat with⟨h,j⟩|⟨o,t,h,j,s⟩
 .simp[h,j]
 .have u:k o=k t:=by rw[<-m o,s,m]
  simp[h,j,u]
theorem gE{g:AD}{kn:Bool}(h:VG g kn){f:Filter}(q:yb g f):FQ g f=true:=by
 obtain⟨d,s,q⟩:=q;rcases q with⟨A,C,B,k,u,F,G,i,rfl⟩|⟨l,t,k,u,K,L,rfl⟩|rfl
 .have v:LG g ⟨k,A,C,B,0,0,[],d⟩=true:=by
   have j:g.AE.getD A GR=g.AE[A]:=by simp[List.getD,F]
   have o:g.AE.getD B GR=g.AE[B]:=by simp[List.getD,G]
   unfold Vi at i;rw[j,o]at i;simp only[b9,rx,cR]at i;have H:C<Z (g.AE[A]).right:=by
    refine abk λhn=>?_;have:(g.AE[A]).right.getD C ⟨J,0⟩=⟨J,0⟩:=by rw[ll,ut (by omega)];rfl
    rw[this]at i;simp at i
   have w:(g.AE[A]).right.getD C ⟨J,0⟩=(g.AE[A]).right[C]:=by simp[List.getD,H]
   rw[w]at i;have M:(g.AE[A]).right[C]=⟨am,(g.AE[B]).left⟩:=by
    generalize(g.AE[A]).right[C]=y at i;cases y;simp only at i;rw[i.1,i.2]
   unfold LG;simp only[jw,dl F,dl G,dl H,M];simp
  rcases u with rfl|rfl<;>simp[FQ,FG,s,v,Eg,NA]
 .obtain⟨x,j,o,_⟩:=h.tok L;have m:=h.len;have ha:H6 g K6 [(t:Int)]=true:=by simp[H6,F5,acw,j,K6,o];omega
  rcases u with rfl|rfl<;>simp[FQ,FG,s,ha,Eg,NA,K]
 .obtain⟨x,j,o,w⟩:=h.tok (k:=5) (by omega);obtain⟨y,f1,f2,f3⟩:=h.tok (k:=0) (by omega);have m:=h.len;have z:Ib x=true:=w.2 (by omega);have E:Ib y=false:=by cases N:Ib y with|false=>rfl|true=>exact absurd rfl (f3.1 N)
  have ha:H6 g Ib [(5:Int)]=true:=by simp[H6,F5,acw,j,z];omega
  have hb:IG g 0 (λt=>K6 t&&!Ib t)=true:=by simp[IG,f1,K6,f2,E]
  simp[FQ,FG,s,ha,hb,Eg,NA]
theorem VG.rY{g F:AD}{kn:Bool}(h:VG g kn)(w:VR g F):VG F kn:=by
 rcases w with rfl|⟨l,z,rfl⟩|⟨f,q,rfl⟩|⟨t,o,rfl⟩
 .exact h
 .obtain⟨K,l1,l2,A,B,u⟩:=z;refine⟨h.tk,h.tf,h.fam,h.Ay,(Gd (g:=g) (g':={g with levels:=g.levels++[l]}) (λ_=>rfl) (λ_=>rfl) _ _).trans h.pr,?_,?_,h.sz,h.nm,h.ac⟩
  .refine GF (g:=g) (g':={g with levels:=g.levels++[l]}) rfl (ci _) (RV l1 l2 A B (λp s=>⟨(u p s).1,(u p s).2.1⟩) h.lv λp s=>⟨by simp,λx j m=>?_⟩);have:=E2.1 (u p s).2.2 x j;simp[m]at this
  .simp[Ec];exact λf q=>JX (g:=g) (g':={g with levels:=g.levels++[l]}) rfl rfl rfl (λ_ _ e=>e) (de.1 h.fl f q)
 .refine⟨h.tk,h.tf,h.fam,h.Ay,(Gd (g:=g) (g':={g with AT:=g.AT++[f]}) (λ_=>rfl) (λ_=>rfl) _ _).trans h.pr,GF (g:=g) (g':={g with AT:=g.AT++[f]}) rfl (ci _) h.lv,?_,h.sz,h.nm,h.ac⟩;simp only[Ec,de];intro x j;refine JX (g:=g) (g':={g with AT:=g.AT++[f]}) rfl rfl rfl (λ_ _ e=>e) ?_;rcases gc.1 j with j|j
  .exact de.1 h.fl x j
  .simp at j;subst j;exact gE h q
 .obtain⟨e,d,C,E,rfl⟩:=o;have m:(g.AU.set e {g.AU[e]with cond:=d}).map NH=g.AU.map NH:=by
   rw[gl];apply abG (by simp);intro i h1 L;rw[adD];split
   .next G=>subst G;simp[NH]
   .rfl
  generalize H:g.AU.set e {g.AU[e]with cond:=d}=T at *;have v:∀p,EW {g with AU:=T} p=EW g p:=λp=>by
   unfold EW;rw[Rj m,show Ez {g with AU:=T}=Ez g from funext (Rj m)]
  refine⟨m.trans h.tk,λt o=>?_,h.fam,h.Ay,(Gd (g:=g) (g':={g with AU:=T}) v (λ_=>rfl) _ _).trans h.pr,GF (g:=g) (g':={g with AU:=T}) rfl (ci _) h.lv,?_,h.sz,h.nm,h.ac⟩
  .rw[<-H]at o;rcases ach o with o|rfl
   .exact h.tf t o
   .exact C
  .simp[Ec];intro f q;have h1:=de.1 h.fl f q;simp[FQ]at h1⊢;refine⟨?_,h1.2⟩;have:=h1.1;unfold FG at this⊢;rw[Ry m (k:=K6) (λ_=>rfl),Ry m (k:=Ib) (λ_=>rfl),XB m (λ_=>rfl)];exact this
theorem VG.oV{g:AD}{kn:Bool}(h:VG g kn){d:AO}(i:Cp d (Z g.conds)=J)(j:d.root≠0):VG {g with fam:=d} kn:=by
 refine⟨h.tk,h.tf,?_,h.Ay,(Gd (g:=g) (g':={g with fam:=d}) (λ_=>rfl) (λ_=>rfl) _ _).trans h.pr,GF (g:=g) (g':={g with fam:=d}) rfl (ci _) h.lv,?_,h.sz,h.nm,h.ac⟩
 .have:=h.fam;simp[Fu]at this⊢;exact⟨⟨this.1.1,i⟩,by simp[j]⟩
 .simp[Ec];exact λf k=>JX (g:=g) (g':={g with fam:=d}) rfl rfl rfl (λ_ _ e=>e) (de.1 h.fl f k)
def Sa(g:AD):List ByteArray->List AM->Bool
 |_,[]=>J
 |L,p::l=>EW g p&&(!Fm L p.name&&(W9 p.cond (Z g.conds)&&(decide (-1<=p.EC)&&(decide (p.EC<=1)&&(Is p&&Sa g (L++[p.name]) l)))))
theorem SG(g:AD):∀(l:List AM) (L:List ByteArray),Sa g L l=J->Cx g L l=0
 |[],_,_=>rfl
 |p::l,L,h=>by
  simp[Sa]at h;obtain⟨h1,i,j,k,m,o,q⟩:=h;have s:IU g p=true:=by simp[IU,L9 j,k,m,o]
  simp[Cx,h1,i,s,SG g l _ q]
def Yj(g:AD):List Int->List Level->Bool
 |_,[]=>J
 |u,l::h=>decide (0<=l.assoc)&&(decide (l.assoc<=3)&&(W9 l.cond (Z g.conds)&&(match Cc (Z g.AE) u l.AE with|none=>am|some v=>Yj g v h)))
theorem VY(g:AD):∀(l:List Level) (u:List Int),Yj g u l=J->Ef g u l=J
 |[],_,_=>rfl
 |l::k,u,h=>by
  simp[Yj]at h;obtain⟨h1,m,o,i⟩:=h;unfold Ef;rw[b8 (by simp[h1,m,L9 o])];cases j:Cc (Z g.AE) u l.AE with
  |none=>rw[j]at i;cases i
  |some v=>rw[j]at i;exact VY g k v i
def jx(g:AD)(f:Filter):Bool:=
 W9 f.cond (Z g.conds)&&(if f.kind=1\/f.kind=2 then LG g f
 else if f.kind=3\/f.kind=4 then decide (0<=f.left)&&decide (f.left<Z g.Ay)&&H6 g K6 f.tokens
 else if f.kind=5 then H6 g Ib f.tokens&&IG g f.token (λt=>K6 t&&!Ib t)
 else am)
theorem iQ{g:AD}{f:Filter}(h:jx g f=J):FG g f=true:=by
 simp[jx]at h;obtain⟨h1,i⟩:=h;unfold FG;rw[L9 h1];simpa using i
def yI(g:AD)(N:Int->Bool):Bool:=g.AE.all λp=>(DL p.right||(!(p.right.all λs=>N s.index)||N p.left))&&
 (kv (Z p.right)).all λj=>(p.right.getD j ⟨J,0⟩).token||(DL (Dq p.right j)||(!((Dq p.right j).all λs=>N s.index)||decide (p.left.toNat<(p.right.getD j ⟨J,0⟩).index.toNat)))
theorem sA{g:AD}{N:Int->Bool}(h:yI g N=J):M5 g N Int.toNat:=by
 refine⟨λp i ha k=>?_,λp i j hj m ha k=>?_⟩
 .have:=de.1 h p i;simp[ha,de.2 k]at this;exact this.1
 .have h0:=de.1 h p i;simp only[b9]at h0;have:=de.1 h0.2 j (by simpa using hj);have e:p.right.getD j ⟨J,0⟩=p.right[j]:=by simp[List.getD,hj]
  rw[e]at this;simp only[pw,m,ha,su,false_or,de.2 k,adb,cR]at this;exact this
noncomputable def xe(g:AD)(N:Int->Bool):Bool:=g.conds.all E9&&(DI [⟨#[]⟩] g.conds&&(IF g&&(Sa g [⟨#[]⟩] g.AE&&(Yj g [] g.levels&&((g.AT.all λf=>jx g f&&NA (Eg f))&&
 ((g.AE.all λp=>decide (Z p.right<=16)&&decide (Z p.layout<=16))&&((g.AE.all λp=>(kv 120).all λk=>decide (k<Z g.AE)||decide (p.name≠KM k))&&yI g N)))))))
theorem La{g:AD}{N:Int->Bool}{kn:Bool}(o:g.AU=DQ)(q:g.fam=Db)(s:kn=am->∀x,N x=J)(h:xe g N=J):VG g kn:=by
 simp only[xe,b9]at h;obtain⟨h1,u,v,w,z,A,B,C,E⟩:=h;have j:∀t∈g.AU,t.cond=Db:=λt i=>by
  rw[o]at i;have:=de.1 Mp.2 t i;simp only[nJ,b9,cR]at this;exact this.1.2
 refine⟨?_,λt i=>P9 (.inl (j t i)) _,?_,v,SG g _ _ w,VY g _ _ z,?_,λp m=>?_,λp m k G F=>?_,N,sA E,s⟩
 .have:g.AU.map NH=g.AU.map id:=y4 λt i=>by
   have:=j t i;cases t;simp only at this;subst this;rfl
  rw[this,List.map_id,o]
 .simp only[Fu,h1,u,q,P9 (.inl rfl)];rfl
 .simp[Ec];intro f i;have:=de.1 A f i;simp at this;simp[FQ,iQ this.1,this.2]
 .have:=de.1 B p m;simpa using this
 .have:=de.1 (de.1 C p m) k (by simpa using F);simp at this;exact this.resolve_left (by omega)
def yv(r:Nat)(x:Int):Bool:=match r with|2=>decide (x=0)|4=>decide (x=2)|5=>decide (1<=x)|_=>am
theorem dO(r:Nat):VG (Lp r) true:=by
 have i:∀r,(J=am->∀x,yv r x=J):=λ_ h=>by cases h
 match r with
 |0=>exact La rfl rfl (i 0) (by decide+kernel)
 |1=>exact La rfl rfl (i 1) (by decide+kernel)
 |2=>exact La rfl rfl (i 2) (by decide+kernel)
 |3=>exact La rfl rfl (i 3) (by decide+kernel)
 |4=>exact La rfl rfl (i 4) (by decide+kernel)
 |r+5=>exact La (g:=Qc) rfl rfl (i 5) (by decide+kernel)
theorem ja:((kv 3).all λm=>(kv 4).all λc=>xe (Jc m c) λ_=>J)=true:=by decide+kernel
theorem mY(m c:Nat)(g:m<3)(i:c<4):VG (Jc m c) false:=by
 have h:=ja;simp at h;exact La rfl rfl (λ_ _=>rfl) (h m g c i)
structure Sh(g:AD):Prop where
 n:∀s∈g.Ay,s.size<=8
 c:∀s∈g.conds,s.size<=8
 p:∀p∈g.AE,p.name.size<=8
 p2:∀p∈g.AE,2<=p.name.size/\p.name.size<=7
 r:∀p∈g.AE,Z p.right<=5
def wo(g:AD):Bool:=g.Ay.all (λs=>decide (s.size<=8))&&(g.conds.all (λs=>decide (s.size<=8))&&(g.AE.all (λp=>decide (p.name.size<=8))&&(g.AE.all (λp=>decide (2<=p.name.size)&&decide (p.name.size<=7))&&g.AE.all λp=>decide (Z p.right<=5))))
theorem LZ{g:AD}(h:wo g=J):Sh g:=by
 simp[wo]at h;exact⟨h.1,h.2.1,h.2.2.1,h.2.2.2.1,h.2.2.2.2⟩
theorem gF(r:Nat):Sh (Lp r):=by
 match r with
 |0=>exact LZ (by decide+kernel)
 |1=>exact LZ (by decide+kernel)
 |2=>exact LZ (by decide+kernel)
 |3=>exact LZ (by decide+kernel)
 |4=>exact LZ (by decide+kernel)
 |r+5=>exact LZ (g:=Qc) (by decide+kernel)
theorem tO:((kv 3).all λm=>(kv 4).all λc=>wo (Jc m c))=true:=by decide+kernel
theorem nX(m c:Nat)(g:m<3)(i:c<4):Sh (Jc m c):=by
 have h:=tO;simp at h;exact LZ (h m g c i)
theorem Sh.line{g:AD}{kn:Bool}(h:Sh g){q:AM}(j:UP g kn q):Sh {g with AE:=g.AE++[q]}:=by
 refine⟨h.n,h.c,λp i=>?_,λp i=>?_,λp i=>?_⟩
 .rcases gc.1 i with i|i
  .exact h.p p i
  .simp at i;subst i;rw[j.name];have:(KM (Z g.AE)).size=2:=by simp[KM,GU]
   omega
 .rcases gc.1 i with i|i
  .exact h.p2 p i
  .simp at i;subst i;rw[j.name];have:(KM (Z g.AE)).size=2:=by simp[KM,GU]
   omega
 .rcases gc.1 i with i|i
  .exact h.r p i
  .simp at i;subst i;exact Nat.le_succ_of_le j.len
theorem Sh.rY{g F:AD}(h:Sh g)(i:VR g F):Sh F:=by
 rcases i with rfl|⟨l,_,rfl⟩|⟨f,_,rfl⟩|⟨t,_,rfl⟩
 .exact h
 .exact⟨h.n,h.c,h.p,h.p2,h.r⟩
 .exact⟨h.n,h.c,h.p,h.p2,h.r⟩
 .exact⟨h.n,h.c,h.p,h.p2,h.r⟩
open Go.Proofs Tryz
structure Xl(g:AD)(kn:Bool)(p l:Nat):Prop extends MG g p l where
 vg:VG g kn
 sh:Sh g
def Wg(x:Raw)(g:AD):Sg:=[.row J 5 [.d (HD x)],.row J 9 [J8],.row J 9 [.d (AA g)]]
theorem dz(x:Raw):BL prog 13 [.d (HD x)] [] (qx λg=>∃kn,Xl g kn 10 6):=by
 refine Ks func13 rfl rfl (by simp) λwf _=>?_;have hb:x.base<256:=by have:=wf.1;simp[K0,Da,Bq,IX]at this;omega
 have hn:x.n<256:=by have:=wf.1;simp[K0,Da,Bq,IX]at this;omega
 have z:∀k∈x.fam,k<256:=by
  have:=wf.1;simp[K0,Da,Bq,Dh,IX]at this;intro k K;have:=this.2.2.1.2 k K;omega
 have L:∀y∈x.lines,y.IV<256/\y.mark<256:=by
  have:=wf.1;simp[K0,Da,Bq,Dh,IX]at this;intro k K;have:=this.2.2.2.1.2 k K;omega
 have P:∀y∈x.rules,y.kind<256/\y.a<256/\y.b<256/\y.c<256/\y.IV<256:=by
  have:=wf.1;simp[K0,Da,Bq,Dh,IX]at this;intro k K;have:=this.2.2.2.2.2 k K;omega
 have hll:Z x.lines<=ao:=by have:=wf.1;simp[K0,Da,Bq]at this;exact this.2.2.2.1.1
 have zV:Z x.rules<=ao:=by have:=wf.1;simp[K0,Da,Bq]at this;exact this.2.2.2.2.1
 have hfl:Z x.fam<=ao:=by have:=wf.1;simp[K0,Da,Bq]at this;exact this.2.2.1.1
 clear wf;obtain⟨A,hb8⟩:=ce (x.base % 8);have q1:((x.base:Int).tmod 8)=A:=by rw[i7 (by omega),<-hb8];simp
 have Q:(x.base:Int) % 8=A:=by omega
 have T:=eV A (by omega);have U:Xl (Lp (A % 6)) J 0 0:=⟨iv _,dO _,gF _⟩;rw[ntmps13];apply yW;simp;apply yW;simp[q1];apply yS;apply yJ;simp[q1];refine Bz (T) rfl (by simp) (yJ ?_);simp;(repeat apply xS);apply yV;simp;generalize Lp (A % 6)=g0 at *;refine PP (R:=λtm S=>tm 1=.ptr 0 1 0 0/\tm 2=.ptr 1 1 0 0/\tm 4=.ptr 2 1 0 0/\(∃m:Nat,m<=10/\tm 5=.d (AF m))/\∃k,tm 3=.d (.bool k)/\∃g,Xl g k 0 0/\S=Wg x g) ?_ ?_
 ·(repeat apply xS);apply yV;simp;by_cases Y:A<6
  .have B:(A:Int)<6:=by omega
   apply AQ;simp[B];apply B8;refine⟨_,_,ap,?_⟩;simp;exact⟨⟨6,by omega,rfl⟩,g0,by simpa[Y]using U,rfl⟩
  .have B:¬(A:Int)<6:=by omega
   obtain⟨v,hn4⟩:=ce (x.n / 4);obtain⟨m,hm⟩:=ce (v % 3);obtain⟨c,hc⟩:=ce (x.n % 4);have r1:((x.n:Int).tdiv 4)=v:=by rw[ac3 (by omega)];omega
   have r1':(x.n:Int) / 4=v:=by omega
   have r2:bv .u8 (v:Int)=v:=by simp[ae5,ae4,ae6];omega
   have r3:bv .i64 (v:Int)=v:=by rw[c8];omega
   have r4:((v:Int).tmod 3)=m:=by rw[i7 (by omega),<-hm];simp
   have r4':(v:Int) % 3=m:=by omega
   obtain⟨W,hm1⟩:=ce (1+m);have r5:bv .i64 ((1:Int)+m)=W:=by rw[c8];omega
   have r6:((x.n:Int).tmod 4)=c:=by rw[i7 (by omega),<-hc];simp
   have r6':(x.n:Int) % 4=c:=by omega
   have r7:bv .i64 (c:Int)=c:=by rw[c8];omega
   have s1:(W:Int)<=3:=by omega
   have s2:(c:Int)<=3:=by omega
   have hbr:=(IE ([⟨#[83]⟩,⟨#[80]⟩,⟨#[81]⟩].take W));have u:Xl (Jc m c) am 0 0:=⟨pE m c (by omega) (by omega),mY m c (by omega) (by omega),nX m c (by omega) (by omega)⟩;unfold Jc at u;rw[hm1]at u;apply AQ;simp[B];apply yS;apply yJ;simp[ao,r1,r2,r3,r4,r5,s1];refine xF (hbr) [] rfl ?_;simp[ao];apply yJ;simp[I4];apply yW;simp[ao,r6,r7,s2];refine yD (A3 6 [13,14,17]) (by kernel_rfl) ?_;simp;apply yA 1;simp;refine Bs (Dc 0) rfl (by simp[ao,xN]) ?_;simp;apply yA 1;simp[ao];refine Bs (Bk ⟨#[102,105,114,115,116]⟩ 0 [⟨J,0⟩]) rfl (by simp[ao,xN]) ?_;simp;apply yA 1;simp[ao];apply xX 19 (by kernel_rfl);simp[Aa,Ag,ao,Ac];apply yA 1;simp;apply xX 15 (by kernel_rfl);simp[Aa,Ag,ao];apply xM;apply yV;simp;refine⟨_,_,((fc 3 (xs:=[AG Pq]) rfl (by simp[DR,BC,Pq,Db,Az])).trans (jp 2 (xs:=[AA ⟨[⟨#[65]⟩,⟨#[66]⟩,⟨#[67]⟩].take c,Db,DQ,[⟨#[83]⟩,⟨#[80]⟩,⟨#[81]⟩].take W,[Pq],0,[],[]⟩]) rfl ?_)).trans (ea 3 (S':=Wg x ⟨[⟨#[65]⟩,⟨#[66]⟩,⟨#[67]⟩].take c,Db,DQ,[⟨#[83]⟩,⟨#[80]⟩,⟨#[81]⟩].take W,[Pq],0,[],[]⟩) ?_ (by simp) (by simp) (by simp)),?_⟩
   .simp[DR,Ed,CZ,AA,Db]
   .simp[Wg,J8]
   .simp[clean,AP];exact⟨⟨10,by omega,rfl⟩,_,by simpa[Y]using u,rfl⟩
 .rintro tm S ⟨t1,t2,t4,⟨s,hmost,t5⟩,kn,t3,g,j,rfl⟩;unfold Wg;clear U;obtain⟨d,hd⟩:=bP x.fam z (Z g.conds) j.c1;have w:=Uz _ (Z g.conds) (by have:=j.c1;omega) d hd;unfold LX at w;simp at w;apply yS;apply yJ;simp[t1,t4];refine Bz (w) rfl (by simp[xN]) (yJ ?_);simp;refine PP (R:=λtm S=>tm 1=.ptr 0 1 0 0/\tm 2=.ptr 1 1 0 0/\tm 3=.d (.bool kn)/\tm 4=.ptr 2 1 0 0/\tm 5=.d (AF s)/\∃g,Xl g kn 0 0/\S=Wg x g) ?_ ?_
  .by_cases hf:0<Z x.fam
   .have C:x.fam≠[]:=by intro e;simp[e]at hf
    (repeat apply xS);apply yT;apply yH;simp[t1,hf];by_cases hr:d.root=0
    .apply AQ;simp[hr];apply B8;refine⟨_,_,ea 3 (S':=Wg x g) rfl (by simp) (by simp) (by simp[J8,AP,Au]),?_⟩;simp[clean,AP,t1,t2,t3,t4,t5];exact⟨g,j,rfl⟩
    .apply AQ;simp[hr];apply yV;simp[t4];refine⟨_,_,(jp 2 (xs:=[AA {g with fam:=d}]) rfl (by simp[DR,Ed,CZ,AA])).trans (ea 3 (S':=Wg x {g with fam:=d}) rfl (by simp) (by simp) (by simp[J8,AP,Au])),?_⟩;simp[clean,AP,t1,t2,t3,t4,t5];exact⟨{g with fam:=d},⟨⟨j.c1,j.n0,j.n1,j.t1,j.o1,j.p0,j.p1,j.l1,j.l2,j.f1⟩,j.vg.oV (ZQ x.fam z _ j.c1 hd) hr,⟨j.sh.n,j.sh.c,j.sh.p,j.sh.p2,j.sh.r⟩⟩,rfl⟩
   .have C:x.fam=[]:=by cases h:x.fam with|nil=>rfl|cons a l=>simp[h]at hf
    apply yS;apply yH;simp[t1,C];apply AQ;simp;apply B8;refine⟨_,_,ea 3 (S':=Wg x g) rfl (by simp) (by simp) (by simp[J8,AP,Au]),?_⟩;simp[clean,AP,t1,t2,t3,t4,t5];exact⟨g,j,rfl⟩
  rintro tm S ⟨t1,t2,t3,t4,t5,g1,hg1,rfl⟩;clear w hd j T;obtain⟨N,hN⟩:=ce (min (Z x.lines) s);obtain⟨M,hM⟩:=ce (min (Z x.rules) 6);refine nt (R:=λtm S=>tm 1=.ptr 0 1 0 0/\tm 2=.ptr 1 1 0 0/\tm 4=.ptr 2 1 0 0/\∃g,Xl g kn N 0/\S=Wg x g) ?_ ?_
  .apply yW;simp;apply Bp;refine FH N (λi tm S=>tm 1=.ptr 0 1 0 0/\tm 2=.ptr 1 1 0 0/\tm 3=.d (.bool kn)/\tm 4=.ptr 2 1 0 0/\tm 5=.d (AF s)/\tm 7=.d (AF i)/\∃g,Xl g kn i 0/\S=Wg x g) (ed _) ⟨by simp[t1],by simp[t2],by simp[t3],by simp[t4],by simp[t5],by simp,g1,hg1,rfl⟩ ?_;rintro i tm S hi ⟨t1,t2,t3,t4,t5,t7,g,j,rfl⟩;unfold Wg;refine xS (yW ?_);simp[t1,t5,t7];(repeat apply xS);refine qr (t:=decide (i<Z x.lines)&&decide (i<s)) ?_ (λhb=>?_) (λhb=>?_)
   .simp
   .simp at hb;obtain⟨X,him⟩:=hb;have o:=L _ (cF X);generalize hy:x.lines[i]=y at *;obtain⟨F,E,hp⟩:=RA g y kn ⟨j.n0,j.n1⟩ j.c1 (by have:=j.p1;omega) o.1 o.2;have G:Xl F kn (i+1) 0:=⟨my j.toMG E,by rcases E with rfl|⟨q,hq,rfl⟩;exact j.vg;exact j.vg.line (by have:=j.p1;omega) hq,by rcases E with rfl|⟨q,hq,rfl⟩;exact j.sh;exact j.sh.line hq⟩;have H:bv .i64 ((i:Int)+1)=(i+1:Nat):=by rw[c8];omega
    apply xK;apply xB;refine yE (A3 8 [17]) (by kernel_rfl) ?_;simp;apply yA 0;simp[t1,t3,t4,t7,X,hy];refine kt (hp) rfl (by simp[CY,xN]) ?_;simp;apply yA 0;simp;apply xX 255 (by kernel_rfl);simp[t4];apply xM;apply yV;simp[t7,H];refine⟨by omega,_,_,ap,?_⟩;simp[t1,t2,t3,t4,t5];exact⟨F,G,rfl⟩
   .have e:i=N:=by simp at hb;omega
    subst e;apply Co;simp[t1,t2,t4];exact⟨g,j,rfl⟩
  rintro tm S ⟨t1,t2,t4,g2,hg2,rfl⟩;refine nt (R:=λtm S=>tm 2=.ptr 1 1 0 0/\tm 4=.ptr 2 1 0 0/\∃g,Xl g kn N M/\S=Wg x g) ?_ ?_
  .apply yW;simp;apply Bp;refine FH M (λi tm S=>tm 1=.ptr 0 1 0 0/\tm 2=.ptr 1 1 0 0/\tm 4=.ptr 2 1 0 0/\tm 8=.d (AF i)/\∃g,Xl g kn N i/\S=Wg x g) (ed _) ⟨by simp[t1],by simp[t2],by simp[t4],by simp,g2,hg2,rfl⟩ ?_;rintro i tm S hi ⟨t1,t2,t4,t8,g,j,rfl⟩;unfold Wg;refine xS (yW ?_);simp[t1,t8];(repeat apply xS);refine qr (t:=decide (i<Z x.rules)&&decide (i<6)) ?_ (λhb=>?_) (λhb=>?_)
   .simp;rw[gI];simp;omega
   .simp at hb;obtain⟨X,him⟩:=hb;have o:=P _ (cF X);generalize hy:x.rules[i]=y at *;have hro:jm g y:=⟨j.p0,by have:=j.p1;omega,j.n0,by have:=j.n1;omega,j.c1,j.t1,by have:=j.l1;omega,λl hl=>by have:=j.l2 l hl;omega,by have:=j.f1;omega,o.1,o.2.1,o.2.2.1,o.2.2.2.1,o.2.2.2.2⟩;obtain⟨F,E,hp⟩:=UZ g y hro;have G:Xl F kn N (i+1):=⟨mU j.toMG E,j.vg.rY E,j.sh.rY E⟩;have H:bv .i64 ((i:Int)+1)=(i+1:Nat):=by rw[c8];omega
    apply xK;apply xB;refine yE (A3 7 [15]) (by kernel_rfl) ?_;simp;apply yA 0;simp[t1,t4,t8,X,hy];refine kt (hp) rfl (by simp[Ce,xN]) ?_;simp;apply yA 0;simp;apply xX 127 (by kernel_rfl);simp[t4];apply xM;apply yV;simp[t8,H];refine⟨by omega,_,_,ap,?_⟩;simp[t1,t2,t4];exact⟨F,G,rfl⟩
   .have e:i=M:=by simp at hb;omega
    subst e;apply Co;simp[t2,t4];exact⟨g,j,rfl⟩
  rintro tm S ⟨t2,t4,g,j,rfl⟩;unfold Wg;apply yW;simp[t2,t4,J8];apply Am;refine⟨_,_,ap,by simp[t2],_,_,⟨rfl,g,rfl,kn,⟨j.c1,j.n0,j.n1,j.t1,j.o1,j.p0,by have:=j.p1;omega,by have:=j.l1;omega,j.l2,by have:=j.f1;omega⟩,j.vg,j.sh⟩,.inl ⟨AA g,_,by simp[t2],rfl,fi 0 rfl (by simp)⟩⟩
theorem Xl.okF{g:AD}{kn:Bool}(h:Xl g kn 10 6):Koi.okF g:=
 h.vg.okF h.c1 h.n1 (by have:=h.p1;omega) (by have:=h.l1;omega) (by have:=h.f1;omega)
def Il(p:ByteArray)(k:Nat):ByteArray:=p++Iz (bv .u8 (97+(k % 20:Nat)))
theorem E1(p:ByteArray)(k:Nat)(o:k<256)(s:p.size<=100):Pure prog 17 [.str p,.int .u8 k] (.str (Il p k)):=by
 obtain⟨m,h⟩:=ce (k % 20);unfold Il;rw[h];have q:((k:Int).tmod 20)=m:=by rw[i7 (by omega),<-h];simp
 have i:(k:Int) % 20=m:=by omega
 have g:prog.underlying 9=some .string:=by kernel_rfl
 have j:p.size+1<=ao:=by unfold ao;omega
 refine zP func17 12 rfl λwf=>?_;apply yW;simp[ao];(repeat apply xS);apply yT;(repeat(refine Cg ?_ ?_;(·simp[ao]);simp[q,ao]));refine AY.QE 5 (bv .u8 (97+m)) rfl (by simp) g (yJ ?_);simp[GU,j];apply zT;try simp
def EU(g:AD)(i:Nat):List Int:=((kv i).filter λj=>decide ((g.AU.map (·.cls)).getD j 1=0)).map λ(j:Nat)=>(j:Int)
theorem We(g:AD)(i:Nat):EU g (i+1)=if(g.AU.map (·.cls)).getD i 1=0 then EU g i++[(i:Int)]else EU g i:=by
 unfold EU;rw[acw,ab4,xv];split<;>rename_i h<;>simp only[ac5,List.filter_nil,h,acW,adz,kw]<;>simp
theorem Rn(g:AD)(i:Nat):Z (EU g i)<=i:=by
 unfold EU;rw[oj];exact oq (ack _ _) (by simp)
theorem X0{g:AD}(h:(0:Int)∈g.AU.map (·.cls)):0<Z (EU g (Z g.AU)):=by
 obtain⟨i,hi,j⟩:=oi.1 h;have k:i<Z g.AU:=by simpa using hi
 unfold EU;rw[oj];refine aca (a:=i) ?_;rw[tg];refine⟨by simpa using k,?_⟩;simp only[cR,ll,dl hi,K2];exact j
theorem J9(g:AD)(A:Z g.AU<=100):Pure prog 19 [AA g] (A2 (EU g (Z g.AU))):=by
 have q:Z g.AU<=ao:=by unfold ao;omega
 have s:1<=ao:=by unfold ao;omega
 refine zP func19 25 rfl λwf=>?_;apply yW;simp;apply yW;simp[ao];refine io (tv 3 1 (xs:=[]) (by simp)) ?_;refine xS (yW ?_);simp;apply Bp;refine FH (Z g.AU) (λi tm S=>tm 1=.ptr 0 1 0 0/\tm 3=.row 1 (Z (EU g i))/\tm 4=.d (AF i)/\∃w,S=[.row J 9 [.d (AA g)],.row w 1 ((EU g i).map λv=>.d (AF v))]) (ed _) (by simp[EU,ER]) ?_;rintro i tm S hi ⟨t1,t3,t4,w,rfl⟩;refine xS (yW ?_);simp[t1,t4];apply AQ;simp;refine⟨λj=>?_,λB=>?_⟩
 .have h:=We g i;have t:=Rn g i;have k:(g.AU.map (·.cls)).getD i 1=g.AU[i].cls:=by simp[j]
  rw[k]at h;generalize u:g.AU[i]=tk at *;have z:=AV.eq_1 tk;have m:Z (EU g i)+1<=1073741824:=by omega
  apply xK;apply xB;apply yW;simp[t1,t4,j,u,z];apply AQ;simp;refine⟨λo=>?_,λo=>?_⟩
  .rw[b8 o]at h;apply yT;apply yJ;simp[t3,t4,s,m,Ac,ls];apply yV;simp[t4];refine⟨j,_,_,ap,?_⟩;simp[t1,h,AL j q]
  .rw[a9 o]at h;apply B8;apply yV;simp[t4];refine⟨j,_,_,ap,?_⟩;simp[t1,t3,h,AL j q]
 .have e:i=Z g.AU:=by omega
  subst e;apply Co;apply yW;simp[t3];apply Am;refine⟨_,_,fc 1 (xs:=(EU g (Z g.AU)).map AF) rfl (by simp),?_⟩;simp[BC]
open Go.Proofs Tryz DT
theorem TJ(k:FuncId):AH prog 72 [.fn (.func k) [] []] [] (.fn (.func 163) [] [.ptr 0 1 0 0]) [.row J 1 [.fn (.func k) [] []]]:=by
 refine zC func72 4 rfl λwf _=>?_;apply yW;simp;apply yW;simp;apply Am;refine⟨_,ap,?_⟩;simp[At]
theorem D9(k:FuncId):AH prog 70 [.fn (.func k) [] []] [] (.fn (.func 71) [] [.ptr 0 1 0 0]) [.row J 1 [.fn (.func k) [] []]]:=by
 refine zC func70 4 rfl λwf _=>?_;apply yW;simp;apply yW;simp;apply Am;refine⟨_,ap,?_⟩;simp[At]
theorem dv{k:FuncId}{S0 g:Sg}{r q:Nat}(h:AH prog k [.ptr r 1 0 0] S0 (.CA []) g)(i:S0[q]?=some (.row J 1 [.fn (.func k) [] []])):
  AH prog 71 [.ptr r 1 0 0,.ptr q 1 0 0] S0 (.d (AF 0)) g:=by
 refine zC func71 7 rfl λwf _=>?_;apply yW;simp;apply yS;apply yJ;simp[i];refine ms rfl rfl (by simp) (f:=k) (args:=[.ptr r 1 0 0]) (by simp[callee];try rfl) (by simp) h ?_;simp;apply CO;apply yW;simp;apply Am;refine⟨_,ap,?_⟩;simp[At]
def O8:List (D×V):=[(.int .i64 1,.agg [.fn (.func 68) [] [],.fn (.func 163) [] [.ptr 1 1 0 0],.d (.bool J),.fn (.func 71) [] [.ptr 2 1 0 0]]),(.int .i64 2,.agg [.fn (.func 68) [] [],.fn (.func 75) [] [],.d (.bool J),.fn (.func 71) [] [.ptr 3 1 0 0]]),(.int .i64 3,.agg [.fn (.func 68) [] [],.fn (.func 163) [] [.ptr 4 1 0 0],.d (.bool J),.fn (.func 71) [] [.ptr 5 1 0 0]]),(.int .i64 4,.agg [.fn (.func 79) [] [],.fn (.func 67) [] [],.d (.bool J),.fn (.func 71) [] [.ptr 6 1 0 0]]),(.int .i64 5,.agg [.fn (.func 81) [] [],.fn (.func 163) [] [.ptr 7 1 0 0],.d (.bool am),.fn (.func 71) [] [.ptr 8 1 0 0]]),(.int .i64 6,.agg [.fn (.func 83) [] [],.fn (.func 84) [] [],.d (.bool am),.fn (.func 71) [] [.ptr 9 1 0 0]]),(.int .i64 7,.agg [.fn (.func 88) [] [],.fn (.func 89) [] [],.d (.bool J),.fn (.func 90) [] []]),(.int .i64 8,.agg [.fn (.func 69) [] [],.fn (.func 91) [] [],.d (.bool J),.fn (.func 93) [] []]),(.int .i64 9,.agg [.fn (.func 94) [] [],.fn (.func 89) [] [],.d (.bool J),.fn (.func 95) [] []]),(.int .i64 10,.agg [.fn (.func 96) [] [],.fn (.func 67) [] [],.d (.bool am),.fn (.func 71) [] [.ptr 10 1 0 0]]),(.int .i64 11,.agg [.fn (.func 98) [] [],.fn (.func 67) [] [],.d (.bool am),.fn (.func 71) [] [.ptr 11 1 0 0]]),(.int .i64 12,.agg [.fn (.func 100) [] [],.fn (.func 67) [] [],.d (.bool am),.fn (.func 71) [] [.ptr 12 1 0 0]]),(.int .i64 13,.agg [.fn (.func 102) [] [],.fn (.func 67) [] [],.d (.bool am),.fn (.func 71) [] [.ptr 13 1 0 0]]),(.int .i64 14,.agg [.fn (.func 104) [] [],.fn (.func 75) [] [],.d (.bool am),.fn (.func 71) [] [.ptr 14 1 0 0]])]
def QY:Sg:=[.row J 1 [.fn (.func 73) [] []],.row J 1 [.fn (.func 74) [] []],.row J 1 [.fn (.func 76) [] []],.row J 1 [.fn (.func 77) [] []],.row J 1 [.fn (.func 78) [] []],.row J 1 [.fn (.func 80) [] []],.row J 1 [.fn (.func 77) [] []],.row J 1 [.fn (.func 82) [] []],.row J 1 [.fn (.func 86) [] []],.row J 1 [.fn (.func 97) [] []],.row J 1 [.fn (.func 99) [] []],.row J 1 [.fn (.func 101) [] []],.row J 1 [.fn (.func 103) [] []],.row J 1 [.fn (.func 105) [] []]]
theorem PJ:AH prog 23 [] [] (.map 0) (.map O8::QY):=by
 refine zC func23 55 rfl λwf _=>?_;apply yW;simp;apply yW;simp;apply yW;simp;apply yW;simp;apply yW;simp;(repeat apply xS);apply yT;apply yJ;simp;refine xF (TJ 73) [] rfl ?_;simp;apply yJ;simp;refine xF (D9 74) [] rfl ?_;simp;apply yJ;simp[Ej,Cq,BW,B1,B3];refine xF (D9 76) [] rfl ?_;simp;apply yJ;simp[Ej,Cq,DY,BW,B1,B3];refine xF (TJ 77) [] rfl ?_;simp;apply yJ;simp;refine xF (D9 78) [] rfl ?_;simp;apply yJ;simp[Ej,Cq,DY,BW,B1,B3];refine xF (D9 80) [] rfl ?_;simp;apply yJ;simp[Ej,Cq,DY,BW,B1,B3];refine xF (TJ 77) [] rfl ?_;simp;apply yJ;simp;refine xF (D9 82) [] rfl ?_;simp;apply yJ;simp[Ej,Cq,DY,BW,B1,B3];refine xF (D9 86) [] rfl ?_;simp;apply yJ;simp[Ej,Cq,DY,BW,B1,B3];refine xF (D9 97) [] rfl ?_;simp;apply yJ;simp[Ej,Cq,DY,BW,B1,B3];refine xF (D9 99) [] rfl ?_;simp;apply yJ;simp[Ej,Cq,DY,BW,B1,B3];refine xF (D9 101) [] rfl ?_;simp;apply yJ;simp[Ej,Cq,DY,BW,B1,B3];refine xF (D9 103) [] rfl ?_;simp;apply yJ;simp[Ej,Cq,DY,BW,B1,B3];refine xF (D9 105) [] rfl ?_;simp;apply yJ;simp[Ej,Cq,DY,BW,B1,B3];apply Am;refine⟨_,rr (by simp[O8,QY]),?_⟩;simp[At]
section
variable {P:Program} {n b:Nat} {ops:Array Oper} {tm:Tm} {S S1 S2:Sg} {K:Tm->Sg->Prop} {v1 v2:V}
theorem Bf.vZ{B:List (Nat×(Sg->Prop))}{g:Array Bool}{h:Nat}{o1 o2:Oper}(i j:Nat)(m o:List Bool)(u:Region.ready .any ops g=[i,j])(hi:ops[i]?=some o1)(hj:ops[j]?=some o2)
  (v:B.map (λp=>waits ops i p.1)=m) (w:B.map (λp=>waits ops j p.1)=o)
  (h1:Bw P n b ops i o1 tm S v1 S1) (q:okB m B S S1) (z:Bw P n b ops j o2 tm S v2 S2) (s:okB o B S S2)
  (k1:Bf P n b ops K (FK m B) h (g.setIfInBounds i J) (put tm o1.dst v1) S1)
  (k2:Bf P n b ops K (FK o B) h (g.setIfInBounds j J) (put tm o2.dst v2) S2):Bf P n b ops K B (h+1) g tm S:=by
 refine⟨λh0=>(by rw[u]at h0;cases h0),λk t=>?_⟩;rw[u]at t;simp[or_false]at t;rcases t with rfl|rfl
 .exact⟨o1,_,_,hi,h1,Ff v q,by rw[Ge v];exact k1⟩
 .exact⟨o2,_,_,hj,z,Ff w s,by rw[Ge w];exact k2⟩
theorem Bf.xl{B:List (Nat×(Sg->Prop))}{g:Array Bool}{h:Nat}{o1:Oper}(i:Nat)(j:List Bool)(q:Region.ready .any ops g=[i])(hi:ops[i]?=some o1)
  (s:B.map (λp=>waits ops i p.1)=j) (h1:Bw P n b ops i o1 tm S v1 S1) (m:okB j B S S1)
  (k1:Bf P n b ops K (FK j B) h (g.setIfInBounds i J) (put tm o1.dst v1) S1):Bf P n b ops K B (h+1) g tm S:=by
 refine⟨λh0=>(by rw[q]at h0;cases h0),λk o=>?_⟩;rw[q]at o;simp[or_false]at o;subst o;exact⟨o1,_,_,hi,h1,Ff s m,by rw[Ge s];exact k1⟩
end
def Z5(g:AD)(x:AR)(c f a:FuncId)(h ac:List V)(kp:Bool)(k1 k2:FuncId):Sg:=
 [.row J 9 [.d (AA g)],.row J 31 [.d (AK x)],.row J 9 [.agg [.full [],.full [],.d (.int .i64 0),.full [],.full [],.full [],.d (.int .i64 0),.full [],.full []]],.row J 4 [.agg [.fn (.func c) [] [],.fn (.func f) [] h,.d (.bool kp),.fn (.func a) [] ac]],.row J 1 [.fn (.func k1) [] []],.row J 1 [.fn (.func k2) [] []]]
section
variable {P:Program} {n b:Nat} {o:Oper} {tm tm':Tm} {S S':Sg} {v:V} {ops:Array Oper} {K:Tm->Sg->Prop}
def vY(P:Program)(n b:Nat)(ops:Array Oper)(i:Nat)(tm:Tm)(S:Sg)(R:Tm->Sg->Prop):Prop:=
 ∀G w a (g:Act->World->Prop) Q,St P n G S w a tm->b<=Z S->(∀tm' S',R tm' S'->∀h j k,Iy P n b G S w a.defers h j k S' tm'->g h j)->wpOp P ops Q i g a w
def Ju(P:Program)(n b:Nat)(ops:Array Oper)(i:Nat)(o:Oper)(tm:Tm)(S:Sg)(R:V->Sg->Prop):Prop:=
 ∀tm',(∀t∈o.looksAt ops,tm' t=tm t)->vY P n b ops i tm' S λt S'=>∃v,R v S'/\t=put tm' o.dst v
theorem Bw.pz{i:Nat}(h:Bw P n b ops i o tm S v S'):Ju P n b ops i o tm S λu T=>u=v/\T=S':=λtm' g G w a j Q st hb k=>
 h tm' g G w a j Q st hb λm q s t=>k _ _ ⟨v,⟨rfl,rfl⟩,rfl⟩ m q s t
theorem Ju.congr{i:Nat}{R:V->Sg->Prop}(h:Ju P n b ops i o tm S R)(k:∀t∈o.looksAt ops,tm' t=tm t):Ju P n b ops i o tm' S R:=λg m=>
 h g λt j=>(m t j).trans (k t j)
theorem Ju.Px{i:Nat}{c:Call}{f:go}{args:List V}{R:V->Sg->Prop}(hi:ops[i]?=some o)(U:o.op=.call c)(hg:o.guard=none)(hd:A6 n o.dst)(j:callee tm c=some (f,args))(hn:A9 tm c)
  (h:BL P f args S R):Ju P n b ops i o tm S R:=λtm' A G w a K' Q st hb k=>by
 obtain⟨W,Y⟩:=HT U A;rw[<-W]at j;rw[<-Y]at hn;clear W Y A;unfold wpOp;simp[hi,Region.wanted,hg];left;have key:∀(next:Act->World->Prop),(∀cv m q v S',R v S'->CV q S' m v cv->Rel P q S' m->Tr G S w q S' m->BH G S w q S' m->next (a.put o.dst cv) m)->o.wp P a w next Q:=λnext t=>by
  obtain⟨s,h⟩:=h;unfold callee at j;obtain⟨u,E⟩:=hn;cases g:c.callee with
  |value x=>
   simp only[g]at j u;have F:=(BY st x).strip u;split at j
   .rename_i k' first caps H
    simp only[i9,acY]at j;obtain⟨B,e2⟩:=j;subst B;subst e2;rw[H]at F;generalize hX:a.eval x=X at F;cases F with
    |fn _ _ _ xs ys h1 h2 h3 h4=>
     unfold S5 at s;have zd:=h G w (xs++c.args.map a.eval++ys) st.rel (by simp[h1,h2]) (λi hi ze=>by
      by_cases B:i<first.length
      .rw[up (by simp;omega),up B];rw[abU (by simp;omega),abU (by omega)];exact h3 i B
      .by_cases e2:i<first.length+c.args.size
       .rw[up (by simp;omega),R2 (by omega)];rw[abU (by simp;omega),acx (by omega)];simp only[rg,Array.getElem_map,abp,h1];exact(BY st _).strip (NO E _ (by simp))
       .simp at hi;rw[R2 (by simp;omega)];rw[acx (by simp;omega)];simp[Array.size_map,h1];exact h4 _ (by omega))
     unfold Oper.wp;have zc:(execOp a.eval o).run P w=.ok (.enter k' (xs++c.args.map a.eval++ys)) w:=by
      split at s
      .rename_i fn z;simp[ne_eq]at s;obtain⟨b,hb⟩:=ol.1 s.2;simp[execOp,U,resolve,g,hX,Deferred.ofValue,invoke,callFunc,z,s.1,hb]
      .cases s
     rw[zc];simp only[Oper.upon];exact zd.mono λe m ⟨cv,q,v,S',L,A,M,N,T,C⟩=>by subst A;exact t cv m q v S' L M N T C
   .cases j
  |invoke=>simp[g]at j
  |builtin=>simp[g]at j
 exact key _ λcv m q v S' L M N T C=>k _ S' ⟨v,L,rfl⟩ _ _ q ⟨st.put hd M N C,Cv,T,C.late hb⟩
def WQ(P:Program)(n b:Nat)(ops:Array Oper)(K:Tm->Sg->Prop)(B:List (Nat×(Sg->Prop))):Nat->Array Bool->Tm->Sg->Prop
 |0,g,tm,S=>Region.ready .any ops g=[]/\K tm S
 |h+1,g,tm,S=>(Region.ready .any ops g=[]->K tm S)/\∀i∈Region.ready .any ops g,∃o R,ops[i]?=some o/\Ju P n b ops i o tm S R/\∀v S',R v S'->ft ops B i S S'/\WQ P n b ops K (B.filter λp=>!waits ops i p.1) h (g.setIfInBounds i J) (put tm o.dst v) S'
theorem KY:∀(g:Nat) (B m:List (Nat×(Sg->Prop))) (i:Array Bool) (tm:Tm) (S:Sg),(∀p∈m,p∈B)->WQ P n b ops K B g i tm S->WQ P n b ops K m g i tm S
 |0,_,_,_,_,_,_,h=>h
 |g+1,B,m,_,_,_,q,h=>⟨h.1,λk u=>by
  obtain⟨o,R,w,z,s⟩:=h.2 k u;refine⟨o,R,w,z,λv S' t=>⟨λp j=>(s v S' t).1 p (q p j),KY g _ _ _ _ _ (λp j=>?_) (s v S' t).2⟩⟩;rw[tg]at j⊢;exact⟨q p j.1,j.2⟩⟩
theorem Wb{i:Nat}{T:Oper}{C:Sg->Prop}(hi:ops[i]?=some T):
  ∀(m:Nat) (B:List (Nat×(Sg->Prop))) (g:Array Bool) (tm:Tm) (S:Sg),(∀j M,ops[j]?=some M->j≠i->g.getD j J=am->(∀e∈M.after,Region.binds .any e=J->e.on≠i)->T.apart ops M=J)->i∈Region.ready .any ops g->C S->(∀S',C S'->Bw P n b ops i T tm S' v S')->WQ P n b ops K ((i,C)::B) m (g.setIfInBounds i J) (put tm T.dst v) S->WQ P n b ops K B (m+1) g tm S:=by
 intro m;induction m with
 |zero=>
  intro B g tm S _ U hS hy H;refine⟨λh=>(by rw[h]at U;cases U),λj hj=>?_⟩;by_cases q:j=i
  .subst q;refine⟨T,_,hi,(hy S hS).pz,?_⟩;rintro _ _ ⟨rfl,rfl⟩;exact⟨λp _=>.inr id,H⟩
  .have:=adW hj q;rw[H.1]at this;cases this
 |succ m ih=>
  intro B g tm S w U hS hy H;refine⟨λh=>(by rw[h]at U;cases U),λj hj=>?_⟩;by_cases q:j=i
  .subst q;refine⟨T,_,hi,(hy S hS).pz,?_⟩;rintro _ _ ⟨rfl,rfl⟩;refine⟨λp _=>.inr id,KY _ _ _ _ _ _ (λp hp=>?_) H⟩;exact abT _ (tg.1 hp).1
  .obtain⟨M,R,z,zn,G⟩:=H.2 j (adW hj q);obtain⟨N,oj',Q,za⟩:=mem_ready.1 hj;rw[z]at Q;cases Q;have A:∀e∈M.after,Region.binds .any e=J->e.on≠i:=λe W hb E=>by
    have h1:=za e W hb;have h0:=(mem_ready.1 U).1;rw[E]at h1;rcases x3 i g.size with h'|h'
    .simp[h']at h0 h1;rw[h0]at h1;cases h1
    .simp[WF h']at h1
   obtain⟨a1,a2,a3⟩:=Oper.apart_spec (w j M z q N A);have hw:waits ops j i=false:=by
    cases hx:waits ops j i with
    |false=>rfl
    |true=>
     obtain⟨e,W,hb,E⟩:=L8 z hx;exact absurd E (A e W hb)
   have L:∀k ok,ops[k]?=some ok->k≠i->(g.setIfInBounds j J).getD k J=am->(∀e∈ok.after,Region.binds .any e=J->e.on≠i)->T.apart ops ok=true:=λk ok hk hki X zm=>by
    refine w k ok hk hki ?_ zm;by_cases Y:j=k
    .subst Y;exact N
    .rw[getD_set_ne J Y]at X;exact X
   refine⟨M,R,z,zn.congr λt ht=>(Kp a1 t ht).symm,λu S' hR=>?_⟩;obtain⟨s,F⟩:=G u S' hR;have hC:C S':=by
    rcases s (i,C) (by simp)with h|h
    .obtain⟨e,W,hb,E⟩:=L8 z h;exact absurd E (A e W hb)
    .exact h hS
   refine⟨λp hp=>s p (by simp[hp]),?_⟩;refine ih (B.filter λp=>!waits ops j p.1) (g.setIfInBounds j J) (put tm M.dst u) S' L (adW U (ru q)) hC (λS2 h2=>(hy S2 h2).congr (Kp a3)) ?_;rw[Array.setIfInBounds_comm _ _ q,put_comm u v λd hd h=>a2 d h hd];rw[List.filter_cons_of_pos (by simp[hw])]at F;exact F
theorem QL{Q:Exit->Act->World->Prop}:∀(j:Nat) (g:Array Bool) (tm:Tm) (S:Sg),WQ P n b ops K [] j g tm S->∀G w a,St P n G S w a tm->b<=Z S->(∀q s,(∃z S' tm',Iy P n b G S w a.defers q s z S' tm'/\K tm' S')->Q .normal q s)->wpAny P .any ops Q j g a w
 |0,g,tm,S,h,G,w,a,st,hb,t=>⟨h.1,t a w ⟨G,S,tm,.refl st hb,h.2⟩⟩
 |j+1,g,tm,S,h,G,w,a,st,hb,t=>by
  refine⟨λh0=>t a w ⟨G,S,tm,.refl st hb,h.1 h0⟩,λi hi=>?_⟩;obtain⟨o,R,T,B,k⟩:=h.2 i hi;refine B tm (λ_ _=>rfl) G w a _ Q st hb ?_;rintro _ S' ⟨v,C,rfl⟩ q s z m;refine QL j _ _ _ (k v S' C).2 z s q m.st m.late.len λE F H=>?_;obtain⟨L,M,A,u,N⟩:=H;exact t E F ⟨L,M,A,⟨u.st,u.ds.trans m.ds,m.tr.trans u.tr,m.late.trans u.late⟩,N⟩
def Nw(P:Program)(n b:Nat)(ops:Array Oper)(B:List (Nat×(Sg->Prop)))(l:List (Nat×Bool×Oper))(tm:Tm)(S:Sg)(K:Tm->Sg->Prop):Prop:=
 ∀g,(∀p∈l,ops[p.1]?=some p.2.2)->En ops (l.map λp=>(p.1,p.2.1)) g=J->WQ P n b ops K B (Z l) g tm S
theorem Nw.nil{B:List (Nat×(Sg->Prop))}(h:K tm S):Nw P n b ops B [] tm S K:=λg _ i=>⟨by simpa[En]using i,h⟩
theorem Nw.yN{B:List (Nat×(Sg->Prop))}{i:Nat}{rest:List (Nat×Bool×Oper)}(h1:EX P n ops o tm S/\oS P o tm S=S)
  (h:Nw P n b ops ((i,λS'=>S'=S)::B) rest (put tm o.dst (Dm P ops o tm S)) S K):Nw P n b ops B ((i,J,o)::rest) tm S K:=λg m j=>by
 have hi:ops[i]?=some o:=m (i,J,o) (by simp);simp[En]at j;obtain⟨⟨k,q⟩,s⟩:=j;refine Wb (C:=λS'=>S'=S) hi _ B g tm S (Region.free_spec hi q) (by simpa using k) rfl (λS' hS=>?_) (h _ (λp j=>m p (by simp[j])) s);subst hS;have:=Bw.Eh (b:=b) hi h1.1;rwa [h1.2]at this
theorem Nw.Px{B:List (Nat×(Sg->Prop))}{i:Nat}{rest:List (Nat×Bool×Oper)}{c:Call}{f:go}{args:List V}{R:V->Prop}(h:BL P f args S λv S'=>R v/\S'=S)(t:o.op=.call c)
  (g:o.guard=none/\A6 n o.dst/\A9 tm c/\callee tm c=some (f,args)) (u:∀v,R v->Nw P n b ops B rest (put tm o.dst v) S K):Nw P n b ops B ((i,am,o)::rest) tm S K:=λm s k=>by
 obtain⟨w,z,A,C⟩:=g;have hi:ops[i]?=some o:=s (i,am,o) (by simp);simp[En]at k;obtain⟨h1,q⟩:=k;refine⟨λh0=>(by rw[h1]at h0;cases h0),λj hj=>?_⟩;rw[h1]at hj;have:j=i:=by simpa using hj
 subst this;refine⟨o,_,hi,Ju.Px hi t w z C A h,?_⟩;rintro v S' ⟨E,rfl⟩;exact⟨λp _=>.inr id,KY _ _ _ _ _ _ (λp g=>(tg.1 g).1) (u v E _ (λp g=>s p (by simp[g])) q)⟩
theorem AW.oa{id:Nat}{Q:Exit->Tm->Sg->Prop}(l:List (Nat×Bool))(m:P.follows .mixedOrders=J)(g:Z l=ops.size)(i:En ops l (QQ ops.size am)=J)
  (s:l.all (λp=>decide (p.1<ops.size))=J) (h:∀K:Tm->Sg->Prop,(∀tm S,Q .normal tm S->K tm S)->Nw P n b ops [] (GA ops l) tm S K):AW P n b (.region id ops J) Q tm S:=λG w a st hb=>by
 refine wp_region_any m ?_;obtain⟨r1,r2,k⟩:=st.rel.drawn (w':={w with drawn:=w.drawn+1}) rfl rfl rfl;have h1:=h _ (λ_ _ h=>h) (QQ ops.size am) (λp i=>by
  simp only[GA,fd]at i;obtain⟨q,t,rfl⟩:=i;have u:q.1<ops.size:=by simpa using de.1 s q t
  simp[u]) (by
   have e:(GA ops l).map (λp=>(p.1,p.2.1))=l:=by simp[GA,lm]
   rw[e];exact i)
 have z:Z (GA ops l)=ops.size:=by simp[GA,g]
 rw[z]at h1;refine QL _ _ _ _ h1 G {w with drawn:=w.drawn+1} a ⟨st.size,st.tm.later k,r1⟩ hb λE w' A=>?_;obtain⟨B,S',tm',j,C⟩:=A;exact⟨B,S',tm',⟨j.st,j.ds,r2.trans j.tr,(k.late hb).trans j.late⟩,C⟩
end
theorem BL.E5{P:Program}{f:go}{args args':List V}{S:Sg}{R:V->Sg->Prop}(h:BL P f args S R)(s:Z args'=Z args)
  (k:∀i (h:i<Z args) (t:i<Z args'),args[i]=args'[i]\/∃d,BC S args'[i]=some d/\args[i]=.d d):BL P f args' S R:=
 ⟨h.1,λG w g R u ha=>h.2 G w g R (by omega) λi hi m=>by
  have j:=ha i (by omega) m;rcases k i hi (by omega)with e|⟨d,o,q⟩
  .rw[e];exact j
  .rw[q];exact .d _ _ (j.BC R o)⟩
theorem BL.XG{P:Program}{f:go}{ds:List D}{p:Int->Prop}(h:BL P f (ds.map .d) [] λv g=>g=[]/\∃e:Int,v=.d (AF e)/\p e)(S:Sg):
  BL P f (ds.map .d) S λv g=>(∃e:Int,v=.d (AF e)/\p e)/\g=S:=by
 have h1:=h.Ee (S:=S) [] (by simp) (λv i _=>ed _) (by simp[AP]);have j:(ds.map V.d).map (BU (nameOf []))=ds.map .d:=by simp[lm,BU]
 rw[j]at h1;apply h1.mono;rintro m g ⟨v,i,⟨rfl,e,rfl,k⟩,rfl,rfl⟩;exact⟨⟨e,by simp[BU],k⟩,by simp⟩
def ov:Code->Code
 |.seq _ y=>y
 |c=>c
noncomputable def pn:Code:=ov (ov (ov ((Tryz.f7.body).getD .skip)))
def bx(k1 k2:go):Sg:=[.row J 1 [.fn (.func k1) [] []],.row J 1 [.fn (.func k2) [] []]]
def E6:AD:=⟨[],⟨[],0⟩,[],[],[],0,[],[]⟩
def HJ(b:Bool)(r:Nat):List V:=if b then [.ptr r 1 0 0]else []
def D7(r:AD×List Rewrite×Int):D:=.CA [AA r.1,BA r.2.1,AF r.2.2]
noncomputable def LR(g:AD)(u fit:Bool)(ae:Int)(h:AD)(i:List Rewrite)(j:Bool):AD×List Rewrite×Int:=
 if(u&&fit)=am then(E6,[],310)else if ae≠0 then(E6,[],ae)else if j=J then(E6,[],2)
 else if RU h≠0 then(E6,[],RU h)else if R5 g h i≠0 then(E6,[],R5 g h i)else(h,i,0)
def dU:Rewrite:=⟨0,0,0,[]⟩
def mD(g:List Rewrite)(i:Nat):List Rewrite:=(List.range (Z g)).map λk=>if k<i then g.getD k dU else dU
theorem sS(g:List Rewrite)(i:Nat):Z (mD g i)=Z g:=by simp[mD]
theorem ng(g:List Rewrite):mD g 0=List.replicate (Z g) dU:=by
 unfold mD;apply abG (by simp);intro k h1 h;simp
theorem nQ(g:List Rewrite){i:Nat}(h:i<Z g):mD g (i+1)=(mD g i).set i g[i]:=by
 unfold mD;apply abG (by simp);intro k h1 m;have o:k<Z g:=by simpa using h1
 rw[adD];by_cases e:i=k
 .subst e;simp[h]
 .rw[a9 e];have j:(k<i+1)=(k<i):=by apply propext;omega
  simp[j]
theorem rR(g:List Rewrite):mD g (Z g)=g:=by
 unfold mD;apply abG (by simp);intro k h1 h;simp[h]
def mS(g h:AD)(x:AR)(i:List Rewrite)(j:Bool)(l:List Rewrite):Sg:=
 [.row J 9 [.d (AA g)],.row J 31 [.d (AK x)],.row J 9 [.agg [.full [],.full [],.d (.int .i64 0),.full [],.full [],.full [],.d (.int .i64 0),.full [],.full []]],.row J 51 [.d (Lh g x h i j)],.row J 4 (l.map λr=>.d (Ab r))]
theorem WM(zE:∀g,B4 g=0->Qh g)(g:AD)(x:AR)(c f a k1 k2:go)(C:AR->AR)(fb ab kp fit:Bool)(ae:Int)(h:AD)(j:List Rewrite)(E:Bool)
  (U:B4 g=0) (F:Ym c C)
  (G:E3 (C x)=J->AH prog f (.ptr 4 1 0 0::HJ fb 5) (bS g x++bx k1 k2) (.d (.bool fit)) (bS g x++bx k1 k2))
  (W:fit=J->AH prog a (.ptr 4 1 0 0::HJ ab 6) (bS g x++bx k1 k2) (.d (AF ae)) (FN g x h j E++bx k1 k2))
  (X:fit=J->ae=0->Z j<=2 ^ 20/\(∀x∈j,Z x.Ah<=2 ^ 30)/\Z h.conds<=12) (Y:Z g.conds<=12) {tm:Tm}
  (t2:tm 2=.ptr 0 1 0 0) (t3:tm 3=.ptr 1 1 0 0) (t4:tm 4=.ptr 2 1 0 0) (t8:tm 8=.ptr 3 1 0 0) (t9:tm 9=.d (.bool J)):
  AW prog 124 0 pn (oE prog 124 0 Tryz.f7.results.toList (D7 (LR g (E3 (C x)) fit ae h j E)) []) tm (Z5 g x c f a (HJ fb 4) (HJ ab 5) kp k1 k2):=by
 have hcl:=UK g (zE g U);obtain⟨R,m⟩:=ce (LR g (E3 (C x)) fit ae h j E);rw[m];unfold LR at m;unfold pn Tryz.f7;simp only[ov,K2];unfold Z5;(repeat refine xS ?_);refine yE (A3 3 [7,8,11,12]) (by kernel_rfl) ?_;simp;refine yA 1 ?_;simp[t2,t3];refine AC (xT [1,0,0]) (hcl) [] (by kernel_rfl) rfl (by simp[Aa,t2,t3];try rfl) ?_;simp;refine yA 1 ?_;simp[hV];refine xX 1 (by kernel_rfl) ?_;simp[Aa,hS,t2,t3];refine yA 1 ?_;simp;(try simp only[yQ,reduceIte]);have H:=F x;unfold XD at H;have s:=SR (C x);generalize C x=y at *;apply yW;simp[t3];refine xS (yW ?_);simp[t9];refine AQ ?_;simp;apply yT;refine yJ ?_;simp[t8];refine xF (H) [11] rfl ?_;simp;refine yJ ?_;simp;cases hu:E3 y with
 |false=>
  rw[hu]at s m;refine xS (yS ?_);refine yH ?_;simp[t9];refine nc (s) rfl rfl (by simp[xN];try rfl) ?_;simp;refine yH ?_;simp;(try simp only[yQ,reduceIte]);refine AQ ?_;simp;apply yW;simp[t4];refine Am ?_;(try simp only[yQ,reduceIte]);rw[b8 (by simp)]at m;subst m;refine⟨_,_,_,ap,by simp[t4],by simp[t4,BC,AA,E6,D7],fi 0 (S':=[]) rfl (by simp)⟩
 |true=>
  rw[hu]at s m;have t:=G hu;unfold bS CQ bV bx at t;simp at t;refine xS (yS ?_);refine yH ?_;simp[t9];refine nc (s) rfl rfl (by simp[xN];try rfl) ?_;simp;refine yH ?_;simp[t8];refine AY.LQ t [6,7,8,9,10,4,5] rfl rfl (by cases fb<;>simp[HJ,Cm,callee,nameOf,BU,CE]<;>decide) ?_;simp;refine yH ?_;simp;(try simp only[yQ,reduceIte]);clear t;cases fit with
  |false=>
   refine AQ ?_;simp;apply yW;simp[t4];refine Am ?_;(try simp only[yQ,reduceIte]);rw[b8 (by simp)]at m;subst m;refine⟨_,_,_,ap,by simp[t4],by simp[t4,BC,AA,E6,D7],fi 0 (S':=[]) rfl (by simp)⟩
  |true=>
   have u:=W rfl;unfold bS FN CQ bV bx at u;simp at u;refine AQ ?_;simp;refine xK ?_;refine xS (yS ?_);refine yJ ?_;simp[t8];refine AY.Ei u [6,7,8,9,10,4,5] rfl (by cases ab<;>simp[HJ,Cm,callee,nameOf,BU,CE]<;>decide) ?_;simp;refine yJ ?_;simp;(try simp only[yQ,reduceIte]);clear u;by_cases q:ae=0;case neg=>
    apply yW;simp;refine AQ ?_;simp[q];apply yW;simp[t4];refine Am ?_;(try simp only[yQ,reduceIte]);rw[a9 (by simp),b8 q]at m;subst m;refine⟨_,_,_,ap,by simp[t4],by simp[t4,BC,AA,E6,D7],fi 0 (S':=[]) rfl (by simp)⟩
   obtain⟨hmm1,L,hc⟩:=X rfl q;subst q;apply yW;simp;refine AQ ?_;simp;refine B8 ?_;have k:=Lh.eq_1 g x h j E;refine xS (yW ?_);simp[k];cases A:E with
   |true=>
    rw[A]at m;refine AQ ?_;simp;apply yW;simp[t4];refine Am ?_;(try simp only[yQ,reduceIte]);rw[a9 (by simp),a9 (by simp),b8 rfl]at m;subst m;refine⟨_,_,_,ap,by simp[t4],by simp[t4,BC,AA,E6,D7],fi 0 (S':=[]) rfl (by simp)⟩
   |false=>
    have fh:=Hd h hc;rw[A]at m;refine AQ ?_;simp;refine B8 ?_;rw[A]at k;refine xS (yS ?_);refine yJ ?_;simp;refine z0 (AJ.ra 73 (AA h) (by simp[BC,AA])) ?_;refine Bz (fh) rfl (by simp[xN]) ?_;simp;refine yJ ?_;simp;(try simp only[yQ,reduceIte]);have hhz:RU h=0->B4 h=0:=λe=>(Dx.1 e).1;have hmx:=ME g h j Y hc;generalize RU h=r at *;generalize R5 g h j=me at *;by_cases z:r=0
    .apply yW;simp[z];refine AQ ?_;simp;refine B8 ?_;have hr0:B4 h=0:=hhz z;have hm1:=BL.XG (P:=prog) (f:=26) (ds:=[AA g,AA h,BA j]) (p:=λe=>e=me) ((AH.pz hmx).mono λv S' ⟨e1,e2⟩=>⟨e2,me,e1,rfl⟩);have w:∀S,_:=λS=>(hm1 S).E5 (args':=[.d (AA g),.agg [.d (Bv h.conds),.d (AX h.fam.nodes),.d (AF h.fam.root),.d (C7 h.AU),.d (Bv h.Ay),.d (Cd h.AE),.d (AF h.start),.d (Bl h.levels),.d (BR h.AT)],.d (BA j)]) rfl λi h1 h2=>by
      match i,h1 with
      |0,_=>exact .inl rfl
      |1,_=>exact .inr ⟨AA h,by simp[BC,AA],rfl⟩
      |2,_=>exact .inl rfl
     (repeat refine xS ?_);refine AW.oa [(0,J),(1,J),(2,J),(3,J),(4,J),(5,J),(6,J),(7,J),(8,J),(9,am),(10,J)] (by kernel_rfl) rfl (by kernel_rfl) (by decide) λK hK=>?_;simp;(repeat((refine Nw.yN ?_ ?_);(focus(simp[t2];done));simp[t2]));(refine Nw.Px (w _) rfl (by simp[callee];try rfl) ?_);rintro _ ⟨e3,rfl,rfl⟩;simp;(repeat((refine Nw.yN ?_ ?_);(focus(simp;done));simp));refine Nw.nil (hK _ _ ?_);(try simp only[yQ,reduceIte]);by_cases o:e3=0
     .apply yW;simp[o];refine AQ ?_;simp;refine B8 ?_;have hml:(Z j:Int)<=1073741824:=by omega
      refine PP (R:=λtm S=>tm 4=.ptr 2 1 0 0/\tm 10=.ptr 3 1 0 0/\tm 15=.row 4 (Z j)/\S=mS g h x j am (mD j 0)) ?_ ?_
      .apply yV;simp[hml];refine⟨_,_,(jp 12 (xs:=(List.replicate (Z j) dU).map Ab) rfl ?_).trans (C4 [0,1,2,10,12] (S0:=mS g h x j am (mD j 0)) ?_ (by simp) (by simp)),?_⟩
       .rw[Be];simp[dU,Ab,BC]
       .rw[ng];simp[mS,k]
       .simp[pick,t4];decide
      rintro tm S ⟨t4,t10,t15,rfl⟩;refine nt (R:=λtm S=>tm 4=.ptr 2 1 0 0/\tm 10=.ptr 3 1 0 0/\tm 15=.row 4 (Z j)/\S=mS g h x j am j) ?_ ?_
      .unfold mS;apply yW;simp[t10,k];refine Bp ?_;refine FH (Z j) (λi tm S=>tm 4=.ptr 2 1 0 0/\tm 10=.ptr 3 1 0 0/\tm 15=.row 4 (Z j)/\tm 102=.d (BA j)/\tm 103=.d (AF (Z j))/\tm 104=.d (AF i)/\S=mS g h x j am (mD j i)) (ed _) (by simp[t4,t10,t15,mS,k]) ?_;rintro i tm S hi ⟨t4,t10,t15,t102,t103,t104,rfl⟩;apply yW;simp[t103,t104];refine xC ?_;simp;refine⟨λM=>?_,λzf=>?_⟩
       .have N:=nQ j M;have B:=sS j i;have htl:=L _ (cF M);generalize hr:j[i]=rw at *;have y8:=Ab.eq_1 rw;have Q:=Ue rw.Ah htl;generalize mD j i=ml at *;unfold mS;refine xK ?_;refine xB ?_;apply yW;simp[t102,t104,M,hr,y8];apply yS;refine yJ ?_;simp;refine xF (Q) [] rfl ?_;simp;refine yJ ?_;simp;refine io (fc 6 (xs:=rw.Ah.map Ar) rfl (by simp)) ?_;simp;apply yV;simp[t15,M,B];have hwi:bv .i64 ((i:Int)+1)=(i+1:Nat):=by rw[c8];omega
        apply yV;simp[t104,hwi];obtain⟨ml2,w⟩:=ce (ml.set i rw);rw[w]at N;refine⟨M,_,_,(jp 4 (xs:=(ml.set i rw).map Ab) rfl ?_).trans (qs 5 (S':=mS g h x j am ml2) ?_ (by simp) (by simp) (by simp[mS])),?_⟩
        .rw[Be,gl,md,gl,gl,md];congr 1;simp[BC,y8]
        .rw[<-w];simp[mS,lm]
        .simp[clean,AP,t4,t10,t15,t102,t103,N,mS]
       .have e:i=Z j:=by omega
        subst e;rw[rR];refine Co ?_;simp[t4,t10,t15,mS]
      .rintro tm S ⟨t4,t10,t15,rfl⟩;have T:=UK h (zE h hr0);unfold hV hS at T;unfold mS;(repeat refine xS ?_);apply yT;refine yJ ?_;simp[t10,k];refine z0 (AJ.ra 121 (AA h) (by simp[BC,AA])) ?_;refine xF (T) [] rfl ?_;simp;refine yJ ?_;simp[t4,t15];(try simp only[yQ,reduceIte]);refine Am ?_;(try simp only[yQ,reduceIte]);rw[a9 (by simp),a9 (by simp),a9 (by simp),a9 (by simpa using z),a9 (by simpa using o)]at m;subst m;refine⟨_,_,_,(fc 4 (xs:=j.map Ab) rfl (by simp)).trans ((fc 5 (xs:=h.conds.map D.str) rfl (by simp)).trans ((fc 6 (xs:=h.AU.map AV) rfl (by simp)).trans ((fc 7 (xs:=h.Ay.map D.str) rfl (by simp)).trans (fc 8 (xs:=h.AE.map AG) rfl (by simp))))),by simp[t4],by simp[t4,BC,AA,D7],fi 0 (S':=[]) rfl (by simp)⟩
     .apply yW;simp;refine AQ ?_;simp[o];apply yW;simp[t4];refine Am ?_;(try simp only[yQ,reduceIte]);rw[a9 (by simp),a9 (by simp),a9 (by simp),a9 (by simpa using z),b8 o]at m;subst m;refine⟨_,_,_,ap,by simp[t4],by simp[t4,BC,AA,E6,D7],fi 0 (S':=[]) rfl (by simp)⟩
    .apply yW;simp;refine AQ ?_;simp[z];apply yW;simp[t4];refine Am ?_;(try simp only[yQ,reduceIte]);rw[a9 (by simp),a9 (by simp),a9 (by simp),b8 z]at m;subst m;refine⟨_,_,_,ap,by simp[t4],by simp[t4,BC,AA,E6,D7],fi 0 (S':=[]) rfl (by simp)⟩
structure KE where
 kd:Int
 c:go
 f:go
 a:go
 fb:Bool
 ab:Bool
 kp:Bool
 k1:go
 k2:go
 p1:Nat
 p2:Nat
def K8:List KE:=[⟨1,68,163,71,J,J,J,73,74,4,5⟩,⟨2,68,75,71,am,J,J,73,76,4,6⟩,⟨3,68,163,71,J,J,J,77,78,7,8⟩,⟨4,79,67,71,am,J,J,73,80,4,9⟩,⟨5,81,163,71,J,J,am,77,82,10,11⟩,⟨6,83,84,71,am,J,am,73,86,4,12⟩,⟨7,88,89,90,am,am,J,73,74,4,5⟩,⟨8,69,91,93,am,am,J,73,74,4,5⟩,⟨9,94,89,95,am,am,J,73,74,4,5⟩,⟨10,96,67,71,am,J,am,73,97,4,13⟩,⟨11,98,67,71,am,J,am,73,99,4,14⟩,⟨12,100,67,71,am,J,am,73,101,4,15⟩,⟨13,102,67,71,am,J,am,73,103,4,16⟩,⟨14,104,75,71,am,J,am,73,105,4,17⟩]
noncomputable def Fy(g:AD)(r:AD×List Rewrite×Int):AD×List Rewrite×Int:=if RU g≠0 then(E6,[],RU g)else r
theorem DG(Q:∀g,B4 g=0->Qh g)(E:KE)(H:E∈K8)(g:AD)(x:AR)(o:x.kind=E.kd)(v:Z g.conds<=12)(B:AR->AR)(fit:Bool)(ae:Int)(h:AD)(w:List Rewrite)(C:Bool)
  (s:Ym E.c B)
  (t:B4 g=0->E3 (B x)=J->AH prog E.f (.ptr 4 1 0 0::HJ E.fb 5) (bS g x++bx E.k1 E.k2) (.d (.bool fit)) (bS g x++bx E.k1 E.k2))
  (z:B4 g=0->fit=J->AH prog E.a (.ptr 4 1 0 0::HJ E.ab 6) (bS g x++bx E.k1 E.k2) (.d (AF ae)) (FN g x h w C++bx E.k1 E.k2))
  (A:B4 g=0->fit=J->ae=0->Z w<=2 ^ 20/\(∀x∈w,Z x.Ah<=2 ^ 30)/\Z h.conds<=12):
  Pure prog 7 [AA g,AK x] (D7 (Fy g (LR g (E3 (B x)) fit ae h w C))):=by
 have F:=Hd g v;have G:RU g=0->B4 g=0:=λe=>(Dx.1 e).1;unfold Fy;generalize RU g=r1 at *;refine AH.F8 func7 (by kernel_rfl) rfl (by simp) λwf _=>?_;rw[ntmps7];apply yW;simp;refine xS (yS ?_);refine yJ ?_;simp;refine Bz (F) rfl (by simp[xN]) ?_;simp;refine yJ ?_;simp;(try simp only[yQ,reduceIte]);by_cases u:r1=0;case neg=>
  rw[b8 u];apply yW;simp;refine AQ ?_;simp[u];apply yW;simp;refine Am ?_;(try simp only[yQ,reduceIte]);refine⟨_,_,_,ap,by simp,by simp[BC,AA,E6,D7],fi 0 (S':=[]) rfl (by simp)⟩
 have k:=G u;rw[a9 (by simpa using u)];apply yW;simp[u];refine AQ ?_;simp;refine xK ?_;refine PP (R:=λtm S=>tm 2=.ptr 0 1 0 0/\tm 3=.ptr 1 1 0 0/\tm 4=.ptr 2 1 0 0/\tm 8=.ptr 3 1 0 0/\tm 9=.d (.bool J)/\S=Z5 g x E.c E.f E.a (HJ E.fb 4) (HJ E.ab 5) E.kp E.k1 E.k2) ?_ ?_
 .clear s t z A;obtain⟨L,i⟩:∃q,E.p1=q:=⟨_,rfl⟩;obtain⟨M,j⟩:∃q,E.p2=q:=⟨_,rfl⟩;obtain⟨N,m⟩:=ce (Z5 g x E.c E.f E.a (HJ E.fb 4) (HJ E.ab 5) E.kp E.k1 E.k2);rw[m];simp only[K8,ge,acL,or_false]at H;rcases H with rfl|rfl|rfl|rfl|rfl|rfl|rfl|rfl|rfl|rfl|rfl|rfl|rfl|rfl;all_goals
   dsimp only at o i j m⊢
   refine AW.regionF (by kernel_rfl) λK P=>?_
   change Bf _ _ _ _ _ _ 10 (QQ 10 am) _ _
   refine ul 1 rfl (by kernel_rfl) ?_ ?_;(focus(simp;done));simp
   refine ul 2 rfl (by kernel_rfl) ?_ ?_;(focus(simp;done));simp
   refine Bf.vZ 0 7 [am,am] [am,am] (by kernel_rfl) rfl rfl (by kernel_rfl) (by kernel_rfl) (Pi (args:=[]) rfl rfl rfl (by simp) (by simp[callee]) (by simp) (PJ.Ee [] (by simp) (by simp) (by simp))) ?_ (Bw.Eh rfl ?_) ?_ ?_ ?_
   .simp[Aa]
   .simp
   .simp[Aa]
   .simp
    simp[O8,QY,FP,BU,CE,DM,o]
    refine ul 3 rfl (by kernel_rfl) ?_ ?_;(focus(simp[BW,B1,B3];done));simp[Cq,DY]
    refine ul 4 rfl (by kernel_rfl) ?_ ?_;(focus(simp;done));simp
    refine ul 5 rfl (by kernel_rfl) ?_ ?_;(focus(simp;done));simp
    refine ul 6 rfl (by kernel_rfl) ?_ ?_;(focus(simp;done));simp
    refine Do 7 [am,am,am,am,am,am] (by kernel_rfl) rfl (by kernel_rfl) ?_ ?_;(focus(simp[Aa,o,Cq,DY,BW,B1,B3];done));simp
    refine Do 8 [am,J,J,J,J,J] (by kernel_rfl) rfl (by kernel_rfl) ?_ ?_;(focus(simp[Aa];done));simp
    refine ul 9 rfl (by kernel_rfl) ?_ ?_;(focus(simp;done));simp
    refine aeB (by kernel_rfl) (P _ _ ⟨_,_,C4 [0,1,2,18,L,M] (S0:=N) (by simp[<-m,Z5,HJ,<-i,<-j];try decide) (by simp[<-i,<-j]) (by simp[<-i,<-j]),?_⟩)
    simp[pick,<-i,<-j];decide
   .simp
    (refine Bf.xl 0 [am,am] (by kernel_rfl) rfl (by kernel_rfl) (Pi (args:=[]) rfl rfl rfl (by simp) (by simp[callee]) (by simp) (PJ.Ee [] (by simp) (by simp) (by simp))) ?_ ?_)
    .simp[Aa]
    simp[O8,QY,FP,BU,CE,DM,o]
    refine ul 3 rfl (by kernel_rfl) ?_ ?_;(focus(simp[BW,B1,B3];done));simp[Cq,DY]
    refine ul 4 rfl (by kernel_rfl) ?_ ?_;(focus(simp;done));simp
    refine ul 5 rfl (by kernel_rfl) ?_ ?_;(focus(simp;done));simp
    refine ul 6 rfl (by kernel_rfl) ?_ ?_;(focus(simp;done));simp
    refine Do 8 [am,J,J,J,J,J] (by kernel_rfl) rfl (by kernel_rfl) ?_ ?_;(focus(simp[Aa];done));simp
    refine ul 9 rfl (by kernel_rfl) ?_ ?_;(focus(simp;done));simp
    refine aeB (by kernel_rfl) (P _ _ ⟨_,_,C4 [0,1,2,3,L+1,M+1] (S0:=N) (by simp[<-m,Z5,HJ,<-i,<-j];try decide) (by simp[<-i,<-j]) (by simp[<-i,<-j]),?_⟩)
    simp[pick,<-i,<-j];decide
 rintro tm S ⟨t2,t3,t4,t8,t9,rfl⟩;exact WM Q g x E.c E.f E.a E.k1 E.k2 B E.fb E.ab E.kp fit ae h w C k s (t k) (z k) (A k) v t2 t3 t4 t8 t9
section
variable {P:Program} {n b:Nat} {ops:Array Oper} {o:Oper} {tm:Tm} {S S':Sg} {K:Tm->Sg->Prop} {v:V}
theorem Ad.Mw{B:List (Nat×(Sg->Prop))}{i:Nat}{rest:List (Nat×Bool×Oper)}{c:Call}{f:FuncId}{args:List V}{j:Nat}{g:Bool}(h:AH P f args S v S)(k:o.op=.call c)(m:o.guard=some (j,g))
  (q:CN ops tm j g=some J/\A6 n o.dst/\A9 tm c/\callee tm c=some (f,args)) (s:Ad P n b ops ((i,λS'=>S'=S)::B) rest (put tm o.dst v) S K):Ad P n b ops B ((i,J,o)::rest) tm S K:=by
 obtain⟨t,u,w,z⟩:=q;exact vb (λS'=>S'=S) rfl (λhi S' hS=>by subst hS;exact Bw.Pw hi k m u t z w h) s
end
theorem pU{n b:Nat}{tm:Tm}(hb:b<=5)(g:AD)(x:AR)(h:AD)(i:List Rewrite)(j q s t u w:Bool)(pre:Sg):
  AJ prog n b tm (CQ g x h (.row (Z pre+5) (Z i)) j q s t u++(pre++[.row w 4 (i.map λr=>.d (Ab r))])) (clean 5 tm) (FN g x h i j):=by
 obtain⟨T,k⟩:∃T,T=pre++[O.row w 4 (i.map λr=>.d (Ab r))]:=⟨_,rfl⟩;rw[<-k];have m:T[Z pre]?=some (.row w 4 ((i.map Ab).map .d)):=by rw[k];simp[lm]
 have o:(T.set (Z pre) (.BQ (i.map Ab)))[Z pre]?=some (.BQ (i.map Ab)):=by rw[k];simp
 have v:Z (T.set (Z pre) (.BQ (i.map Ab)))=Z pre+1:=by rw[k];simp
 have A:∀xs:List D,DR ([]:Sg) (xs.map .d)=some xs:=λxs=>Cr _ xs;unfold CQ;have z:=fc (P:=prog) (n:=n) (b:=b) (tm:=tm) (S:=CQ g x h (.row (Z pre+5) (Z i)) j q s t u++T) 0 rfl (Ck _ D.str h.conds);apply z.trans;refine(fc 1 rfl (Ck _ AV h.AU)).trans ?_;refine(fc 2 rfl (Ck _ D.str h.Ay)).trans ?_;refine(fc 3 rfl (Ck _ AG h.AE)).trans ?_;refine(fc (Z pre+5) (wr:=w) (sz:=4) (els:=(i.map Ab).map .d) (xs:=i.map Ab) (by simp[CQ,m]) (Cr _ _)).trans ?_;simp[CQ];generalize T.set (Z pre) (.BQ (i.map Ab))=U at *;refine(jp (P:=prog) (n:=n) (b:=b) (tm:=tm) 4 (wr:=true) (sz:=51) (xs:=[Lh g x h i j]) rfl ?_).trans ?_
 .simp[DR,bV,Ed,CZ,Lh,o]
 .exact ea 5 (by simp[FN]) hb (by simp) (by simp)
def Lu(g:AD)(x:AR)(i:Int):List Symbol:=(BI g x).right.take x.at_.toNat++((Bm g i).right++(BI g x).right.drop (x.at_.toNat+1))
noncomputable def IZ(g:AD)(x:AR)(i:Int):AM:={GR with name:=(BI g x).name++⟨#[95]⟩++(Bm g i).name,left:=(BI g x).left,right:=Lu g x i,cond:=(Dn and (BI g x).cond (Bm g i).cond).1}
def Ph(g:AD)(x:AR)(k:Nat)(i:Int):Rewrite:=⟨x.number,x.at_,i,Bd k::A5 0 (Z (Lu g x i))⟩
def H7(g:AD)(x:AR):Nat->List Int->List Rewrite
 |_,[]=>[]
 |k,i::l=>Ph g x k i::H7 g x (k+1) l
theorem VZ(g:AD)(x:AR):∀(l:List Int) (k:Nat) (i:Int),H7 g x k (l++[i])=H7 g x k l++[Ph g x (k+Z l) i]
 |[],k,i=>by simp[H7]
 |j::l,k,i=>by simp[H7,VZ g x l,q7,acS 1]
theorem Mi(g:AD)(x:AR):∀(l:List Int) (k:Nat),Z (H7 g x k l)=Z l
 |[],_=>rfl
 |_::l,k=>by simp[H7,Mi g x l]
def By(g:AD)(x:AR):List Int:=mB g (Ji g x).index
noncomputable def Sy(g:AD)(x:AR):AD:={g with AE:=(g.AE++(By g x).map (IZ g x)).set x.number.toNat {BI g x with cond:=⟨[],0⟩}}
def QV(g:AD)(x:AR):Bool:=x.at_==Z (BI g x).right - 1
noncomputable def LL(g:AD)(x:AR)(i:Nat):List AM:=g.AE++((By g x).take i).map (IZ g x)
def LI(g:AD)(x:AR)(i:Nat):List Rewrite:=H7 g x (Z g.AE) ((By g x).take i)
def J6(g:AD)(x:AR)(o:AM)(a:Nat)(P:List AM)(M:List Rewrite)(i:Nat):Sg:=
 CQ g x {g with AE:=P} (.row 8 i) am (!g.conds.isEmpty) (!g.AU.isEmpty) (!g.Ay.isEmpty) J++
  [.row J 1 [.ptr 4 1 0 0],.row J 13 [.d (AG o)],.row J 1 [.d (.bool ((a:Int)==(Z o.right:Int) - 1))],.row (decide (0<i)) 4 (M.map λr=>.d (Ab r))]
theorem Uq{S:Sg}{r u v:Nat}{g:AD}{x:AR}{h:Bool}(hb:Tz S r g x)(h1:S[u]?=some (.row J 1 [.d (.bool h)]))(w:S[v]?=some (.row J 1 [.ptr r 1 0 0])){i:Int}(C:0<=i/\i<Z g.AE):
  AH prog 168 [.d (AF i),.ptr u 1 0 0,.ptr v 1 0 0] S (.d (.bool (h&&(Bm g i).right.isEmpty))) S:=by
 obtain⟨j,rfl⟩:∃j:Nat,i=j:=⟨i.toNat,by omega⟩;have hj:j<Z g.AE:=by omega
 obtain⟨h0,z,A,E,F,G,H,K,L,m,M,k⟩:=hb;unfold bV at k;have B:Bm g (j:Int)=g.AE[j]:=by simp[Bm,hj]
 rw[B];generalize q:g.AE[j]=o;have s:=AG.eq_1 o;refine zC func168 19 rfl λwf _=>?_;(repeat apply xS);apply yV;simp;have t:((Z o.right:Int)==0)=o.right.isEmpty:=by cases o.right<;>simp;omega
 cases h with
 |false=>
  (repeat apply xS);apply yT;apply yH;simp[h1];apply Am;refine⟨_,ap,?_⟩;simp[At]
 |true=>
  (repeat apply xS);apply yT;apply yH;simp[h1,w,k,hj,q,s];apply Am;refine⟨_,ap,?_⟩;simp[At,t]
theorem ZF(g:AD)(x:AR)(hf:Ci g x=J)(hb:Di g x.number=am)(hbc:Ig g x=am)(zM:(By g x).any (λi=>QV g x&&(Bm g i).right.isEmpty)=am)
  (Q:∀i∈By g x,(Dn and (BI g x).cond (Bm g i).cond).2=0) (hl:Z g.AE<=2 ^ 20) (hr:Z (BI g x).right<=2 ^ 20) (hrq:∀i∈By g x,Z (Bm g i).right<=2 ^ 20/\(Bm g i).name.size<=2 ^ 20) (hns:(BI g x).name.size<=2 ^ 20):
  AH prog 90 [.ptr 4 1 0 0] (bS g x) (.d (AF 0)) (FN g x (Sy g x) (H7 g x (Z g.AE) (By g x)) am):=by
 obtain⟨hp,a,ha,C,hsy,zp⟩:=C6 hf;have hp':=hp;simp[CW]at hp';obtain⟨j,hj⟩:∃j:Nat,x.number=j:=⟨x.number.toNat,by omega⟩;have zu:j<Z g.AE:=by omega
 have y9:g.AE.isEmpty=false:=by cases h:g.AE<;>simp[h]at zu⊢
 obtain⟨E,F⟩:∃E,E=O.row J 1 [.ptr 4 1 0 0]:=⟨_,rfl⟩;obtain⟨X6,hX6⟩:∃X6,X6=O.row J 13 [.d (AG (BI g x))]:=⟨_,rfl⟩;obtain⟨X7,W⟩:∃X7,X7=O.row J 1 [.d (.bool ((a:Int)==(Z (BI g x).right:Int) - 1))]:=⟨_,rfl⟩;have hlb:QV g x=((a:Int)==(Z (BI g x).right:Int) - 1):=by unfold QV;rw[ha]
 rw[hlb]at zM;have hB1:Tz (bS g x++[E]) 4 g x:=⟨_,_,_,_,_,_,_,_,_,_,_,rfl⟩;have w:Tz (bS g x++[E,X6,X7]) 4 g x:=⟨_,_,_,_,_,_,_,_,_,_,_,rfl⟩;have hs1:(bS g x++[E]).all (Ao (Z (bS g x++[E])))=true:=by simp[bS,CQ,bV,F,AP]
 have G:(bS g x++[E,X6,X7]).all (Ao (Z (bS g x++[E,X6,X7])))=true:=by simp[bS,CQ,bV,F,hX6,W,AP]
 have T:=KQ hB1 hs1 hp;have X:AH prog 169 [.ptr 4 1 0 0,.d (AF (Ji g x).index)] _ (.d (A2 (By g x))) _:=Yu w G hl (Ji g x).index;have H:=Ht w G (i:=x.number) (by omega);have K:=Kd w G hl hf;have L:=I5 (By g x) (λi=>((a:Int)==(Z (BI g x).right:Int) - 1)&&(Bm g i).right.isEmpty) 168 [.ptr 7 1 0 0,.ptr 5 1 0 0] (bS g x++[E,X6,X7]) (λi hi=>Uq w (by rw[W];rfl) (by rw[F];rfl) (FF hi));rw[zM]at L;rw[hb]at H;rw[hbc]at K;refine zC func90 135 rfl λwf _=>?_;generalize zl:BI g x=o at *;generalize hss:Ji g x=s at *;have t:=AG.eq_1 o;have zw:=AI.eq_1 s;subst F hX6 W;unfold bS CQ bV at *;apply yW;simp;apply yS;apply yJ;simp;refine ms rfl rfl (by simp) (f:=92) (args:=[.ptr 4 1 0 0]) (by simp[callee];try rfl) (by simp) T (yJ ?_);simp[t];(repeat apply xS);apply yV;simp;have zx:bv .i64 ((Z o.right:Int) - 1)=(Z o.right:Int) - 1:=by rw[c8];omega
 apply yW;simp[zx];(repeat apply xS);apply yV;simp;simp[ha]at X H K L;refine yD (A3 9 []) (by kernel_rfl) ?_;simp;apply yA 1;simp[ha,C,hsy.symm,zw];refine Ad.Gz (f:=169) (args:=[.ptr 4 1 0 0,.d (AF s.index)]) X rfl (by simp[callee];try rfl) ?_;simp;apply yA 1;simp;apply xS;refine yD (A3 16 []) (by kernel_rfl) ?_;simp;apply yA 1;simp;refine Ad.Gz (f:=170) (args:=[.ptr 4 1 0 0,.d (AF x.number)]) H rfl (by simp[callee];try rfl) ?_;simp;apply yZ;simp;refine Ad.Mw (f:=171) (args:=[.ptr 4 1 0 0]) K rfl rfl (by simp[callee];try rfl) ?_;simp;apply yZ;simp;refine Ad.Mw (f:=172) (args:=[.d (.sl ((By g x).map (D.int .i64))),.fn (.func 168) [] [.ptr 7 1 0 0,.ptr 5 1 0 0]]) L rfl rfl (by simp[callee];try rfl) ?_;simp;apply yZ;simp;apply AQ;simp;apply B8;clear T X H K L hB1 w hs1 G;refine xS (yW ?_);simp;refine io (AJ.Qe 4 0 49 4 rfl rfl rfl) ?_;simp;apply Bp;refine FH (Z (By g x)) (λi tm S=>tm 1=.ptr 5 1 0 0/\tm 3=.ptr 6 1 0 0/\tm 4=.d (AF a)/\tm 52=.d (A2 (By g x))/\tm 53=.d (.int .i64 (Z (By g x)))/\tm 54=.d (AF i)/\S=J6 g x o a (LL g x i) (LI g x i) i) (ed _) (by simp[J6,CQ,bV,ha,t,LL,LI,H7,y9]) ?_;rintro i tm S hi ⟨t1,t3,t4,t52,t53,t54,rfl⟩;have hcl:Z (By g x)<=Z g.AE:=KX _ _ _;apply yW;simp[t53,t54];apply xC;simp;refine⟨λy7=>?_,λzf=>?_⟩
 .have Mh:(By g x).take (i+1)=(By g x).take i++[(By g x)[i]]:=by rw[abQ,dl y7];rfl
  have hcr:=FF (cF y7);have zG:=Q _ (cF y7);have zV:=hrq _ (cF y7);obtain⟨c,hc⟩:∃c:Nat,(By g x)[i]=c:=⟨(By g x)[i].toNat,by omega⟩;have zY:c<Z g.AE:=by omega
  have Y:Bm g (c:Int)=g.AE[c]:=by simp[Bm,zY]
  have hRe:Lu g x c=o.right.take a++(g.AE[c].right++o.right.drop (a+1)):=by simp[Lu,zl,ha,Y]
  have hPe:IZ g x c={GR with name:=o.name++⟨#[95]⟩++g.AE[c].name,left:=o.left,right:=Lu g x c,cond:=(Dn and o.cond g.AE[c].cond).1}:=by simp[IZ,zl,Y]
  rw[hc]at zG zV Mh;rw[Y]at zG zV;have hPl:Z (LL g x i)=Z g.AE+i:=by simp[LL];omega
  have v:Z (LI g x i)=i:=by unfold LI;rw[Mi];simp;omega
  have htl:Z ((By g x).take i)=i:=by simp;omega
  have hPs:LL g x (i+1)=LL g x i++[IZ g x c]:=by unfold LL;rw[Mh];simp
  have hMs:LI g x (i+1)=LI g x i++[Ph g x (Z g.AE+i) c]:=by unfold LI;rw[Mh,VZ,htl]
  clear Mh htl;generalize LL g x i=P at *;generalize LI g x i=M at *;generalize hq:g.AE[c]=q at *;generalize hR:Lu g x c=R at *;have m:=AG.eq_1 q;unfold J6 CQ bV;apply xK;apply xB;apply yW;simp[t52,t54,y7,hc];(repeat apply xS);apply yV;simp[t1,zY,hq,m];obtain⟨zV,hnq⟩:=zV;have hz1:o.name.size<=9223372036854775806:=by omega
  have hz2:o.name.size+1+q.name.size<=9223372036854775807:=by omega
  have N:=Ng [o.right.take a,q.right,o.right.drop (a+1)] (by simp;omega);have hfl:[o.right.take a,q.right,o.right.drop (a+1)].flatten=R:=by rw[hRe];simp
  rw[hfl]at N;have hRl:Z R<=2 ^ 22:=by rw[hRe];simp;omega
  have hw:bv .i64 ((a:Int)+1)=(a+1:Nat):=by rw[c8];omega
  have d1:a<=Z o.right:=by omega
  have zp:List.take (Z o.right) (q6 AI o.right)=q6 AI o.right:=vq (by simp);have d7:(a:Int)+1<=Z o.right:=by omega
  have d9:(0:Int)<=a+1:=by omega
  have d8:a+1<=Z o.right:=by omega
  refine nt (R:=λtm S=>tm 1=.ptr 5 1 0 0/\tm 3=.ptr 6 1 0 0/\tm 4=.d (AF a)/\tm 9=.d (AF c)/\tm 10=.ptr 9 1 0 0/\tm 11=.d (As R)/\tm 52=.d (A2 (By g x))/\tm 53=.d (.int .i64 (Z (By g x)))/\tm 54=.d (AF i)/\S=J6 g x o a P M i++[.row J 13 [.d (AG q)]]) ?_ ?_
  .by_cases d5:a+1<Z o.right
   .skip;refine yE (A3 14 []) (by kernel_rfl) ?_;simp;apply yA 1;simp[t,t3,t4,hw,ao,d1,d5,d7,d9];refine kt (N) rfl (by simp[zp,xN]) ?_;simp[zp];apply yA 1;simp;unfold HQ;simp[t1,t3,t4,t52,t53,t54,J6,CQ,bV,t,m]
   .have d6:a+1=Z o.right:=by omega
    refine yE (A3 14 []) (by kernel_rfl) ?_;simp;apply yA 1;simp[t,t3,t4,hw,ao,d1,d6];refine kt (N) rfl (by simp[d6,xN]) ?_;simp;apply yA 1;simp;unfold HQ;simp[t1,t3,t4,t52,t53,t54,J6,CQ,bV,t,m]
  rintro tm S ⟨t1,t3,t4,t9,t10,t11,t52,t53,t54,rfl⟩;clear N hfl;have C:=Wk (S:=J6 g x o a P M i++[.row J 13 [.d (AG q)]]) (r:=4) (g:=g) (x:=x) rfl o.cond q.cond (by simp[J6,CQ,bV,AP,Au]);have z:=C.E5 (args':=[.ptr 4 1 0 0,.agg [.d (AX o.cond.nodes),.d (AF o.cond.root)],.agg [.d (AX q.cond.nodes),.d (AF q.cond.root)]]) rfl λi h h'=>by
   match i,h with
   |0,_=>exact .inl rfl
   |1,_=>exact .inr ⟨AB o.cond,by simp[BC,AB],rfl⟩
   |2,_=>exact .inr ⟨AB q.cond,by simp[BC,AB],rfl⟩
  rw[zG]at z;clear C;generalize(Dn and o.cond q.cond).1=cd at *;have U:=Td (S:=J6 g x o a P M i++[.row J 13 [.d (AG q)]]) (r:=4) (q:=3) (k:=Z P) (g:=g) (x:=x) rfl rfl (by simp) (by omega) (by simp[Ac]) (IZ g x c) (by simp[J6,CQ,bV,AP,Au]);have u:=U.E5 (args':=[.ptr 4 1 0 0,.agg [.d (.str (o.name++⟨#[95]⟩++q.name)),.d (.int .i64 o.left),.d (As R),.d (.sl (cd.nodes.map AZ)),.d (.int .i64 cd.root),.d (.bool am),.d (.int .i64 0),.full [],.d (.bool am),.d (.int .i64 0),.d (.int .i64 0),.d (.int .i64 0),.d (.int .i64 0)]]) rfl λi h h'=>by
   match i,h with
   |0,_=>exact .inl rfl
   |1,_=>exact .inr ⟨_,by simp[BC,AG,GR,hPe],rfl⟩
  clear U;unfold J6 CQ bV at z u;simp[bne_self_eq_false]at z u;unfold J6 CQ bV;(repeat apply xS);refine yE (A3 17 [35,36]) (by kernel_rfl) ?_;simp;apply yA 1;simp[t1,t3,t10,t11,t,m,ao,hz1,hz2];refine Ad.Gz (f:=87) (args:=[.ptr 4 1 0 0,.agg [.d (AX o.cond.nodes),.d (AF o.cond.root)],.agg [.d (AX q.cond.nodes),.d (AF q.cond.root)]]) z rfl (by simp[callee];try rfl) ?_;simp;apply yA 1;simp[AB];refine Ad.pP (xT [1,1,0,0,0,0,0,0,0,0,0,0,0,0,0,0,1]) (u) (by kernel_rfl) rfl (by simp[Aa,t,m,t1,t3,t10,ao,hz1,hz2];try rfl) ?_;simp[t,m];apply yA 1;simp;clear z u Q hrq;have zm:=M7 (Z P:Int);have hh:=KT [Bd (Z P)] am 0 (Z R) (by simp;omega) (by omega);have hm2:q6 (λx=>V.d (AG x)) P++[V.d (AG (IZ g x c))]=q6 (λx=>V.d (AG x)) (P++[IZ g x c]):=by simp
  rw[hm2];have hl2:Z P+1=Z (P++[IZ g x c]):=by simp
  have hWe:Ph g x (Z g.AE+i) c=⟨x.number,a,c,Bd (Z P)::A5 0 (Z R)⟩:=by simp[Ph,ha,hR,hPl]
  generalize P++[IZ g x c]=P2 at *;(repeat apply xS);apply yT;apply yJ;simp;refine Bz (zm) rfl (by simp[xN]) (yJ ?_);simp[ao,t11];refine z0 (tv 99 4 (xs:=[Ar (Bd (Z P))]) (by simp)) ?_;refine xF (hh) [10] rfl ?_;simp;apply yJ;simp;obtain⟨TT,hTT⟩:∃TT,TT=Bd (Z P)::A5 0 (Z R):=⟨_,rfl⟩;have hTl:Z TT=1+Z R:=by rw[hTT];simp[CU];omega
  rw[<-hTl];rw[<-hTT]at hWe;refine io (fc 10 (wr:=decide (0<Z R)) (sz:=4) (els:=(TT.map Ar).map V.d) (xs:=TT.map Ar) (by rw[hTT];simp[lm]) (Cr _ _)) ?_;simp;have hi1:i+1<=1073741824:=by omega
  refine yE (A3 15 [31,32,34,37]) (by kernel_rfl) ?_;simp;apply yA 1;simp[t1,t4,t9,ao];apply xX 1025 (by kernel_rfl);simp[Aa,Ac,t1,t4,t9,v,hi1,ao,ls];apply yA 1;simp;apply xX 32765 (by kernel_rfl);simp[Aa,t1,t4,t9,ao];apply xM;have hwi:bv .i64 ((i:Int)+1)=(i+1:Nat):=by rw[c8];omega
  apply yV;simp[t54,hwi];refine⟨y7,_,_,(jp 8 (xs:=(M++[Ph g x (Z g.AE+i) c]).map Ab) rfl ?_).trans (qs 9 (S':=J6 g x o a P2 (M++[Ph g x (Z g.AE+i) c]) (i+1)) ?_ (by simp) (by simp) (by simp[J6,CQ,bV,AP,Au])),?_⟩
  .rw[hWe];simp[Be,BC,Ab]
  .rw[hWe];simp[J6,CQ,bV,ha,t,hl2,Ab]
  .simp[clean,AP,t1,t3,t4,t52,t53,hPs,hMs,J6,CQ,bV]
 .have e:i=Z (By g x):=by omega
  subst e;apply Co;have hPn:LL g x (Z (By g x))=g.AE++(By g x).map (IZ g x):=by simp[LL]
  have hMn:LI g x (Z (By g x))=H7 g x (Z g.AE) (By g x):=by simp[LI]
  have v:=Mi g x (By g x) (Z g.AE);rw[hPn,hMn,<-v];have hgj:g.AE[j]=o:=by
   have:BI g x=g.AE[j]:=by simp[BI,hj,zu]
   rw[<-this,zl]
  have A:j<Z (g.AE++(By g x).map (IZ g x)):=by simp;omega
  have hPj:(g.AE++(By g x).map (IZ g x))[j]=o:=by rw[up zu,hgj]
  have B:(j:Int)<Z (g.AE++(By g x).map (IZ g x)):=by omega
  have hjn:x.number.toNat=j:=by omega
  unfold Sy;rw[zl,hjn];generalize H7 g x (Z g.AE) (By g x)=M at *;generalize g.AE++(By g x).map (IZ g x)=P at *;unfold J6 CQ bV;refine yD (A3 13 [27]) (by kernel_rfl) ?_;simp;apply yA 1;simp[t1,hj];refine kt (II am) rfl (by simp[xN]) ?_;simp;apply yA 1;simp[A,B,t];apply xX 8189 (by kernel_rfl);simp[Aa,t1,A,hPj,B,t];apply xM;apply yW;simp;apply Am;refine⟨_,(jp 3 (xs:=(P.set j {o with cond:=⟨[],0⟩}).map AG) rfl ?_).trans ((rr (S':=CQ g x {g with AE:=P.set j {o with cond:=⟨[],0⟩}} (.row 8 (Z M)) am (!g.conds.isEmpty) (!g.AU.isEmpty) (!g.Ay.isEmpty) J++([.row J 1 [.ptr 4 1 0 0],.row J 13 [.d (AG o)],.row J 1 [.d (.bool ((a:Int)==(Z o.right:Int) - 1))]]++[.row (decide (0<Z M)) 4 (M.map λr=>.d (Ab r))])) ?_).trans (pU (ci 5) g x {g with AE:=P.set j {o with cond:=⟨[],0⟩}} M am _ _ _ _ _ [.row J 1 [.ptr 4 1 0 0],.row J 13 [.d (AG o)],.row J 1 [.d (.bool ((a:Int)==(Z o.right:Int) - 1))]])),?_⟩
  .rw[Be,gl,md,gl,gl,md];congr 1
  .simp[CQ,bV,hj,ha,lm,t]
  .simp[At,clean,ER,AP]
theorem WC(g:AD)(x:AR)(Q:Ci g x=J)(R:(Di g x.number||(Ig g x||(By g x).any (λi=>QV g x&&(Bm g i).right.isEmpty)))=J)(S:Z g.AE<=2 ^ 20)(hr:Z (BI g x).right<=2 ^ 20):
  AH prog 90 [.ptr 4 1 0 0] (bS g x) (.d (AF 311)) (FN g x g [] am):=by
 obtain⟨T,a,ha,G,H,zp⟩:=C6 Q;have K:=T;simp[CW]at K;obtain⟨j,hj⟩:∃j:Nat,x.number=j:=⟨x.number.toNat,by omega⟩;have U:j<Z g.AE:=by omega
 have y9:g.AE.isEmpty=false:=by cases h:g.AE<;>simp[h]at U⊢
 obtain⟨k,m⟩:∃k,k=O.row J 1 [.ptr 4 1 0 0]:=⟨_,rfl⟩;obtain⟨z,B⟩:∃z,z=O.row J 13 [.d (AG (BI g x))]:=⟨_,rfl⟩;obtain⟨A,u⟩:∃A,A=O.row J 1 [.d (.bool ((a:Int)==(Z (BI g x).right:Int) - 1))]:=⟨_,rfl⟩;have L:QV g x=((a:Int)==(Z (BI g x).right:Int) - 1):=by unfold QV;rw[ha]
 rw[L]at R;have M:Tz (bS g x++[k]) 4 g x:=⟨_,_,_,_,_,_,_,_,_,_,_,rfl⟩;have q:Tz (bS g x++[k,z,A]) 4 g x:=⟨_,_,_,_,_,_,_,_,_,_,_,rfl⟩;have N:(bS g x++[k]).all (Ao (Z (bS g x++[k])))=true:=by simp[bS,CQ,bV,m,AP]
 have v:(bS g x++[k,z,A]).all (Ao (Z (bS g x++[k,z,A])))=true:=by simp[bS,CQ,bV,m,B,u,AP]
 have C:=KQ M N T;have E:AH prog 169 [.ptr 4 1 0 0,.d (AF (Ji g x).index)] _ (.d (A2 (By g x))) _:=Yu q v S (Ji g x).index;have t:=Ht q v (i:=x.number) (by omega);have w:=Kd q v S Q;have F:=I5 (By g x) (λi=>((a:Int)==(Z (BI g x).right:Int) - 1)&&(Bm g i).right.isEmpty) 168 [.ptr 7 1 0 0,.ptr 5 1 0 0] (bS g x++[k,z,A]) (λi hi=>Uq q (by rw[u];rfl) (by rw[m];rfl) (FF hi));generalize Di g x.number=W at *;generalize Ig g x=X at *;generalize Y:(By g x).any (λi=>((a:Int)==(Z (BI g x).right:Int) - 1)&&(Bm g i).right.isEmpty)=b3 at *;refine zC func90 135 rfl λwf _=>?_;generalize zl:BI g x=o at *;generalize hss:Ji g x=s at *;have P:=AG.eq_1 o;have zw:=AI.eq_1 s;subst m B u;unfold bS CQ bV at *;apply yW;simp;apply yS;apply yJ;simp;refine ms rfl rfl (by simp) (f:=92) (args:=[.ptr 4 1 0 0]) (by simp[callee];try rfl) (by simp) C (yJ ?_);simp[P];(repeat apply xS);apply yV;simp;have zx:bv .i64 ((Z o.right:Int) - 1)=(Z o.right:Int) - 1:=by rw[c8];omega
 apply yW;simp[zx];(repeat apply xS);apply yV;simp;simp[ha]at E t w F;(repeat apply xS);refine yE (A3 9 []) (by kernel_rfl) ?_;simp;apply yA 1;simp[ha,G,H.symm,zw];refine Ad.Gz (f:=169) (args:=[.ptr 4 1 0 0,.d (AF s.index)]) E rfl (by simp[callee];try rfl) ?_;simp;apply yA 1;simp;cases W with
 |true=>
  apply xS;refine yD (A3 16 []) (by kernel_rfl) ?_;simp;apply yA 1;simp;refine Ad.Gz (f:=170) (args:=[.ptr 4 1 0 0,.d (AF x.number)]) t rfl (by simp[callee];try rfl) ?_;simp;apply yZ;simp;apply AQ;simp;apply yW;simp;apply Am;refine⟨_,(ea 5 (S':=CQ g x g (.full []) am (!g.conds.isEmpty) (!g.AU.isEmpty) (!g.Ay.isEmpty) (!g.AE.isEmpty)) (by simp[CQ,bV,ha]) (by simp) (by simp) (by simp)).trans (Jm g x _ _ [] am _ _ _ _ rfl),?_⟩;simp[At,clean,ER,AP]
 |false=>
  cases X with
  |true=>
   apply xS;refine yD (A3 16 []) (by kernel_rfl) ?_;simp;apply yA 1;simp;refine Ad.Gz (f:=170) (args:=[.ptr 4 1 0 0,.d (AF x.number)]) t rfl (by simp[callee];try rfl) ?_;simp;apply yZ;simp;refine Ad.Mw (f:=171) (args:=[.ptr 4 1 0 0]) w rfl rfl (by simp[callee];try rfl) ?_;simp;apply yZ;simp;apply AQ;simp;apply yW;simp;apply Am;refine⟨_,(ea 5 (S':=CQ g x g (.full []) am (!g.conds.isEmpty) (!g.AU.isEmpty) (!g.Ay.isEmpty) (!g.AE.isEmpty)) (by simp[CQ,bV,ha]) (by simp) (by simp) (by simp)).trans (Jm g x _ _ [] am _ _ _ _ rfl),?_⟩;simp[At,clean,ER,AP]
  |false=>
   obtain rfl:b3=true:=by simpa using R
   apply xS;refine yD (A3 16 []) (by kernel_rfl) ?_;simp;apply yA 1;simp;refine Ad.Gz (f:=170) (args:=[.ptr 4 1 0 0,.d (AF x.number)]) t rfl (by simp[callee];try rfl) ?_;simp;apply yZ;simp;refine Ad.Mw (f:=171) (args:=[.ptr 4 1 0 0]) w rfl rfl (by simp[callee];try rfl) ?_;simp;apply yZ;simp;refine Ad.Mw (f:=172) (args:=[.d (.sl ((By g x).map (D.int .i64))),.fn (.func 168) [] [.ptr 7 1 0 0,.ptr 5 1 0 0]]) F rfl rfl (by simp[callee];try rfl) ?_;simp;apply yZ;simp;apply AQ;simp;apply yW;simp;apply Am;refine⟨_,(ea 5 (S':=CQ g x g (.full []) am (!g.conds.isEmpty) (!g.AU.isEmpty) (!g.Ay.isEmpty) (!g.AE.isEmpty)) (by simp[CQ,bV,ha]) (by simp) (by simp) (by simp)).trans (Jm g x _ _ [] am _ _ _ _ rfl),?_⟩;simp[At,clean,ER,AP]
def wK(g:AD)(x:AR):List Symbol:=(BI g x).right.set x.at_.toNat ⟨am,Z g.Ay⟩
def aT(g:AD)(_:AR)(i:Int):AM:={Bm g i with name:=(Bm g i).name++⟨#[95,99,111,112,121]⟩,left:=Z g.Ay}
def bh(g:AD)(x:AR)(k:Nat)(i:Int):List Bo:=(([Bd x.number]++A5 0 x.at_.toNat)++[Bd k])++A5 x.at_.toNat (Z (BI g x).right - 1+Z (Bm g i).right - x.at_.toNat)
def lE(g:AD)(x:AR)(k:Nat)(i:Int):Rewrite:=⟨x.number,x.at_,i,bh g x k i⟩
def Tq(g:AD)(x:AR):Nat->List Int->List Rewrite
 |_,[]=>[]
 |k,i::l=>lE g x k i::Tq g x (k+1) l
theorem Yc(g:AD)(x:AR):∀(l:List Int) (k:Nat) (i:Int),Tq g x k (l++[i])=Tq g x k l++[lE g x (k+Z l) i]
 |[],k,i=>by simp[Tq]
 |j::l,k,i=>by simp[Tq,Yc g x l,q7,acS 1]
theorem O6(g:AD)(x:AR):∀(l:List Int) (k:Nat),Z (Tq g x k l)=Z l
 |[],_=>rfl
 |_::l,k=>by simp[Tq,O6 g x l]
def mE(g:AD)(x:AR):AD:={g with Ay:=g.Ay++[x.name],AE:=(g.AE++(By g x).map (aT g x)).set x.number.toNat {BI g x with right:=wK g x}}
def Qx(g:AD)(x:AR)(i:Nat):List AM:=g.AE++((By g x).take i).map (aT g x)
def RD(g:AD)(x:AR)(i:Nat):List Rewrite:=Tq g x (Z g.AE) ((By g x).take i)
def kR(g:AD)(x:AR)(o:AM)(P:List AM)(M:List Rewrite)(i:Nat):Sg:=
 CQ g x {g with Ay:=g.Ay++[x.name],AE:=P} (.row 7 i) am (!g.conds.isEmpty) (!g.AU.isEmpty) J J++
  [.row J 13 [.d (AG o)],.row J 2 [.d (AI ⟨am,Z g.Ay⟩)],.row (decide (0<i)) 4 (M.map λr=>.d (Ab r))]
theorem gZ(g:AD)(x:AR)(hf:Ci g x=J)(hb:Di g x.number=am)(hbc:Ig g x=am)
  (hl:Z g.AE<=2 ^ 20) (hn:Z g.Ay<=2 ^ 20) (hr:Z (BI g x).right<=2 ^ 20) (Y:∀i∈By g x,Z (Bm g i).right<=2 ^ 20/\(Bm g i).name.size<=2 ^ 20):
  AH prog 95 [.ptr 4 1 0 0] (bS g x) (.d (AF 0)) (FN g x (mE g x) (Tq g x (Z g.AE) (By g x)) am):=by
 obtain⟨hp,a,ha,E,hsy,zp⟩:=C6 hf;have hp':=hp;simp[CW]at hp';obtain⟨j,hj⟩:∃j:Nat,x.number=j:=⟨x.number.toNat,by omega⟩;have zu:j<Z g.AE:=by omega
 have y9:g.AE.isEmpty=false:=by cases h:g.AE<;>simp[h]at zu⊢
 have w:=uZ g x;have zt:(bS g x).all (Ao (Z (bS g x)))=true:=by simp[bS,CQ,bV]
 have A:=KQ w zt hp;have F:=Ht w zt (i:=x.number) (by omega);have G:=Kd w zt hl hf;rw[hb]at F;rw[hbc]at G;have hla:Z (BI g x).right<=2 ^ 20:=hr;generalize zl:BI g x=o at *;have hB2:Tz (CQ g x {g with Ay:=g.Ay++[x.name]} (.full []) am (!g.conds.isEmpty) (!g.AU.isEmpty) J (!g.AE.isEmpty)++[O.row J 13 [.d (AG o)],O.row J 2 [.d (AI ⟨am,Z g.Ay⟩)]]) 4 g x:=⟨_,_,_,_,_,_,_,_,_,_,_,rfl⟩;have H:AH prog 169 [.ptr 4 1 0 0,.d (AF (Ji g x).index)] _ (.d (A2 (By g x))) _:=Yu hB2 (by simp[CQ,bV]) hl (Ji g x).index;generalize hss:Ji g x=s at *;have t:=AG.eq_1 o;have zw:=AI.eq_1 s;have K:=U1 (S:=bS g x++[O.row J 13 [.d (AG o)]]) (r:=4) (q:=2) (k:=Z g.Ay) (g:=g) (x:=x) rfl rfl (by simp) (by omega) (by simp[Ac]) (by simp[bS,CQ,bV]);refine zC func95 128 rfl λwf _=>?_;unfold bS CQ bV at *;simp[t]at K;apply yW;simp;refine xS (yS ?_);apply yJ;simp;refine ms rfl rfl (by simp) (f:=170) (args:=[.ptr 4 1 0 0,.d (AF x.number)]) (by simp[callee];try rfl) (by simp) F ?_;simp;apply yH;simp;refine AY.JU (g:=true) (f:=171) (args:=[.ptr 4 1 0 0]) (λ_=>G) rfl rfl (by simp) (by simp) (by simp[callee]) ?_;simp;apply yH;simp;apply AQ;simp;apply xK;apply yS;apply yJ;simp;refine ms rfl rfl (by simp) (f:=92) (args:=[.ptr 4 1 0 0]) (by simp[callee];try rfl) (by simp) A (yJ ?_);simp[t];apply yW;simp;(repeat apply xS);apply yT;apply yJ;simp;refine ms rfl rfl (by simp) (f:=177) (args:=[.ptr 4 1 0 0]) (by simp[callee];try rfl) (by simp) K (yJ ?_);simp;simp[ha]at H;refine xS (yS ?_);apply yJ;simp[ha,E,hsy.symm,zw];refine ms rfl rfl (by simp) (f:=169) (args:=[.ptr 4 1 0 0,.d (AF s.index)]) (by simp[callee];try rfl) (by simp) H (yJ ?_);simp;clear A H F G K w hB2 zt;refine io (AJ.Qe 4 0 49 4 rfl rfl rfl) ?_;simp;apply Bp;refine FH (Z (By g x)) (λi tm S=>tm 0=.ptr 4 1 0 0/\tm 3=.ptr 5 1 0 0/\tm 4=.d (AF a)/\tm 5=.ptr 6 1 0 0/\tm 40=.d (A2 (By g x))/\tm 41=.d (.int .i64 (Z (By g x)))/\tm 42=.d (AF i)/\S=kR g x o (Qx g x i) (RD g x i) i) (ed _) (by simp[kR,CQ,bV,ha,t,Qx,RD,Tq,y9]) ?_;rintro i tm S hi ⟨t0,t3,t4,t5,t40,t41,t42,rfl⟩;have hcl:Z (By g x)<=Z g.AE:=KX _ _ _;apply yW;simp[t41,t42];apply xC;simp;refine⟨λy7=>?_,λzf=>?_⟩
 .have Mh:(By g x).take (i+1)=(By g x).take i++[(By g x)[i]]:=by rw[abQ,dl y7];rfl
  have hcr:=FF (cF y7);have zV:=Y _ (cF y7);obtain⟨c,hc⟩:∃c:Nat,(By g x)[i]=c:=⟨(By g x)[i].toNat,by omega⟩;have zY:c<Z g.AE:=by omega
  have L:Bm g (c:Int)=g.AE[c]:=by simp[Bm,zY]
  have hPe:aT g x c={g.AE[c]with name:=g.AE[c].name++⟨#[95,99,111,112,121]⟩,left:=Z g.Ay}:=by simp[aT,L]
  rw[hc]at zV Mh;rw[L]at zV;obtain⟨zV,hnq⟩:=zV;have hPl:Z (Qx g x i)=Z g.AE+i:=by simp[Qx];omega
  have u:Z (RD g x i)=i:=by unfold RD;rw[O6];simp;omega
  have htl:Z ((By g x).take i)=i:=by simp;omega
  have hPs:Qx g x (i+1)=Qx g x i++[aT g x c]:=by unfold Qx;rw[Mh];simp
  have hMs:RD g x (i+1)=RD g x i++[lE g x (Z g.AE+i) c]:=by unfold RD;rw[Mh,Yc,htl]
  clear Mh htl;generalize Qx g x i=P at *;generalize RD g x i=M at *;have hTe:bh g x (Z g.AE+i) c=(([Bd j]++A5 0 a)++[Bd (Z P)])++A5 a (Z o.right - 1+Z g.AE[c].right - a):=by simp[bh,hj,ha,zl,L,hPl]
  generalize hq:g.AE[c]=q at *;have v:=AG.eq_1 q;have z:q.name.size<=9223372036854775802:=by omega
  generalize hQ:aT g x c=Q at *;have heQ:=AG.eq_1 Q;have m:=Td (S:=kR g x o P M i++[.row J 13 [.d (AG Q)]]) (r:=4) (q:=3) (k:=Z P) (g:=g) (x:=x) rfl rfl (by simp) (by omega) (by simp[Ac]) Q (by simp[kR,CQ,bV,AP,Au]);unfold kR CQ bV at m⊢;simp at m;apply xK;apply xB;apply yW;simp[t40,t42,y7,hc];apply yW;simp[t0,zY,hq,v];apply yW;simp;refine yD (A3 6 [13,14,17]) (by kernel_rfl) ?_;simp;apply yA 1;simp[ao,z,t5];apply xX 57 (by kernel_rfl);simp[Aa,ao,z,t5];apply yA 1;simp;apply xX 7 (by kernel_rfl);simp[Aa,t5];apply xM;refine io (jp 8 (xs:=[AG Q]) rfl (by simp[DR,BC,hPe,AG])) ?_;simp;(repeat apply xS);apply yT;apply yJ;simp[t0];refine ms rfl rfl (by simp) (f:=174) (args:=[.ptr 4 1 0 0,.d (AG Q)]) (by simp[callee];try rfl) (by simp) m (yJ ?_);simp;clear m Y;have hm2:q6 (λx=>V.d (AG x)) P++[V.d (AG Q)]=q6 (λx=>V.d (AG x)) (P++[Q]):=by simp
  rw[hm2];have hl2:Z P+1=Z (P++[Q]):=by simp
  generalize P++[Q]=P2 at *;have hno1:=M7 (j:Int);have hno2:=M7 (Z P:Int);obtain⟨N,hN⟩:∃N,N=Z o.right - 1+Z q.right:=⟨_,rfl⟩;have zx:bv .i64 ((Z o.right:Int) - 1)=(Z o.right:Int) - 1:=by rw[c8];omega
  have zN:bv .i64 ((Z o.right:Int) - 1+Z q.right)=(N:Int):=by rw[c8];omega
  rw[<-hN]at hTe;have hh1:=KT [Bd j] am 0 a (by simp;omega) (by omega);have T:=KT (([Bd j]++A5 0 a)++[Bd (Z P)]) J a (N - a) (by simp[CU];omega) (by omega);have hrl2:a+(N - a)=N:=by omega
  rw[hrl2]at T;(repeat apply xS);apply yT;apply yJ;simp[t0,hj];refine Bz (hno1) rfl (by simp[xN]) (yJ ?_);simp[ao,t4];refine z0 (tv 73 4 (xs:=[Ar (Bd j)]) (by simp)) ?_;refine xF (hh1) [9] rfl ?_;simp;apply yJ;simp;have e5:a+1=1+a:=by omega
  have e6:1+a<=1073741823:=by omega
  simp[CU,e5]at T;(repeat apply xS);refine yE (A3 4 [10,12,14,16,18,20,22,9,25,26]) (by kernel_rfl) ?_;simp;apply yA 1;simp;refine Bs (hno2) rfl (by simp[xN]) ?_;simp;apply yA 1;simp[t3,t4,t,ao,zx,zN];apply xX 1408 (by kernel_rfl);simp[Aa,Ag,CU,Ac,l5,ls,t3,t4,ao,e5,e6,zx,zN];refine AC (xT [1,0,0,0,0,0,1,0]) (T) [9] (by kernel_rfl) rfl (by simp[Aa,t3,t4,ao,zx,zN];try rfl) ?_;simp;apply yA 1;simp;obtain⟨X,U⟩:∃X,X=Bd j::(A5 0 a++Bd (Z P:Int)::A5 a (N - a)):=⟨_,rfl⟩;have hTl:Z X=1+a+1+(N - a):=by rw[U];simp[CU];omega
  rw[<-hTl];refine io (fc 9 (wr:=true) (sz:=4) (els:=(X.map Ar).map V.d) (xs:=X.map Ar) (by rw[U];simp[lm]) (Cr _ _)) ?_;simp;have hWe:lE g x (Z g.AE+i) c=⟨x.number,a,c,X⟩:=by simp[lE,ha,hTe,U]
  have hi1:i+1<=1073741824:=by omega
  refine yE (A3 15 [31,32,34,37]) (by kernel_rfl) ?_;simp;apply yA 1;simp[t0,t4,ao];apply xX 1025 (by kernel_rfl);simp[Aa,Ac,t0,t4,u,hi1,ao,ls];apply yA 1;simp;apply xX 32765 (by kernel_rfl);simp[Aa,t0,t4,ao];apply xM;have hwi:bv .i64 ((i:Int)+1)=(i+1:Nat):=by rw[c8];omega
  apply yV;simp[t42,hwi];refine⟨y7,_,_,(jp 7 (xs:=(M++[lE g x (Z g.AE+i) c]).map Ab) rfl ?_).trans (qs 8 (S':=kR g x o P2 (M++[lE g x (Z g.AE+i) c]) (i+1)) ?_ (by simp) (by simp) (by simp[kR,CQ,bV,AP,Au])),?_⟩
  .rw[hWe];simp[Be,BC,Ab,hj]
  .rw[hWe];simp[kR,CQ,bV,ha,hj,t,hl2,Ab]
  .simp[clean,AP,t0,t3,t4,t5,t40,t41,hPs,hMs,kR,CQ,bV]
 .have e:i=Z (By g x):=by omega
  subst e;apply Co;have hPn:Qx g x (Z (By g x))=g.AE++(By g x).map (aT g x):=by simp[Qx]
  have hMn:RD g x (Z (By g x))=Tq g x (Z g.AE) (By g x):=by simp[RD]
  have u:=O6 g x (By g x) (Z g.AE);rw[hPn,hMn,<-u];have hgj:g.AE[j]=o:=by
   have:BI g x=g.AE[j]:=by simp[BI,hj,zu]
   rw[<-this,zl]
  have B:j<Z (g.AE++(By g x).map (aT g x)):=by simp;omega
  have hPj:(g.AE++(By g x).map (aT g x))[j]=o:=by rw[up zu,hgj]
  have C:(j:Int)<Z (g.AE++(By g x).map (aT g x)):=by omega
  have hjn:x.number.toNat=j:=by omega
  have han:x.at_.toNat=a:=by omega
  have hxe:o.right.isEmpty=false:=by cases h:o.right<;>simp[h]at E⊢
  have hcs:=JH o.right (by omega);rw[hxe]at hcs;unfold mE wK;rw[zl,hjn,han];generalize Tq g x (Z g.AE) (By g x)=M at *;generalize g.AE++(By g x).map (aT g x)=P at *;unfold kR CQ bV;apply yS;apply yJ;simp[t3,t];refine xF (hcs) [] rfl ?_;simp;apply yJ;simp;(repeat apply xS);apply yV;simp[t4,t5,E];obtain⟨R,hR⟩:∃R,R=o.right.set a ⟨am,Z g.Ay⟩:=⟨_,rfl⟩;have hRl:Z R=Z o.right:=by rw[hR];simp
  rw[<-hR];obtain⟨P3,W⟩:∃P3,P3=P.set j {o with right:=R}:=⟨_,rfl⟩;rw[<-W];refine io (fc 8 (wr:=true) (sz:=2) (els:=(R.map AI).map V.d) (xs:=R.map AI) (by rw[hR];simp[lm]) (Cr _ _)) ?_;simp;refine yD (A3 13 [27]) (by kernel_rfl) ?_;simp;apply yA 1;simp[t0,hj,B,C];apply xX 8189 (by kernel_rfl);simp[Aa,t0,B,hPj,C,t];apply xM;apply yW;simp;apply Am;refine⟨_,(jp 3 (xs:=P3.map AG) rfl ?_).trans ((qs 8 (S':=CQ g x {g with Ay:=g.Ay++[x.name],AE:=P3} (.row 7 (Z M)) am (!g.conds.isEmpty) (!g.AU.isEmpty) J J++([.row J 13 [.d (AG o)],.row J 2 [.d (AI ⟨am,Z g.Ay⟩)]]++[.row (decide (0<Z M)) 4 (M.map λr=>.d (Ab r))])) ?_ (by simp) (by simp) (by simp[CQ,bV,AP,Au])).trans (pU (ci 5) g x {g with Ay:=g.Ay++[x.name],AE:=P3} M am _ _ _ _ _ [.row J 13 [.d (AG o)],.row J 2 [.d (AI ⟨am,Z g.Ay⟩)]])),?_⟩
  .rw[Be,W,gl,md,gl,gl,md];congr 1;simp[BC,AG,hRl]
  .simp[CQ,bV,hj,ha,W,lm,t]
  .simp[At,clean,ER,AP]
theorem bK(g:AD)(x:AR)(m:Ci g x=J)(q:(Di g x.number||Ig g x)=J)(s:Z g.AE<=2 ^ 20):
  AH prog 95 [.ptr 4 1 0 0] (bS g x) (.d (AF 311)) (FN g x g [] am):=by
 obtain⟨t,a,ha,u,v,A⟩:=C6 m;simp[CW]at t;have h:=uZ g x;have o:(bS g x).all (Ao (Z (bS g x)))=true:=by simp[bS,CQ,bV]
 have j:=Ht h o (i:=x.number) (by omega);have k:=Kd h o s m;generalize Di g x.number=w at *;generalize Ig g x=z at *;refine zC func95 128 rfl λwf _=>?_;unfold bS CQ bV at *;(repeat apply xS);apply yV;simp;cases w with
 |true=>
  refine xS (yS ?_);apply yJ;simp;refine ms rfl rfl (by simp) (f:=170) (args:=[.ptr 4 1 0 0,.d (AF x.number)]) (by simp[callee];try rfl) (by simp) j ?_;simp;apply yH;simp;apply AQ;simp;apply yW;simp;apply Am;refine⟨_,(ea 5 (S':=CQ g x g (.full []) am (!g.conds.isEmpty) (!g.AU.isEmpty) (!g.Ay.isEmpty) (!g.AE.isEmpty)) (by simp[CQ,bV]) (by simp) (by simp) (by simp)).trans (Jm g x _ _ [] am _ _ _ _ rfl),?_⟩;simp[At,clean,ER,AP]
 |false=>
  obtain rfl:z=true:=by simpa using q
  refine xS (yS ?_);apply yJ;simp;refine ms rfl rfl (by simp) (f:=170) (args:=[.ptr 4 1 0 0,.d (AF x.number)]) (by simp[callee];try rfl) (by simp) j ?_;simp;apply yH;simp;refine AY.JU (g:=true) (f:=171) (args:=[.ptr 4 1 0 0]) (λ_=>k) rfl rfl (by simp) (by simp) (by simp[callee]) ?_;simp;apply yH;simp;apply AQ;simp;apply yW;simp;apply Am;refine⟨_,(ea 5 (S':=CQ g x g (.full []) am (!g.conds.isEmpty) (!g.AU.isEmpty) (!g.Ay.isEmpty) (!g.AE.isEmpty)) (by simp[CQ,bV]) (by simp) (by simp) (by simp)).trans (Jm g x _ _ [] am _ _ _ _ rfl),?_⟩;simp[At,clean,ER,AP]
theorem fI(g:AD)(x:AR)(k:Hv g x=J)(m:Di g x.number=J):AH prog 93 [.ptr 4 1 0 0] (bS g x) (.d (AF 311)) (FN g x g [] am):=by
 obtain⟨o,j,a,t,hj,ha,q,s,h1,u⟩:=Ha k;have h:=Ht (uZ g x) (by simp[bS,CQ,bV]) (i:=x.number) (by omega);rw[m]at h;refine zC func93 102 rfl λwf _=>?_;unfold bS CQ bV at *;apply yW;simp;refine xS (yS ?_);apply yJ;simp;refine ms rfl rfl (by simp) (f:=170) (args:=[.ptr 4 1 0 0,.d (AF x.number)]) (by simp[callee];try rfl) (by simp) h (yJ ?_);simp;apply AQ;simp;apply yW;simp;apply Am;refine⟨_,(ea 5 (S':=CQ g x g (.full []) am (!g.conds.isEmpty) (!g.AU.isEmpty) (!g.Ay.isEmpty) (!g.AE.isEmpty)) (by simp[CQ,bV]) (by simp) (by simp) (by simp)).trans (Jm g x _ _ [] am _ _ _ _ rfl),?_⟩;simp[At,clean,ER,AP]
end Go.Koi
open Go.Koi.D renaming int->bi
namespace Go.Koi
open Go.Proofs Tryz DT
theorem Hn{g:AD}{x:AR}{h:AD}{i:List Rewrite}{j:Bool}{k1 k:FuncId}(ha:AH a8 k [.ptr 4 1 0 0] (bS g x) (.CA []) (FN g x h i j)):
  AH a8 71 (.ptr 4 1 0 0::HJ J 6) (bS g x++bx k1 k) (.d (AF 0)) (FN g x h i j++bx k1 k):=by
 have h1:=ha.Nv (bx k1 k) (by simp[bS,CQ,FN]) (by simp[bS,CQ,bV]) (by simp[bS,CQ,FN]) (by simp[bS,CQ,AP]) (by simp[AP,Au]);exact dv h1 rfl
theorem rm{g:AD}{x:AR}{h:AD}{i:List Rewrite}{ae:Int}{k:FuncId}(k1 k2:FuncId)(ha:AH a8 k [.ptr 4 1 0 0] (bS g x) (.d (AF ae)) (FN g x h i am)):
  AH a8 k (.ptr 4 1 0 0::HJ am 6) (bS g x++bx k1 k2) (.d (AF ae)) (FN g x h i am++bx k1 k2):=
 ha.Nv (bx k1 k2) (by simp[bS,CQ,FN]) (by simp[bS,CQ,bV]) (by simp[bS,CQ,FN]) (by simp[bS,CQ,AP]) (by simp[AP])
theorem rB(g:AD)(x:AR)(k1 k2:FuncId):(bS g x++bx k1 k2).all (Ao (Z (bS g x++bx k1 k2)))=true:=by simp[bS,CQ,bV,bx,AP,Au]
theorem Si(g:AD)(x:AR)(k1 k2:FuncId):Tz (bS g x++bx k1 k2) 4 g x:=⟨_,_,_,_,_,_,_,_,_,_,_,rfl⟩
theorem mO{g:AD}(h:B4 g=0):Z g.AU<=2 ^ 20:=by
 have:=(Bt h).1;simp[Cz]at this;omega
theorem Gr{g:AD}(h:B4 g=0):Z g.AE<=2 ^ 20:=by
 have:=(Bt h).1;simp[Cz]at this;omega
theorem gz{g:AD}(h:B4 g=0):Z g.Ay<=2 ^ 20:=by
 have:=(Bt h).1;simp[Cz]at this;omega
theorem wx(g:AD)(x:AR)(j:x.kind=1)(k:Z g.conds<=12):
  Pure a8 7 [AA g,AK x] (D7 (Fy g (LR g (E3 ((λx:AR=>{x with number:=0,name:=⟨#[]⟩}) x)) (IT x (Z g.Ay)) 0 {g with Ay:=g.Ay.set x.number.toNat x.name} [] am))):=
 DG DF ⟨1,68,163,71,J,J,J,73,74,4,5⟩ (by simp[K8]) g x j (by omega) (λx:AR=>{x with number:=0,name:=⟨#[]⟩}) (IT x (Z g.Ay)) 0 {g with Ay:=g.Ay.set x.number.toNat x.name} [] am QR (λh m=>Jz (q:=5) (Si g x 73 74) rfl (oD g)) (λh i=>Hn (oz g x i))
  λh i _=>⟨by simp,by simp,by simp;try omega⟩
theorem x8(g:AD)(x:AR)(j:x.kind=2)(k:Z g.conds<=12):
  Pure a8 7 [AA g,AK x] (D7 (Fy g (LR g (E3 ((λx:AR=>{x with number:=0,name:=⟨#[]⟩}) x)) (CW g x) 0 {g with AE:=g.AE.set x.number.toNat {g.AE.getD x.number.toNat GR with name:=x.name}} [] am))):=
 DG DF ⟨2,68,75,71,am,J,J,73,76,4,6⟩ (by simp[K8]) g x j (by omega) (λx:AR=>{x with number:=0,name:=⟨#[]⟩}) (CW g x) 0 {g with AE:=g.AE.set x.number.toNat {g.AE.getD x.number.toNat GR with name:=x.name}} [] am QR (λh m=>FE (Si g x 73 76)) (λh i=>Hn (nr g x i))
  λh i _=>⟨by simp,by simp,by simp;try omega⟩
theorem wX(g:AD)(x:AR)(j:x.kind=3)(k:Z g.conds<=12):
  Pure a8 7 [AA g,AK x] (D7 (Fy g (LR g (E3 ((λx:AR=>{x with number:=0,name:=⟨#[]⟩}) x)) (IT x (Z g.conds)) 0 {g with conds:=g.conds.set x.number.toNat x.name} [] am))):=
 DG DF ⟨3,68,163,71,J,J,J,77,78,7,8⟩ (by simp[K8]) g x j (by omega) (λx:AR=>{x with number:=0,name:=⟨#[]⟩}) (IT x (Z g.conds)) 0 {g with conds:=g.conds.set x.number.toNat x.name} [] am QR (λh m=>Jz (q:=5) (Si g x 77 78) rfl (YZ g)) (λh i=>Hn (nB g x i))
  λh i _=>⟨by simp,by simp,by simp;try omega⟩
theorem xw(g:AD)(x:AR)(i:x.kind=4)(j:Z g.conds<=11):
  Pure a8 7 [AA g,AK x] (D7 (Fy g (LR g (E3 ((λx:AR=>{x with name:=⟨#[]⟩}) x)) (J) 0 {g with conds:=g.conds++[x.name]} [] am))):=
 DG DF ⟨4,79,67,71,am,J,J,73,80,4,9⟩ (by simp[K8]) g x i (by omega) (λx:AR=>{x with name:=⟨#[]⟩}) (J) 0 {g with conds:=g.conds++[x.name]} [] am ef (λh m=>Ix _ _) (λh k=>Hn (lr g x (by omega)))
  λh k _=>⟨by simp,by simp,by simp;try omega⟩
theorem yF(g:AD)(x:AR)(i:x.kind=5)(j:Z g.conds<=12):
  Pure a8 7 [AA g,AK x] (D7 (Fy g (LR g (E3 ((λx:AR=>{x with number:=0,value:=false}) x)) (IT x (Z g.conds)) 0 {g with fam:=(Dn and g.fam (Mq x).1).1} [] (((Mq x).2!=0)||((Dn and g.fam (Mq x).1).2!=0))))):=
 DG DF ⟨5,81,163,71,J,J,am,77,82,10,11⟩ (by simp[K8]) g x i (by omega) (λx:AR=>{x with number:=0,value:=false}) (IT x (Z g.conds)) 0 {g with fam:=(Dn and g.fam (Mq x).1).1} [] (((Mq x).2!=0)||((Dn and g.fam (Mq x).1).2!=0)) iq (λh m=>Jz (q:=5) (Si g x 77 82) rfl (YZ g)) (λh k=>Hn (m0 g x))
  λh k _=>⟨by simp,by simp,by simp;try omega⟩
theorem xb(g:AD)(x:AR)(j:x.kind=6)(k:Z g.conds<=12):
  Pure a8 7 [AA g,AK x] (D7 (Fy g (LR g (E3 ((λx:AR=>{x with number:=0,cond:=⟨[],0⟩}) x)) ((CW g x&&(HL x.cond==0))) 0 {g with AE:=g.AE.set x.number.toNat {BI g x with cond:=(Dn and (BI g x).cond x.cond).1}} [] ((Dn and (BI g x).cond x.cond).2!=0)))):=
 DG DF ⟨6,83,84,71,am,J,am,73,86,4,12⟩ (by simp[K8]) g x j (by omega) (λx:AR=>{x with number:=0,cond:=⟨[],0⟩}) ((CW g x&&(HL x.cond==0))) 0 {g with AE:=g.AE.set x.number.toNat {BI g x with cond:=(Dn and (BI g x).cond x.cond).1}} [] ((Dn and (BI g x).cond x.cond).2!=0) gn (λi m=>W7 (Si g x 73 86)) (λi h=>Hn (oT g x (by simp at h;exact h.1)))
  λi h _=>⟨by simp,by simp,by simp;try omega⟩
theorem vC(g:AD)(x:AR)(i:x.kind=10)(j:Z g.conds<=12):
  Pure a8 7 [AA g,AK x] (D7 (Fy g (LR g (E3 ((λx:AR=>{x with levels:=[]}) x)) (J) 0 {g with levels:=x.levels} [] am))):=
 DG DF ⟨10,96,67,71,am,J,am,73,97,4,13⟩ (by simp[K8]) g x i (by omega) (λx:AR=>{x with levels:=[]}) (J) 0 {g with levels:=x.levels} [] am gY (λh m=>Ix _ _) (λh k=>Hn (nO g x))
  λh k _=>⟨by simp,by simp,by simp;try omega⟩
theorem uk(g:AD)(x:AR)(i:x.kind=11)(j:Z g.conds<=12):
  Pure a8 7 [AA g,AK x] (D7 (Fy g (LR g (E3 ((λx:AR=>{x with AT:=[]}) x)) (J) 0 {g with AT:=x.AT} [] am))):=
 DG DF ⟨11,98,67,71,am,J,am,73,99,4,14⟩ (by simp[K8]) g x i (by omega) (λx:AR=>{x with AT:=[]}) (J) 0 {g with AT:=x.AT} [] am fF (λh m=>Ix _ _) (λh k=>Hn (oh g x))
  λh k _=>⟨by simp,by simp,by simp;try omega⟩
theorem vm(g:AD)(x:AR)(i:x.kind=12)(j:Z g.conds<=12):
  Pure a8 7 [AA g,AK x] (D7 (Fy g (LR g (E3 ((λx:AR=>{x with token:=Hg}) x)) (J) 0 {g with AU:=g.AU++[x.token]} [] am))):=
 DG DF ⟨12,100,67,71,am,J,am,73,101,4,15⟩ (by simp[K8]) g x i (by omega) (λx:AR=>{x with token:=Hg}) (J) 0 {g with AU:=g.AU++[x.token]} [] am fW (λh m=>Ix _ _) (λh k=>Hn (mz g x (mO h)))
  λh k _=>⟨by simp,by simp,by simp;try omega⟩
theorem vN(g:AD)(x:AR)(i:x.kind=13)(j:Z g.conds<=12):
  Pure a8 7 [AA g,AK x] (D7 (Fy g (LR g (E3 ((λx:AR=>{x with prod:=EY}) x)) (J) 0 {g with AE:=g.AE++[x.prod]} [] am))):=
 DG DF ⟨13,102,67,71,am,J,am,73,103,4,16⟩ (by simp[K8]) g x i (by omega) (λx:AR=>{x with prod:=EY}) (J) 0 {g with AE:=g.AE++[x.prod]} [] am dZ (λh m=>Ix _ _) (λh k=>Hn (dV g x (Gr h)))
  λh k _=>⟨by simp,by simp,by simp;try omega⟩
theorem u7(g:AD)(x:AR)(k:x.kind=14)(m:Z g.conds<=12)(h:Z x.Ah<=2 ^ 30):
  Pure a8 7 [AA g,AK x] (D7 (Fy g (LR g (E3 ((λx:AR=>{x with number:=0,prod:=EY,Ah:=[]}) x)) (CW g x) 0 {g with AE:=g.AE.set x.number.toNat x.prod} (RB x) am))):=
 DG DF ⟨14,104,75,71,am,J,am,73,105,4,17⟩ (by simp[K8]) g x k (by omega) (λx:AR=>{x with number:=0,prod:=EY,Ah:=[]}) (CW g x) 0 {g with AE:=g.AE.set x.number.toNat x.prod} (RB x) am aL (λi o=>FE (Si g x 73 105)) (λi j=>Hn (jF g x j))
  λi j _=>⟨by simp[RB],by simp[RB,h],by simp;try omega⟩
theorem Xu{g:AD}{x:AR}:∀{l:List Int} {k:Nat} {r:Rewrite},r∈H7 g x k l->∃i∈l,Z r.Ah=1+Z (Lu g x i)
 |[],_,_,h=>by cases h
 |i::l,k,r,h=>by
  rcases ge.1 h with rfl|h
  .exact⟨i,by simp,by simp[Ph,CU];omega⟩
  .obtain⟨j,hj,e⟩:=Xu h;exact⟨j,by simp[hj],e⟩
theorem ei{g:AD}{x:AR}:∀{l:List Int} {k:Nat} {r:Rewrite},r∈Tq g x k l->∃i∈l,Z r.Ah<=2+x.at_.toNat+(Z (BI g x).right+Z (Bm g i).right)
 |[],_,_,h=>by cases h
 |i::l,k,r,h=>by
  rcases ge.1 h with rfl|h
  .exact⟨i,by simp,by simp[lE,bh,CU];omega⟩
  .obtain⟨j,hj,e⟩:=ei h;exact⟨j,by simp[hj],e⟩
def U7(g:AD)(x:AR):Bool:=Di g x.number||(Ig g x||(By g x).any (λi=>QV g x&&(Bm g i).right.isEmpty))
def U9(g:AD)(x:AR):Bool:=Di g x.number||Ig g x
theorem Gw{g:AD}{x:AR}(h:CW g x=J):BI g x∈g.AE:=by
 simp[CW]at h;unfold BI;have:x.number.toNat<Z g.AE:=by omega
 simp[List.getD,this]
theorem GN{g:AD}{x:AR}{i:Int}(h:i∈By g x):Bm g i∈g.AE:=by
 have h1:=FF h;unfold Bm;have:i.toNat<Z g.AE:=by omega
 simp[List.getD,this]
theorem HZ{g:AD}(h:B4 g=0){p:AM}(j:p∈g.AE):Cp p.cond (Z g.conds)=true:=by
 obtain⟨_,_,_,_,i,_⟩:=Bt h;have h1:=(Ep i p j).2;simp[IU]at h1;exact h1.1.1.1
theorem eI{g:AD}(h:B4 g=0)(hn:Z g.conds<=12){p q:AM}(m:p∈g.AE)(o:q∈g.AE):(Dn and p.cond q.cond).2=0:=by
 obtain⟨i,s⟩:=FL (HZ h m);obtain⟨j,k⟩:=FL (HZ h o);rw[(KV hn (EB i) (EB j) s k).1]
abbrev Hh:=@Bool.false_ne_true
theorem mg(g:AD)(x:AR)(u:x.kind=7)(j:Z g.conds<=12)(k:∀p∈g.AE,p.name.size<=2 ^ 20):
  Pure a8 7 [AA g,AK x] (D7 (Fy g (LR g (E3 ((λx:AR=>{x with number:=0,at_:=0}) x)) (Ci g x) (if U7 g x then 311 else 0) (if U7 g x then g else Sy g x) (if U7 g x then []else H7 g x (Z g.AE) (By g x)) am))):=
 DG DF ⟨7,88,89,90,am,am,J,73,74,4,5⟩ (by simp[K8]) g x u j (λx:AR=>{x with number:=0,at_:=0}) (Ci g x) _ _ _ am iL (λh w=>N8 (Si g x 73 74) (rB g x 73 74)) (λh m=>rm _ _ (by
  have o:=(C6 m).1;have q:=D5 h;have v:=q _ (Gw o);cases hb:U7 g x with
  |true=>exact WC g x m hb (Gr h) (by omega)
  |false=>
   simp only[U7,abt]at hb;exact ZF g x m hb.1 hb.2.1 hb.2.2 (λi hi=>eI h j (Gw o) (GN hi)) (Gr h) (by omega) (λi hi=>⟨by have:=q _ (GN hi);omega,k _ (GN hi)⟩) (k _ (Gw o))))
  λh m hb=>by
   have o:=(C6 m).1;have q:=D5 h;have v:=q _ (Gw o);cases s:U7 g x with
   |true=>rw[s]at hb;cases hb
   |false=>
    refine⟨?_,λr t=>?_,by simpa[Sy]using j⟩
    .simp[Mi];exact oq (KX _ _ _) (Gr h)
    .simp at t;obtain⟨i,hi,e⟩:=Xu t;have:=q _ (GN hi);simp[Lu]at e;omega
theorem rN(g:AD)(x:AR)(u:x.kind=9)(j:Z g.conds<=12)(o:∀p∈g.AE,p.name.size<=2 ^ 20):
  Pure a8 7 [AA g,AK x] (D7 (Fy g (LR g (E3 ((λx:AR=>{x with number:=0,at_:=0,name:=⟨#[]⟩}) x)) (Ci g x) (if U9 g x then 311 else 0) (if U9 g x then g else mE g x) (if U9 g x then []else Tq g x (Z g.AE) (By g x)) am))):=
 DG DF ⟨9,94,89,95,am,am,J,73,74,4,5⟩ (by simp[K8]) g x u j (λx:AR=>{x with number:=0,at_:=0,name:=⟨#[]⟩}) (Ci g x) _ _ _ am dJ (λh z=>N8 (Si g x 73 74) (rB g x 73 74)) (λh k=>rm _ _ (by
  have q:=(C6 k).1;have m:=D5 h;have v:=m _ (Gw q);cases hb:U9 g x with
  |true=>exact bK g x k hb (Gr h)
  |false=>
   simp[U9]at hb;exact gZ g x k hb.1 hb.2 (Gr h) (gz h) (by omega) (λi hi=>⟨by have:=m _ (GN hi);omega,o _ (GN hi)⟩)))
  λh k hb=>by
   obtain⟨q,a,ha,w,_⟩:=C6 k;have m:=D5 h;have v:=m _ (Gw q);cases s:U9 g x with
   |true=>rw[s]at hb;cases hb
   |false=>
    refine⟨?_,λr t=>?_,by simpa[mE]using j⟩
    .simp[O6];exact oq (KX _ _ _) (Gr h)
    .simp at t;obtain⟨i,hi,e⟩:=ei t;have:=m _ (GN hi);omega
theorem rS(g:AD)(x:AR)(s:x.kind=8)(i:Z g.conds<=12):
  Pure a8 7 [AA g,AK x] (D7 (Fy g (LR g (E3 ((λx:AR=>{x with number:=0,at_:=0,to:=0,name:=⟨#[]⟩}) x)) (Hv g x) (if Di g x.number then 311 else 0) (if Di g x.number then g else I8 g x) (if Di g x.number then []else foldM g x) am))):=
 DG DF ⟨8,69,91,93,am,am,J,73,74,4,5⟩ (by simp[K8]) g x s i (λx:AR=>{x with number:=0,at_:=0,to:=0,name:=⟨#[]⟩}) (Hv g x) _ _ _ am ie (λh v=>ah (Si g x 73 74) (rB g x 73 74)) (λh k=>rm _ _ (by
  have m:=(Ha k).1;have u:=D5 h _ (Gw m);cases hb:Di g x.number with
  |true=>exact fI g x k hb
  |false=>exact mR g x k hb (Gr h) (gz h) (by omega)))
  λh k hb=>by
   obtain⟨m,j,a,t,hj,ha,w,z,h1,A⟩:=Ha k;have u:=D5 h _ (Gw m);cases o:Di g x.number with
   |true=>rw[o]at hb;cases hb
   |false=>
    refine⟨by simp[foldM],λr q=>?_,by simpa[I8]using i⟩;simp[foldM]at q;subst q;simp[KW,CU];omega
def yk(d e:AO):Prop:=d=e\/∃v:AO,d=(Dn and e v).1/\(Dn and e v).2=0
structure js(g h:AD)(k:Int):Prop where
 conds:Z g.conds<=Z h.conds/\Z h.conds<=12
 AU:∀i,i<Z g.AU->h.AU[i]?=g.AU[i]?
 Ay:Z g.Ay<=Z h.Ay
 yq:Z g.AE<=Z h.AE
 AE:∀i:Nat,i<Z g.AE->(i:Int)≠k->h.AE[i]?=g.AE[i]?
 start:h.start=g.start
 fam:yk h.fam g.fam
theorem VW(g h:AD)(u fit:Bool)(ae:Int)(j:List Rewrite)(k:Bool):
  ((Fy g (LR g u fit ae h j k)).2.2≠0/\(Fy g (LR g u fit ae h j k)).1=E6/\(Fy g (LR g u fit ae h j k)).2.1=[])\/(Fy g (LR g u fit ae h j k)=(h,j,0)/\okF g/\okF h/\R5 g h j=0/\u=J/\fit=J/\ae=0/\k=am):=by
 unfold Fy LR;split
 .rename_i h1;exact .inl ⟨h1,rfl,rfl⟩
 .rename_i h1;split
  .exact .inl ⟨by decide,rfl,rfl⟩
  .rename_i s;split
   .rename_i m;exact .inl ⟨m,rfl,rfl⟩
   .rename_i m;split
    .exact .inl ⟨by decide,rfl,rfl⟩
    .rename_i t;split
     .rename_i o;exact .inl ⟨o,rfl,rfl⟩
     .rename_i o;split
      .rename_i q;exact .inl ⟨q,rfl,rfl⟩
      .rename_i q;have i:(u&&fit)=true:=by simpa using s
       rw[b9]at i;exact .inr ⟨rfl,Dx.1 (by simpa using h1),Dx.1 (by simpa using o),by simpa using q,i.1,i.2,by simpa using m,by simpa using t⟩
def yP(g:AD)(x:AR):Prop:=∃(h:AD) (m:List Rewrite) (e:Int),Pure a8 7 [AA g,AK x] (.CA [AA h,BA m,AF e])/\((e≠0/\h=E6/\m=[])\/(e=0/\okF g/\okF h/\R5 g h m=0/\js g h x.number))
theorem yP.of{g h:AD}{x:AR}{u fit:Bool}{ae:Int}{i:List Rewrite}{j:Bool}(m:Pure a8 7 [AA g,AK x] (D7 (Fy g (LR g u fit ae h i j))))
  (q:okF g->fit=J->ae=0->j=am->js g h x.number):yP g x:=by
 rcases VW g h u fit ae i j with⟨h1,k,o⟩|⟨h1,k,o,s,_,t,v,w⟩
 .generalize Fy g (LR g u fit ae h i j)=r at *;obtain⟨a,b,c⟩:=r;exact⟨a,b,c,m,.inl ⟨h1,k,o⟩⟩
 .rw[h1]at m;exact⟨h,i,0,m,.inr ⟨rfl,k,o,s,q k t v w⟩⟩
theorem Tv{g h:AD}{u fit j:Bool}{ae:Int}{i:List Rewrite}(h0:okF g)(h1:(u&&fit)=J)(k:ae=0)(m:j=am)(o:okF h)(q:R5 g h i=0):Fy g (LR g u fit ae h i j)=(h,i,0):=by
 unfold Fy LR;rw[a9 (by simpa using Dx.2 h0),a9 (by simp[h1]),a9 (by simpa using k),a9 (by simp[m]),a9 (by simpa using Dx.2 o),a9 (by simpa using q)]
theorem TR{g h:AD}{m:List Rewrite}(h0:okF g)(h1:okF h)(k:Z g.AU<=Z h.AU/\Z g.Ay<=Z h.Ay)(i:m.all (GM g h)=J)(j:((List.range (Z g.AE)).all λp=>Jd g h p||MX g m p)=J):R5 g h m=0:=by
 unfold R5;rw[a9 (by simpa using Dx.2 h0),a9 (by simpa using Dx.2 h1),a9 (by omega),b8 ⟨i,j⟩]
theorem YW:Dn and Db Db=(Db,0):=by
 have g:(DT.leaf J).Good:=trivial;have h1:tr Db=.leaf true:=Sk g;have h:Valid Db:=⟨.leaf J,trivial,rfl⟩;have i:HL Db=0:=by
  unfold HL;rw[a9 (by decide),b8 h]
 have j:pQ and Db Db=Db:=by
  unfold pQ;rw[Pa (t:=.leaf J) g (λc=>by rw[h1];rfl)];rfl
 have k:Lf [Db,Db]=0:=by simp[Lf,i]
 unfold Dn;rw[k,j];simp[Db]
def xj(Ay:List ByteArray)(AE:List AM):AD:=⟨[⟨#[65]⟩,⟨#[66]⟩],Db,DQ,Ay,AE,0,[],[]⟩
def dF(name:ByteArray)(left:Int)(right:List Symbol):AM:=⟨name,left,right,Db,am,0,[],Az⟩
def pK(k n a t:Int)(name:ByteArray):AR:=⟨k,n,a,t,name,am,⟨[],0⟩,[],[],Hg,EY,[]⟩
def wY:AM:=dF ⟨#[110,117,109]⟩ 0 [⟨J,0⟩]
def yC:AM:=dF ⟨#[98,105,110]⟩ 0 [⟨am,0⟩,⟨am,1⟩,⟨am,0⟩]
def x7:AM:=dF ⟨#[112,108,117,115]⟩ 1 [⟨J,1⟩]
def xq:AM:=dF ⟨#[116,105,109,101,115]⟩ 1 [⟨J,2⟩]
def Po:ByteArray:=⟨#[98,105,110,95,112,108,117,115]⟩
def Rv:ByteArray:=⟨#[98,105,110,95,99,111,112,121]⟩
def cH:AR:=pK 7 1 1 0 ⟨#[]⟩
def gH:AD:=xj [⟨#[69]⟩,⟨#[79]⟩] [wY,{yC with cond:=xo},x7,xq,dF Po 0 [⟨am,0⟩,⟨J,1⟩,⟨am,0⟩],dF ⟨#[98,105,110,95,116,105,109,101,115]⟩ 0 [⟨am,0⟩,⟨J,2⟩,⟨am,0⟩]]
def mH:List Rewrite:=[⟨1,1,2,Bd 4::A5 0 3⟩,⟨1,1,3,Bd 5::A5 0 3⟩]
def cK:AR:=pK 8 1 1 3 ⟨#[114,101,115,116]⟩
def gK:AD:=xj [⟨#[69]⟩,⟨#[79]⟩,⟨#[114,101,115,116]⟩] [wY,{yC with right:=[⟨am,0⟩,⟨am,2⟩]},x7,xq,dF ⟨#[114,101,115,116]⟩ 2 [⟨am,1⟩,⟨am,0⟩]]
def mK:List Rewrite:=[⟨1,-1,-1,[Bd 1,C2 0,Bd 4,C2 1,C2 2]⟩]
def cS:AR:=pK 9 1 2 0 ⟨#[114,105,103,104,116]⟩
def gS:AD:=xj [⟨#[69]⟩,⟨#[79]⟩,⟨#[114,105,103,104,116]⟩] [wY,{yC with right:=[⟨am,0⟩,⟨am,1⟩,⟨am,2⟩]},x7,xq,dF ⟨#[110,117,109,95,99,111,112,121]⟩ 2 [⟨J,0⟩],dF Rv 2 [⟨am,0⟩,⟨am,1⟩,⟨am,0⟩]]
def xf:List Rewrite:=[⟨1,2,0,[Bd 1,C2 0,C2 1,Bd 4,C2 2]⟩,⟨1,2,1,[Bd 1,C2 0,C2 1,Bd 5,C2 2,C2 3,C2 4]⟩]
def cN:AR:=pK 7 0 0 0 ⟨#[]⟩
theorem gP:okF gH:=⟨Tg _ _ (by decide+kernel),Yi _ (by decide+kernel)⟩
theorem fU:okF gK:=⟨Tg _ _ (by decide+kernel),Yi _ (by decide+kernel)⟩
theorem jn:okF gS:=⟨Tg _ _ (by decide+kernel),Yi _ (by decide+kernel)⟩
theorem sE:By Kt cH=[2,3]:=by decide+kernel
theorem tJ:By Kt cS=[0,1]:=by decide+kernel
theorem rK:Sy Kt cH=gH:=by
 have g:IZ Kt cH 2=dF Po 0 [⟨am,0⟩,⟨J,1⟩,⟨am,0⟩]:=by
  unfold IZ;rw[show Dn and (BI Kt cH).cond (Bm Kt 2).cond=(Db,0)from YW];decide+kernel
 have h:IZ Kt cH 3=dF ⟨#[98,105,110,95,116,105,109,101,115]⟩ 0 [⟨am,0⟩,⟨J,2⟩,⟨am,0⟩]:=by
  unfold IZ;rw[show Dn and (BI Kt cH).cond (Bm Kt 3).cond=(Db,0)from YW];decide+kernel
 unfold Sy;rw[sE];simp[g,h];rfl
theorem sJ:H7 Kt cH (Z Kt.AE) (By Kt cH)=mH:=by decide+kernel
theorem lU:I8 Kt cK=gK:=by rfl
theorem nK:foldM Kt cK=mK:=by decide+kernel
theorem uh:mE Kt cS=gS:=by unfold mE;rw[tJ];rfl
theorem vR:Tq Kt cS (Z Kt.AE) (By Kt cS)=xf:=by decide+kernel
theorem sf:Pure a8 7 [AA Kt,AK cH] (.CA [AA gH,BA mH,AF 0]):=by
 have h:=mg Kt cH rfl (by decide) (by decide);have hb:U7 Kt cH=false:=by decide+kernel
 rw[hb,a9 Hh,a9 Hh,a9 Hh,rK,sJ]at h;rw[Tv JV (by decide+kernel) rfl rfl gP (TR JV gP (by decide) (by decide+kernel) (by decide+kernel))]at h;exact h
theorem sj:Pure a8 7 [AA Kt,AK cK] (.CA [AA gK,BA mK,AF 0]):=by
 have h:=rS Kt cK rfl (by decide);have hb:Di Kt cK.number=false:=by decide+kernel
 rw[hb,a9 Hh,a9 Hh,a9 Hh,lU,nK]at h;rw[Tv JV (by decide+kernel) rfl rfl fU (TR JV fU (by decide) (by decide+kernel) (by decide+kernel))]at h;exact h
theorem tR:Pure a8 7 [AA Kt,AK cS] (.CA [AA gS,BA xf,AF 0]):=by
 have h:=rN Kt cS rfl (by decide) (by decide);have hb:U9 Kt cS=false:=by decide+kernel
 rw[hb,a9 Hh,a9 Hh,a9 Hh,uh,vR]at h;rw[Tv JV (by decide+kernel) rfl rfl jn (TR JV jn (by decide) (by decide+kernel) (by decide+kernel))]at h;exact h
theorem applyN:Pure a8 7 [AA Kt,AK cN] (.CA [AA E6,BA [],AF 310]):=by
 have h:=mg Kt cN rfl (by decide) (by decide);have e:Ci Kt cN=false:=by decide+kernel
 unfold Fy LR at h;rw[a9 (by simpa using Dx.2 JV),b8 (by rw[e,acN])]at h;exact h
theorem bU:Pure a8 4 [] (.bool J):=by
 have aH:=sf;have aK:=sj;have aS:=tR;have aN:=applyN;have hl:(5:Nat)<=ao:=by decide
 obtain⟨q,fH2,fH3,s,fH5⟩:Z gH.AE=6/\(∃p,gH.AE[4]?=some p/\p.name=Po)/\(∃p,gH.AE[1]?=some p/\p.cond.root=0)/\Z mH=2/\(∃r,mH[1]?=some r/\r.child=3):=
  ⟨rfl,⟨_,rfl,rfl⟩,⟨_,rfl,rfl⟩,rfl,⟨_,rfl,rfl⟩⟩
 obtain⟨Y,fK2,fK3,fK4,fK5⟩:Z gK.AE=5/\(∃p,gK.AE[4]?=some p/\Z p.right=2)/\(∃p,gK.AE[1]?=some p/\Z p.right=2)/\Z mK=1/\(∃r n,mK[0]?=some r/\Z r.Ah=5/\r.Ah[2]?=some n/\n.prod=4):=
  ⟨rfl,⟨_,rfl,rfl⟩,⟨_,rfl,rfl⟩,rfl,⟨_,_,rfl,rfl,rfl,rfl⟩⟩
 obtain⟨t,fS2,fS3⟩:Z gS.AE=6/\(∃p y,gS.AE[5]?=some p/\p.name=Rv/\Z p.right=3/\p.right[2]?=some y/\y.index=0)/\(∃p y,gS.AE[1]?=some p/\Z p.right=3/\p.right[2]?=some y/\y.index=2):=
  ⟨rfl,⟨_,_,rfl,rfl,rfl,rfl,rfl⟩,⟨_,_,rfl,rfl,rfl,rfl⟩⟩
 generalize gH=H at *;generalize mH=MH at *;generalize gK=K at *;generalize mK=MK at *;generalize gS=T at *;generalize xf=MT at *;have hcH:AK cH=_:=AK.eq_1 cH;have hcK:AK cK=_:=AK.eq_1 cK;have hcS:AK cS=_:=AK.eq_1 cS;have hcN:AK cN=_:=AK.eq_1 cN;refine zP func4 175 rfl λwf=>?_;apply yW;simp;(repeat apply xS);apply yT;apply yJ;simp;refine Bz (qm) rfl (by simp) (yJ ?_);simp;generalize Kt=G at *;apply yS;apply yJ;simp[ao];refine z0 (AJ.ra 18 (AK cH) (by simp[BC,AK,cH,pK,Hg,EY,DV])) ?_;refine Bz (aH) rfl (by simp[xN]) (yJ ?_);simp;apply yS;apply yJ;simp[ao];refine z0 (AJ.ra 25 (AK cK) (by simp[BC,AK,cK,pK,Hg,EY,DV])) ?_;refine Bz (aK) rfl (by simp[xN]) (yJ ?_);simp;apply yS;apply yJ;simp[ao];refine z0 (AJ.ra 32 (AK cS) (by simp[BC,AK,cS,pK,Hg,EY,DV])) ?_;refine Bz (aS) rfl (by simp[xN]) (yJ ?_);simp;(repeat apply xS);apply yT;apply yJ;simp[ao];refine z0 (AJ.ra 39 (AK cN) (by simp[BC,AK,cN,pK,Hg,EY,DV])) ?_;refine Bz (aN) rfl (by simp[xN]) (yJ ?_);simp;obtain⟨a4,g,u⟩:=fH2;obtain⟨a1,h,v⟩:=fH3;obtain⟨r1,i,w⟩:=fH5;obtain⟨k4,S,nK4⟩:=fK2;obtain⟨k1,U,nK1⟩:=fK3;obtain⟨r0,n2,W,nR0,X,nN2⟩:=fK5;obtain⟨s5,y5,j,z,A,k,B⟩:=fS2;obtain⟨s1,y1,m,C,o,E⟩:=fS3;obtain⟨_,g⟩:=er.1 g;obtain⟨_,h⟩:=er.1 h;obtain⟨_,i⟩:=er.1 i;obtain⟨_,S⟩:=er.1 S;obtain⟨_,U⟩:=er.1 U;obtain⟨_,W⟩:=er.1 W;obtain⟨_,X⟩:=er.1 X;obtain⟨_,j⟩:=er.1 j;obtain⟨_,k⟩:=er.1 k;obtain⟨_,m⟩:=er.1 m;obtain⟨_,o⟩:=er.1 o;have F:=AG.eq_1 a4;have L:=AG.eq_1 a1;have M:=Ab.eq_1 r1;have eK4:=AG.eq_1 k4;have eK1:=AG.eq_1 k1;have eR0:=Ab.eq_1 r0;have eN2:=Ar.eq_1 n2;have N:=AG.eq_1 s5;have P:=AG.eq_1 s1;have Q:=AI.eq_1 y5;have R:=AI.eq_1 y1;refine xS (yS ?_);apply yH;simp[q,s,Y,fK4,t];apply AQ;simp;apply xK;apply yS;apply yH;simp[W,eR0,nR0,fK4,X,eN2,nN2,S,eK4,nK4,U,eK1,nK1,Y];(repeat apply xS);apply yT;(repeat((first|refine FD rfl ?_ ?_;(·simp)|refine Ov rfl ?_ ?_;(·simp[h,L,v,q,i,M,w,s,j,N,z,A,k,Q,B,m,P,C,o,R,E,t,Rv,ao])|refine Cg ?_ ?_;(·simp[g,F,u,q,Po,ao]));simp[g,F,u,h,L,v,q,i,M,w,s,j,N,z,A,k,Q,B,m,P,C,o,R,E,t,Po,Rv,ao]));apply CO;apply zT;try simp
open Go.Proofs Tryz
structure IL where
 kind:Nat
 a:Nat
 b:Nat
 c:Nat
 right:List Nat
def DC(x:IL):D:=.agg [bi .u8 (x.kind:Nat),bi .u8 (x.a:Nat),bi .u8 (x.b:Nat),bi .u8 (x.c:Nat),D.sl (x.right.map λ(k:Nat)=>bi .u8 k)]
@[simp] theorem cO(x:IL):Aj (.d (DC x))=[.d (bi .u8 (x.kind:Nat)),.d (bi .u8 (x.a:Nat)),.d (bi .u8 (x.b:Nat)),.d (bi .u8 (x.c:Nat)),.d (D.sl (x.right.map λ(k:Nat)=>bi .u8 k))]:=rfl
@[simp] theorem be(x:IL):Ap (.d (DC x))=true:=rfl
@[simp] theorem lK(x:IL):Bu (.d (DC x))=false:=rfl
@[simp] theorem bj(x:IL):BE (DC x)=[bi .u8 (x.kind:Nat),bi .u8 (x.a:Nat),bi .u8 (x.b:Nat),bi .u8 (x.c:Nat),D.sl (x.right.map λ(k:Nat)=>bi .u8 k)]:=rfl
@[simp] theorem kz(x:IL):CR.oneD (DC x)=true:=rfl
@[simp] theorem pb(x:IL):Da (DC x)=Bq [bi .u8 (x.kind:Nat),bi .u8 (x.a:Nat),bi .u8 (x.b:Nat),bi .u8 (x.c:Nat),D.sl (x.right.map λ(k:Nat)=>bi .u8 k)]:=rfl
@[simp] theorem fX(S:Sg)(x:IL):Dp S (.d (DC x))=some [bi .u8 (x.kind:Nat),bi .u8 (x.a:Nat),bi .u8 (x.b:Nat),bi .u8 (x.c:Nat),D.sl (x.right.map λ(k:Nat)=>bi .u8 k)]:=rfl
def Bi:AR:=⟨0,0,0,0,gs,am,⟨[],0⟩,[],[],⟨gs,0,gs,[],gs,⟨[],0⟩⟩,⟨gs,0,[],⟨[],0⟩,am,0,[],⟨am,0,0,0,0⟩⟩,[]⟩
def DE:V:=.agg [.d (.int .i64 0),.d (.int .i64 0),.d (.int .i64 0),.d (.int .i64 0),.d (.str gs),.d (.bool am),.full [],.d (.int .i64 0),.full [],.full [],.d (.str gs),.d (.int .i64 0),.d (.str gs),.full [],.d (.str gs),.full [],.d (.int .i64 0),.d (.str gs),.d (.int .i64 0),.full [],.full [],.d (.int .i64 0),.d (.bool am),.d (.int .i64 0),.full [],.d (.bool am),.d (.int .i64 0),.d (.int .i64 0),.d (.int .i64 0),.d (.int .i64 0),.full []]
def yh(c:AR):Prop:=1<=c.kind/\c.kind<=14/\Z c.Ah<=2 ^ 20
def yL(p:AR->Prop)(v:V)(S':Sg):Prop:=S'=[]/\∃c,v=.d (AK c)/\p c
theorem an(p:Int):Pure a8 61 [AF p] (Ar (Bd p)):=by
 refine zP func61 5 rfl λwf=>?_;apply yW;simp;apply yW;simp;apply Am;refine⟨_,_,ap,?_⟩;simp[BC,Bd,Ar]
theorem Wj(n:Nat)(hn:n<=1000):Pure a8 63 [AF 0,AF n] (.sl ((A5 0 n).map Ar)):=by
 have k:1<=ao:=by unfold ao;omega
 refine zD func63 20 rfl λwf _=>?_;apply yW;simp;apply yW;simp;refine io (tv 5 4 (xs:=[]) (by simp)) ?_;refine xS (yW ?_);simp;apply Bp;refine FH n (λi tm S=>tm 1=.d (AF n)/\tm 5=.row 0 (Z (A5 0 i))/\tm 6=.d (AF i)/\S=[.row (!(A5 0 i).isEmpty) 4 ((A5 0 i).map λt=>.d (Ar t))]) (ed _) (by simp[ER,A5]) ?_;rintro i tm S hi ⟨t1,t5,t6,rfl⟩;refine xS (yW ?_);simp[t1,t6];apply AQ;simp;refine⟨λm=>?_,λo=>?_⟩
 .have j:A5 0 (i+1)=A5 0 i++[C2 (i:Nat)]:=by simp[A5]
  have g:Z (A5 0 i)+1<=1073741824:=by rw[CU];omega
  have h:bv .i64 ((i:Int)+1)=(i+1:Nat):=by rw[c8];omega
  apply xK;apply xB;apply yV;simp[t5,t6,k,g,Ac,ls];apply yV;simp[t6,h];refine⟨m,_,_,jp 0 (xs:=(A5 0 (i+1)).map Ar) rfl ?_,?_⟩
  .rw[Be,j];simp[BC,Ar,C2]
  simp[t1,j]
 .have e:i=n:=by omega
  subst e;apply Co;(repeat apply xS);apply yV;simp[t5];(apply Am;refine⟨_,_,_,fc 0 (xs:=(A5 0 i).map Ar) rfl (by simp),?_,?_,fi 0 (S':=[]) rfl (by simp)⟩<;>simp[BC])
theorem QO(l m:List Symbol)(a b:Nat)(ha:a<=Z l)(hb:b<=Z l)(C:Z l<=1000)(A:Z m<=1000):Pure a8 62 [As l,AF a,AF b,As m] (As (l.take a++(m++l.drop b))):=by
 have h0:0<=ao:=ed _;refine zD func62 23 rfl λwf _=>?_;have t:(a:Int)<=Z l:=by omega
 have g:min a (Z l)=a:=by omega
 have u:a<=1073741824:=by omega
 have i:a+Z m<=1073741824:=by omega
 have k:a+(Z m+(Z l - b))<=1073741824:=by omega
 have j:Ac 2 (q6 (V.d ∘ AI) m):=by
  intro y o;obtain⟨s,_,rfl⟩:=fd.1 o;simp
 have B:(b:Int)<=Z l:=by omega
 have h:Ac 2 (List.take a (q6 (V.d ∘ AI) l)):=by
  intro y o;obtain⟨s,_,rfl⟩:=fd.1 (abr o);simp
 have q:Ac 2 (List.drop b (q6 (V.d ∘ AI) l)):=by
  intro y o;obtain⟨s,_,rfl⟩:=fd.1 (ab7 o);simp
 apply yW;simp;apply yS;(iterate 1 (refine Cg (by simp) ?_;simp));refine z0 (tv 10 2 (xs:=[]) (by simp)) ?_;simp;apply yJ;simp[t,h,g,u];(repeat apply xS);apply yV;simp[g,h,i,j];have z:List.take (Z l) (q6 AI l)=q6 AI l:=vq (by simp);refine nt (R:=λtm S=>tm 8=.row 0 (a+Z m+(Z l - b))/\∃w:Bool,S=[.row w 2 ((l.take a++(m++l.drop b)).map λs=>.d (AI s))]) ?_ ?_
 .by_cases v:b<Z l
  .apply yT;apply yJ;simp[B,v,z,g,h,q,j,k,q7];unfold HQ;simp[q7,lm,Bool.or_assoc]
  .obtain rfl:b=Z l:=by omega
   apply yT;apply yJ;simp[z,g,h,q,j,i];unfold HQ;simp[lm]
 rintro tm S ⟨t8,w,rfl⟩;apply Am;refine⟨_,_,_,fc 0 (xs:=(l.take a++(m++l.drop b)).map AI) rfl ?_,by simp,by simp[t8,BC,g,q7],fi 0 (S':=[]) rfl (by simp)⟩;rw[Be];simp[BC,lm]
def yi(v:V)(S':Sg):Prop:=S'=[]/\∃p k:Int,v=.d (.CA [AF p,AF k])
theorem jT(g:AD)(a b:Nat)(ha:a<256)(hb:b<256)(w:0<Z g.AE)(Y:Z g.AE<=100)(hr:∀p∈g.AE,Z p.right<=16):
  BL a8 18 [.d (AA g),.d (.int .u8 a),.d (.int .u8 b)] [] yi:=by
 have zk:1<=ao:=by unfold ao;omega
 have U:bv .i64 (a:Int)=a:=by rw[c8];omega
 have wb:bv .i64 (b:Int)=b:=by rw[c8];omega
 have z:¬Z g.AE=0:=by omega
 have A:g.AE≠[]:=by intro e;simp[e]at w
 refine Ks func18 (by kernel_rfl) rfl (by simp) λwf _=>?_;rw[ntmps18];apply yW;simp;apply yW;simp;refine nt (R:=λtm S=>tm 1=.d (.int .u8 a)/\tm 8=.d (AF (Z g.AE))) ?_ ?_
 .apply yW;simp;apply Bp;refine FH (Z g.AE) (λi tm S=>tm 1=.d (.int .u8 a)/\tm 2=.d (.int .u8 b)/\tm 3=.ptr 0 1 0 0/\tm 8=.d (AF (Z g.AE))/\tm 9=.d (AF i)/\S=[.row J 9 [.d (AA g)]]) (ed _) (by simp) ?_;rintro i tm S hi ⟨t1,t2,t3,t8,t9,rfl⟩;refine xS (yW ?_);simp[t8,t9];apply AQ;simp;refine⟨λy7=>?_,λzf=>?_⟩
  .obtain⟨p,W⟩:=ce ((a+i) % Z g.AE);have k:p<Z g.AE:=by rw[<-W];exact pm _ w
   have hw:bv .i64 ((a:Int)+i)=((a+i:Nat):Int):=by rw[c8];omega
   have H:(((a+i:Nat):Int).tmod (Z g.AE))=p:=by rw[i7 (by omega),<-W];simp
   have K:bv .i64 ((i:Int)+1)=(i+1:Nat):=by rw[c8];omega
   generalize hN:a+i=N at *;apply xK;apply xB;(repeat apply xS);apply yV;simp[t1,t8,t9,U,hw,H,z];have hrp:=hr _ (cF k);generalize B:g.AE[p]=o at *;have C:=AG.eq_1 o;apply yW;simp;refine io (tv 11 1 (xs:=[]) (by simp)) ?_;refine nt (R:=λtm S=>tm 1=.d (.int .u8 a)/\tm 2=.d (.int .u8 b)/\tm 3=.ptr 0 1 0 0/\tm 8=.d (AF (Z g.AE))/\tm 9=.d (AF i)/\tm 10=.d (AF p)/\∃L:List Int,tm 11=.row 1 (Z L)/\Z L<=100/\S=[.row J 9 [.d (AA g)],.row (!L.isEmpty) 1 (L.map λv=>.d (AF v))]) ?_ ?_
   .apply yW;simp;apply Bp;refine FH (Z o.right) (λj tm S=>tm 1=.d (.int .u8 a)/\tm 2=.d (.int .u8 b)/\tm 3=.ptr 0 1 0 0/\tm 8=.d (AF (Z g.AE))/\tm 9=.d (AF i)/\tm 10=.d (AF p)/\tm 12=.d (AF j)/\∃L:List Int,tm 11=.row 1 (Z L)/\Z L<=j/\S=[.row J 9 [.d (AA g)],.row (!L.isEmpty) 1 (L.map λv=>.d (AF v))]) (ed _) ⟨by simp[ER,t1],by simp[ER,t2],by simp[ER,t3],by simp[ER,t8],by simp[ER,t9],by simp[ER],by simp[ER],[],by simp[ER],by simp,by simp⟩ ?_;rintro j tm S hj ⟨t1,t2,t3,t8,t9,t10,t12,L,t11,M,rfl⟩;refine xS (yW ?_);simp[t3,t10,t12,k,B,C];apply AQ;simp;refine⟨λm=>?_,λhgj=>?_⟩
    .have E:bv .i64 ((j:Int)+1)=(j+1:Nat):=by rw[c8];omega
     generalize P:o.right[j]=s at *;have zw:=AI.eq_1 s;have Q:Z L+1<=1073741824:=by omega
     apply xK;apply xB;(repeat apply xS);apply yV;simp[t3,t10,t12,k,B,C,m,P,zw];cases X:s.token with
     |true=>
      apply AQ;simp;apply B8;apply yV;simp[t12,E];exact⟨m,_,_,ap,by simp[t1],by simp[t2],by simp[t3],by simp[t8],by simp[t9],by simp[t10],by simp,L,by simp[t11],by omega,rfl⟩
     |false=>
      apply AQ;simp;apply yV;simp[t11,t12,zk,Q,Ac];apply yV;simp[t12,E];exact⟨m,_,_,ap,by simp[t1],by simp[t2],by simp[t3],by simp[t8],by simp[t9],by simp[t10],by simp,L++[(j:Int)],by simp,by simp;omega,by simp⟩
    .apply Co;exact⟨t1,t2,t3,t8,t9,t10,L,t11,by omega,rfl⟩
   rintro tm S ⟨t1,t2,t3,t8,t9,t10,L,t11,M,rfl⟩;(repeat apply xS);apply yV;simp[t11];by_cases t:Z L=0
   .have h:L=[]:=acK t;subst h;apply AQ;simp;apply B8;apply yV;simp[t9,K];refine⟨y7,_,_,qs 1 (S':=[.row J 9 [.d (AA g)]]) rfl (by simp) (by simp) (by simp),?_⟩;simp[clean,AP,t1,t2,t3,t8]
   .obtain⟨q,F⟩:=ce (b % Z L);have T:q<Z L:=by rw[<-F];exact pm _ (by omega)
    have u:((b:Int).tmod (Z L))=q:=by rw[i7 (by omega),<-F];simp
    have G:0<Z L:=by omega
    have h:L≠[]:=λe=>t (by rw[e];rfl);apply AQ;simp[G];(repeat apply xS);refine yE (A3 11 []) (by kernel_rfl) ?_;simp;apply yA 1;simp[t2,t10,t11,wb,u,t,T];apply Am;refine⟨_,_,ap,by simp,_,_,⟨rfl,p,L[q],rfl⟩,.inl ⟨.CA [AF p,AF L[q]],_,by simp[BC],rfl,fi 0 rfl (by simp)⟩⟩
  .apply Co;simp[t1,t8]
 rintro tm S ⟨t1,t8⟩;obtain⟨q,H⟩:=ce (a % Z g.AE);have u:((a:Int).tmod (Z g.AE))=q:=by rw[i7 (by omega),<-H];simp
 apply yW;simp[t1,t8,U,u,z];apply Am;refine⟨_,_,ap,by simp,_,_,⟨rfl,q,0,rfl⟩,.inl ⟨.CA [AF q,AF 0],_,by simp[BC],rfl,fi 0 (S':=[]) rfl (by simp)⟩⟩
def bH(g:AD)(k:Nat):Symbol:=
 if k % (Z (EU g (Z g.AU))+5)<Z (EU g (Z g.AU)) then⟨J,(EU g (Z g.AU)).getD (k % (Z (EU g (Z g.AU))+5)) 0⟩
 else⟨am,(((k % (Z (EU g (Z g.AU))+5)) - Z (EU g (Z g.AU))) % Z g.Ay:Nat)⟩
def F2(f:Nat->Symbol)(l:List Nat)(i:Nat):List Symbol:=(l.take i).map f
theorem V7{f:Nat->Symbol}{l:List Nat}{i:Nat}(h:i<Z l):F2 f l (i+1)=F2 f l i++[f l[i]]:=by
 unfold F2;rw[vj h,xv];rfl
theorem Z7(f:Nat->Symbol)(l:List Nat)(i:Nat):Z (F2 f l i)<=i:=by
 unfold F2;rw[oj,abM];omega
theorem aC{f:Nat->Symbol}{l:List Nat}{i j:Nat}(hi:Z l<=i)(hj:Z l<=j):F2 f l i=F2 f l j:=by
 unfold F2;rw[vq hi,vq hj]
theorem XK(g:AD)(l:List Nat)(X:∀k∈l,k<256)(ht:Z g.AU=11)(Y:0<Z g.Ay)(hn1:Z g.Ay<=3):
  Pure a8 20 [AA g,.sl (l.map λ(k:Nat)=>bi .u8 k)] (As (F2 (bH g) l 4)):=by
 have T:1<=ao:=by unfold ao;omega
 have w:=J9 g (by omega);have hol:=Rn g (Z g.AU);have H:∀k,bH g k=_:=λk=>bH.eq_1 g k;generalize bH g=f at *;generalize EU g (Z g.AU)=O at *;have K:¬Z g.Ay=0:=by omega
 have L:g.Ay≠[]:=by intro e;simp[e]at Y
 refine AH.F8 func20 (by kernel_rfl) rfl (by simp) λwf _=>?_;have a1:Z l<=ao:=by have:=wf.2.1;simp[K0,Da]at this;exact this.1
 rw[ntmps20];apply yW;simp;apply yW;simp;refine io (tv 5 2 (xs:=[]) (by simp)) ?_;apply yS;apply yJ;simp;refine Bz (w) rfl (by simp[xN]) (yJ ?_);simp;refine xS (yW ?_);simp;apply Bp;refine FH (Z l) (λi tm S=>tm 1=.d (.sl (l.map λ(k:Nat)=>bi .u8 k))/\tm 2=.ptr 0 1 0 0/\tm 6=.d (A2 O)/\tm 7=.d (AF i)/\i<=4/\tm 5=.row 1 (Z (F2 f l i))/\S=[.row J 9 [.d (AA g)],.row (!(F2 f l i).isEmpty) 2 ((F2 f l i).map λs=>.d (AI s))]) (ed _) ⟨by simp[ER],by simp[ER],by simp[ER],by simp[ER],by omega,by simp[ER,F2],by simp[F2]⟩ ?_;rintro i tm S hi ⟨t1,t2,t6,t7,hi4,t5,rfl⟩;have hLl:=Z7 f l i;by_cases o:i<Z l
 .have C:(i:Int)<Z l:=by omega
  by_cases U:i<4
  .have t:(i:Int)<4:=by omega
   have hki:=X _ (cF o);have F:=V7 (f:=f) o;generalize N:l[i]=k at *;have z:=H k;have wk:bv .i64 (k:Int)=k:=by rw[c8];omega
   have w5:bv .i64 ((Z O:Int)+5)=((Z O+5:Nat):Int):=by rw[c8];omega
   obtain⟨q,G⟩:=ce (k % (Z O+5));have P:((k:Int).tmod ((Z O+5:Nat):Int))=q:=by rw[i7 (by omega),<-G];simp
   have Q:¬Z O+5=0:=by omega
   have hqM:q<Z O+5:=by rw[<-G];exact pm _ (by omega)
   have A:bv .i64 ((i:Int)+1)=(i+1:Nat):=by rw[c8];omega
   have B:Z (F2 f l i)+1<=1073741824:=by omega
   generalize hM:Z O+5=M at *;refine xS (yS ?_);apply yH;simp[t1,t7,C,t];apply AQ;simp;apply xK;apply xB;apply yW;simp[t1,t6,t7,o,N,wk,w5,P,Q];(repeat apply xS);apply yV;simp[t6];by_cases m:q<Z O
   .have h:(q:Int)<Z O:=by omega
    apply AQ;simp[m];apply yT;apply yJ;simp[t5,t6,m,h];refine Bz (Dc O[q]) rfl (by simp[xN]) (yJ ?_);simp[T,B,Ac,ls];apply yV;simp[t7,A];have v:f k=⟨J,O[q]⟩:=by rw[z,G,b8 m];simp[m]
    rw[v]at F;refine⟨o,_,_,ap,?_⟩;simp[t1,t2,t6,F,AI];omega
   .have h:¬(q:Int)<Z O:=by omega
    have wd:bv .i64 ((q:Int) - Z O)=((q - Z O:Nat):Int):=by rw[c8];omega
    obtain⟨u,W⟩:=ce ((q - Z O) % Z g.Ay);have R:(((q - Z O:Nat):Int).tmod (Z g.Ay))=u:=by rw[i7 (by omega),<-W];simp
    generalize hD:q - Z O=E at *;apply AQ;simp[m];apply yT;apply yJ;simp[t2,t5,t6,wd,R,K];refine Bz (Ex u) rfl (by simp[xN]) (yJ ?_);simp[T,B,Ac,ls];apply yV;simp[t7,A];have v:f k=⟨am,u⟩:=by rw[z,G,a9 m,hD,W]
    rw[v]at F;refine⟨o,_,_,ap,?_⟩;simp[t1,t2,t6,F,AI];omega
  .have t:¬(i:Int)<4:=by omega
   refine xS (yS ?_);apply yH;simp[t1,t7,C,t];apply AQ;simp;apply Co;(repeat apply xS);apply yV;simp[t5];obtain rfl:i=4:=by omega
   apply Am;refine⟨_,_,_,fc 1 (xs:=(F2 f l 4).map AI) rfl (by simp),by simp,by simp[BC],fi 0 (S':=[]) rfl (by simp)⟩
 .have C:¬(i:Int)<Z l:=by omega
  refine xS (yS ?_);apply yH;simp[t1,t7,C];apply AQ;simp;apply Co;(repeat apply xS);apply yV;simp[t5];rw[<-aC (f:=f) (l:=l) (i:=i) (j:=4) (by omega) (by omega)];apply Am;refine⟨_,_,_,fc 1 (xs:=(F2 f l i).map AI) rfl (by simp),by simp,by simp[BC],fi 0 (S':=[]) rfl (by simp)⟩
end Go.Koi
