/-
  Part 14 of the proof that the law ChangeRestricts returns true for every input.
-/
import Derived.Test.YtbpjppgjnkklnaaGreatDoorG12
set_option maxHeartbeats 64000000
set_option maxRecDepth 100000
open List renaming length->Z,range->i6,map->o4
open Go.IntKind renaming wrap->b8,bits->pi,signed->pm,wrap->pn
open Bool renaming true->J,false->ap
open Array renaming replicate->Bk
open Option renaming some->am
namespace Go.Koi
open Go renaming maxLen->a8,FuncId->eN
open Go.Proofs DT
def Mm(t:Token):Token:={t with cond:=Dg}
structure VG(g:AE)(kn:Bool):Prop where
 tk:g.AT.map Mm=De
 tf:∀t∈g.AT,B1 t.cond (Z g.conds)=J
 fam:En g=J
 A0:Hp g=J
 pr:Cs g [⟨#[]⟩] g.AD=0
 lv:EH g [] g.levels=J
 fl:Du g=J
 sz:∀p∈g.AD,Z p.right<=16/\Z p.layout<=16
 nm:∀p∈g.AD,∀k,Z g.AD<=k->k<120->p.name≠JV k
 ac:∃N:Int->Bool,Kl g N Int.toNat/\(kn=ap->∀x,N x=J)
theorem VG.len{g:AE}{kn:Bool}(h:VG g kn):Z g.AT=11:=by
 have:=l5 Z h.tk;rw[y3]at this;exact this.trans rfl
theorem VG.tok{g:AE}{kn:Bool}(h:VG g kn){k:Nat}(j:k<9):∃t,g.AT[k]?=some t/\t.cls=0/\(IG t=J↔k≠0):=by
 have u:=h.len;have i:k<Z g.AT:=by omega
 refine⟨g.AT[k],ej i,?_⟩;have e:Mm g.AT[k]=De[k]'(by show k<11;omega):=by
  have:=l5 (λl=>l[k]?) h.tk;simp[ej i,ej (show k<Z De by show k<11;omega)]at this;exact this
 have m:g.AT[k].cls=(Mm g.AT[k]).cls:=rfl;have o:IG g.AT[k]=IG (Mm g.AT[k]):=rfl;have q:((i6 9).all λk=>match De[k]? with|some t=>decide (t.cls=0)&&(IG t==decide (k≠0))|none=>ap)=true:=by decide+kernel
 have:=ed.1 q k (by simpa using j);rw[ej (show k<Z De by show k<11;omega)]at this;simp at this;rw[m,o,e];exact⟨this.1,by rw[this.2];simp⟩
theorem VG.AT{g:AE}{kn:Bool}(h:VG g kn):Eh g=true:=by
 have i:=MS;have k:g.AT.map (·.name)=De.map (·.name):=by rw[<-h.tk,m0];rfl
 simp[Eh,k,i.1];intro t j;have m:Mm t∈De:=by rw[<-h.tk];exact g7.2 ⟨t,j,rfl⟩
 have:=ed.1 i.2 _ m;simp[mU]at this;obtain⟨⟨⟨o,q⟩,_⟩,u⟩:=this;have b1:0<=t.cls:=o;have v:t.cls<=2:=q;have w:Kr t=true:=u;simp[Hg,b1,v,w,h.tf t j]
theorem VG.F7{g:AE}{kn:Bool}(h:VG g kn)(k:Z g.conds<=3)(m:Z g.A0<=3)(o:Z g.AD<=100)(q:Z g.levels<=100)(u:Z g.AR<=100):B3 g=0:=by
 have v:=h.len;have i:Cq g=false:=by
  have:g.AD.any MB=false:=tg.2 λp j=>by
   have:=h.sz p j;simp[MB];omega
  simp[Cq,this];omega
 simp[B3,i,DN,h.fam,h.AT,h.A0,h.pr,h.lv,h.fl,FY]
theorem VG.okF{g:AE}{kn:Bool}(h:VG g kn)(i:Z g.conds<=3)(j:Z g.A0<=3)(k:Z g.AD<=100)(m:Z g.levels<=100)(o:Z g.AR<=100):Koi.okF g:=by
 obtain⟨N,q,_⟩:=h.ac;exact⟨h.F7 i j k m o,q.none⟩
theorem Ox{g g':AE}(m:∀p,Es g' p=Es g p)(o:∀p,HR g' p=HR g p){q:AO}(i:Es g q=J)(j:HR g q=J):
  ∀{l:List AO} {L:List ByteArray},Cs g L l=0->Fm L q.name=ap->(∀p∈l,p.name≠q.name)->Cs g' L (l++[q])=0
 |[],L,_,k,_=>by simp[Cs,m,o,i,j,k]
 |p::l,L,h,k,u=>by
  unfold Cs at h;split at h
  .cases h
  .next c1=>
   split at h
   .cases h
   .next v=>
    rw[x3];unfold Cs;rw[m,o,bv c1,bv v];refine Ox m o i j h ?_ λx w=>u x (by simp[w]);have:¬(p.name=q.name):=u p (by simp);simp[Fm,List.any_append,List.any_nil,this]at k⊢;exact k
theorem Ff{g g':AE}(h:∀p,Es g' p=Es g p)(i:∀p,HR g' p=HR g p):∀(l:List AO) (L:List ByteArray),Cs g' L l=Cs g L l
 |[],_=>rfl
 |p::l,L=>by simp[Cs,h,i,Ff h i l]
theorem Kp{N M:Nat}(h:N<=M):∀{l u v:List Int},Ch N u l=some v->Ch M u l=some v
 |[],_,_,e=>e
 |p::l,u,v,e=>by
  unfold Ch at e⊢;split at e
  .cases e
  .next g=>
   simp at g;rw[bv (by simp;exact⟨g.1,by omega,g.2.2⟩)];exact Kp h e
theorem OD{N:Nat}:∀{l u v:List Int},Ch N u l=some v->v=u++l
 |[],u,v,e=>by simp[Ch]at e;simp[e]
 |p::l,u,v,e=>by
  unfold Ch at e;split at e
  .cases e
  .have:=OD e;simp[this]
theorem Nb{N:Nat}:∀{l u:List Int},l.Nodup->(∀p∈l,0<=p/\p<N/\p∉u)->Ch N u l=some (u++l)
 |[],u,_,_=>by simp[Ch]
 |p::l,u,i,h=>by
  obtain⟨v,w,k⟩:=h p (by simp);unfold Ch;rw[bv (by simp;exact⟨by omega,by omega,k⟩),Nb (acy.1 i).2 λx j=>?_]
  .simp
  .obtain⟨m,o,q⟩:=h x (by simp[j]);refine⟨m,o,λg=>?_⟩;rcases fi.1 g with g|g
   .exact q g
   .simp at g;subst g;exact(acy.1 i).1 j
theorem E1{g g':AE}(k:g'.conds=g.conds)(m:Z g.AD<=Z g'.AD):∀{i:List Level} {u:List Int},EH g u i=J->EH g' u i=J
 |[],_,_=>rfl
 |l::i,u,h=>by
  unfold EH at h⊢;rw[k];split at h
  .next o=>
   rw[ca o];cases j:Ch (Z g.AD) u l.AD with
   |none=>rw[j]at h;cases h
   |some v=>rw[j]at h;rw[Kp m j];exact E1 k m h
  .cases h
theorem RM{g:AE}{l:Level}(w:0<=l.assoc)(A:l.assoc<=3)(B:B1 l.cond (Z g.conds)=J)(C:l.AD.Nodup)(o:∀p∈l.AD,0<=p/\p<Z g.AD):
  ∀{m:List Level} {u:List Int},EH g u m=J->(∀p∈l.AD,p∉u/\∀x∈m,p∉x.AD)->EH g u (m++[l])=J
 |[],u,_,k=>by
  have:=Nb (u:=u) C λp i=>⟨(o p i).1,(o p i).2,(k p i).1⟩;simp[EH,w,A,B,this]
 |a::m,u,h,k=>by
  rw[x3];unfold EH at h⊢;split at h
  .next E=>
   rw[ca E];cases q:Ch (Z g.AD) u a.AD with
   |none=>rw[q]at h;cases h
   |some v=>
    rw[q]at h;refine RM w A B C o h λp i=>⟨λj=>?_,λx F=>(k p i).2 x (by simp[F])⟩;rw[OD q]at j;rcases fi.1 j with j|j
    .exact(k p i).1 j
    .exact(k p i).2 a (by simp) j
  .cases h
theorem Im{g g':AE}(A:g'.conds=g.conds)(B:g'.A0=g.A0)(v:g'.AT=g.AT)(w:∀(i:Nat) p,g.AD[i]?=some p->g'.AD[i]?=some p){f:Filter}(h:Ek g f=J):Ek g' f=true:=by
 simp[Ek]at h⊢;refine⟨?_,h.2⟩;have j:=h.1;unfold FB at j⊢;rw[A,B];have m:∀k l,Gn g' k l=Gn g k l:=λk l=>by unfold Gn FZ;rw[v]
 have o:∀i k,Gd g' i k=Gd g i k:=λi k=>by unfold Gd;rw[v]
 simp only[m,o];split at j
 .next c=>
  rw[ca c];simp only[cF]at j⊢;refine⟨j.1,?_⟩;have q:=j.2;unfold JU at q⊢;simp only[cF]at q⊢;refine⟨q.1,?_⟩;have u:=q.2;split at u
  .next p c C E=>rw[w _ _ C,w _ _ E];exact u
  .cases u
 .next c=>
  rw[bv c];exact j
theorem Kl.line{g:AE}{N:Int->Bool}{q:AO}(h:Kl g N Int.toNat)(m:DO q.right=ap->(∀x,N x=J)/\0<=q.left/\∀s∈q.right,q.left<s.index):Kl {g with AD:=g.AD++[q]} N Int.toNat:=by
 refine⟨λp i ha k=>?_,λp i j hj o ha k=>?_⟩
 .rcases fi.1 i with i|i
  .exact h.1 p i ha k
  .simp at i;subst i;exact(m ha).1 _
 .rcases fi.1 i with i|i
  .exact h.2 p i j hj o ha k
  .simp at i;subst i;have u:DO p.right=false:=by
    unfold DO Dr at *;rw[<-abV j p.right,Hh hj];simp only[List.any_append,adW,SS]at ha⊢;exact⟨ha.1,o,ha.2⟩
   obtain⟨_,h0,v⟩:=m u;have:=v _ (cL hj);omega
theorem VG.line{g:AE}{kn:Bool}(h:VG g kn)(hp:Z g.AD<100){q:AO}(m:T9 g kn q):VG {g with AD:=g.AD++[q]} kn:=by
 have w:Es g q=true:=by
  obtain⟨lf,A,v⟩:=m.left;have u:Fi g ⟨ap,q.left⟩=true:=by simp[Fi,v,A]
  simp[Es,u];intro s L;rcases m.syms s L with⟨B,k,o,C⟩|⟨B,k,o,C⟩
  .obtain⟨t,M,P,_⟩:=h.tok o;simp[Fi,B,C,M,P]
  .simp[Fi,B,C,o]
 have E:HR g q=true:=by simp[HR,m.fits,m.r1,m.r2,m.xb]
 have Q:∀p∈g.AD,p.name≠q.name:=λp j=>by rw[m.name];exact h.nm p j _ (c9 _) (by omega)
 have F:Fm [⟨#[]⟩] q.name=false:=by
  rw[m.name];have u:(JV (Z g.AD)).size=2:=by simp[JV,Hm]
  have G:¬((⟨#[]⟩:ByteArray)=JV (Z g.AD)):=λe=>by rw[<-e]at u;simp at u
  simp[Fm,G]
 refine⟨h.tk,h.tf,h.fam,h.A0,Ox (g:=g) (g':={g with AD:=g.AD++[q]}) (λ_=>rfl) (λ_=>rfl) w E h.pr F Q,E1 (g:=g) (g':={g with AD:=g.AD++[q]}) rfl (by simp) h.lv,?_,λp j=>?_,λp j k o H=>?_,?_⟩
 .simp[Du];intro f R;refine Im (g:=g) (g':={g with AD:=g.AD++[q]}) rfl rfl rfl (λi p e=>?_) (ed.1 h.fl f R);show(g.AD++[q])[i]?=some p
  rw[io (by have:=gq.1 e;exact this.1)];exact e
 .rcases fi.1 j with j|j
  .exact h.sz p j
  .simp at j;subst j;have:=m.len;have:=m.lay;omega
 .have S:Z g.AD+1<=k:=by simpa using o
  rcases fi.1 j with j|j
  .exact h.nm p j k (by omega) H
  .simp at j;subst j;rw[m.name];intro e;have u:b8 .u8 (97+(Z g.AD:Int))=97+(Z g.AD:Int):=by simp[pn,pm,pi];omega
   have G:b8 .u8 (97+(k:Int))=97+(k:Int):=by simp[pn,pm,pi];omega
   have K:=l5 (λs:ByteArray=>s.data.toList) e;simp[JV,JI,u,G,ByteArray.data_append,ByteArray.data_push]at K;have T:UInt8.ofNat (97+(Z g.AD:Int)).toNat=UInt8.ofNat (97+(k:Int)).toNat:=by simpa using K
   have U:=l5 UInt8.toNat T;simp at U;omega
 .obtain⟨N,W,o⟩:=h.ac;refine⟨N,W.line λha=>?_,o⟩;obtain⟨X,Y⟩:=m.later ha;obtain⟨lf,_,v⟩:=m.left;exact⟨o X,by omega,Y⟩
theorem XF{l j:List Token}(h:j.map Mm=l.map Mm)(i:Nat):(j[i]?=none/\l[i]?=none)\/∃k t,j[i]?=some k/\l[i]?=some t/\Mm k=Mm t:=by
 have g:=l5 (λx=>x[i]?) h;simp at g;cases o:j[i]? with
 |none=>
  cases m:l[i]? with
  |none=>exact .inl ⟨rfl,rfl⟩
  |some t=>rw[o,m]at g;cases g
 |some k=>
  cases m:l[i]? with
  |none=>rw[o,m]at g;cases g
  |some t=>
   rw[o,m]at g;simp at g;exact .inr ⟨k,t,rfl,rfl,g⟩
theorem Ri{g:AE}{T:List Token}(k:T.map Mm=g.AT.map Mm)(s:Symbol):Fi {g with AT:=T} s=Fi g s:=by
 unfold Fi;dsimp only;rcases XF k s.index.toNat with⟨h,i⟩|⟨j,t,h,i,m⟩
 .simp[h,i]
 .have o:j.cls=t.cls:=by
   show(Mm j).cls=(Mm t).cls
   rw[m]
  simp[h,i,o]
theorem Vw{g:AE}{T:List Token}(m:T.map Mm=g.AT.map Mm){k:Token->Bool}(o:∀t,k (Mm t)=k t)(l:List Int)(i:Nat):FZ {g with AT:=T} k l i=FZ g k l i:=by
 have u:Z T=Z g.AT:=by have:=l5 Z m;simpa using this
 unfold FZ;dsimp only;rw[u];rcases XF m (l.getD i 0).toNat with⟨h,j⟩|⟨q,t,h,j,v⟩
 .simp only[h,j]
 .have w:k q=k t:=by rw[<-o q,v,o]
  simp only[h,j,w]
theorem Qw{g:AE}{T:List Token}(h:T.map Mm=g.AT.map Mm){k:Token->Bool}(i:∀t,k (Mm t)=k t)(l:List Int):Gn {g with AT:=T} k l=Gn g k l:=by
 unfold Gn;rw[show FZ {g with AT:=T} k l=FZ g k l from funext (Vw h i l)]
theorem WV{g:AE}{T:List Token}(q:T.map Mm=g.AT.map Mm){k:Token->Bool}(m:∀t,k (Mm t)=k t)(i:Int):Gd {g with AT:=T} i k=Gd g i k:=by
 unfold Gd;dsimp only;rcases XF q i.toNat with⟨h,j⟩|⟨o,t,h,j,u⟩
 .simp[h,j]
 .have v:k o=k t:=by rw[<-m o,u,m]
  simp[h,j,v]
theorem jR{g:AE}{kn:Bool}(h:VG g kn){f:Filter}(q:yk g f):Ek g f=true:=by
 obtain⟨d,u,q⟩:=q;rcases q with⟨A,C,B,k,v,H,K,i,rfl⟩|⟨l,t,k,v,M,N,rfl⟩|rfl
 .have w:JU g ⟨k,A,C,B,0,0,[],d⟩=true:=by
   have j:g.AD.getD A G9=g.AD[A]:=by simp[List.getD,H]
   have o:g.AD.getD B G9=g.AD[B]:=by simp[List.getD,K]
   unfold Nx at i;rw[j,o]at i;simp only[cF,ol,fc]at i;have L:C<Z (g.AD[A]).right:=by
    refine abi λR=>?_;have:(g.AD[A]).right.getD C ⟨J,0⟩=⟨J,0⟩:=by rw[GE,pu (by omega)];rfl
    rw[this]at i;simp at i
   have E:(g.AD[A]).right.getD C ⟨J,0⟩=(g.AD[A]).right[C]:=by simp[List.getD,L]
   rw[E]at i;have P:(g.AD[A]).right[C]=⟨ap,(g.AD[B]).left⟩:=by
    generalize(g.AD[A]).right[C]=y at i;cases y;simp only at i;rw[i.1,i.2]
   unfold JU;simp only[ne,ej H,ej K,ej L,P];simp
  rcases v with rfl|rfl<;>simp[Ek,FB,u,w,Ej,Lz]
 .obtain⟨x,j,o,_⟩:=h.tok N;have m:=h.len;have ha:Gn g Km [(t:Int)]=true:=by simp[Gn,FZ,acf,j,Km,o];omega
  rcases v with rfl|rfl<;>simp[Ek,FB,u,ha,Ej,Lz,M]
 .obtain⟨x,j,o,E⟩:=h.tok (k:=5) (by omega);obtain⟨y,f1,f2,f3⟩:=h.tok (k:=0) (by omega);have m:=h.len;have F:IG x=true:=E.2 (by omega);have G:IG y=false:=by cases Q:IG y with|false=>rfl|true=>exact absurd rfl (f3.1 Q)
  have ha:Gn g IG [(5:Int)]=true:=by simp[Gn,FZ,acf,j,F];omega
  have hb:Gd g 0 (λt=>Km t&&!IG t)=true:=by simp[Gd,f1,Km,f2,G]
  simp[Ek,FB,u,ha,hb,Ej,Lz]
theorem VG.sC{g F:AE}{kn:Bool}(h:VG g kn)(B:Ia g F):VG F kn:=by
 rcases B with rfl|⟨l,C,rfl⟩|⟨f,q,rfl⟩|⟨t,o,rfl⟩
 .exact h
 .obtain⟨N,l1,l2,E,G,w⟩:=C;refine⟨h.tk,h.tf,h.fam,h.A0,(Ff (g:=g) (g':={g with levels:=g.levels++[l]}) (λ_=>rfl) (λ_=>rfl) _ _).trans h.pr,?_,?_,h.sz,h.nm,h.ac⟩
  .refine E1 (g:=g) (g':={g with levels:=g.levels++[l]}) rfl (c9 _) (RM l1 l2 E G (λp u=>⟨(w p u).1,(w p u).2.1⟩) h.lv λp u=>⟨by simp,λx j m=>?_⟩);have:=tg.1 (w p u).2.2 x j;simp[m]at this
  .simp[Du];exact λf q=>Im (g:=g) (g':={g with levels:=g.levels++[l]}) rfl rfl rfl (λ_ _ e=>e) (ed.1 h.fl f q)
 .refine⟨h.tk,h.tf,h.fam,h.A0,(Ff (g:=g) (g':={g with AR:=g.AR++[f]}) (λ_=>rfl) (λ_=>rfl) _ _).trans h.pr,E1 (g:=g) (g':={g with AR:=g.AR++[f]}) rfl (c9 _) h.lv,?_,h.sz,h.nm,h.ac⟩;simp only[Du,ed];intro x j;refine Im (g:=g) (g':={g with AR:=g.AR++[f]}) rfl rfl rfl (λ_ _ e=>e) ?_;rcases fi.1 j with j|j
  .exact ed.1 h.fl x j
  .simp at j;subst j;exact jR h q
 .obtain⟨e,d,H,K,rfl⟩:=o;have m:(g.AT.set e {g.AT[e]with cond:=d}).map Mm=g.AT.map Mm:=by
   rw[g9];apply xv (by simp);intro i v P;rw[ac3];split
   .next L=>subst L;simp[Mm]
   .rfl
  generalize M:g.AT.set e {g.AT[e]with cond:=d}=T at *;have A:∀p,Es {g with AT:=T} p=Es g p:=λp=>by
   unfold Es;rw[Ri m,show Fi {g with AT:=T}=Fi g from funext (Ri m)]
  refine⟨m.trans h.tk,λt o=>?_,h.fam,h.A0,(Ff (g:=g) (g':={g with AT:=T}) A (λ_=>rfl) _ _).trans h.pr,E1 (g:=g) (g':={g with AT:=T}) rfl (c9 _) h.lv,?_,h.sz,h.nm,h.ac⟩
  .rw[<-M]at o;rcases abx o with o|rfl
   .exact h.tf t o
   .exact H
  .simp[Du];intro f q;have v:=ed.1 h.fl f q;simp[Ek]at v⊢;refine⟨?_,v.2⟩;have:=v.1;unfold FB at this⊢;rw[Qw m (k:=Km) (λ_=>rfl),Qw m (k:=IG) (λ_=>rfl),WV m (λ_=>rfl)];exact this
theorem VG.mE{g:AE}{kn:Bool}(h:VG g kn){d:AL}(i:B1 d (Z g.conds)=J)(j:d.root≠0):VG {g with fam:=d} kn:=by
 refine⟨h.tk,h.tf,?_,h.A0,(Ff (g:=g) (g':={g with fam:=d}) (λ_=>rfl) (λ_=>rfl) _ _).trans h.pr,E1 (g:=g) (g':={g with fam:=d}) rfl (c9 _) h.lv,?_,h.sz,h.nm,h.ac⟩
 .have:=h.fam;simp[En]at this⊢;exact⟨⟨this.1.1,i⟩,by simp[j]⟩
 .simp[Du];exact λf k=>Im (g:=g) (g':={g with fam:=d}) rfl rfl rfl (λ_ _ e=>e) (ed.1 h.fl f k)
def Sv(g:AE):List ByteArray->List AO->Bool
 |_,[]=>J
 |L,p::l=>Es g p&&(!Fm L p.name&&(Vi p.cond (Z g.conds)&&(decide (-1<=p.EB)&&(decide (p.EB<=1)&&(IQ p&&Sv g (L++[p.name]) l)))))
theorem Ql(g:AE):∀(l:List AO) (L:List ByteArray),Sv g L l=J->Cs g L l=0
 |[],_,_=>rfl
 |p::l,L,h=>by
  simp[Sv]at h;obtain⟨i,j,k,m,o,q,u⟩:=h;have v:HR g p=true:=by simp[HR,MN k,m,o,q]
  simp[Cs,i,j,v,Ql g l _ u]
def XR(g:AE):List Int->List Level->Bool
 |_,[]=>J
 |u,l::h=>decide (0<=l.assoc)&&(decide (l.assoc<=3)&&(Vi l.cond (Z g.conds)&&(match Ch (Z g.AD) u l.AD with|none=>ap|some v=>XR g v h)))
theorem Tv(g:AE):∀(l:List Level) (u:List Int),XR g u l=J->EH g u l=J
 |[],_,_=>rfl
 |l::k,u,h=>by
  simp[XR]at h;obtain⟨m,o,q,i⟩:=h;unfold EH;rw[ca (by simp[m,o,MN q])];cases j:Ch (Z g.AD) u l.AD with
  |none=>rw[j]at i;cases i
  |some v=>rw[j]at i;exact Tv g k v i
def eI(g:AE)(f:Filter):Bool:=
 Vi f.cond (Z g.conds)&&(if f.kind=1\/f.kind=2 then JU g f
 else if f.kind=3\/f.kind=4 then decide (0<=f.left)&&decide (f.left<Z g.A0)&&Gn g Km f.tokens
 else if f.kind=5 then Gn g IG f.tokens&&Gd g f.token (λt=>Km t&&!IG t)
 else ap)
theorem ib{g:AE}{f:Filter}(h:eI g f=J):FB g f=true:=by
 simp[eI]at h;obtain⟨i,j⟩:=h;unfold FB;rw[MN i];simpa using j
def yR(g:AE)(N:Int->Bool):Bool:=g.AD.all λp=>(DO p.right||(!(p.right.all λs=>N s.index)||N p.left))&&
 (i6 (Z p.right)).all λj=>(p.right.getD j ⟨J,0⟩).token||(DO (Dr p.right j)||(!((Dr p.right j).all λs=>N s.index)||decide (p.left.toNat<(p.right.getD j ⟨J,0⟩).index.toNat)))
theorem qo{g:AE}{N:Int->Bool}(h:yR g N=J):Kl g N Int.toNat:=by
 refine⟨λp i ha k=>?_,λp i j hj m ha k=>?_⟩
 .have:=ed.1 h p i;simp[ha,ed.2 k]at this;exact this.1
 .have h0:=ed.1 h p i;simp only[cF]at h0;have:=ed.1 h0.2 j (by simpa using hj);have e:p.right.getD j ⟨J,0⟩=p.right[j]:=by simp[List.getD,hj]
  rw[e]at this;simp only[ru,m,ha,ob,false_or,ed.2 k,ac8,fc]at this;exact this
noncomputable def yF(g:AE)(N:Int->Bool):Bool:=g.conds.all FF&&(DH [⟨#[]⟩] g.conds&&(Hp g&&(Sv g [⟨#[]⟩] g.AD&&(XR g [] g.levels&&((g.AR.all λf=>eI g f&&Lz (Ej f))&&
 ((g.AD.all λp=>decide (Z p.right<=16)&&decide (Z p.layout<=16))&&((g.AD.all λp=>(i6 120).all λk=>decide (k<Z g.AD)||decide (p.name≠JV k))&&yR g N)))))))
theorem LK{g:AE}{N:Int->Bool}{kn:Bool}(q:g.AT=De)(u:g.fam=Dg)(v:kn=ap->∀x,N x=J)(h:yF g N=J):VG g kn:=by
 simp only[yF,cF]at h;obtain⟨w,A,B,C,E,F,G,H,K⟩:=h;have j:∀t∈g.AT,t.cond=Dg:=λt i=>by
  rw[q]at i;have:=ed.1 MS.2 t i;simp only[mU,cF,fc]at this;exact this.1.2
 refine⟨?_,λt i=>Pz (.inl (j t i)) _,?_,B,Ql g _ _ C,Tv g _ _ E,?_,λp m=>?_,λp m k L o=>?_,N,qo K,v⟩
 .have:g.AT.map Mm=g.AT.map id:=AC λt i=>by
   have:=j t i;cases t;simp only at this;subst this;rfl
  rw[this,List.map_id,q]
 .simp only[En,w,A,u,Pz (.inl rfl)];rfl
 .simp[Du];intro f i;have:=ed.1 F f i;simp at this;simp[Ek,ib this.1,this.2]
 .have:=ed.1 G p m;simpa using this
 .have:=ed.1 (ed.1 H p m) k (by simpa using o);simp at this;exact this.resolve_left (by omega)
def zJ(r:Nat)(x:Int):Bool:=match r with|2=>decide (x=0)|4=>decide (x=2)|5=>decide (1<=x)|_=>ap
theorem gv(r:Nat):VG (LG r) true:=by
 have i:∀r,(J=ap->∀x,zJ r x=J):=λ_ h=>by cases h
 match r with
 |0=>exact LK rfl rfl (i 0) (by decide+kernel)
 |1=>exact LK rfl rfl (i 1) (by decide+kernel)
 |2=>exact LK rfl rfl (i 2) (by decide+kernel)
 |3=>exact LK rfl rfl (i 3) (by decide+kernel)
 |4=>exact LK rfl rfl (i 4) (by decide+kernel)
 |r+5=>exact LK (g:=QD) rfl rfl (i 5) (by decide+kernel)
theorem gO:((i6 3).all λm=>(i6 4).all λc=>yF (JG m c) λ_=>J)=true:=by decide+kernel
theorem kr(m c:Nat)(g:m<3)(i:c<4):VG (JG m c) false:=by
 have h:=gO;simp at h;exact LK rfl rfl (λ_ _=>rfl) (h m g c i)
structure Sh(g:AE):Prop where
 n:∀s∈g.A0,s.size<=8
 c:∀s∈g.conds,s.size<=8
 p:∀p∈g.AD,p.name.size<=8
 p2:∀p∈g.AD,2<=p.name.size/\p.name.size<=7
 r:∀p∈g.AD,Z p.right<=5
def yK(g:AE):Bool:=g.A0.all (λs=>decide (s.size<=8))&&(g.conds.all (λs=>decide (s.size<=8))&&(g.AD.all (λp=>decide (p.name.size<=8))&&(g.AD.all (λp=>decide (2<=p.name.size)&&decide (p.name.size<=7))&&g.AD.all λp=>decide (Z p.right<=5))))
theorem LM{g:AE}(h:yK g=J):Sh g:=by
 simp[yK]at h;exact⟨h.1,h.2.1,h.2.2.1,h.2.2.2.1,h.2.2.2.2⟩
theorem dr(r:Nat):Sh (LG r):=by
 match r with
 |0=>exact LM (by decide+kernel)
 |1=>exact LM (by decide+kernel)
 |2=>exact LM (by decide+kernel)
 |3=>exact LM (by decide+kernel)
 |4=>exact LM (by decide+kernel)
 |r+5=>exact LM (g:=QD) (by decide+kernel)
theorem rE:((i6 3).all λm=>(i6 4).all λc=>yK (JG m c))=true:=by decide+kernel
theorem mV(m c:Nat)(g:m<3)(i:c<4):Sh (JG m c):=by
 have h:=rE;simp at h;exact LM (h m g c i)
theorem Sh.line{g:AE}{kn:Bool}(h:Sh g){q:AO}(j:T9 g kn q):Sh {g with AD:=g.AD++[q]}:=by
 refine⟨h.n,h.c,λp i=>?_,λp i=>?_,λp i=>?_⟩
 .rcases fi.1 i with i|i
  .exact h.p p i
  .simp at i;subst i;rw[j.name];have:(JV (Z g.AD)).size=2:=by simp[JV,Hm]
   omega
 .rcases fi.1 i with i|i
  .exact h.p2 p i
  .simp at i;subst i;rw[j.name];have:(JV (Z g.AD)).size=2:=by simp[JV,Hm]
   omega
 .rcases fi.1 i with i|i
  .exact h.r p i
  .simp at i;subst i;exact Nat.le_succ_of_le j.len
theorem Sh.sC{g F:AE}(h:Sh g)(i:Ia g F):Sh F:=by
 rcases i with rfl|⟨l,_,rfl⟩|⟨f,_,rfl⟩|⟨t,_,rfl⟩
 .exact h
 .exact⟨h.n,h.c,h.p,h.p2,h.r⟩
 .exact⟨h.n,h.c,h.p,h.p2,h.r⟩
 .exact⟨h.n,h.c,h.p,h.p2,h.r⟩
open Go.Proofs Tryz
structure X1(g:AE)(kn:Bool)(p l:Nat):Prop extends MG g p l where
 vg:VG g kn
 sh:Sh g
def W0(x:Raw)(g:AE):Sg:=[.row J 5 [.d (Gq x)],.row J 9 [Jv],.row J 9 [.d (AA g)]]
theorem dg(x:Raw):BH prog 13 [.d (Gq x)] [] (Vj λg=>∃kn,X1 g kn 10 6):=by
 refine BH.Aw func13 rfl rfl (by simp) λwf _=>?_;have hb:x.base<256:=by have:=wf.1;simp[Ij,DY,Bm,GZ]at this;omega
 have hn:x.n<256:=by have:=wf.1;simp[Ij,DY,Bm,GZ]at this;omega
 have B:∀k∈x.fam,k<256:=by
  have:=wf.1;simp[Ij,DY,Bm,Di,GZ]at this;intro k P;have:=this.2.2.1.2 k P;omega
 have Q:∀y∈x.lines,y.Ew<256/\y.mark<256:=by
  have:=wf.1;simp[Ij,DY,Bm,Di,GZ]at this;intro k P;have:=this.2.2.2.1.2 k P;omega
 have T:∀y∈x.rules,y.kind<256/\y.a<256/\y.b<256/\y.c<256/\y.Ew<256:=by
  have:=wf.1;simp[Ij,DY,Bm,Di,GZ]at this;intro k P;have:=this.2.2.2.2.2 k P;omega
 have hll:Z x.lines<=a8:=by have:=wf.1;simp[Ij,DY,Bm]at this;exact this.2.2.2.1.1
 have hrl:Z x.rules<=a8:=by have:=wf.1;simp[Ij,DY,Bm]at this;exact this.2.2.2.2.1
 have hfl:Z x.fam<=a8:=by have:=wf.1;simp[Ij,DY,Bm]at this;exact this.2.2.1.1
 clear wf;obtain⟨C,hb8⟩:=ce (x.base % 8);have q1:((x.base:Int).tmod 8)=C:=by rw[ge (by omega),<-hb8];simp
 have U:(x.base:Int) % 8=C:=by omega
 have W:=iS C (by omega);have X:X1 (LG (C % 6)) J 0 0:=⟨eB _,gv _,dr _⟩;rw[ntmps13];apply yW;simp;apply yW;simp[q1];apply yS;apply yJ;simp[q1];refine Bq (W) rfl (by simp) (yJ ?_);simp;(repeat apply xS);apply yV;simp;generalize LG (C % 6)=g0 at *;refine AW.Jp (R:=λtm S=>tm 1=.ptr 0 1 0 0/\tm 2=.ptr 1 1 0 0/\tm 4=.ptr 2 1 0 0/\(∃m:Nat,m<=10/\tm 5=.d (encI m))/\∃k,tm 3=.d (.bool k)/\∃g,X1 g k 0 0/\S=W0 x g) ?_ ?_
 ·(repeat apply xS);apply yV;simp;by_cases h6:C<6
  .have E:(C:Int)<6:=by omega
   apply AP;simp[E];apply CF;refine⟨_,_,a9,?_⟩;simp;exact⟨⟨6,by omega,rfl⟩,g0,by simpa[h6]using X,rfl⟩
  .have E:¬(C:Int)<6:=by omega
   obtain⟨w,hn4⟩:=ce (x.n / 4);obtain⟨m,hm⟩:=ce (w % 3);obtain⟨c,hc⟩:=ce (x.n % 4);have r1:((x.n:Int).tdiv 4)=w:=by rw[GT (by omega)];omega
   have r1':(x.n:Int) / 4=w:=by omega
   have r2:b8 .u8 (w:Int)=w:=by simp[pn,pm,pi];omega
   have r3:b8 .i64 (w:Int)=w:=by rw[c8];omega
   have r4:((w:Int).tmod 3)=m:=by rw[ge (by omega),<-hm];simp
   have r4':(w:Int) % 3=m:=by omega
   obtain⟨Y,hm1⟩:=ce (1+m);have r5:b8 .i64 ((1:Int)+m)=Y:=by rw[c8];omega
   have r6:((x.n:Int).tmod 4)=c:=by rw[ge (by omega),<-hc];simp
   have r6':(x.n:Int) % 4=c:=by omega
   have r7:b8 .i64 (c:Int)=c:=by rw[c8];omega
   have s1:(Y:Int)<=3:=by omega
   have s2:(c:Int)<=3:=by omega
   have hbr:=(H2 ([⟨#[83]⟩,⟨#[80]⟩,⟨#[81]⟩].take Y));have v:X1 (JG m c) ap 0 0:=⟨oJ m c (by omega) (by omega),kr m c (by omega) (by omega),mV m c (by omega) (by omega)⟩;unfold JG at v;rw[hm1]at v;apply AP;simp[E];apply yS;apply yJ;simp[a8,r1,r2,r3,r4,r5,s1];refine xF (hbr) [] rfl ?_;simp[a8];apply yJ;simp[IV];apply yW;simp[a8,r6,r7,s2];refine yD (A7 6 [13,14,17]) (by kernel_rfl) ?_;simp;apply yA 1;simp;refine B6 (Ds 0) rfl (by simp[a8,xN]) ?_;simp;apply yA 1;simp[a8];refine B6 (Bn ⟨#[102,105,114,115,116]⟩ 0 [⟨J,0⟩]) rfl (by simp[a8,xN]) ?_;simp;apply yA 1;simp[a8];apply xX 19 (by kernel_rfl);simp[AY,Ak,a8,Ac];apply yA 1;simp;apply xX 15 (by kernel_rfl);simp[AY,Ak,a8];apply xM;apply yV;simp;refine⟨_,_,((gl 3 (xs:=[AF Pq]) rfl (by simp[Df,BO,Pq,Dg,Ay])).trans (j2 2 (xs:=[AA ⟨[⟨#[65]⟩,⟨#[66]⟩,⟨#[67]⟩].take c,Dg,De,[⟨#[83]⟩,⟨#[80]⟩,⟨#[81]⟩].take Y,[Pq],0,[],[]⟩]) rfl ?_)).trans (fd 3 (S':=W0 x ⟨[⟨#[65]⟩,⟨#[66]⟩,⟨#[67]⟩].take c,Dg,De,[⟨#[83]⟩,⟨#[80]⟩,⟨#[81]⟩].take Y,[Pq],0,[],[]⟩) ?_ (by simp) (by simp) (by simp)),?_⟩
   .simp[Df,DL,B4,AA,Dg]
   .simp[W0,Jv]
   .simp[clean,AJ];exact⟨⟨10,by omega,rfl⟩,_,by simpa[h6]using v,rfl⟩
 .rintro tm S ⟨t1,t2,t4,⟨u,hmost,t5⟩,kn,t3,g,j,rfl⟩;unfold W0;clear X;obtain⟨d,hd⟩:=aG x.fam B (Z g.conds) j.c1;have A:=UN _ (Z g.conds) (by have:=j.c1;omega) d hd;unfold LO at A;simp at A;apply yS;apply yJ;simp[t1,t4];refine Bq (A) rfl (by simp[xN]) (yJ ?_);simp;refine AW.Jp (R:=λtm S=>tm 1=.ptr 0 1 0 0/\tm 2=.ptr 1 1 0 0/\tm 3=.d (.bool kn)/\tm 4=.ptr 2 1 0 0/\tm 5=.d (encI u)/\∃g,X1 g kn 0 0/\S=W0 x g) ?_ ?_
  .by_cases hf:0<Z x.fam
   .have G:x.fam≠[]:=by intro e;simp[e]at hf
    (repeat apply xS);apply yT;apply yH;simp[t1,hf];by_cases hr:d.root=0
    .apply AP;simp[hr];apply CF;refine⟨_,_,fd 3 (S':=W0 x g) rfl (by simp) (by simp) (by simp[Jv,AJ,Au]),?_⟩;simp[clean,AJ,t1,t2,t3,t4,t5];exact⟨g,j,rfl⟩
    .apply AP;simp[hr];apply yV;simp[t4];refine⟨_,_,(j2 2 (xs:=[AA {g with fam:=d}]) rfl (by simp[Df,DL,B4,AA])).trans (fd 3 (S':=W0 x {g with fam:=d}) rfl (by simp) (by simp) (by simp[Jv,AJ,Au])),?_⟩;simp[clean,AJ,t1,t2,t3,t4,t5];exact⟨{g with fam:=d},⟨⟨j.c1,j.n0,j.n1,j.t1,j.o1,j.p0,j.p1,j.l1,j.l2,j.f1⟩,j.vg.mE (aR x.fam B _ j.c1 hd) hr,⟨j.sh.n,j.sh.c,j.sh.p,j.sh.p2,j.sh.r⟩⟩,rfl⟩
   .have G:x.fam=[]:=by cases h:x.fam with|nil=>rfl|cons a l=>simp[h]at hf
    apply yS;apply yH;simp[t1,G];apply AP;simp;apply CF;refine⟨_,_,fd 3 (S':=W0 x g) rfl (by simp) (by simp) (by simp[Jv,AJ,Au]),?_⟩;simp[clean,AJ,t1,t2,t3,t4,t5];exact⟨g,j,rfl⟩
  rintro tm S ⟨t1,t2,t3,t4,t5,g1,hg1,rfl⟩;clear A hd j W;obtain⟨N,hN⟩:=ce (min (Z x.lines) u);obtain⟨M,hM⟩:=ce (min (Z x.rules) 6);refine m7 (R:=λtm S=>tm 1=.ptr 0 1 0 0/\tm 2=.ptr 1 1 0 0/\tm 4=.ptr 2 1 0 0/\∃g,X1 g kn N 0/\S=W0 x g) ?_ ?_
  .apply yW;simp;apply Bo;refine FO N (λi tm S=>tm 1=.ptr 0 1 0 0/\tm 2=.ptr 1 1 0 0/\tm 3=.d (.bool kn)/\tm 4=.ptr 2 1 0 0/\tm 5=.d (encI u)/\tm 7=.d (encI i)/\∃g,X1 g kn i 0/\S=W0 x g) (er _) ⟨by simp[t1],by simp[t2],by simp[t3],by simp[t4],by simp[t5],by simp,g1,hg1,rfl⟩ ?_;rintro i tm S hi ⟨t1,t2,t3,t4,t5,t7,g,j,rfl⟩;unfold W0;refine xS (yW ?_);simp[t1,t5,t7];(repeat apply xS);refine m8 (t:=decide (i<Z x.lines)&&decide (i<u)) ?_ (λhb=>?_) (λhb=>?_)
   .simp
   .simp at hb;obtain⟨zg,him⟩:=hb;have o:=Q _ (cL zg);generalize hy:x.lines[i]=y at *;obtain⟨F,H,hp⟩:=Qf g y kn ⟨j.n0,j.n1⟩ j.c1 (by have:=j.p1;omega) o.1 o.2;have K:X1 F kn (i+1) 0:=⟨oO j.toMG H,by rcases H with rfl|⟨q,hq,rfl⟩;exact j.vg;exact j.vg.line (by have:=j.p1;omega) hq,by rcases H with rfl|⟨q,hq,rfl⟩;exact j.sh;exact j.sh.line hq⟩;have L:b8 .i64 ((i:Int)+1)=(i+1:Nat):=by rw[c8];omega
    apply xK;apply xB;refine yE (A7 8 [17]) (by kernel_rfl) ?_;simp;apply yA 0;simp[t1,t3,t4,t7,zg,hy];refine j0 (hp) rfl (by simp[Cd,xN]) ?_;simp;apply yA 0;simp;apply xX 255 (by kernel_rfl);simp[t4];apply xM;apply yV;simp[t7,L];refine⟨by omega,_,_,a9,?_⟩;simp[t1,t2,t3,t4,t5];exact⟨F,K,rfl⟩
   .have e:i=N:=by simp at hb;omega
    subst e;apply Ci;simp[t1,t2,t4];exact⟨g,j,rfl⟩
  rintro tm S ⟨t1,t2,t4,g2,hg2,rfl⟩;refine m7 (R:=λtm S=>tm 2=.ptr 1 1 0 0/\tm 4=.ptr 2 1 0 0/\∃g,X1 g kn N M/\S=W0 x g) ?_ ?_
  .apply yW;simp;apply Bo;refine FO M (λi tm S=>tm 1=.ptr 0 1 0 0/\tm 2=.ptr 1 1 0 0/\tm 4=.ptr 2 1 0 0/\tm 8=.d (encI i)/\∃g,X1 g kn N i/\S=W0 x g) (er _) ⟨by simp[t1],by simp[t2],by simp[t4],by simp,g2,hg2,rfl⟩ ?_;rintro i tm S hi ⟨t1,t2,t4,t8,g,j,rfl⟩;unfold W0;refine xS (yW ?_);simp[t1,t8];(repeat apply xS);refine m8 (t:=decide (i<Z x.rules)&&decide (i<6)) ?_ (λhb=>?_) (λhb=>?_)
   .simp;rw[gI];simp;omega
   .simp at hb;obtain⟨zg,him⟩:=hb;have o:=T _ (cL zg);generalize hy:x.rules[i]=y at *;have hro:ID g y:=⟨j.p0,by have:=j.p1;omega,j.n0,by have:=j.n1;omega,j.c1,j.t1,by have:=j.l1;omega,λl hl=>by have:=j.l2 l hl;omega,by have:=j.f1;omega,o.1,o.2.1,o.2.2.1,o.2.2.2.1,o.2.2.2.2⟩;obtain⟨F,H,hp⟩:=Uq g y hro;have K:X1 F kn N (i+1):=⟨mh j.toMG H,j.vg.sC H,j.sh.sC H⟩;have L:b8 .i64 ((i:Int)+1)=(i+1:Nat):=by rw[c8];omega
    apply xK;apply xB;refine yE (A7 7 [15]) (by kernel_rfl) ?_;simp;apply yA 0;simp[t1,t4,t8,zg,hy];refine j0 (hp) rfl (by simp[Br,xN]) ?_;simp;apply yA 0;simp;apply xX 127 (by kernel_rfl);simp[t4];apply xM;apply yV;simp[t8,L];refine⟨by omega,_,_,a9,?_⟩;simp[t1,t2,t4];exact⟨F,K,rfl⟩
   .have e:i=M:=by simp at hb;omega
    subst e;apply Ci;simp[t2,t4];exact⟨g,j,rfl⟩
  rintro tm S ⟨t2,t4,g,j,rfl⟩;unfold W0;apply yW;simp[t2,t4,Jv];apply Aj;refine⟨_,_,a9,by simp[t2],_,_,⟨rfl,g,rfl,kn,⟨j.c1,j.n0,j.n1,j.t1,j.o1,j.p0,by have:=j.p1;omega,by have:=j.l1;omega,j.l2,by have:=j.f1;omega⟩,j.vg,j.sh⟩,.inl ⟨AA g,_,by simp[t2],rfl,gc 0 rfl (by simp)⟩⟩
theorem X1.okF{g:AE}{kn:Bool}(h:X1 g kn 10 6):Koi.okF g:=
 h.vg.okF h.c1 h.n1 (by have:=h.p1;omega) (by have:=h.l1;omega) (by have:=h.f1;omega)
open Go.Proofs Tryz DT
theorem Sz(k:FuncId):AG prog 66 [.fn (.func k) [] []] [] (.fn (.func 164) [] [.ptr 0 1 0 0]) [.row J 1 [.fn (.func k) [] []]]:=by
 refine zC func66 4 rfl λwf _=>?_;apply yW;simp;apply yW;simp;apply Aj;refine⟨_,a9,?_⟩;simp[Aq]
theorem ED(k:FuncId):AG prog 64 [.fn (.func k) [] []] [] (.fn (.func 65) [] [.ptr 0 1 0 0]) [.row J 1 [.fn (.func k) [] []]]:=by
 refine zC func64 4 rfl λwf _=>?_;apply yW;simp;apply yW;simp;apply Aj;refine⟨_,a9,?_⟩;simp[Aq]
theorem cw{k:FuncId}{S0 g:Sg}{r q:Nat}(h:AG prog k [.ptr r 1 0 0] S0 (.CX []) g)(i:S0[q]?=some (.row J 1 [.fn (.func k) [] []])):
  AG prog 65 [.ptr r 1 0 0,.ptr q 1 0 0] S0 (.d (encI 0)) g:=by
 refine zC func65 7 rfl λwf _=>?_;apply yW;simp;apply yS;apply yJ;simp[i];refine i9 rfl rfl (by simp) (f:=k) (args:=[.ptr r 1 0 0]) (by simp[callee];try rfl) (by simp) h ?_;simp;apply BY;apply yW;simp;apply Aj;refine⟨_,a9,?_⟩;simp[Aq]
def TC:List (D×V):=[(.int .i64 1,.agg [.fn (.func 62) [] [],.fn (.func 164) [] [.ptr 1 1 0 0],.d (.bool J),.fn (.func 65) [] [.ptr 2 1 0 0]]),(.int .i64 2,.agg [.fn (.func 62) [] [],.fn (.func 69) [] [],.d (.bool J),.fn (.func 65) [] [.ptr 3 1 0 0]]),(.int .i64 3,.agg [.fn (.func 62) [] [],.fn (.func 164) [] [.ptr 4 1 0 0],.d (.bool J),.fn (.func 65) [] [.ptr 5 1 0 0]]),(.int .i64 4,.agg [.fn (.func 73) [] [],.fn (.func 61) [] [],.d (.bool J),.fn (.func 65) [] [.ptr 6 1 0 0]]),(.int .i64 5,.agg [.fn (.func 75) [] [],.fn (.func 164) [] [.ptr 7 1 0 0],.d (.bool ap),.fn (.func 65) [] [.ptr 8 1 0 0]]),(.int .i64 6,.agg [.fn (.func 77) [] [],.fn (.func 78) [] [],.d (.bool ap),.fn (.func 65) [] [.ptr 9 1 0 0]]),(.int .i64 7,.agg [.fn (.func 81) [] [],.fn (.func 82) [] [],.d (.bool J),.fn (.func 83) [] []]),(.int .i64 8,.agg [.fn (.func 63) [] [],.fn (.func 84) [] [],.d (.bool J),.fn (.func 86) [] []]),(.int .i64 9,.agg [.fn (.func 87) [] [],.fn (.func 82) [] [],.d (.bool J),.fn (.func 88) [] []]),(.int .i64 10,.agg [.fn (.func 89) [] [],.fn (.func 61) [] [],.d (.bool ap),.fn (.func 65) [] [.ptr 10 1 0 0]]),(.int .i64 11,.agg [.fn (.func 91) [] [],.fn (.func 61) [] [],.d (.bool ap),.fn (.func 65) [] [.ptr 11 1 0 0]]),(.int .i64 12,.agg [.fn (.func 93) [] [],.fn (.func 61) [] [],.d (.bool ap),.fn (.func 65) [] [.ptr 12 1 0 0]]),(.int .i64 13,.agg [.fn (.func 95) [] [],.fn (.func 61) [] [],.d (.bool ap),.fn (.func 65) [] [.ptr 13 1 0 0]]),(.int .i64 14,.agg [.fn (.func 97) [] [],.fn (.func 69) [] [],.d (.bool ap),.fn (.func 65) [] [.ptr 14 1 0 0]])]
def TQ:Sg:=[.row J 1 [.fn (.func 67) [] []],.row J 1 [.fn (.func 68) [] []],.row J 1 [.fn (.func 70) [] []],.row J 1 [.fn (.func 71) [] []],.row J 1 [.fn (.func 72) [] []],.row J 1 [.fn (.func 74) [] []],.row J 1 [.fn (.func 71) [] []],.row J 1 [.fn (.func 76) [] []],.row J 1 [.fn (.func 79) [] []],.row J 1 [.fn (.func 90) [] []],.row J 1 [.fn (.func 92) [] []],.row J 1 [.fn (.func 94) [] []],.row J 1 [.fn (.func 96) [] []],.row J 1 [.fn (.func 98) [] []]]
theorem Uy:AG prog 23 [] [] (.map 0) (.map TC::TQ):=by
 refine zC func23 55 rfl λwf _=>?_;apply yW;simp;apply yW;simp;apply yW;simp;apply yW;simp;apply yW;simp;(repeat apply xS);apply yT;apply yJ;simp;refine xF (Sz 67) [] rfl ?_;simp;apply yJ;simp;refine xF (ED 68) [] rfl ?_;simp;apply yJ;simp[Ep,Cz,Bh,Bz,CC];refine xF (ED 70) [] rfl ?_;simp;apply yJ;simp[Ep,Cz,DZ,Bh,Bz,CC];refine xF (Sz 71) [] rfl ?_;simp;apply yJ;simp;refine xF (ED 72) [] rfl ?_;simp;apply yJ;simp[Ep,Cz,DZ,Bh,Bz,CC];refine xF (ED 74) [] rfl ?_;simp;apply yJ;simp[Ep,Cz,DZ,Bh,Bz,CC];refine xF (Sz 71) [] rfl ?_;simp;apply yJ;simp;refine xF (ED 76) [] rfl ?_;simp;apply yJ;simp[Ep,Cz,DZ,Bh,Bz,CC];refine xF (ED 79) [] rfl ?_;simp;apply yJ;simp[Ep,Cz,DZ,Bh,Bz,CC];refine xF (ED 90) [] rfl ?_;simp;apply yJ;simp[Ep,Cz,DZ,Bh,Bz,CC];refine xF (ED 92) [] rfl ?_;simp;apply yJ;simp[Ep,Cz,DZ,Bh,Bz,CC];refine xF (ED 94) [] rfl ?_;simp;apply yJ;simp[Ep,Cz,DZ,Bh,Bz,CC];refine xF (ED 96) [] rfl ?_;simp;apply yJ;simp[Ep,Cz,DZ,Bh,Bz,CC];refine xF (ED 98) [] rfl ?_;simp;apply yJ;simp[Ep,Cz,DZ,Bh,Bz,CC];apply Aj;refine⟨_,rc (by simp[TC,TQ]),?_⟩;simp[Aq]
section
variable {P:Program} {n b:Nat} {ops:Array Oper} {tm:Tm} {S S1 S2:Sg} {K:Tm->Sg->Prop} {v1 v2:V}
theorem Bj.uc{B:List (Nat×(Sg->Prop))}{g:Array Bool}{h:Nat}{o1 o2:Oper}(i j:Nat)(m o:List Bool)(C:Region.ready .any ops g=[i,j])(hi:ops[i]?=some o1)(hj:ops[j]?=some o2)
  (q:B.map (λp=>waits ops i p.1)=m) (u:B.map (λp=>waits ops j p.1)=o)
  (E:Bu P n b ops i o1 tm S v1 S1) (v:okB m B S S1) (F:Bu P n b ops j o2 tm S v2 S2) (w:okB o B S S2)
  (k1:Bj P n b ops K (FL m B) h (g.setIfInBounds i J) (put tm o1.dst v1) S1)
  (k2:Bj P n b ops K (FL o B) h (g.setIfInBounds j J) (put tm o2.dst v2) S2):Bj P n b ops K B (h+1) g tm S:=by
 refine⟨λh0=>(by rw[C]at h0;cases h0),λk A=>?_⟩;rw[C]at A;simp at A;rcases A with rfl|rfl
 .exact⟨o1,_,_,hi,E,Fe q v,by rw[Gi q];exact k1⟩
 .exact⟨o2,_,_,hj,F,Fe u w,by rw[Gi u];exact k2⟩
theorem Bj.xf{B:List (Nat×(Sg->Prop))}{g:Array Bool}{h:Nat}{o1:Oper}(i:Nat)(j:List Bool)(u:Region.ready .any ops g=[i])(hi:ops[i]?=some o1)
  (m:B.map (λp=>waits ops i p.1)=j) (v:Bu P n b ops i o1 tm S v1 S1) (o:okB j B S S1)
  (k1:Bj P n b ops K (FL j B) h (g.setIfInBounds i J) (put tm o1.dst v1) S1):Bj P n b ops K B (h+1) g tm S:=by
 refine⟨λh0=>(by rw[u]at h0;cases h0),λk q=>?_⟩;rw[u]at q;simp at q;subst q;exact⟨o1,_,_,hi,v,Fe m o,by rw[Gi m];exact k1⟩
end
def Yj(g:AE)(x:AZ)(c f a:FuncId)(h ac:List V)(kp:Bool)(k1 k2:FuncId):Sg:=
 [.row J 9 [.d (AA g)],.row J 31 [.d (Ad x)],.row J 9 [.agg [.full [],.full [],.d (.int .i64 0),.full [],.full [],.full [],.d (.int .i64 0),.full [],.full []]],.row J 4 [.agg [.fn (.func c) [] [],.fn (.func f) [] h,.d (.bool kp),.fn (.func a) [] ac]],.row J 1 [.fn (.func k1) [] []],.row J 1 [.fn (.func k2) [] []]]
section
variable {P:Program} {n b:Nat} {o:Oper} {tm tm':Tm} {S S':Sg} {v:V} {ops:Array Oper} {K:Tm->Sg->Prop}
def ux(P:Program)(n b:Nat)(ops:Array Oper)(i:Nat)(tm:Tm)(S:Sg)(R:Tm->Sg->Prop):Prop:=
 ∀G w a (g:Act->World->Prop) Q,St P n G S w a tm->b<=Z S->(∀tm' S',R tm' S'->∀h j k,IP P n b G S w a.defers h j k S' tm'->g h j)->wpOp P ops Q i g a w
def J5(P:Program)(n b:Nat)(ops:Array Oper)(i:Nat)(o:Oper)(tm:Tm)(S:Sg)(R:V->Sg->Prop):Prop:=
 ∀tm',(∀t∈o.looksAt ops,tm' t=tm t)->ux P n b ops i tm' S λt S'=>∃v,R v S'/\t=put tm' o.dst v
theorem Bu.oM{i:Nat}(h:Bu P n b ops i o tm S v S'):J5 P n b ops i o tm S λu T=>u=v/\T=S':=λtm' g G w a j Q st hb k=>
 h tm' g G w a j Q st hb λm q A B=>k _ _ ⟨v,⟨rfl,rfl⟩,rfl⟩ m q A B
theorem J5.congr{i:Nat}{R:V->Sg->Prop}(h:J5 P n b ops i o tm S R)(k:∀t∈o.looksAt ops,tm' t=tm t):J5 P n b ops i o tm' S R:=λg m=>
 h g λt j=>(m t j).trans (k t j)
theorem J5.QC{i:Nat}{c:Call}{f:eN}{args:List V}{R:V->Sg->Prop}(hi:ops[i]?=some o)(ho:o.op=.call c)(hg:o.guard=none)(hd:A6 n o.dst)(j:callee tm c=some (f,args))(hn:BB tm c)
  (h:BH P f args S R):J5 P n b ops i o tm S R:=λtm' F G w a K' Q st hb k=>by
 obtain⟨A,zt⟩:=Gz ho F;rw[<-A]at j;rw[<-zt]at hn;clear A zt F;unfold wpOp;simp[hi,Region.wanted,hg];left;have key:∀(next:Act->World->Prop),(∀cv m q v S',R v S'->CV q S' m v cv->Rel P q S' m->Tr G S w q S' m->BA G S w q S' m->next (a.put o.dst cv) m)->o.wp P a w next Q:=λnext B=>by
  obtain⟨u,h⟩:=h;unfold callee at j;obtain⟨C,M⟩:=hn;cases g:c.callee with
  |value x=>
   simp only[g]at j C;have N:=(BS st x).strip C;split at j
   .rename_i k' first caps T
    simp only[j3,ac7]at j;obtain⟨H,e2⟩:=j;subst H;subst e2;rw[T]at N;generalize hX:a.eval x=X at N;cases N with
    |fn _ _ _ xs ys U h2 h3 h4=>
     unfold Mu at u;have zl:=h G w (xs++c.args.map a.eval++ys) st.rel (by simp[U,h2]) (λi hi zo=>by
      by_cases H:i<first.length
      .rw[oi (by simp;omega),oi H];rw[abP (by simp;omega),abP (by omega)];exact h3 i H
      .by_cases e2:i<first.length+c.args.size
       .rw[oi (by simp;omega),wn (by omega)];rw[abP (by simp;omega),aco (by omega)];simp only[m6,Array.getElem_map,QQ,U];exact(BS st _).strip (NS M _ (by simp))
       .simp at hi;rw[wn (by simp;omega)];rw[aco (by simp;omega)];simp[Array.size_map,U];exact h4 _ (by omega))
     unfold Oper.wp;have zm:(execOp a.eval o).run P w=.ok (.enter k' (xs++c.args.map a.eval++ys)) w:=by
      split at u
      .rename_i fn E;simp[ne_eq]at u;obtain⟨b,hb⟩:=md.1 u.2;simp[execOp,ho,resolve,g,hX,Deferred.ofValue,invoke,callFunc,E,u.1,hb]
      .cases u
     rw[zm];simp only[Oper.upon];exact zl.mono λe m ⟨cv,q,v,S',W,F,Y,g2,g3,L⟩=>by subst F;exact B cv m q v S' W Y g2 g3 L
   .cases j
  |invoke=>simp[g]at j
  |builtin=>simp[g]at j
 exact key _ λcv m q v S' W Y g2 g3 L=>k _ S' ⟨v,W,rfl⟩ _ _ q ⟨st.put hd Y g2 L,Cy,g3,L.late hb⟩
def Ve(P:Program)(n b:Nat)(ops:Array Oper)(K:Tm->Sg->Prop)(B:List (Nat×(Sg->Prop))):Nat->Array Bool->Tm->Sg->Prop
 |0,g,tm,S=>Region.ready .any ops g=[]/\K tm S
 |h+1,g,tm,S=>(Region.ready .any ops g=[]->K tm S)/\∀i∈Region.ready .any ops g,∃o R,ops[i]?=some o/\J5 P n b ops i o tm S R/\∀v S',R v S'->ep ops B i S S'/\Ve P n b ops K (B.filter λp=>!waits ops i p.1) h (g.setIfInBounds i J) (put tm o.dst v) S'
theorem J6:∀(g:Nat) (B m:List (Nat×(Sg->Prop))) (i:Array Bool) (tm:Tm) (S:Sg),(∀p∈m,p∈B)->Ve P n b ops K B g i tm S->Ve P n b ops K m g i tm S
 |0,_,_,_,_,_,_,h=>h
 |g+1,B,m,_,_,_,q,h=>⟨h.1,λk A=>by
  obtain⟨o,R,C,E,u⟩:=h.2 k A;refine⟨o,R,C,E,λv S' w=>⟨λp j=>(u v S' w).1 p (q p j),J6 g _ _ _ _ _ (λp j=>?_) (u v S' w).2⟩⟩;rw[ut]at j⊢;exact⟨q p j.1,j.2⟩⟩
theorem Wo{i:Nat}{W:Oper}{C:Sg->Prop}(hi:ops[i]?=some W):
  ∀(m:Nat) (B:List (Nat×(Sg->Prop))) (g:Array Bool) (tm:Tm) (S:Sg),(∀j Q,ops[j]?=some Q->j≠i->g.getD j J=ap->(∀e∈Q.after,Region.binds .any e=J->e.on≠i)->W.apart ops Q=J)->i∈Region.ready .any ops g->C S->(∀S',C S'->Bu P n b ops i W tm S' v S')->Ve P n b ops K ((i,C)::B) m (g.setIfInBounds i J) (put tm W.dst v) S->Ve P n b ops K B (m+1) g tm S:=by
 intro m;induction m with
 |zero=>
  intro B g tm S _ X hS hy H;refine⟨λh=>(by rw[h]at X;cases X),λj hj=>?_⟩;by_cases q:j=i
  .subst q;refine⟨W,_,hi,(hy S hS).oM,?_⟩;rintro _ _ ⟨rfl,rfl⟩;exact⟨λp _=>.inr id,H⟩
  .have:=adS hj q;rw[H.1]at this;cases this
 |succ m ih=>
  intro B g tm S A X hS hy H;refine⟨λh=>(by rw[h]at X;cases X),λj hj=>?_⟩;by_cases q:j=i
  .subst q;refine⟨W,_,hi,(hy S hS).oM,?_⟩;rintro _ _ ⟨rfl,rfl⟩;refine⟨λp _=>.inr id,J6 _ _ _ _ _ _ (λp hp=>?_) H⟩;exact ab1 _ (ut.1 hp).1
  .obtain⟨Q,R,E,zk,M⟩:=H.2 j (adS hj q);obtain⟨T,oj',U,zj⟩:=mem_ready.1 hj;rw[E]at U;cases U;have F:∀e∈Q.after,Region.binds .any e=J->e.on≠i:=λe Y hb G=>by
    have h1:=zj e Y hb;have h0:=(mem_ready.1 X).1;rw[G]at h1;rcases s9 i g.size with h'|h'
    .simp[h']at h0 h1;rw[h0]at h1;cases h1
    .simp[H1 h']at h1
   obtain⟨a1,a2,a3⟩:=Oper.apart_spec (A j Q E q T F);have hw:waits ops j i=false:=by
    cases hx:waits ops j i with
    |false=>rfl
    |true=>
     obtain⟨e,Y,hb,G⟩:=MO E hx;exact absurd G (F e Y hb)
   have N:∀k ok,ops[k]?=some ok->k≠i->(g.setIfInBounds j J).getD k J=ap->(∀e∈ok.after,Region.binds .any e=J->e.on≠i)->W.apart ops ok=true:=λk ok hk hki hun zw=>by
    refine A k ok hk hki ?_ zw;by_cases hjk:j=k
    .subst hjk;exact T
    .rw[getD_set_ne J hjk]at hun;exact hun
   refine⟨Q,R,E,zk.congr λt ht=>(KJ a1 t ht).symm,λu S' hR=>?_⟩;obtain⟨w,L⟩:=M u S' hR;have hC:C S':=by
    rcases w (i,C) (by simp)with h|h
    .obtain⟨e,Y,hb,G⟩:=MO E h;exact absurd G (F e Y hb)
    .exact h hS
   refine⟨λp hp=>w p (by simp[hp]),?_⟩;refine ih (B.filter λp=>!waits ops j p.1) (g.setIfInBounds j J) (put tm Q.dst u) S' N (adS X (n7 q)) hC (λS2 h2=>(hy S2 h2).congr (KJ a3)) ?_;rw[Array.setIfInBounds_comm _ _ q,put_comm u v λd hd h=>a2 d h hd];rw[List.filter_cons_of_pos (by simp[hw])]at L;exact L
theorem Oi{Q:Exit->Act->World->Prop}:∀(j:Nat) (g:Array Bool) (tm:Tm) (S:Sg),Ve P n b ops K [] j g tm S->∀G w a,St P n G S w a tm->b<=Z S->(∀q u,(∃C S' tm',IP P n b G S w a.defers q u C S' tm'/\K tm' S')->Q .normal q u)->wpAny P .any ops Q j g a w
 |0,g,tm,S,h,G,w,a,st,hb,A=>⟨h.1,A a w ⟨G,S,tm,.refl st hb,h.2⟩⟩
 |j+1,g,tm,S,h,G,w,a,st,hb,A=>by
  refine⟨λh0=>A a w ⟨G,S,tm,.refl st hb,h.1 h0⟩,λi hi=>?_⟩;obtain⟨o,R,X,F,k⟩:=h.2 i hi;refine F tm (λ_ _=>rfl) G w a _ Q st hb ?_;rintro _ S' ⟨v,H,rfl⟩ q u C m;refine Oi j _ _ _ (k v S' H).2 C u q m.st m.late.len λL M N=>?_;obtain⟨T,U,E,B,W⟩:=N;exact A L M ⟨T,U,E,⟨B.st,B.ds.trans m.ds,m.tr.trans B.tr,m.late.trans B.late⟩,W⟩
def NN(P:Program)(n b:Nat)(ops:Array Oper)(B:List (Nat×(Sg->Prop)))(l:List (Nat×Bool×Oper))(tm:Tm)(S:Sg)(K:Tm->Sg->Prop):Prop:=
 ∀g,(∀p∈l,ops[p.1]?=some p.2.2)->Ed ops (l.map λp=>(p.1,p.2.1)) g=J->Ve P n b ops K B (Z l) g tm S
theorem NN.nil{B:List (Nat×(Sg->Prop))}(h:K tm S):NN P n b ops B [] tm S K:=λg _ i=>⟨by simpa[Ed]using i,h⟩
theorem NN.yi{B:List (Nat×(Sg->Prop))}{i:Nat}{rest:List (Nat×Bool×Oper)}(m:EY P n ops o tm S/\oS P o tm S=S)
  (h:NN P n b ops ((i,λS'=>S'=S)::B) rest (put tm o.dst (Dm P ops o tm S)) S K):NN P n b ops B ((i,J,o)::rest) tm S K:=λg q j=>by
 have hi:ops[i]?=some o:=q (i,J,o) (by simp);simp[Ed]at j;obtain⟨⟨k,u⟩,w⟩:=j;refine Wo (C:=λS'=>S'=S) hi _ B g tm S (Region.free_spec hi u) (by simpa using k) rfl (λS' hS=>?_) (h _ (λp j=>q p (by simp[j])) w);subst hS;have:=Bu.El (b:=b) hi m.1;rwa [m.2]at this
theorem NN.QC{B:List (Nat×(Sg->Prop))}{i:Nat}{rest:List (Nat×Bool×Oper)}{c:Call}{f:eN}{args:List V}{R:V->Prop}(h:BH P f args S λv S'=>R v/\S'=S)(A:o.op=.call c)
  (g:o.guard=none/\A6 n o.dst/\BB tm c/\callee tm c=some (f,args)) (C:∀v,R v->NN P n b ops B rest (put tm o.dst v) S K):NN P n b ops B ((i,ap,o)::rest) tm S K:=λm u k=>by
 obtain⟨E,F,G,H⟩:=g;have hi:ops[i]?=some o:=u (i,ap,o) (by simp);simp[Ed]at k;obtain⟨w,q⟩:=k;refine⟨λh0=>(by rw[w]at h0;cases h0),λj hj=>?_⟩;rw[w]at hj;have:j=i:=by simpa using hj
 subst this;refine⟨o,_,hi,J5.QC hi A E F H G h,?_⟩;rintro v S' ⟨L,rfl⟩;exact⟨λp _=>.inr id,J6 _ _ _ _ _ _ (λp g=>(ut.1 g).1) (C v L _ (λp g=>u p (by simp[g])) q)⟩
theorem AW.oc{id:Nat}{Q:Exit->Tm->Sg->Prop}(l:List (Nat×Bool))(A:P.follows .mixedOrders=J)(g:Z l=ops.size)(i:Ed ops l (Bk ops.size ap)=J)
  (k:l.all (λp=>decide (p.1<ops.size))=J) (h:∀K:Tm->Sg->Prop,(∀tm S,Q .normal tm S->K tm S)->NN P n b ops [] (Em ops l) tm S K):AW P n b (.region id ops J) Q tm S:=λG w a st hb=>by
 refine wp_region_any A ?_;obtain⟨r1,r2,m⟩:=st.rel.drawn (w':={w with drawn:=w.drawn+1}) rfl rfl rfl;have u:=h _ (λ_ _ h=>h) (Bk ops.size ap) (λp i=>by
  simp only[Em,g7]at i;obtain⟨q,B,rfl⟩:=i;have C:q.1<ops.size:=by simpa using ed.1 k q B
  simp[C]) (by
   have e:(Em ops l).map (λp=>(p.1,p.2.1))=l:=by simp[Em,nc]
   rw[e];exact i)
 have E:Z (Em ops l)=ops.size:=by simp[Em,g]
 rw[E]at u;refine Oi _ _ _ _ u G {w with drawn:=w.drawn+1} a ⟨st.size,st.tm.later m,r1⟩ hb λM w' F=>?_;obtain⟨H,S',tm',j,L⟩:=F;exact⟨H,S',tm',⟨j.st,j.ds,r2.trans j.tr,(m.late hb).trans j.late⟩,L⟩
end
theorem BH.Fg{P:Program}{f:eN}{args args':List V}{S:Sg}{R:V->Sg->Prop}(h:BH P f args S R)(u:Z args'=Z args)
  (k:∀i (h:i<Z args) (v:i<Z args'),args[i]=args'[i]\/∃d,BO S args'[i]=some d/\args[i]=.d d):BH P f args' S R:=
 ⟨h.1,λG w g R A ha=>h.2 G w g R (by omega) λi hi m=>by
  have j:=ha i (by omega) m;rcases k i hi (by omega)with e|⟨d,o,q⟩
  .rw[e];exact j
  .rw[q];exact .d _ _ (j.BO R o)⟩
theorem BH.Wl{P:Program}{f:eN}{ds:List D}{p:Int->Prop}(h:BH P f (ds.map .d) [] λv g=>g=[]/\∃e:Int,v=.d (encI e)/\p e)(S:Sg):
  BH P f (ds.map .d) S λv g=>(∃e:Int,v=.d (encI e)/\p e)/\g=S:=by
 have j:=h.Ef (S:=S) [] (by simp) (λv i _=>er _) (by simp[AJ]);have k:(ds.map V.d).map (BW (nameOf []))=ds.map .d:=by simp[nc,BW]
 rw[k]at j;apply j.mono;rintro o g ⟨v,i,⟨rfl,e,rfl,m⟩,rfl,rfl⟩;exact⟨⟨e,by simp[BW],m⟩,by simp⟩
def oZ:Code->Code
 |.seq _ y=>y
 |c=>c
noncomputable def p7:Code:=oZ (oZ (oZ ((Tryz.f7.body).getD .skip)))
def bx(k1 k2:eN):Sg:=[.row J 1 [.fn (.func k1) [] []],.row J 1 [.fn (.func k2) [] []]]
def FX:AE:=⟨[],⟨[],0⟩,[],[],[],0,[],[]⟩
def Gw(b:Bool)(r:Nat):List V:=if b then [.ptr r 1 0 0]else []
def Fz(r:AE×List Rewrite×Int):D:=.CX [AA r.1,Bb r.2.1,encI r.2.2]
noncomputable def Wh(g:AE)(u fit:Bool)(j:Int)(h:AE)(i:List Rewrite)(k:Bool):AE×List Rewrite×Int:=
 if(u&&fit)=ap then(FX,[],310)else if j≠0 then(FX,[],j)else if k=J then(FX,[],2)
 else if MD h≠0 then(FX,[],MD h)else if cE g h i≠0 then(FX,[],cE g h i)else(h,i,0)
def cZ:Rewrite:=⟨0,0,0,[]⟩
def mD(g:List Rewrite)(i:Nat):List Rewrite:=(List.range (Z g)).map λk=>if k<i then g.getD k cZ else cZ
theorem tM(g:List Rewrite)(i:Nat):Z (mD g i)=Z g:=by simp[mD]
theorem lF(g:List Rewrite):mD g 0=List.replicate (Z g) cZ:=by
 unfold mD;apply xv (by simp);intro k h i;simp
theorem oN(g:List Rewrite){i:Nat}(h:i<Z g):mD g (i+1)=(mD g i).set i g[i]:=by
 unfold mD;apply xv (by simp);intro k j o;have q:k<Z g:=by simpa using j
 rw[ac3];by_cases e:i=k
 .subst e;simp[h]
 .rw[bv e];have m:(k<i+1)=(k<i):=by apply propext;omega
  simp[m]
theorem sf(g:List Rewrite):mD g (Z g)=g:=by
 unfold mD;apply xv (by simp);intro k i h;simp[h]
def mS(g h:AE)(x:AZ)(i:List Rewrite)(j:Bool)(l:List Rewrite):Sg:=
 [.row J 9 [.d (AA g)],.row J 31 [.d (Ad x)],.row J 9 [.agg [.full [],.full [],.d (.int .i64 0),.full [],.full [],.full [],.d (.int .i64 0),.full [],.full []]],.row J 51 [.d (LQ g x h i j)],.row J 4 (l.map λr=>.d (Aa r))]
theorem V2(H:∀g,B3 g=0->Pt g)(g:AE)(x:AZ)(c f a k1 k2:eN)(G:AZ->AZ)(fb ab kp fit:Bool)(L:Int)(h:AE)(j:List Rewrite)(M:Bool)
  (hg0:B3 g=0) (N:s7 c G)
  (Q:HP (G x)=J->AG prog f (.ptr 4 1 0 0::Gw fb 5) (bS g x++bx k1 k2) (.d (.bool fit)) (bS g x++bx k1 k2))
  (hap:fit=J->AG prog a (.ptr 4 1 0 0::Gw ab 6) (bS g x++bx k1 k2) (.d (encI L)) (Ho g x h j M++bx k1 k2))
  (hmm:fit=J->L=0->Z j<=2 ^ 20/\(∀x∈j,Z x.BI<=2 ^ 30)/\Z h.conds<=12) (hgc:Z g.conds<=12) {tm:Tm}
  (t2:tm 2=.ptr 0 1 0 0) (t3:tm 3=.ptr 1 1 0 0) (t4:tm 4=.ptr 2 1 0 0) (t8:tm 8=.ptr 3 1 0 0) (t9:tm 9=.d (.bool J)):
  AW prog 124 0 p7 (Vh prog 124 0 Tryz.f7.results.toList (Fz (Wh g (HP (G x)) fit L h j M)) []) tm (Yj g x c f a (Gw fb 4) (Gw ab 5) kp k1 k2):=by
 have hcl:=U7 g (H g hg0);obtain⟨R,m⟩:=ce (Wh g (HP (G x)) fit L h j M);rw[m];unfold Wh at m;unfold p7 Tryz.f7;simp only[oZ,up];unfold Yj;(repeat refine xS ?_);refine yE (A7 3 [7,8,11,12]) (by kernel_rfl) ?_;simp;refine yA 1 ?_;simp[t2,t3];refine ul (xT [1,0,0]) (hcl) [] (by kernel_rfl) rfl (by simp[AY,t2,t3];try rfl) ?_;simp;refine yA 1 ?_;simp[hV];refine xX 1 (by kernel_rfl) ?_;simp[AY,hS,t2,t3];refine yA 1 ?_;simp;(try simp only[yQ,reduceIte]);have T:=N x;unfold oh at T;have u:=Sw (G x);generalize G x=y at *;apply yW;simp[t3];refine xS (yW ?_);simp[t9];refine AP ?_;simp;apply yT;refine yJ ?_;simp[t8];refine xF (T) [11] rfl ?_;simp;refine yJ ?_;simp;cases hu:HP y with
 |false=>
  rw[hu]at u m;refine xS (yS ?_);refine yH ?_;simp[t9];refine li (u) rfl rfl (by simp[xN];try rfl) ?_;simp;refine yH ?_;simp;(try simp only[yQ,reduceIte]);refine AP ?_;simp;apply yW;simp[t4];refine Aj ?_;(try simp only[yQ,reduceIte]);rw[ca (by simp)]at m;subst m;refine⟨_,_,_,a9,by simp[t4],by simp[t4,BO,AA,FX,Fz],gc 0 (S':=[]) rfl (by simp)⟩
 |true=>
  rw[hu]at u m;have w:=Q hu;unfold bS C8 bV bx at w;simp at w;refine xS (yS ?_);refine yH ?_;simp[t9];refine li (u) rfl rfl (by simp[xN];try rfl) ?_;simp;refine yH ?_;simp[t8];refine AS.PJ w [6,7,8,9,10,4,5] rfl rfl (by cases fb<;>simp[Gw,Cr,callee,nameOf,BW,CN]<;>decide) ?_;simp;refine yH ?_;simp;(try simp only[yQ,reduceIte]);clear w;cases fit with
  |false=>
   refine AP ?_;simp;apply yW;simp[t4];refine Aj ?_;(try simp only[yQ,reduceIte]);rw[ca (by simp)]at m;subst m;refine⟨_,_,_,a9,by simp[t4],by simp[t4,BO,AA,FX,Fz],gc 0 (S':=[]) rfl (by simp)⟩
  |true=>
   have A:=hap rfl;unfold bS Ho C8 bV bx at A;simp at A;refine AP ?_;simp;refine xK ?_;refine xS (yS ?_);refine yJ ?_;simp[t8];refine AS.E0 A [6,7,8,9,10,4,5] rfl (by cases ab<;>simp[Gw,Cr,callee,nameOf,BW,CN]<;>decide) ?_;simp;refine yJ ?_;simp;(try simp only[yQ,reduceIte]);clear A;by_cases q:L=0;case neg=>
    apply yW;simp;refine AP ?_;simp[q];apply yW;simp[t4];refine Aj ?_;(try simp only[yQ,reduceIte]);rw[bv (by simp),ca q]at m;subst m;refine⟨_,_,_,a9,by simp[t4],by simp[t4,BO,AA,FX,Fz],gc 0 (S':=[]) rfl (by simp)⟩
   obtain⟨hmm1,U,hc⟩:=hmm rfl q;subst q;apply yW;simp;refine AP ?_;simp;refine CF ?_;have k:=LQ.eq_1 g x h j M;refine xS (yW ?_);simp[k];cases E:M with
   |true=>
    rw[E]at m;refine AP ?_;simp;apply yW;simp[t4];refine Aj ?_;(try simp only[yQ,reduceIte]);rw[bv (by simp),bv (by simp),ca rfl]at m;subst m;refine⟨_,_,_,a9,by simp[t4],by simp[t4,BO,AA,FX,Fz],gc 0 (S':=[]) rfl (by simp)⟩
   |false=>
    have fh:=Hd h hc;rw[E]at m;refine AP ?_;simp;refine CF ?_;rw[E]at k;refine xS (yS ?_);refine yJ ?_;simp;refine vb (AI.tA 73 (AA h) (by simp[BO,AA])) ?_;refine Bq (fh) rfl (by simp[xN]) ?_;simp;refine yJ ?_;simp;(try simp only[yQ,reduceIte]);have hhz:MD h=0->B3 h=0:=λe=>(D0.1 e).1;have hmx:=TJ g h j hgc hc;generalize MD h=r at *;generalize cE g h j=me at *;by_cases C:r=0
    .apply yW;simp[C];refine AP ?_;simp;refine CF ?_;have hr0:B3 h=0:=hhz C;have hm1:=BH.Wl (P:=prog) (f:=26) (ds:=[AA g,AA h,Bb j]) (p:=λe=>e=me) ((AG.oM hmx).mono λv S' ⟨e1,e2⟩=>⟨e2,me,e1,rfl⟩);have B:∀S,_:=λS=>(hm1 S).Fg (args':=[.d (AA g),.agg [.d (By h.conds),.d (AV h.fam.nodes),.d (encI h.fam.root),.d (Cm h.AT),.d (By h.A0),.d (CJ h.AD),.d (encI h.start),.d (Be h.levels),.d (BL h.AR)],.d (Bb j)]) rfl λi h1 h2=>by
      match i,h1 with
      |0,_=>exact .inl rfl
      |1,_=>exact .inr ⟨AA h,by simp[BO,AA],rfl⟩
      |2,_=>exact .inl rfl
     (repeat refine xS ?_);refine AW.oc [(0,J),(1,J),(2,J),(3,J),(4,J),(5,J),(6,J),(7,J),(8,J),(9,ap),(10,J)] (by kernel_rfl) rfl (by kernel_rfl) (by decide) λK hK=>?_;simp;(repeat((refine NN.yi ?_ ?_);(focus(simp[t2];done));simp[t2]));(refine NN.QC (B _) rfl (by simp[callee];try rfl) ?_);rintro _ ⟨e3,rfl,rfl⟩;simp;(repeat((refine NN.yi ?_ ?_);(focus(simp;done));simp));refine NN.nil (hK _ _ ?_);(try simp only[yQ,reduceIte]);by_cases o:e3=0
     .apply yW;simp[o];refine AP ?_;simp;refine CF ?_;have hml:(Z j:Int)<=1073741824:=by omega
      refine AW.Jp (R:=λtm S=>tm 4=.ptr 2 1 0 0/\tm 10=.ptr 3 1 0 0/\tm 15=.row 4 (Z j)/\S=mS g h x j ap (mD j 0)) ?_ ?_
      .apply yV;simp[hml];refine⟨_,_,(j2 12 (xs:=(List.replicate (Z j) cZ).map Aa) rfl ?_).trans (vk [0,1,2,10,12] (S0:=mS g h x j ap (mD j 0)) ?_ (by simp) (by simp)),?_⟩
       .rw[CH];simp[cZ,Aa,BO]
       .rw[lF];simp[mS,k]
       .simp[pick,t4];decide
      rintro tm S ⟨t4,t10,t15,rfl⟩;refine m7 (R:=λtm S=>tm 4=.ptr 2 1 0 0/\tm 10=.ptr 3 1 0 0/\tm 15=.row 4 (Z j)/\S=mS g h x j ap j) ?_ ?_
      .unfold mS;apply yW;simp[t10,k];refine Bo ?_;refine FO (Z j) (λi tm S=>tm 4=.ptr 2 1 0 0/\tm 10=.ptr 3 1 0 0/\tm 15=.row 4 (Z j)/\tm 102=.d (Bb j)/\tm 103=.d (encI (Z j))/\tm 104=.d (encI i)/\S=mS g h x j ap (mD j i)) (er _) (by simp[t4,t10,t15,mS,k]) ?_;rintro i tm S hi ⟨t4,t10,t15,t102,t103,t104,rfl⟩;apply yW;simp[t103,t104];refine xC ?_;simp;refine⟨λW=>?_,λzu=>?_⟩
       .have X:=oN j W;have F:=tM j i;have htl:=U _ (cL W);generalize hr:j[i]=rw at *;have zh:=Aa.eq_1 rw;have Y:=Ts rw.BI htl;generalize mD j i=ml at *;unfold mS;refine xK ?_;refine xB ?_;apply yW;simp[t102,t104,W,hr,zh];apply yS;refine yJ ?_;simp;refine xF (Y) [] rfl ?_;simp;refine yJ ?_;simp;refine gs (gl 6 (xs:=rw.BI.map A5) rfl (by simp)) ?_;simp;apply yV;simp[t15,W,F];have hwi:b8 .i64 ((i:Int)+1)=(i+1:Nat):=by rw[c8];omega
        apply yV;simp[t104,hwi];obtain⟨ml2,B⟩:=ce (ml.set i rw);rw[B]at X;refine⟨W,_,_,(j2 4 (xs:=(ml.set i rw).map Aa) rfl ?_).trans (n8 5 (S':=mS g h x j ap ml2) ?_ (by simp) (by simp) (by simp[mS])),?_⟩
        .rw[CH,g9,m0,g9,g9,m0];congr 1;simp[BO,zh]
        .rw[<-B];simp[mS,nc]
        .simp[clean,AJ,t4,t10,t15,t102,t103,X,mS]
       .have e:i=Z j:=by omega
        subst e;rw[sf];refine Ci ?_;simp[t4,t10,t15,mS]
      .rintro tm S ⟨t4,t10,t15,rfl⟩;have hch:=U7 h (H h hr0);unfold hV hS at hch;unfold mS;(repeat refine xS ?_);apply yT;refine yJ ?_;simp[t10,k];refine vb (AI.tA 121 (AA h) (by simp[BO,AA])) ?_;refine xF (hch) [] rfl ?_;simp;refine yJ ?_;simp[t4,t15];(try simp only[yQ,reduceIte]);refine Aj ?_;(try simp only[yQ,reduceIte]);rw[bv (by simp),bv (by simp),bv (by simp),bv (by simpa using C),bv (by simpa using o)]at m;subst m;refine⟨_,_,_,(gl 4 (xs:=j.map Aa) rfl (by simp)).trans ((gl 5 (xs:=h.conds.map D.str) rfl (by simp)).trans ((gl 6 (xs:=h.AT.map AX) rfl (by simp)).trans ((gl 7 (xs:=h.A0.map D.str) rfl (by simp)).trans (gl 8 (xs:=h.AD.map AF) rfl (by simp))))),by simp[t4],by simp[t4,BO,AA,Fz],gc 0 (S':=[]) rfl (by simp)⟩
     .apply yW;simp;refine AP ?_;simp[o];apply yW;simp[t4];refine Aj ?_;(try simp only[yQ,reduceIte]);rw[bv (by simp),bv (by simp),bv (by simp),bv (by simpa using C),ca o]at m;subst m;refine⟨_,_,_,a9,by simp[t4],by simp[t4,BO,AA,FX,Fz],gc 0 (S':=[]) rfl (by simp)⟩
    .apply yW;simp;refine AP ?_;simp[C];apply yW;simp[t4];refine Aj ?_;(try simp only[yQ,reduceIte]);rw[bv (by simp),bv (by simp),bv (by simp),ca C]at m;subst m;refine⟨_,_,_,a9,by simp[t4],by simp[t4,BO,AA,FX,Fz],gc 0 (S':=[]) rfl (by simp)⟩
structure KE where
 kd:Int
 c:eN
 f:eN
 a:eN
 fb:Bool
 ab:Bool
 kp:Bool
 k1:eN
 k2:eN
 p1:Nat
 p2:Nat
def WI:List KE:=[⟨1,62,164,65,J,J,J,67,68,4,5⟩,⟨2,62,69,65,ap,J,J,67,70,4,6⟩,⟨3,62,164,65,J,J,J,71,72,7,8⟩,⟨4,73,61,65,ap,J,J,67,74,4,9⟩,⟨5,75,164,65,J,J,ap,71,76,10,11⟩,⟨6,77,78,65,ap,J,ap,67,79,4,12⟩,⟨7,81,82,83,ap,ap,J,67,68,4,5⟩,⟨8,63,84,86,ap,ap,J,67,68,4,5⟩,⟨9,87,82,88,ap,ap,J,67,68,4,5⟩,⟨10,89,61,65,ap,J,ap,67,90,4,13⟩,⟨11,91,61,65,ap,J,ap,67,92,4,14⟩,⟨12,93,61,65,ap,J,ap,67,94,4,15⟩,⟨13,95,61,65,ap,J,ap,67,96,4,16⟩,⟨14,97,69,65,ap,J,ap,67,98,4,17⟩]
noncomputable def Mn(g:AE)(r:AE×List Rewrite×Int):AE×List Rewrite×Int:=if MD g≠0 then(FX,[],MD g)else r
theorem IU(L:∀g,B3 g=0->Pt g)(E:KE)(Q:E∈WI)(g:AE)(x:AZ)(o:x.kind=E.kd)(A:Z g.conds<=12)(G:AZ->AZ)(fit:Bool)(H:Int)(h:AE)(B:List Rewrite)(M:Bool)
  (u:s7 E.c G)
  (v:B3 g=0->HP (G x)=J->AG prog E.f (.ptr 4 1 0 0::Gw E.fb 5) (bS g x++bx E.k1 E.k2) (.d (.bool fit)) (bS g x++bx E.k1 E.k2))
  (C:B3 g=0->fit=J->AG prog E.a (.ptr 4 1 0 0::Gw E.ab 6) (bS g x++bx E.k1 E.k2) (.d (encI H)) (Ho g x h B M++bx E.k1 E.k2))
  (F:B3 g=0->fit=J->H=0->Z B<=2 ^ 20/\(∀x∈B,Z x.BI<=2 ^ 30)/\Z h.conds<=12):
  Pure prog 7 [AA g,Ad x] (Fz (Mn g (Wh g (HP (G x)) fit H h B M))):=by
 have N:=Hd g A;have P:MD g=0->B3 g=0:=λe=>(D0.1 e).1;unfold Mn;generalize MD g=r1 at *;refine AG.Gp func7 (by kernel_rfl) rfl (by simp) λwf _=>?_;rw[ntmps7];apply yW;simp;refine xS (yS ?_);refine yJ ?_;simp;refine Bq (N) rfl (by simp[xN]) ?_;simp;refine yJ ?_;simp;(try simp only[yQ,reduceIte]);by_cases w:r1=0;case neg=>
  rw[ca w];apply yW;simp;refine AP ?_;simp[w];apply yW;simp;refine Aj ?_;(try simp only[yQ,reduceIte]);refine⟨_,_,_,a9,by simp,by simp[BO,AA,FX,Fz],gc 0 (S':=[]) rfl (by simp)⟩
 have k:=P w;rw[bv (by simpa using w)];apply yW;simp[w];refine AP ?_;simp;refine xK ?_;refine AW.Jp (R:=λtm S=>tm 2=.ptr 0 1 0 0/\tm 3=.ptr 1 1 0 0/\tm 4=.ptr 2 1 0 0/\tm 8=.ptr 3 1 0 0/\tm 9=.d (.bool J)/\S=Yj g x E.c E.f E.a (Gw E.fb 4) (Gw E.ab 5) E.kp E.k1 E.k2) ?_ ?_
 .clear u v C F;obtain⟨T,i⟩:∃q,E.p1=q:=⟨_,rfl⟩;obtain⟨U,j⟩:∃q,E.p2=q:=⟨_,rfl⟩;obtain⟨W,m⟩:=ce (Yj g x E.c E.f E.a (Gw E.fb 4) (Gw E.ab 5) E.kp E.k1 E.k2);rw[m];simp only[WI,ke,acp,ad4]at Q;rcases Q with rfl|rfl|rfl|rfl|rfl|rfl|rfl|rfl|rfl|rfl|rfl|rfl|rfl|rfl;all_goals
   dsimp only at o i j m⊢
   refine AW.regionF (by kernel_rfl) λK X=>?_
   change Bj _ _ _ _ _ _ 10 (Bk 10 ap) _ _
   refine qr 1 rfl (by kernel_rfl) ?_ ?_;(focus(simp;done));simp
   refine qr 2 rfl (by kernel_rfl) ?_ ?_;(focus(simp;done));simp
   refine Bj.uc 0 7 [ap,ap] [ap,ap] (by kernel_rfl) rfl rfl (by kernel_rfl) (by kernel_rfl) (E2 (args:=[]) rfl rfl rfl (by simp) (by simp[callee]) (by simp) (Uy.Ef [] (by simp) (by simp) (by simp))) ?_ (Bu.El rfl ?_) ?_ ?_ ?_
   .simp[AY]
   .simp
   .simp[AY]
   .simp
    simp[TC,TQ,FN,BW,CN,DM,o]
    refine qr 3 rfl (by kernel_rfl) ?_ ?_;(focus(simp[Bh,Bz,CC];done));simp[Cz,DZ]
    refine qr 4 rfl (by kernel_rfl) ?_ ?_;(focus(simp;done));simp
    refine qr 5 rfl (by kernel_rfl) ?_ ?_;(focus(simp;done));simp
    refine qr 6 rfl (by kernel_rfl) ?_ ?_;(focus(simp;done));simp
    refine un 7 [ap,ap,ap,ap,ap,ap] (by kernel_rfl) rfl (by kernel_rfl) ?_ ?_;(focus(simp[AY,o,Cz,DZ,Bh,Bz,CC];done));simp
    refine un 8 [ap,J,J,J,J,J] (by kernel_rfl) rfl (by kernel_rfl) ?_ ?_;(focus(simp[AY];done));simp
    refine qr 9 rfl (by kernel_rfl) ?_ ?_;(focus(simp;done));simp
    refine aeC (by kernel_rfl) (X _ _ ⟨_,_,vk [0,1,2,18,T,U] (S0:=W) (by simp[<-m,Yj,Gw,<-i,<-j];try decide) (by simp[<-i,<-j]) (by simp[<-i,<-j]),?_⟩)
    simp[pick,<-i,<-j];decide
   .simp
    (refine Bj.xf 0 [ap,ap] (by kernel_rfl) rfl (by kernel_rfl) (E2 (args:=[]) rfl rfl rfl (by simp) (by simp[callee]) (by simp) (Uy.Ef [] (by simp) (by simp) (by simp))) ?_ ?_)
    .simp[AY]
    simp[TC,TQ,FN,BW,CN,DM,o]
    refine qr 3 rfl (by kernel_rfl) ?_ ?_;(focus(simp[Bh,Bz,CC];done));simp[Cz,DZ]
    refine qr 4 rfl (by kernel_rfl) ?_ ?_;(focus(simp;done));simp
    refine qr 5 rfl (by kernel_rfl) ?_ ?_;(focus(simp;done));simp
    refine qr 6 rfl (by kernel_rfl) ?_ ?_;(focus(simp;done));simp
    refine un 8 [ap,J,J,J,J,J] (by kernel_rfl) rfl (by kernel_rfl) ?_ ?_;(focus(simp[AY];done));simp
    refine qr 9 rfl (by kernel_rfl) ?_ ?_;(focus(simp;done));simp
    refine aeC (by kernel_rfl) (X _ _ ⟨_,_,vk [0,1,2,3,T+1,U+1] (S0:=W) (by simp[<-m,Yj,Gw,<-i,<-j];try decide) (by simp[<-i,<-j]) (by simp[<-i,<-j]),?_⟩)
    simp[pick,<-i,<-j];decide
 rintro tm S ⟨t2,t3,t4,t8,t9,rfl⟩;exact V2 L g x E.c E.f E.a E.k1 E.k2 G E.fb E.ab E.kp fit H h B M k u (v k) (C k) (F k) A t2 t3 t4 t8 t9
section
variable {P:Program} {n b:Nat} {ops:Array Oper} {o:Oper} {tm:Tm} {S S':Sg} {K:Tm->Sg->Prop} {v:V}
theorem Ab.Lp{B:List (Nat×(Sg->Prop))}{i:Nat}{rest:List (Nat×Bool×Oper)}{c:Call}{f:FuncId}{args:List V}{j:Nat}{g:Bool}(h:AG P f args S v S)(k:o.op=.call c)(m:o.guard=some (j,g))
  (q:CW ops tm j g=some J/\A6 n o.dst/\BB tm c/\callee tm c=some (f,args)) (u:Ab P n b ops ((i,λS'=>S'=S)::B) rest (put tm o.dst v) S K):Ab P n b ops B ((i,J,o)::rest) tm S K:=by
 obtain⟨w,A,C,E⟩:=q;exact q7 (λS'=>S'=S) rfl (λhi S' hS=>by subst hS;exact Bu.Oq hi k m A w E C h) u
end
theorem pU{n b:Nat}{tm:Tm}(hb:b<=5)(g:AE)(x:AZ)(h:AE)(i:List Rewrite)(j q w1 u v w:Bool)(pre:Sg):
  AI prog n b tm (C8 g x h (.row (Z pre+5) (Z i)) j q w1 u v++(pre++[.row w 4 (i.map λr=>.d (Aa r))])) (clean 5 tm) (Ho g x h i j):=by
 obtain⟨T,k⟩:∃T,T=pre++[O.row w 4 (i.map λr=>.d (Aa r))]:=⟨_,rfl⟩;rw[<-k];have m:T[Z pre]?=some (.row w 4 ((i.map Aa).map .d)):=by rw[k];simp[nc]
 have o:(T.set (Z pre) (.BT (i.map Aa)))[Z pre]?=some (.BT (i.map Aa)):=by rw[k];simp
 have A:Z (T.set (Z pre) (.BT (i.map Aa)))=Z pre+1:=by rw[k];simp
 have C:∀xs:List D,Df ([]:Sg) (xs.map .d)=some xs:=λxs=>CM _ xs;unfold C8;have B:=gl (P:=prog) (n:=n) (b:=b) (tm:=tm) (S:=C8 g x h (.row (Z pre+5) (Z i)) j q w1 u v++T) 0 rfl (Cp _ D.str h.conds);apply B.trans;refine(gl 1 rfl (Cp _ AX h.AT)).trans ?_;refine(gl 2 rfl (Cp _ D.str h.A0)).trans ?_;refine(gl 3 rfl (Cp _ AF h.AD)).trans ?_;refine(gl (Z pre+5) (wr:=w) (sz:=4) (els:=(i.map Aa).map .d) (xs:=i.map Aa) (by simp[C8,m]) (CM _ _)).trans ?_;simp[C8];generalize T.set (Z pre) (.BT (i.map Aa))=U at *;refine(j2 (P:=prog) (n:=n) (b:=b) (tm:=tm) 4 (wr:=true) (sz:=51) (xs:=[LQ g x h i j]) rfl ?_).trans ?_
 .simp[Df,bV,DL,B4,LQ,o]
 .exact fd 5 (by simp[Ho]) hb (by simp) (by simp)
def UD(g:AE)(x:AZ)(i:Int):List Symbol:=(Bd g x).right.take x.at_.toNat++((CB g i).right++(Bd g x).right.drop (x.at_.toNat+1))
noncomputable def Iw(g:AE)(x:AZ)(i:Int):AO:={G9 with name:=(Bd g x).name++⟨#[95]⟩++(CB g i).name,left:=(Bd g x).left,right:=UD g x i,cond:=(Dl and (Bd g x).cond (CB g i).cond).1}
def Tn(g:AE)(x:AZ)(k:Nat)(i:Int):Rewrite:=⟨x.number,x.at_,i,DX k::Db 0 (Z (UD g x i))⟩
def K6(g:AE)(x:AZ):Nat->List Int->List Rewrite
 |_,[]=>[]
 |k,i::l=>Tn g x k i::K6 g x (k+1) l
theorem UB(g:AE)(x:AZ):∀(l:List Int) (k:Nat) (i:Int),K6 g x k (l++[i])=K6 g x k l++[Tn g x (k+Z l) i]
 |[],k,i=>by simp[K6]
 |j::l,k,i=>by simp[K6,UB g x l,py,adZ 1]
theorem Ln(g:AE)(x:AZ):∀(l:List Int) (k:Nat),Z (K6 g x k l)=Z l
 |[],_=>rfl
 |_::l,k=>by simp[K6,Ln g x l]
def B9(g:AE)(x:AZ):List Int:=rD g (Jw g x).index
noncomputable def ZZ(g:AE)(x:AZ):AE:={g with AD:=(g.AD++(B9 g x).map (Iw g x)).set x.number.toNat {Bd g x with cond:=⟨[],0⟩}}
def Px(g:AE)(x:AZ):Bool:=x.at_==Z (Bd g x).right - 1
noncomputable def Kq(g:AE)(x:AZ)(i:Nat):List AO:=g.AD++((B9 g x).take i).map (Iw g x)
def Ko(g:AE)(x:AZ)(i:Nat):List Rewrite:=K6 g x (Z g.AD) ((B9 g x).take i)
def Jn(g:AE)(x:AZ)(o:AO)(a:Nat)(P:List AO)(M:List Rewrite)(i:Nat):Sg:=
 C8 g x {g with AD:=P} (.row 8 i) ap (!g.conds.isEmpty) (!g.AT.isEmpty) (!g.A0.isEmpty) J++
  [.row J 1 [.ptr 4 1 0 0],.row J 13 [.d (AF o)],.row J 1 [.d (.bool ((a:Int)==(Z o.right:Int) - 1))],.row (decide (0<i)) 4 (M.map λr=>.d (Aa r))]
theorem U5{S:Sg}{r w A:Nat}{g:AE}{x:AZ}{h:Bool}(hb:TX S r g x)(B:S[w]?=some (.row J 1 [.d (.bool h)]))(C:S[A]?=some (.row J 1 [.ptr r 1 0 0])){i:Int}(H:0<=i/\i<Z g.AD):
  AG prog 167 [.d (encI i),.ptr w 1 0 0,.ptr A 1 0 0] S (.d (.bool (h&&(CB g i).right.isEmpty))) S:=by
 obtain⟨j,rfl⟩:∃j:Nat,i=j:=⟨i.toNat,by omega⟩;have hj:j<Z g.AD:=by omega
 obtain⟨h0,E,F,K,L,M,N,P,Q,m,R,k⟩:=hb;unfold bV at k;have G:CB g (j:Int)=g.AD[j]:=by simp[CB,hj]
 rw[G];generalize q:g.AD[j]=o;have u:=AF.eq_1 o;refine zC func167 19 rfl λwf _=>?_;(repeat apply xS);apply yV;simp;have v:((Z o.right:Int)==0)=o.right.isEmpty:=by cases o.right<;>simp;omega
 cases h with
 |false=>
  (repeat apply xS);apply yT;apply yH;simp[B];apply Aj;refine⟨_,a9,?_⟩;simp[Aq]
 |true=>
  (repeat apply xS);apply yT;apply yH;simp[B,C,k,hj,q,u];apply Aj;refine⟨_,a9,?_⟩;simp[Aq,v]
theorem aJ(g:AE)(x:AZ)(hf:DE g x=J)(hb:Dq g x.number=ap)(hbc:H8 g x=ap)(hem:(B9 g x).any (λi=>Px g x&&(CB g i).right.isEmpty)=ap)
  (X:∀i∈B9 g x,(Dl and (Bd g x).cond (CB g i).cond).2=0) (hl:Z g.AD<=2 ^ 20) (hr:Z (Bd g x).right<=2 ^ 20) (hrq:∀i∈B9 g x,Z (CB g i).right<=2 ^ 20/\(CB g i).name.size<=2 ^ 20) (hns:(Bd g x).name.size<=2 ^ 20):
  AG prog 83 [.ptr 4 1 0 0] (bS g x) (.d (encI 0)) (Ho g x (ZZ g x) (K6 g x (Z g.AD) (B9 g x)) ap):=by
 obtain⟨hp,a,ha,G,hsy,A⟩:=ES hf;have hp':=hp;simp[DQ]at hp';obtain⟨j,hj⟩:∃j:Nat,x.number=j:=⟨x.number.toNat,by omega⟩;have hj1:j<Z g.AD:=by omega
 have zi:g.AD.isEmpty=false:=by cases h:g.AD<;>simp[h]at hj1⊢
 obtain⟨H,K⟩:∃H,H=O.row J 1 [.ptr 4 1 0 0]:=⟨_,rfl⟩;obtain⟨X6,hX6⟩:∃X6,X6=O.row J 13 [.d (AF (Bd g x))]:=⟨_,rfl⟩;obtain⟨X7,hX7⟩:∃X7,X7=O.row J 1 [.d (.bool ((a:Int)==(Z (Bd g x).right:Int) - 1))]:=⟨_,rfl⟩;have hlb:Px g x=((a:Int)==(Z (Bd g x).right:Int) - 1):=by unfold Px;rw[ha]
 rw[hlb]at hem;have hB1:TX (bS g x++[H]) 4 g x:=⟨_,_,_,_,_,_,_,_,_,_,_,rfl⟩;have B:TX (bS g x++[H,X6,X7]) 4 g x:=⟨_,_,_,_,_,_,_,_,_,_,_,rfl⟩;have hs1:(bS g x++[H]).all (Ao (Z (bS g x++[H])))=true:=by simp[bS,C8,bV,K,AJ]
 have L:(bS g x++[H,X6,X7]).all (Ao (Z (bS g x++[H,X6,X7])))=true:=by simp[bS,C8,bV,K,hX6,hX7,AJ]
 have Y:=Jh hB1 hs1 hp;have hof:AG prog 168 [.ptr 4 1 0 0,.d (encI (Jw g x).index)] _ (.d (BZ (B9 g x))) _:=Xt B L hl (Jw g x).index;have N:=Hl B L (i:=x.number) (by omega);have Q:=KU B L hl hf;have T:=IN (B9 g x) (λi=>((a:Int)==(Z (Bd g x).right:Int) - 1)&&(CB g i).right.isEmpty) 167 [.ptr 7 1 0 0,.ptr 5 1 0 0] (bS g x++[H,X6,X7]) (λi hi=>U5 B (by rw[hX7];rfl) (by rw[K];rfl) (IY hi));rw[hem]at T;rw[hb]at N;rw[hbc]at Q;refine zC func83 135 rfl λwf _=>?_;generalize zy:Bd g x=o at *;generalize hss:Jw g x=s at *;have u:=AF.eq_1 o;have hes:=AH.eq_1 s;subst K hX6 hX7;unfold bS C8 bV at *;apply yW;simp;apply yS;apply yJ;simp;refine i9 rfl rfl (by simp) (f:=85) (args:=[.ptr 4 1 0 0]) (by simp[callee];try rfl) (by simp) Y (yJ ?_);simp[u];(repeat apply xS);apply yV;simp;have hw1:b8 .i64 ((Z o.right:Int) - 1)=(Z o.right:Int) - 1:=by rw[c8];omega
 apply yW;simp[hw1];(repeat apply xS);apply yV;simp;simp[ha]at hof N Q T;refine yD (A7 9 []) (by kernel_rfl) ?_;simp;apply yA 1;simp[ha,G,hsy.symm,hes];refine Ab.Gr (f:=168) (args:=[.ptr 4 1 0 0,.d (encI s.index)]) hof rfl (by simp[callee];try rfl) ?_;simp;apply yA 1;simp;apply xS;refine yD (A7 16 []) (by kernel_rfl) ?_;simp;apply yA 1;simp;refine Ab.Gr (f:=169) (args:=[.ptr 4 1 0 0,.d (encI x.number)]) N rfl (by simp[callee];try rfl) ?_;simp;apply yZ;simp;refine Ab.Lp (f:=170) (args:=[.ptr 4 1 0 0]) Q rfl rfl (by simp[callee];try rfl) ?_;simp;apply yZ;simp;refine Ab.Lp (f:=171) (args:=[.d (.sl ((B9 g x).map (D.int .i64))),.fn (.func 167) [] [.ptr 7 1 0 0,.ptr 5 1 0 0]]) T rfl rfl (by simp[callee];try rfl) ?_;simp;apply yZ;simp;apply AP;simp;apply CF;clear Y hof N Q T hB1 B hs1 L;refine xS (yW ?_);simp;refine gs (AI.Lr 4 0 49 4 rfl rfl rfl) ?_;simp;apply Bo;refine FO (Z (B9 g x)) (λi tm S=>tm 1=.ptr 5 1 0 0/\tm 3=.ptr 6 1 0 0/\tm 4=.d (encI a)/\tm 52=.d (BZ (B9 g x))/\tm 53=.d (.int .i64 (Z (B9 g x)))/\tm 54=.d (encI i)/\S=Jn g x o a (Kq g x i) (Ko g x i) i) (er _) (by simp[Jn,C8,bV,ha,u,Kq,Ko,K6,zi]) ?_;rintro i tm S hi ⟨t1,t3,t4,t52,t53,t54,rfl⟩;have hcl:Z (B9 g x)<=Z g.AD:=J8 _ _ _;apply yW;simp[t53,t54];apply xC;simp;refine⟨λzg=>?_,λzu=>?_⟩
 .have Kx:(B9 g x).take (i+1)=(B9 g x).take i++[(B9 g x)[i]]:=by rw[abN,ej zg];rfl
  have hcr:=IY (cL zg);have hnd:=X _ (cL zg);have U:=hrq _ (cL zg);obtain⟨c,hc⟩:∃c:Nat,(B9 g x)[i]=c:=⟨(B9 g x)[i].toNat,by omega⟩;have hc1:c<Z g.AD:=by omega
  have hqe:CB g (c:Int)=g.AD[c]:=by simp[CB,hc1]
  have hRe:UD g x c=o.right.take a++(g.AD[c].right++o.right.drop (a+1)):=by simp[UD,zy,ha,hqe]
  have hPe:Iw g x c={G9 with name:=o.name++⟨#[95]⟩++g.AD[c].name,left:=o.left,right:=UD g x c,cond:=(Dl and o.cond g.AD[c].cond).1}:=by simp[Iw,zy,hqe]
  rw[hc]at hnd U Kx;rw[hqe]at hnd U;have hPl:Z (Kq g x i)=Z g.AD+i:=by simp[Kq];omega
  have w:Z (Ko g x i)=i:=by unfold Ko;rw[Ln];simp;omega
  have htl:Z ((B9 g x).take i)=i:=by simp;omega
  have hPs:Kq g x (i+1)=Kq g x i++[Iw g x c]:=by unfold Kq;rw[Kx];simp
  have hMs:Ko g x (i+1)=Ko g x i++[Tn g x (Z g.AD+i) c]:=by unfold Ko;rw[Kx,UB,htl]
  clear Kx htl;generalize Kq g x i=P at *;generalize Ko g x i=M at *;generalize hq:g.AD[c]=q at *;generalize hR:UD g x c=R at *;have m:=AF.eq_1 q;unfold Jn C8 bV;apply xK;apply xB;apply yW;simp[t52,t54,zg,hc];(repeat apply xS);apply yV;simp[t1,hc1,hq,m];obtain⟨U,hnq⟩:=U;have hz1:o.name.size<=9223372036854775806:=by omega
  have hz2:o.name.size+1+q.name.size<=9223372036854775807:=by omega
  have W:=NO [o.right.take a,q.right,o.right.drop (a+1)] (by simp;omega);have hfl:[o.right.take a,q.right,o.right.drop (a+1)].flatten=R:=by rw[hRe];simp
  rw[hfl]at W;have hRl:Z R<=2 ^ 22:=by rw[hRe];simp;omega
  have hw:b8 .i64 ((a:Int)+1)=(a+1:Nat):=by rw[c8];omega
  have d1:a<=Z o.right:=by omega
  have A:List.take (Z o.right) (o4 AH o.right)=o4 AH o.right:=PP (by simp);have d7:(a:Int)+1<=Z o.right:=by omega
  have d9:(0:Int)<=a+1:=by omega
  have d8:a+1<=Z o.right:=by omega
  refine m7 (R:=λtm S=>tm 1=.ptr 5 1 0 0/\tm 3=.ptr 6 1 0 0/\tm 4=.d (encI a)/\tm 9=.d (encI c)/\tm 10=.ptr 9 1 0 0/\tm 11=.d (Ax R)/\tm 52=.d (BZ (B9 g x))/\tm 53=.d (.int .i64 (Z (B9 g x)))/\tm 54=.d (encI i)/\S=Jn g x o a P M i++[.row J 13 [.d (AF q)]]) ?_ ?_
  .by_cases d5:a+1<Z o.right
   .skip;refine yE (A7 14 []) (by kernel_rfl) ?_;simp;apply yA 1;simp[u,t3,t4,hw,a8,d1,d5,d7,d9];refine j0 (W) rfl (by simp[A,xN]) ?_;simp[A];apply yA 1;simp;unfold HQ;simp[t1,t3,t4,t52,t53,t54,Jn,C8,bV,u,m]
   .have d6:a+1=Z o.right:=by omega
    refine yE (A7 14 []) (by kernel_rfl) ?_;simp;apply yA 1;simp[u,t3,t4,hw,a8,d1,d6];refine j0 (W) rfl (by simp[d6,xN]) ?_;simp;apply yA 1;simp;unfold HQ;simp[t1,t3,t4,t52,t53,t54,Jn,C8,bV,u,m]
  rintro tm S ⟨t1,t3,t4,t9,t10,t11,t52,t53,t54,rfl⟩;clear W hfl;have G:=Vc (S:=Jn g x o a P M i++[.row J 13 [.d (AF q)]]) (r:=4) (g:=g) (x:=x) rfl o.cond q.cond (by simp[Jn,C8,bV,AJ,Au]);have C:=G.Fg (args':=[.ptr 4 1 0 0,.agg [.d (AV o.cond.nodes),.d (encI o.cond.root)],.agg [.d (AV q.cond.nodes),.d (encI q.cond.root)]]) rfl λi h h'=>by
   match i,h with
   |0,_=>exact .inl rfl
   |1,_=>exact .inr ⟨AB o.cond,by simp[BO,AB],rfl⟩
   |2,_=>exact .inr ⟨AB q.cond,by simp[BO,AB],rfl⟩
  rw[hnd]at C;clear G;generalize(Dl and o.cond q.cond).1=cd at *;have had0:=SY (S:=Jn g x o a P M i++[.row J 13 [.d (AF q)]]) (r:=4) (q:=3) (k:=Z P) (g:=g) (x:=x) rfl rfl (by simp) (by omega) (by simp[Ac]) (Iw g x c) (by simp[Jn,C8,bV,AJ,Au]);have v:=had0.Fg (args':=[.ptr 4 1 0 0,.agg [.d (.str (o.name++⟨#[95]⟩++q.name)),.d (.int .i64 o.left),.d (Ax R),.d (.sl (cd.nodes.map AU)),.d (.int .i64 cd.root),.d (.bool ap),.d (.int .i64 0),.full [],.d (.bool ap),.d (.int .i64 0),.d (.int .i64 0),.d (.int .i64 0),.d (.int .i64 0)]]) rfl λi h h'=>by
   match i,h with
   |0,_=>exact .inl rfl
   |1,_=>exact .inr ⟨_,by simp[BO,AF,G9,hPe],rfl⟩
  clear had0;unfold Jn C8 bV at C v;simp[bne_self_eq_false]at C v;unfold Jn C8 bV;(repeat apply xS);refine yE (A7 17 [35,36]) (by kernel_rfl) ?_;simp;apply yA 1;simp[t1,t3,t10,t11,u,m,a8,hz1,hz2];refine Ab.Gr (f:=80) (args:=[.ptr 4 1 0 0,.agg [.d (AV o.cond.nodes),.d (encI o.cond.root)],.agg [.d (AV q.cond.nodes),.d (encI q.cond.root)]]) C rfl (by simp[callee];try rfl) ?_;simp;apply yA 1;simp[AB];refine Ab.pF (xT [1,1,0,0,0,0,0,0,0,0,0,0,0,0,0,0,1]) (v) (by kernel_rfl) rfl (by simp[AY,u,m,t1,t3,t10,a8,hz1,hz2];try rfl) ?_;simp[u,m];apply yA 1;simp;clear C v X hrq;have zw:=L9 (Z P:Int);have hh:=Jt [DX (Z P)] ap 0 (Z R) (by simp;omega) (by omega);have hm2:o4 (λx=>V.d (AF x)) P++[V.d (AF (Iw g x c))]=o4 (λx=>V.d (AF x)) (P++[Iw g x c]):=by simp
  rw[hm2];have hl2:Z P+1=Z (P++[Iw g x c]):=by simp
  have hWe:Tn g x (Z g.AD+i) c=⟨x.number,a,c,DX (Z P)::Db 0 (Z R)⟩:=by simp[Tn,ha,hR,hPl]
  generalize P++[Iw g x c]=P2 at *;(repeat apply xS);apply yT;apply yJ;simp;refine Bq (zw) rfl (by simp[xN]) (yJ ?_);simp[a8,t11];refine vb (oa 99 4 (xs:=[A5 (DX (Z P))]) (by simp)) ?_;refine xF (hh) [10] rfl ?_;simp;apply yJ;simp;obtain⟨TT,hTT⟩:∃TT,TT=DX (Z P)::Db 0 (Z R):=⟨_,rfl⟩;have hTl:Z TT=1+Z R:=by rw[hTT];simp[C5];omega
  rw[<-hTl];rw[<-hTT]at hWe;refine gs (gl 10 (wr:=decide (0<Z R)) (sz:=4) (els:=(TT.map A5).map V.d) (xs:=TT.map A5) (by rw[hTT];simp[nc]) (CM _ _)) ?_;simp;have hi1:i+1<=1073741824:=by omega
  refine yE (A7 15 [31,32,34,37]) (by kernel_rfl) ?_;simp;apply yA 1;simp[t1,t4,t9,a8];apply xX 1025 (by kernel_rfl);simp[AY,Ac,t1,t4,t9,w,hi1,a8,kw];apply yA 1;simp;apply xX 32765 (by kernel_rfl);simp[AY,t1,t4,t9,a8];apply xM;have hwi:b8 .i64 ((i:Int)+1)=(i+1:Nat):=by rw[c8];omega
  apply yV;simp[t54,hwi];refine⟨zg,_,_,(j2 8 (xs:=(M++[Tn g x (Z g.AD+i) c]).map Aa) rfl ?_).trans (n8 9 (S':=Jn g x o a P2 (M++[Tn g x (Z g.AD+i) c]) (i+1)) ?_ (by simp) (by simp) (by simp[Jn,C8,bV,AJ,Au])),?_⟩
  .rw[hWe];simp[CH,BO,Aa]
  .rw[hWe];simp[Jn,C8,bV,ha,u,hl2,Aa]
  .simp[clean,AJ,t1,t3,t4,t52,t53,hPs,hMs,Jn,C8,bV]
 .have e:i=Z (B9 g x):=by omega
  subst e;apply Ci;have hPn:Kq g x (Z (B9 g x))=g.AD++(B9 g x).map (Iw g x):=by simp[Kq]
  have hMn:Ko g x (Z (B9 g x))=K6 g x (Z g.AD) (B9 g x):=by simp[Ko]
  have w:=Ln g x (B9 g x) (Z g.AD);rw[hPn,hMn,<-w];have hgj:g.AD[j]=o:=by
   have:Bd g x=g.AD[j]:=by simp[Bd,hj,hj1]
   rw[<-this,zy]
  have E:j<Z (g.AD++(B9 g x).map (Iw g x)):=by simp;omega
  have hPj:(g.AD++(B9 g x).map (Iw g x))[j]=o:=by rw[oi hj1,hgj]
  have F:(j:Int)<Z (g.AD++(B9 g x).map (Iw g x)):=by omega
  have hjn:x.number.toNat=j:=by omega
  unfold ZZ;rw[zy,hjn];generalize K6 g x (Z g.AD) (B9 g x)=M at *;generalize g.AD++(B9 g x).map (Iw g x)=P at *;unfold Jn C8 bV;refine yD (A7 13 [27]) (by kernel_rfl) ?_;simp;apply yA 1;simp[t1,hj];refine j0 (Hw ap) rfl (by simp[xN]) ?_;simp;apply yA 1;simp[E,F,u];apply xX 8189 (by kernel_rfl);simp[AY,t1,E,hPj,F,u];apply xM;apply yW;simp;apply Aj;refine⟨_,(j2 3 (xs:=(P.set j {o with cond:=⟨[],0⟩}).map AF) rfl ?_).trans ((rc (S':=C8 g x {g with AD:=P.set j {o with cond:=⟨[],0⟩}} (.row 8 (Z M)) ap (!g.conds.isEmpty) (!g.AT.isEmpty) (!g.A0.isEmpty) J++([.row J 1 [.ptr 4 1 0 0],.row J 13 [.d (AF o)],.row J 1 [.d (.bool ((a:Int)==(Z o.right:Int) - 1))]]++[.row (decide (0<Z M)) 4 (M.map λr=>.d (Aa r))])) ?_).trans (pU (c9 5) g x {g with AD:=P.set j {o with cond:=⟨[],0⟩}} M ap _ _ _ _ _ [.row J 1 [.ptr 4 1 0 0],.row J 13 [.d (AF o)],.row J 1 [.d (.bool ((a:Int)==(Z o.right:Int) - 1))]])),?_⟩
  .rw[CH,g9,m0,g9,g9,m0];congr 1
  .simp[C8,bV,hj,ha,nc,u]
  .simp[Aq,clean,Fk,AJ]
theorem VY(g:AE)(x:AZ)(W:DE g x=J)(X:(Dq g x.number||(H8 g x||(B9 g x).any (λi=>Px g x&&(CB g i).right.isEmpty)))=J)(Y:Z g.AD<=2 ^ 20)(hr:Z (Bd g x).right<=2 ^ 20):
  AG prog 83 [.ptr 4 1 0 0] (bS g x) (.d (encI 311)) (Ho g x g [] ap):=by
 obtain⟨hp,a,ha,K,L,htk⟩:=ES W;have M:=hp;simp[DQ]at M;obtain⟨j,hj⟩:∃j:Nat,x.number=j:=⟨x.number.toNat,by omega⟩;have N:j<Z g.AD:=by omega
 have zi:g.AD.isEmpty=false:=by cases h:g.AD<;>simp[h]at N⊢
 obtain⟨k,m⟩:∃k,k=O.row J 1 [.ptr 4 1 0 0]:=⟨_,rfl⟩;obtain⟨B,E⟩:∃B,B=O.row J 13 [.d (AF (Bd g x))]:=⟨_,rfl⟩;obtain⟨C,v⟩:∃C,C=O.row J 1 [.d (.bool ((a:Int)==(Z (Bd g x).right:Int) - 1))]:=⟨_,rfl⟩;have P:Px g x=((a:Int)==(Z (Bd g x).right:Int) - 1):=by unfold Px;rw[ha]
 rw[P]at X;have Q:TX (bS g x++[k]) 4 g x:=⟨_,_,_,_,_,_,_,_,_,_,_,rfl⟩;have q:TX (bS g x++[k,B,C]) 4 g x:=⟨_,_,_,_,_,_,_,_,_,_,_,rfl⟩;have R:(bS g x++[k]).all (Ao (Z (bS g x++[k])))=true:=by simp[bS,C8,bV,m,AJ]
 have w:(bS g x++[k,B,C]).all (Ao (Z (bS g x++[k,B,C])))=true:=by simp[bS,C8,bV,m,E,v,AJ]
 have F:=Jh Q R hp;have G:AG prog 168 [.ptr 4 1 0 0,.d (encI (Jw g x).index)] _ (.d (BZ (B9 g x))) _:=Xt q w Y (Jw g x).index;have u:=Hl q w (i:=x.number) (by omega);have A:=KU q w Y W;have H:=IN (B9 g x) (λi=>((a:Int)==(Z (Bd g x).right:Int) - 1)&&(CB g i).right.isEmpty) 167 [.ptr 7 1 0 0,.ptr 5 1 0 0] (bS g x++[k,B,C]) (λi hi=>U5 q (by rw[v];rfl) (by rw[m];rfl) (IY hi));generalize Dq g x.number=b1 at *;generalize H8 g x=b2 at *;generalize hb3:(B9 g x).any (λi=>((a:Int)==(Z (Bd g x).right:Int) - 1)&&(CB g i).right.isEmpty)=b3 at *;refine zC func83 135 rfl λwf _=>?_;generalize zy:Bd g x=o at *;generalize hss:Jw g x=s at *;have S:=AF.eq_1 o;have T:=AH.eq_1 s;subst m E v;unfold bS C8 bV at *;apply yW;simp;apply yS;apply yJ;simp;refine i9 rfl rfl (by simp) (f:=85) (args:=[.ptr 4 1 0 0]) (by simp[callee];try rfl) (by simp) F (yJ ?_);simp[S];(repeat apply xS);apply yV;simp;have U:b8 .i64 ((Z o.right:Int) - 1)=(Z o.right:Int) - 1:=by rw[c8];omega
 apply yW;simp[U];(repeat apply xS);apply yV;simp;simp[ha]at G u A H;(repeat apply xS);refine yE (A7 9 []) (by kernel_rfl) ?_;simp;apply yA 1;simp[ha,K,L.symm,T];refine Ab.Gr (f:=168) (args:=[.ptr 4 1 0 0,.d (encI s.index)]) G rfl (by simp[callee];try rfl) ?_;simp;apply yA 1;simp;cases b1 with
 |true=>
  apply xS;refine yD (A7 16 []) (by kernel_rfl) ?_;simp;apply yA 1;simp;refine Ab.Gr (f:=169) (args:=[.ptr 4 1 0 0,.d (encI x.number)]) u rfl (by simp[callee];try rfl) ?_;simp;apply yZ;simp;apply AP;simp;apply yW;simp;apply Aj;refine⟨_,(fd 5 (S':=C8 g x g (.full []) ap (!g.conds.isEmpty) (!g.AT.isEmpty) (!g.A0.isEmpty) (!g.AD.isEmpty)) (by simp[C8,bV,ha]) (by simp) (by simp) (by simp)).trans (SI g x _ _ [] ap _ _ _ _ rfl),?_⟩;simp[Aq,clean,Fk,AJ]
 |false=>
  cases b2 with
  |true=>
   apply xS;refine yD (A7 16 []) (by kernel_rfl) ?_;simp;apply yA 1;simp;refine Ab.Gr (f:=169) (args:=[.ptr 4 1 0 0,.d (encI x.number)]) u rfl (by simp[callee];try rfl) ?_;simp;apply yZ;simp;refine Ab.Lp (f:=170) (args:=[.ptr 4 1 0 0]) A rfl rfl (by simp[callee];try rfl) ?_;simp;apply yZ;simp;apply AP;simp;apply yW;simp;apply Aj;refine⟨_,(fd 5 (S':=C8 g x g (.full []) ap (!g.conds.isEmpty) (!g.AT.isEmpty) (!g.A0.isEmpty) (!g.AD.isEmpty)) (by simp[C8,bV,ha]) (by simp) (by simp) (by simp)).trans (SI g x _ _ [] ap _ _ _ _ rfl),?_⟩;simp[Aq,clean,Fk,AJ]
  |false=>
   obtain rfl:b3=true:=by simpa using X
   apply xS;refine yD (A7 16 []) (by kernel_rfl) ?_;simp;apply yA 1;simp;refine Ab.Gr (f:=169) (args:=[.ptr 4 1 0 0,.d (encI x.number)]) u rfl (by simp[callee];try rfl) ?_;simp;apply yZ;simp;refine Ab.Lp (f:=170) (args:=[.ptr 4 1 0 0]) A rfl rfl (by simp[callee];try rfl) ?_;simp;apply yZ;simp;refine Ab.Lp (f:=171) (args:=[.d (.sl ((B9 g x).map (D.int .i64))),.fn (.func 167) [] [.ptr 7 1 0 0,.ptr 5 1 0 0]]) H rfl rfl (by simp[callee];try rfl) ?_;simp;apply yZ;simp;apply AP;simp;apply yW;simp;apply Aj;refine⟨_,(fd 5 (S':=C8 g x g (.full []) ap (!g.conds.isEmpty) (!g.AT.isEmpty) (!g.A0.isEmpty) (!g.AD.isEmpty)) (by simp[C8,bV,ha]) (by simp) (by simp) (by simp)).trans (SI g x _ _ [] ap _ _ _ _ rfl),?_⟩;simp[Aq,clean,Fk,AJ]
def yN(g:AE)(x:AZ):List Symbol:=(Bd g x).right.set x.at_.toNat ⟨ap,Z g.A0⟩
def dU(g:AE)(_:AZ)(i:Int):AO:={CB g i with name:=(CB g i).name++⟨#[95,99,111,112,121]⟩,left:=Z g.A0}
def wI(g:AE)(x:AZ)(k:Nat)(i:Int):List C9:=(([DX x.number]++Db 0 x.at_.toNat)++[DX k])++Db x.at_.toNat (Z (Bd g x).right - 1+Z (CB g i).right - x.at_.toNat)
def om(g:AE)(x:AZ)(k:Nat)(i:Int):Rewrite:=⟨x.number,x.at_,i,wI g x k i⟩
def WC(g:AE)(x:AZ):Nat->List Int->List Rewrite
 |_,[]=>[]
 |k,i::l=>om g x k i::WC g x (k+1) l
theorem YU(g:AE)(x:AZ):∀(l:List Int) (k:Nat) (i:Int),WC g x k (l++[i])=WC g x k l++[om g x (k+Z l) i]
 |[],k,i=>by simp[WC]
 |j::l,k,i=>by simp[WC,YU g x l,py,adZ 1]
theorem Oc(g:AE)(x:AZ):∀(l:List Int) (k:Nat),Z (WC g x k l)=Z l
 |[],_=>rfl
 |_::l,k=>by simp[WC,Oc g x l]
def tZ(g:AE)(x:AZ):AE:={g with A0:=g.A0++[x.name],AD:=(g.AD++(B9 g x).map (dU g x)).set x.number.toNat {Bd g x with right:=yN g x}}
def QZ(g:AE)(x:AZ)(i:Nat):List AO:=g.AD++((B9 g x).take i).map (dU g x)
def QR(g:AE)(x:AZ)(i:Nat):List Rewrite:=WC g x (Z g.AD) ((B9 g x).take i)
def kE(g:AE)(x:AZ)(o:AO)(P:List AO)(M:List Rewrite)(i:Nat):Sg:=
 C8 g x {g with A0:=g.A0++[x.name],AD:=P} (.row 7 i) ap (!g.conds.isEmpty) (!g.AT.isEmpty) J J++
  [.row J 13 [.d (AF o)],.row J 2 [.d (AH ⟨ap,Z g.A0⟩)],.row (decide (0<i)) 4 (M.map λr=>.d (Aa r))]
theorem jZ(g:AE)(x:AZ)(hf:DE g x=J)(hb:Dq g x.number=ap)(hbc:H8 g x=ap)
  (hl:Z g.AD<=2 ^ 20) (hn:Z g.A0<=2 ^ 20) (hr:Z (Bd g x).right<=2 ^ 20) (hrq:∀i∈B9 g x,Z (CB g i).right<=2 ^ 20/\(CB g i).name.size<=2 ^ 20):
  AG prog 88 [.ptr 4 1 0 0] (bS g x) (.d (encI 0)) (Ho g x (tZ g x) (WC g x (Z g.AD) (B9 g x)) ap):=by
 obtain⟨hp,a,ha,T,hsy,htk⟩:=ES hf;have hp':=hp;simp[DQ]at hp';obtain⟨j,hj⟩:∃j:Nat,x.number=j:=⟨x.number.toNat,by omega⟩;have U:j<Z g.AD:=by omega
 have zi:g.AD.isEmpty=false:=by cases h:g.AD<;>simp[h]at U⊢
 have A:=vy g x;have B:(bS g x).all (Ao (Z (bS g x)))=true:=by simp[bS,C8,bV]
 have H:=Jh A B hp;have W:=Hl A B (i:=x.number) (by omega);have X:=KU A B hl hf;rw[hb]at W;rw[hbc]at X;have hla:Z (Bd g x).right<=2 ^ 20:=hr;generalize zy:Bd g x=o at *;have hB2:TX (C8 g x {g with A0:=g.A0++[x.name]} (.full []) ap (!g.conds.isEmpty) (!g.AT.isEmpty) J (!g.AD.isEmpty)++[O.row J 13 [.d (AF o)],O.row J 2 [.d (AH ⟨ap,Z g.A0⟩)]]) 4 g x:=⟨_,_,_,_,_,_,_,_,_,_,_,rfl⟩;have Y:AG prog 168 [.ptr 4 1 0 0,.d (encI (Jw g x).index)] _ (.d (BZ (B9 g x))) _:=Xt hB2 (by simp[C8,bV]) hl (Jw g x).index;generalize hss:Jw g x=s at *;have u:=AF.eq_1 o;have hes:=AH.eq_1 s;have hfr:=UZ (S:=bS g x++[O.row J 13 [.d (AF o)]]) (r:=4) (q:=2) (k:=Z g.A0) (g:=g) (x:=x) rfl rfl (by simp) (by omega) (by simp[Ac]) (by simp[bS,C8,bV]);refine zC func88 128 rfl λwf _=>?_;unfold bS C8 bV at *;simp[u]at hfr;apply yW;simp;refine xS (yS ?_);apply yJ;simp;refine i9 rfl rfl (by simp) (f:=169) (args:=[.ptr 4 1 0 0,.d (encI x.number)]) (by simp[callee];try rfl) (by simp) W ?_;simp;apply yH;simp;refine AS.JB (g:=true) (f:=170) (args:=[.ptr 4 1 0 0]) (λ_=>X) rfl rfl (by simp) (by simp) (by simp[callee]) ?_;simp;apply yH;simp;apply AP;simp;apply xK;apply yS;apply yJ;simp;refine i9 rfl rfl (by simp) (f:=85) (args:=[.ptr 4 1 0 0]) (by simp[callee];try rfl) (by simp) H (yJ ?_);simp[u];apply yW;simp;(repeat apply xS);apply yT;apply yJ;simp;refine i9 rfl rfl (by simp) (f:=176) (args:=[.ptr 4 1 0 0]) (by simp[callee];try rfl) (by simp) hfr (yJ ?_);simp;simp[ha]at Y;refine xS (yS ?_);apply yJ;simp[ha,T,hsy.symm,hes];refine i9 rfl rfl (by simp) (f:=168) (args:=[.ptr 4 1 0 0,.d (encI s.index)]) (by simp[callee];try rfl) (by simp) Y (yJ ?_);simp;clear H Y W X hfr A hB2 B;refine gs (AI.Lr 4 0 49 4 rfl rfl rfl) ?_;simp;apply Bo;refine FO (Z (B9 g x)) (λi tm S=>tm 0=.ptr 4 1 0 0/\tm 3=.ptr 5 1 0 0/\tm 4=.d (encI a)/\tm 5=.ptr 6 1 0 0/\tm 40=.d (BZ (B9 g x))/\tm 41=.d (.int .i64 (Z (B9 g x)))/\tm 42=.d (encI i)/\S=kE g x o (QZ g x i) (QR g x i) i) (er _) (by simp[kE,C8,bV,ha,u,QZ,QR,WC,zi]) ?_;rintro i tm S hi ⟨t0,t3,t4,t5,t40,t41,t42,rfl⟩;have hcl:Z (B9 g x)<=Z g.AD:=J8 _ _ _;apply yW;simp[t41,t42];apply xC;simp;refine⟨λzg=>?_,λzu=>?_⟩
 .have Kx:(B9 g x).take (i+1)=(B9 g x).take i++[(B9 g x)[i]]:=by rw[abN,ej zg];rfl
  have hcr:=IY (cL zg);have C:=hrq _ (cL zg);obtain⟨c,hc⟩:∃c:Nat,(B9 g x)[i]=c:=⟨(B9 g x)[i].toNat,by omega⟩;have hc1:c<Z g.AD:=by omega
  have hqe:CB g (c:Int)=g.AD[c]:=by simp[CB,hc1]
  have hPe:dU g x c={g.AD[c]with name:=g.AD[c].name++⟨#[95,99,111,112,121]⟩,left:=Z g.A0}:=by simp[dU,hqe]
  rw[hc]at C Kx;rw[hqe]at C;obtain⟨C,hnq⟩:=C;have hPl:Z (QZ g x i)=Z g.AD+i:=by simp[QZ];omega
  have v:Z (QR g x i)=i:=by unfold QR;rw[Oc];simp;omega
  have htl:Z ((B9 g x).take i)=i:=by simp;omega
  have hPs:QZ g x (i+1)=QZ g x i++[dU g x c]:=by unfold QZ;rw[Kx];simp
  have hMs:QR g x (i+1)=QR g x i++[om g x (Z g.AD+i) c]:=by unfold QR;rw[Kx,YU,htl]
  clear Kx htl;generalize QZ g x i=P at *;generalize QR g x i=M at *;have hTe:wI g x (Z g.AD+i) c=(([DX j]++Db 0 a)++[DX (Z P)])++Db a (Z o.right - 1+Z g.AD[c].right - a):=by simp[wI,hj,ha,zy,hqe,hPl]
  generalize hq:g.AD[c]=q at *;have w:=AF.eq_1 q;have E:q.name.size<=9223372036854775802:=by omega
  generalize hQ:dU g x c=Q at *;have heQ:=AF.eq_1 Q;have m:=SY (S:=kE g x o P M i++[.row J 13 [.d (AF Q)]]) (r:=4) (q:=3) (k:=Z P) (g:=g) (x:=x) rfl rfl (by simp) (by omega) (by simp[Ac]) Q (by simp[kE,C8,bV,AJ,Au]);unfold kE C8 bV at m⊢;simp at m;apply xK;apply xB;apply yW;simp[t40,t42,zg,hc];apply yW;simp[t0,hc1,hq,w];apply yW;simp;refine yD (A7 6 [13,14,17]) (by kernel_rfl) ?_;simp;apply yA 1;simp[a8,E,t5];apply xX 57 (by kernel_rfl);simp[AY,a8,E,t5];apply yA 1;simp;apply xX 7 (by kernel_rfl);simp[AY,t5];apply xM;refine gs (j2 8 (xs:=[AF Q]) rfl (by simp[Df,BO,hPe,AF])) ?_;simp;(repeat apply xS);apply yT;apply yJ;simp[t0];refine i9 rfl rfl (by simp) (f:=173) (args:=[.ptr 4 1 0 0,.d (AF Q)]) (by simp[callee];try rfl) (by simp) m (yJ ?_);simp;clear m hrq;have hm2:o4 (λx=>V.d (AF x)) P++[V.d (AF Q)]=o4 (λx=>V.d (AF x)) (P++[Q]):=by simp
  rw[hm2];have hl2:Z P+1=Z (P++[Q]):=by simp
  generalize P++[Q]=P2 at *;have hno1:=L9 (j:Int);have hno2:=L9 (Z P:Int);obtain⟨N,hN⟩:∃N,N=Z o.right - 1+Z q.right:=⟨_,rfl⟩;have F:b8 .i64 ((Z o.right:Int) - 1)=(Z o.right:Int) - 1:=by rw[c8];omega
  have G:b8 .i64 ((Z o.right:Int) - 1+Z q.right)=(N:Int):=by rw[c8];omega
  rw[<-hN]at hTe;have hh1:=Jt [DX j] ap 0 a (by simp;omega) (by omega);have hh2:=Jt (([DX j]++Db 0 a)++[DX (Z P)]) J a (N - a) (by simp[C5];omega) (by omega);have hrl2:a+(N - a)=N:=by omega
  rw[hrl2]at hh2;(repeat apply xS);apply yT;apply yJ;simp[t0,hj];refine Bq (hno1) rfl (by simp[xN]) (yJ ?_);simp[a8,t4];refine vb (oa 73 4 (xs:=[A5 (DX j)]) (by simp)) ?_;refine xF (hh1) [9] rfl ?_;simp;apply yJ;simp;have e5:a+1=1+a:=by omega
  have e6:1+a<=1073741823:=by omega
  simp[C5,e5]at hh2;(repeat apply xS);refine yE (A7 4 [10,12,14,16,18,20,22,9,25,26]) (by kernel_rfl) ?_;simp;apply yA 1;simp;refine B6 (hno2) rfl (by simp[xN]) ?_;simp;apply yA 1;simp[t3,t4,u,a8,F,G];apply xX 1408 (by kernel_rfl);simp[AY,Ak,C5,Ac,ld,kw,t3,t4,a8,e5,e6,F,G];refine ul (xT [1,0,0,0,0,0,1,0]) (hh2) [9] (by kernel_rfl) rfl (by simp[AY,t3,t4,a8,F,G];try rfl) ?_;simp;apply yA 1;simp;obtain⟨TT,hTT⟩:∃TT,TT=DX j::(Db 0 a++DX (Z P:Int)::Db a (N - a)):=⟨_,rfl⟩;have hTl:Z TT=1+a+1+(N - a):=by rw[hTT];simp[C5];omega
  rw[<-hTl];refine gs (gl 9 (wr:=true) (sz:=4) (els:=(TT.map A5).map V.d) (xs:=TT.map A5) (by rw[hTT];simp[nc]) (CM _ _)) ?_;simp;have hWe:om g x (Z g.AD+i) c=⟨x.number,a,c,TT⟩:=by simp[om,ha,hTe,hTT]
  have hi1:i+1<=1073741824:=by omega
  refine yE (A7 15 [31,32,34,37]) (by kernel_rfl) ?_;simp;apply yA 1;simp[t0,t4,a8];apply xX 1025 (by kernel_rfl);simp[AY,Ac,t0,t4,v,hi1,a8,kw];apply yA 1;simp;apply xX 32765 (by kernel_rfl);simp[AY,t0,t4,a8];apply xM;have hwi:b8 .i64 ((i:Int)+1)=(i+1:Nat):=by rw[c8];omega
  apply yV;simp[t42,hwi];refine⟨zg,_,_,(j2 7 (xs:=(M++[om g x (Z g.AD+i) c]).map Aa) rfl ?_).trans (n8 8 (S':=kE g x o P2 (M++[om g x (Z g.AD+i) c]) (i+1)) ?_ (by simp) (by simp) (by simp[kE,C8,bV,AJ,Au])),?_⟩
  .rw[hWe];simp[CH,BO,Aa,hj]
  .rw[hWe];simp[kE,C8,bV,ha,hj,u,hl2,Aa]
  .simp[clean,AJ,t0,t3,t4,t5,t40,t41,hPs,hMs,kE,C8,bV]
 .have e:i=Z (B9 g x):=by omega
  subst e;apply Ci;have hPn:QZ g x (Z (B9 g x))=g.AD++(B9 g x).map (dU g x):=by simp[QZ]
  have hMn:QR g x (Z (B9 g x))=WC g x (Z g.AD) (B9 g x):=by simp[QR]
  have v:=Oc g x (B9 g x) (Z g.AD);rw[hPn,hMn,<-v];have hgj:g.AD[j]=o:=by
   have:Bd g x=g.AD[j]:=by simp[Bd,hj,U]
   rw[<-this,zy]
  have K:j<Z (g.AD++(B9 g x).map (dU g x)):=by simp;omega
  have hPj:(g.AD++(B9 g x).map (dU g x))[j]=o:=by rw[oi U,hgj]
  have L:(j:Int)<Z (g.AD++(B9 g x).map (dU g x)):=by omega
  have hjn:x.number.toNat=j:=by omega
  have han:x.at_.toNat=a:=by omega
  have hxe:o.right.isEmpty=false:=by cases h:o.right<;>simp[h]at T⊢
  have hcs:=Iu o.right (by omega);rw[hxe]at hcs;unfold tZ yN;rw[zy,hjn,han];generalize WC g x (Z g.AD) (B9 g x)=M at *;generalize g.AD++(B9 g x).map (dU g x)=P at *;unfold kE C8 bV;apply yS;apply yJ;simp[t3,u];refine xF (hcs) [] rfl ?_;simp;apply yJ;simp;(repeat apply xS);apply yV;simp[t4,t5,T];obtain⟨R,hR⟩:∃R,R=o.right.set a ⟨ap,Z g.A0⟩:=⟨_,rfl⟩;have hRl:Z R=Z o.right:=by rw[hR];simp
  rw[<-hR];obtain⟨P3,hP3⟩:∃P3,P3=P.set j {o with right:=R}:=⟨_,rfl⟩;rw[<-hP3];refine gs (gl 8 (wr:=true) (sz:=2) (els:=(R.map AH).map V.d) (xs:=R.map AH) (by rw[hR];simp[nc]) (CM _ _)) ?_;simp;refine yD (A7 13 [27]) (by kernel_rfl) ?_;simp;apply yA 1;simp[t0,hj,K,L];apply xX 8189 (by kernel_rfl);simp[AY,t0,K,hPj,L,u];apply xM;apply yW;simp;apply Aj;refine⟨_,(j2 3 (xs:=P3.map AF) rfl ?_).trans ((n8 8 (S':=C8 g x {g with A0:=g.A0++[x.name],AD:=P3} (.row 7 (Z M)) ap (!g.conds.isEmpty) (!g.AT.isEmpty) J J++([.row J 13 [.d (AF o)],.row J 2 [.d (AH ⟨ap,Z g.A0⟩)]]++[.row (decide (0<Z M)) 4 (M.map λr=>.d (Aa r))])) ?_ (by simp) (by simp) (by simp[C8,bV,AJ,Au])).trans (pU (c9 5) g x {g with A0:=g.A0++[x.name],AD:=P3} M ap _ _ _ _ _ [.row J 13 [.d (AF o)],.row J 2 [.d (AH ⟨ap,Z g.A0⟩)]])),?_⟩
  .rw[CH,hP3,g9,m0,g9,g9,m0];congr 1;simp[BO,AF,hRl]
  .simp[C8,bV,hj,ha,hP3,nc,u]
  .simp[Aq,clean,Fk,AJ]
theorem Ym(g:AE)(x:AZ)(o:DE g x=J)(q:(Dq g x.number||H8 g x)=J)(u:Z g.AD<=2 ^ 20):
  AG prog 88 [.ptr 4 1 0 0] (bS g x) (.d (encI 311)) (Ho g x g [] ap):=by
 obtain⟨v,a,ha,w,A,B⟩:=ES o;simp[DQ]at v;have h:=vy g x;have j:(bS g x).all (Ao (Z (bS g x)))=true:=by simp[bS,C8,bV]
 have k:=Hl h j (i:=x.number) (by omega);have m:=KU h j u o;generalize Dq g x.number=b1 at *;generalize H8 g x=C at *;refine zC func88 128 rfl λwf _=>?_;unfold bS C8 bV at *;(repeat apply xS);apply yV;simp;cases b1 with
 |true=>
  refine xS (yS ?_);apply yJ;simp;refine i9 rfl rfl (by simp) (f:=169) (args:=[.ptr 4 1 0 0,.d (encI x.number)]) (by simp[callee];try rfl) (by simp) k ?_;simp;apply yH;simp;apply AP;simp;apply yW;simp;apply Aj;refine⟨_,(fd 5 (S':=C8 g x g (.full []) ap (!g.conds.isEmpty) (!g.AT.isEmpty) (!g.A0.isEmpty) (!g.AD.isEmpty)) (by simp[C8,bV]) (by simp) (by simp) (by simp)).trans (SI g x _ _ [] ap _ _ _ _ rfl),?_⟩;simp[Aq,clean,Fk,AJ]
 |false=>
  obtain rfl:C=true:=by simpa using q
  refine xS (yS ?_);apply yJ;simp;refine i9 rfl rfl (by simp) (f:=169) (args:=[.ptr 4 1 0 0,.d (encI x.number)]) (by simp[callee];try rfl) (by simp) k ?_;simp;apply yH;simp;refine AS.JB (g:=true) (f:=170) (args:=[.ptr 4 1 0 0]) (λ_=>m) rfl rfl (by simp) (by simp) (by simp[callee]) ?_;simp;apply yH;simp;apply AP;simp;apply yW;simp;apply Aj;refine⟨_,(fd 5 (S':=C8 g x g (.full []) ap (!g.conds.isEmpty) (!g.AT.isEmpty) (!g.A0.isEmpty) (!g.AD.isEmpty)) (by simp[C8,bV]) (by simp) (by simp) (by simp)).trans (SI g x _ _ [] ap _ _ _ _ rfl),?_⟩;simp[Aq,clean,Fk,AJ]
theorem fQ(g:AE)(x:AZ)(k:JD g x=J)(m:Dq g x.number=J):AG prog 86 [.ptr 4 1 0 0] (bS g x) (.d (encI 311)) (Ho g x g [] ap):=by
 obtain⟨q,j,a,t,hj,ha,u,o,v,w⟩:=KX k;have h:=Hl (vy g x) (by simp[bS,C8,bV]) (i:=x.number) (by omega);rw[m]at h;refine zC func86 102 rfl λwf _=>?_;unfold bS C8 bV at *;apply yW;simp;refine xS (yS ?_);apply yJ;simp;refine i9 rfl rfl (by simp) (f:=169) (args:=[.ptr 4 1 0 0,.d (encI x.number)]) (by simp[callee];try rfl) (by simp) h (yJ ?_);simp;apply AP;simp;apply yW;simp;apply Aj;refine⟨_,(fd 5 (S':=C8 g x g (.full []) ap (!g.conds.isEmpty) (!g.AT.isEmpty) (!g.A0.isEmpty) (!g.AD.isEmpty)) (by simp[C8,bV]) (by simp) (by simp) (by simp)).trans (SI g x _ _ [] ap _ _ _ _ rfl),?_⟩;simp[Aq,clean,Fk,AJ]
theorem eY{g:AE}{x:AZ}{h:AE}{i:List Rewrite}{j:Bool}{k1 k:FuncId}(ha:AG prog k [.ptr 4 1 0 0] (bS g x) (.CX []) (Ho g x h i j)):
  AG prog 65 (.ptr 4 1 0 0::Gw J 6) (bS g x++bx k1 k) (.d (encI 0)) (Ho g x h i j++bx k1 k):=by
 have m:=ha.Mv (bx k1 k) (by simp[bS,C8,Ho]) (by simp[bS,C8,bV]) (by simp[bS,C8,Ho]) (by simp[bS,C8,AJ]) (by simp[AJ,Au]);exact cw m rfl
theorem qg{g:AE}{x:AZ}{h:AE}{i:List Rewrite}{j:Int}{k:FuncId}(k1 k2:FuncId)(ha:AG prog k [.ptr 4 1 0 0] (bS g x) (.d (encI j)) (Ho g x h i ap)):
  AG prog k (.ptr 4 1 0 0::Gw ap 6) (bS g x++bx k1 k2) (.d (encI j)) (Ho g x h i ap++bx k1 k2):=
 ha.Mv (bx k1 k2) (by simp[bS,C8,Ho]) (by simp[bS,C8,bV]) (by simp[bS,C8,Ho]) (by simp[bS,C8,AJ]) (by simp[AJ])
theorem rO(g:AE)(x:AZ)(k1 k2:FuncId):(bS g x++bx k1 k2).all (Ao (Z (bS g x++bx k1 k2)))=true:=by simp[bS,C8,bV,bx,AJ,Au]
theorem iX(g:AE)(x:AZ)(k1 k2:FuncId):TX (bS g x++bx k1 k2) 4 g x:=⟨_,_,_,_,_,_,_,_,_,_,_,rfl⟩
theorem Hc{g:AE}(h:B3 g=0):Z g.AD<=2 ^ 20:=by
 have:=(Bx h).1;simp[Cq]at this;omega
theorem jH{g:AE}(h:B3 g=0):Z g.A0<=2 ^ 20:=by
 have:=(Bx h).1;simp[Cq]at this;omega
theorem xe(g:AE)(x:AZ)(i:x.kind=5)(j:Z g.conds<=12):
  Pure prog 7 [AA g,Ad x] (Fz (Mn g (Wh g (HP ((λx:AZ=>{x with number:=0,value:=false}) x)) (Q3 x (Z g.conds)) 0 {g with fam:=(Dl and g.fam (I9 x).1).1} [] (((I9 x).2!=0)||((Dl and g.fam (I9 x).1).2!=0))))):=
 IU IW ⟨5,75,164,65,J,J,ap,71,76,10,11⟩ (by simp[WI]) g x i (by omega) (λx:AZ=>{x with number:=0,value:=false}) (Q3 x (Z g.conds)) 0 {g with fam:=(Dl and g.fam (I9 x).1).1} [] (((I9 x).2!=0)||((Dl and g.fam (I9 x).1).2!=0)) df (λh m=>US (q:=5) (iX g x 71 76) rfl (nD g)) (λh k=>eY (lZ g x))
  λh k _=>⟨by simp,by simp,by simp;try omega⟩
theorem wo(g:AE)(x:AZ)(j:x.kind=6)(k:Z g.conds<=12):
  Pure prog 7 [AA g,Ad x] (Fz (Mn g (Wh g (HP ((λx:AZ=>{x with number:=0,cond:=⟨[],0⟩}) x)) ((DQ g x&&(F7 x.cond==0))) 0 {g with AD:=g.AD.set x.number.toNat {Bd g x with cond:=(Dl and (Bd g x).cond x.cond).1}} [] ((Dl and (Bd g x).cond x.cond).2!=0)))):=
 IU IW ⟨6,77,78,65,ap,J,ap,67,79,4,12⟩ (by simp[WI]) g x j (by omega) (λx:AZ=>{x with number:=0,cond:=⟨[],0⟩}) ((DQ g x&&(F7 x.cond==0))) 0 {g with AD:=g.AD.set x.number.toNat {Bd g x with cond:=(Dl and (Bd g x).cond x.cond).1}} [] ((Dl and (Bd g x).cond x.cond).2!=0) jq (λi m=>WN (iX g x 67 79)) (λi h=>eY (lP g x (by simp at h;exact h.1)))
  λi h _=>⟨by simp,by simp,by simp;try omega⟩
theorem Xp{g:AE}{x:AZ}:∀{l:List Int} {k:Nat} {r:Rewrite},r∈K6 g x k l->∃i∈l,Z r.BI=1+Z (UD g x i)
 |[],_,_,h=>by cases h
 |i::l,k,r,h=>by
  rcases ke.1 h with rfl|h
  .exact⟨i,by simp,by simp[Tn,C5];omega⟩
  .obtain⟨j,hj,e⟩:=Xp h;exact⟨j,by simp[hj],e⟩
theorem eT{g:AE}{x:AZ}:∀{l:List Int} {k:Nat} {r:Rewrite},r∈WC g x k l->∃i∈l,Z r.BI<=2+x.at_.toNat+(Z (Bd g x).right+Z (CB g i).right)
 |[],_,_,h=>by cases h
 |i::l,k,r,h=>by
  rcases ke.1 h with rfl|h
  .exact⟨i,by simp,by simp[om,wI,C5];omega⟩
  .obtain⟨j,hj,e⟩:=eT h;exact⟨j,by simp[hj],e⟩
def Vx(g:AE)(x:AZ):Bool:=Dq g x.number||(H8 g x||(B9 g x).any (λi=>Px g x&&(CB g i).right.isEmpty))
def WZ(g:AE)(x:AZ):Bool:=Dq g x.number||H8 g x
theorem Gb{g:AE}{x:AZ}(h:DQ g x=J):Bd g x∈g.AD:=by
 simp[DQ]at h;unfold Bd;have:x.number.toNat<Z g.AD:=by omega
 simp[List.getD,this]
theorem GA{g:AE}{x:AZ}{i:Int}(h:i∈B9 g x):CB g i∈g.AD:=by
 have j:=IY h;unfold CB;have:i.toNat<Z g.AD:=by omega
 simp[List.getD,this]
theorem HJ{g:AE}(h:B3 g=0){p:AO}(k:p∈g.AD):B1 p.cond (Z g.conds)=true:=by
 obtain⟨_,_,_,_,i,_⟩:=Bx h;have j:=(Eu i p k).2;simp[HR]at j;exact j.1.1.1
theorem cW{g:AE}(h:B3 g=0)(m:Z g.conds<=12){p q:AO}(o:p∈g.AD)(u:q∈g.AD):(Dl and p.cond q.cond).2=0:=by
 obtain⟨i,v⟩:=FM (HJ h o);obtain⟨j,k⟩:=FM (HJ h u);rw[(KA m (EE i) (EE j) v k).1]
abbrev ww:=@Bool.false_ne_true
theorem uX(g:AE)(x:AZ)(w:x.kind=7)(j:Z g.conds<=12)(k:∀p∈g.AD,p.name.size<=2 ^ 20):
  Pure prog 7 [AA g,Ad x] (Fz (Mn g (Wh g (HP ((λx:AZ=>{x with number:=0,at_:=0}) x)) (DE g x) (if Vx g x then 311 else 0) (if Vx g x then g else ZZ g x) (if Vx g x then []else K6 g x (Z g.AD) (B9 g x)) ap))):=
 IU IW ⟨7,81,82,83,ap,ap,J,67,68,4,5⟩ (by simp[WI]) g x w j (λx:AZ=>{x with number:=0,at_:=0}) (DE g x) _ _ _ ap jd (λh B=>Nr (iX g x 67 68) (rO g x 67 68)) (λh m=>qg _ _ (by
  have o:=(ES m).1;have q:=D9 h;have A:=q _ (Gb o);cases hb:Vx g x with
  |true=>exact VY g x m hb (Hc h) (by omega)
  |false=>
   simp only[Vx,SS]at hb;exact aJ g x m hb.1 hb.2.1 hb.2.2 (λi hi=>cW h j (Gb o) (GA hi)) (Hc h) (by omega) (λi hi=>⟨by have:=q _ (GA hi);omega,k _ (GA hi)⟩) (k _ (Gb o))))
  λh m hb=>by
   have o:=(ES m).1;have q:=D9 h;have A:=q _ (Gb o);cases u:Vx g x with
   |true=>rw[u]at hb;cases hb
   |false=>
    refine⟨?_,λr v=>?_,by simpa[ZZ]using j⟩
    .simp[Ln];exact ms (J8 _ _ _) (Hc h)
    .simp at v;obtain⟨i,hi,e⟩:=Xp v;have:=q _ (GA hi);simp[UD,List.length_drop]at e;omega
theorem wm(g:AE)(x:AZ)(w:x.kind=9)(j:Z g.conds<=12)(o:∀p∈g.AD,p.name.size<=2 ^ 20):
  Pure prog 7 [AA g,Ad x] (Fz (Mn g (Wh g (HP ((λx:AZ=>{x with number:=0,at_:=0,name:=⟨#[]⟩}) x)) (DE g x) (if WZ g x then 311 else 0) (if WZ g x then g else tZ g x) (if WZ g x then []else WC g x (Z g.AD) (B9 g x)) ap))):=
 IU IW ⟨9,87,82,88,ap,ap,J,67,68,4,5⟩ (by simp[WI]) g x w j (λx:AZ=>{x with number:=0,at_:=0,name:=⟨#[]⟩}) (DE g x) _ _ _ ap dA (λh C=>Nr (iX g x 67 68) (rO g x 67 68)) (λh k=>qg _ _ (by
  have q:=(ES k).1;have m:=D9 h;have A:=m _ (Gb q);cases hb:WZ g x with
  |true=>exact Ym g x k hb (Hc h)
  |false=>
   simp[WZ]at hb;exact jZ g x k hb.1 hb.2 (Hc h) (jH h) (by omega) (λi hi=>⟨by have:=m _ (GA hi);omega,o _ (GA hi)⟩)))
  λh k hb=>by
   obtain⟨q,a,ha,B,_⟩:=ES k;have m:=D9 h;have A:=m _ (Gb q);cases u:WZ g x with
   |true=>rw[u]at hb;cases hb
   |false=>
    refine⟨?_,λr v=>?_,by simpa[tZ]using j⟩
    .simp[Oc];exact ms (J8 _ _ _) (Hc h)
    .simp at v;obtain⟨i,hi,e⟩:=eT v;have:=m _ (GA hi);omega
theorem xq(g:AE)(x:AZ)(u:x.kind=8)(i:Z g.conds<=12):
  Pure prog 7 [AA g,Ad x] (Fz (Mn g (Wh g (HP ((λx:AZ=>{x with number:=0,at_:=0,to:=0,name:=⟨#[]⟩}) x)) (JD g x) (if Dq g x.number then 311 else 0) (if Dq g x.number then g else Kn g x) (if Dq g x.number then []else foldM g x) ap))):=
 IU IW ⟨8,63,84,86,ap,ap,J,67,68,4,5⟩ (by simp[WI]) g x u i (λx:AZ=>{x with number:=0,at_:=0,to:=0,name:=⟨#[]⟩}) (JD g x) _ _ _ ap du (λh A=>ZV (iX g x 67 68) (rO g x 67 68)) (λh k=>qg _ _ (by
  have m:=(KX k).1;have v:=D9 h _ (Gb m);cases hb:Dq g x.number with
  |true=>exact fQ g x k hb
  |false=>exact nE g x k hb (Hc h) (jH h) (by omega)))
  λh k hb=>by
   obtain⟨m,j,a,t,hj,ha,B,w,C,E⟩:=KX k;have v:=D9 h _ (Gb m);cases o:Dq g x.number with
   |true=>rw[o]at hb;cases hb
   |false=>
    refine⟨by simp[foldM],λr q=>?_,by simpa[Kn]using i⟩;simp[foldM]at q;subst q;simp[gQ,C5];omega
theorem R4{g h:AE}{u fit j:Bool}{k:Int}{i:List Rewrite}(h0:okF g)(m:(u&&fit)=J)(o:k=0)(q:j=ap)(v:okF h)(w:cE g h i=0):Mn g (Wh g u fit k h i j)=(h,i,0):=by
 unfold Mn Wh;rw[bv (by simpa using D0.2 h0),bv (by simp[m]),bv (by simpa using o),bv (by simp[q]),bv (by simpa using D0.2 v),bv (by simpa using w)]
theorem SH{g h:AE}{m:List Rewrite}(h0:okF g)(i:okF h)(o:Z g.AT<=Z h.AT/\Z g.A0<=Z h.A0)(j:m.all (K9 g h)=J)(k:((i6 (Z g.AD)).all λp=>Jg g h p||PX g m p)=J):cE g h m=0:=by
 unfold cE;rw[bv (by simpa using D0.2 h0),bv (by simpa using D0.2 i),bv (by omega),ca ⟨j,k⟩]
theorem Xu:Dl and Dg Dg=(Dg,0):=by
 have g:(DT.leaf J).Good:=trivial;have h:tr Dg=.leaf true:=Vq g;have i:Valid Dg:=⟨.leaf J,trivial,rfl⟩;have j:F7 Dg=0:=by
  unfold F7;rw[bv (by decide),ca i]
 have k:px and Dg Dg=Dg:=by
  unfold px;rw[P7 (t:=.leaf J) g (λc=>by rw[h];rfl)];rfl
 have m:LY [Dg,Dg]=0:=by simp[LY,j]
 unfold Dl;rw[m,k];simp[Dg]
def xm(A0:List ByteArray)(AD:List AO):AE:=⟨[⟨#[65]⟩,⟨#[66]⟩],Dg,De,A0,AD,0,[],[]⟩
def gj(name:ByteArray)(left:Int)(right:List Symbol):AO:=⟨name,left,right,Dg,ap,0,[],Ay⟩
def pM(k n a t:Int)(name:ByteArray):AZ:=⟨k,n,a,t,name,ap,⟨[],0⟩,[],[],OO,Ky,[]⟩
def yL:AO:=gj ⟨#[110,117,109]⟩ 0 [⟨J,0⟩]
def xd:AO:=gj ⟨#[98,105,110]⟩ 0 [⟨ap,0⟩,⟨ap,1⟩,⟨ap,0⟩]
def we:AO:=gj ⟨#[112,108,117,115]⟩ 1 [⟨J,1⟩]
def xg:AO:=gj ⟨#[116,105,109,101,115]⟩ 1 [⟨J,2⟩]
def Pu:ByteArray:=⟨#[98,105,110,95,112,108,117,115]⟩
def Rf:ByteArray:=⟨#[98,105,110,95,99,111,112,121]⟩
def cH:AZ:=pM 7 1 1 0 ⟨#[]⟩
def gH:AE:=xm [⟨#[69]⟩,⟨#[79]⟩] [yL,{xd with cond:=xa},we,xg,gj Pu 0 [⟨ap,0⟩,⟨J,1⟩,⟨ap,0⟩],gj ⟨#[98,105,110,95,116,105,109,101,115]⟩ 0 [⟨ap,0⟩,⟨J,2⟩,⟨ap,0⟩]]
def mH:List Rewrite:=[⟨1,1,2,DX 4::Db 0 3⟩,⟨1,1,3,DX 5::Db 0 3⟩]
def cK:AZ:=pM 8 1 1 3 ⟨#[114,101,115,116]⟩
def gK:AE:=xm [⟨#[69]⟩,⟨#[79]⟩,⟨#[114,101,115,116]⟩] [yL,{xd with right:=[⟨ap,0⟩,⟨ap,2⟩]},we,xg,gj ⟨#[114,101,115,116]⟩ 2 [⟨ap,1⟩,⟨ap,0⟩]]
def mK:List Rewrite:=[⟨1,-1,-1,[DX 1,Dp 0,DX 4,Dp 1,Dp 2]⟩]
def cS:AZ:=pM 9 1 2 0 ⟨#[114,105,103,104,116]⟩
def gS:AE:=xm [⟨#[69]⟩,⟨#[79]⟩,⟨#[114,105,103,104,116]⟩] [yL,{xd with right:=[⟨ap,0⟩,⟨ap,1⟩,⟨ap,2⟩]},we,xg,gj ⟨#[110,117,109,95,99,111,112,121]⟩ 2 [⟨J,0⟩],gj Rf 2 [⟨ap,0⟩,⟨ap,1⟩,⟨ap,0⟩]]
def wZ:List Rewrite:=[⟨1,2,0,[DX 1,Dp 0,Dp 1,DX 4,Dp 2]⟩,⟨1,2,1,[DX 1,Dp 0,Dp 1,DX 5,Dp 2,Dp 3,Dp 4]⟩]
def cN:AZ:=pM 7 0 0 0 ⟨#[]⟩
theorem iR:okF gH:=⟨Se _ _ (by decide+kernel),X0 _ (by decide+kernel)⟩
theorem jN:okF gK:=⟨Se _ _ (by decide+kernel),X0 _ (by decide+kernel)⟩
theorem cY:okF gS:=⟨Se _ _ (by decide+kernel),X0 _ (by decide+kernel)⟩
theorem tK:B9 KW cH=[2,3]:=by decide+kernel
theorem sO:B9 KW cS=[0,1]:=by decide+kernel
theorem tF:ZZ KW cH=gH:=by
 have g:Iw KW cH 2=gj Pu 0 [⟨ap,0⟩,⟨J,1⟩,⟨ap,0⟩]:=by
  unfold Iw;rw[show Dl and (Bd KW cH).cond (CB KW 2).cond=(Dg,0)from Xu];decide+kernel
 have h:Iw KW cH 3=gj ⟨#[98,105,110,95,116,105,109,101,115]⟩ 0 [⟨ap,0⟩,⟨J,2⟩,⟨ap,0⟩]:=by
  unfold Iw;rw[show Dl and (Bd KW cH).cond (CB KW 3).cond=(Dg,0)from Xu];decide+kernel
 unfold ZZ;rw[tK];simp[g,h];rfl
theorem rq:K6 KW cH (Z KW.AD) (B9 KW cH)=mH:=by decide+kernel
theorem lX:Kn KW cK=gK:=by rfl
theorem oV:foldM KW cK=mK:=by decide+kernel
theorem um:tZ KW cS=gS:=by unfold tZ;rw[sO];rfl
theorem vK:WC KW cS (Z KW.AD) (B9 KW cS)=wZ:=by decide+kernel
theorem rR:Pure prog 7 [AA KW,Ad cH] (.CX [AA gH,Bb mH,encI 0]):=by
 have h:=uX KW cH rfl (by decide) (by decide);have hb:Vx KW cH=false:=by decide+kernel
 rw[hb,bv ww,bv ww,bv ww,tF,rq]at h;rw[R4 JE (by decide+kernel) rfl rfl iR (SH JE iR (by decide) (by decide+kernel) (by decide+kernel))]at h;exact h
theorem sx:Pure prog 7 [AA KW,Ad cK] (.CX [AA gK,Bb mK,encI 0]):=by
 have h:=xq KW cK rfl (by decide);have hb:Dq KW cK.number=false:=by decide+kernel
 rw[hb,bv ww,bv ww,bv ww,lX,oV]at h;rw[R4 JE (by decide+kernel) rfl rfl jN (SH JE jN (by decide) (by decide+kernel) (by decide+kernel))]at h;exact h
theorem q8:Pure prog 7 [AA KW,Ad cS] (.CX [AA gS,Bb wZ,encI 0]):=by
 have h:=wm KW cS rfl (by decide) (by decide);have hb:WZ KW cS=false:=by decide+kernel
 rw[hb,bv ww,bv ww,bv ww,um,vK]at h;rw[R4 JE (by decide+kernel) rfl rfl cY (SH JE cY (by decide) (by decide+kernel) (by decide+kernel))]at h;exact h
theorem applyN:Pure prog 7 [AA KW,Ad cN] (.CX [AA FX,Bb [],encI 310]):=by
 have h:=uX KW cN rfl (by decide) (by decide);have e:DE KW cN=false:=by decide+kernel
 unfold Mn Wh at h;rw[bv (by simpa using D0.2 JE),ca (by rw[e,acG])]at h;exact h
theorem Yq:Pure prog 4 [] (.bool J):=by
 have aH:=rR;have aK:=sx;have aS:=q8;have aN:=applyN;have hl:(5:Nat)<=maxLen:=by decide
 obtain⟨q,fH2,fH3,u,fH5⟩:Z gH.AD=6/\(∃p,gH.AD[4]?=am p/\p.name=Pu)/\(∃p,gH.AD[1]?=am p/\p.cond.root=0)/\Z mH=2/\(∃r,mH[1]?=am r/\r.child=3):=
  ⟨rfl,⟨_,rfl,rfl⟩,⟨_,rfl,rfl⟩,rfl,⟨_,rfl,rfl⟩⟩
 obtain⟨fK1,fK2,fK3,fK4,fK5⟩:Z gK.AD=5/\(∃p,gK.AD[4]?=am p/\Z p.right=2)/\(∃p,gK.AD[1]?=am p/\Z p.right=2)/\Z mK=1/\(∃r n,mK[0]?=am r/\Z r.BI=5/\r.BI[2]?=am n/\n.prod=4):=
  ⟨rfl,⟨_,rfl,rfl⟩,⟨_,rfl,rfl⟩,rfl,⟨_,_,rfl,rfl,rfl,rfl⟩⟩
 obtain⟨v,fS2,fS3⟩:Z gS.AD=6/\(∃p y,gS.AD[5]?=am p/\p.name=Rf/\Z p.right=3/\p.right[2]?=am y/\y.index=0)/\(∃p y,gS.AD[1]?=am p/\Z p.right=3/\p.right[2]?=am y/\y.index=2):=
  ⟨rfl,⟨_,_,rfl,rfl,rfl,rfl,rfl⟩,⟨_,_,rfl,rfl,rfl,rfl⟩⟩
 generalize gH=H at *;generalize mH=MH at *;generalize gK=K at *;generalize mK=MK at *;generalize gS=T at *;generalize wZ=MT at *;have hcH:Ad cH=_:=Ad.eq_1 cH;have hcK:Ad cK=_:=Ad.eq_1 cK;have hcS:Ad cS=_:=Ad.eq_1 cS;have hcN:Ad cN=_:=Ad.eq_1 cN;refine zP func4 175 rfl λwf=>?_;apply yW;simp;(repeat apply xS);apply yT;apply yJ;simp;refine Bq (qY) rfl (by simp) (yJ ?_);simp;generalize KW=G at *;apply yS;apply yJ;simp[maxLen];refine vb (AI.tA 18 (Ad cH) (by simp[BO,Ad,cH,pM,OO,Ky,Fv])) ?_;refine Bq (aH) rfl (by simp[xN]) (yJ ?_);simp;apply yS;apply yJ;simp[maxLen];refine vb (AI.tA 25 (Ad cK) (by simp[BO,Ad,cK,pM,OO,Ky,Fv])) ?_;refine Bq (aK) rfl (by simp[xN]) (yJ ?_);simp;apply yS;apply yJ;simp[maxLen];refine vb (AI.tA 32 (Ad cS) (by simp[BO,Ad,cS,pM,OO,Ky,Fv])) ?_;refine Bq (aS) rfl (by simp[xN]) (yJ ?_);simp;(repeat apply xS);apply yT;apply yJ;simp[maxLen];refine vb (AI.tA 39 (Ad cN) (by simp[BO,Ad,cN,pM,OO,Ky,Fv])) ?_;refine Bq (aN) rfl (by simp[xN]) (yJ ?_);simp;obtain⟨a4,g,w⟩:=fH2;obtain⟨a1,h,A⟩:=fH3;obtain⟨r1,i,B⟩:=fH5;obtain⟨k4,X,nK4⟩:=fK2;obtain⟨k1,Y,nK1⟩:=fK3;obtain⟨r0,n2,hR0,nR0,hN2,nN2⟩:=fK5;obtain⟨s5,y5,j,C,E,k,F⟩:=fS2;obtain⟨s1,y1,m,L,o,M⟩:=fS3;obtain⟨_,g⟩:=gq.1 g;obtain⟨_,h⟩:=gq.1 h;obtain⟨_,i⟩:=gq.1 i;obtain⟨_,X⟩:=gq.1 X;obtain⟨_,Y⟩:=gq.1 Y;obtain⟨_,hR0⟩:=gq.1 hR0;obtain⟨_,hN2⟩:=gq.1 hN2;obtain⟨_,j⟩:=gq.1 j;obtain⟨_,k⟩:=gq.1 k;obtain⟨_,m⟩:=gq.1 m;obtain⟨_,o⟩:=gq.1 o;have N:=AF.eq_1 a4;have P:=AF.eq_1 a1;have Q:=Aa.eq_1 r1;have eK4:=AF.eq_1 k4;have eK1:=AF.eq_1 k1;have eR0:=Aa.eq_1 r0;have eN2:=A5.eq_1 n2;have R:=AF.eq_1 s5;have S:=AF.eq_1 s1;have U:=AH.eq_1 y5;have W:=AH.eq_1 y1;refine xS (yS ?_);apply yH;simp[q,u,fK1,fK4,v];apply AP;simp;apply xK;apply yS;apply yH;simp[hR0,eR0,nR0,fK4,hN2,eN2,nN2,X,eK4,nK4,Y,eK1,nK1,fK1];(repeat apply xS);apply yT;(repeat((first|refine FI rfl ?_ ?_;(·simp)|refine Pe rfl ?_ ?_;(·simp[h,P,A,q,i,Q,B,u,j,R,C,E,k,U,F,m,S,L,o,W,M,v,Rf,maxLen])|refine Cc ?_ ?_;(·simp[g,N,w,q,Pu,maxLen]));simp[g,N,w,h,P,A,q,i,Q,B,u,j,R,C,E,k,U,F,m,S,L,o,W,M,v,Pu,Rf,maxLen]));apply BY;apply zT;try simp
structure BD where
 prod:Int
 token:Int
 text:ByteArray
 rem:List ByteArray
 deriving DecidableEq
structure Term where
 nodes:List BD
 tail:List ByteArray
 deriving DecidableEq
inductive TF where
 |nil
 |leaf (tok:Int) (text:ByteArray) (rem:List ByteArray) (rest:TF)
 |node (p:Nat) (kids rest:TF)
def Gs(p:Int):BD:=⟨p,-1,ByteArray.empty,[]⟩
namespace TF
def flat:TF->List BD
 |nil=>[]
 |leaf k s r x=>⟨-1,k,s,r⟩::x.flat
 |node p k x=>Gs p::(k.flat++x.flat)
def EX:TF->List (List BD)
 |nil=>[]
 |leaf k s r x=>[⟨-1,k,s,r⟩]::x.EX
 |node p k x=>(Gs p::k.flat)::x.EX
def roots:TF->List Int
 |nil=>[]
 |leaf _ _ _ x=>-1::x.roots
 |node p _ x=>p::x.roots
def fit(g:AE):TF->List Symbol->Prop
 |nil,h=>h=[]
 |leaf k _ _ x,h=>0<=k/\k<Z g.AT/\∃i,h=⟨J,k⟩::i/\x.fit g i
 |node p k x,h=>∃q,g.AD[p]?=am q/\k.fit g q.right/\∃i,h=⟨ap,q.left⟩::i/\x.fit g i
def app:TF->TF->TF
 |nil,y=>y
 |leaf k s r x,y=>leaf k s r (x.app y)
 |node p k x,y=>node p k (x.app y)
def Eo:TF->Nat->TF
 |nil,_=>nil
 |leaf _ _ _ _,0=>nil
 |leaf k s r x,n+1=>leaf k s r (x.Eo n)
 |node _ _ _,0=>nil
 |node p k x,n+1=>node p k (x.Eo n)
def DJ:TF->Nat->TF
 |nil,_=>nil
 |leaf k s r x,0=>leaf k s r x
 |leaf _ _ _ x,n+1=>x.DJ n
 |node p k x,0=>node p k x
 |node _ _ x,n+1=>x.DJ n
def jP:TF->Nat->List (List Int)
 |nil,_=>[]
 |leaf _ _ _ x,i=>[(i:Int)]::x.jP (i+1)
 |node _ k x,i=>(k.jP (i+1)).flatten::x.jP (i+1+Z k.flat)
theorem FU(u:TF):u.EX.flatten=u.flat:=by
 induction u with
 |nil=>rfl
 |leaf k s r x g=>simp[EX,flat,g]
 |node p k x _ g=>simp[EX,flat,g]
theorem uE(u:TF):Z u.EX=Z u.roots:=by
 induction u with
 |nil=>rfl
 |leaf k s r x g=>simp[EX,roots,g]
 |node p k x _ g=>simp[EX,roots,g]
theorem vz(u:TF)(i:Nat):Z (u.jP i)=Z u.roots:=by
 induction u generalizing i with
 |nil=>rfl
 |leaf k s r x g=>simp[jP,roots,g]
 |node p k x _ g=>simp[jP,roots,g]
theorem aQ(u y:TF):(u.app y).EX=u.EX++y.EX:=by
 induction u with
 |nil=>rfl
 |leaf k s r x g=>simp[app,EX,g]
 |node p k x _ g=>simp[app,EX,g]
theorem Mc(u y:TF):(u.app y).flat=u.flat++y.flat:=by
 rw[<-FU,aQ,ab8,FU,FU]
theorem uL(u y:TF):(u.app y).roots=u.roots++y.roots:=by
 induction u with
 |nil=>rfl
 |leaf k s r x g=>simp[app,roots,g]
 |node p k x _ g=>simp[app,roots,g]
theorem PG(u:TF)(n:Nat):(u.Eo n).EX=u.EX.take n:=by
 induction u generalizing n with
 |nil=>simp[Eo,EX]
 |leaf k s r x g=>cases n<;>simp[Eo,EX,g]
 |node p k x _ g=>cases n<;>simp[Eo,EX,g]
theorem Pf(u:TF)(n:Nat):(u.DJ n).EX=u.EX.drop n:=by
 induction u generalizing n with
 |nil=>simp[DJ,EX]
 |leaf k s r x g=>cases n<;>simp[DJ,EX,g]
 |node p k x _ g=>cases n<;>simp[DJ,EX,g]
theorem tD(u:TF)(n:Nat):(u.Eo n).roots=u.roots.take n:=by
 induction u generalizing n with
 |nil=>simp[Eo,roots]
 |leaf k s r x g=>cases n<;>simp[Eo,roots,g]
 |node p k x _ g=>cases n<;>simp[Eo,roots,g]
theorem qV(u:TF)(n:Nat):(u.DJ n).roots=u.roots.drop n:=by
 induction u generalizing n with
 |nil=>simp[DJ,roots]
 |leaf k s r x g=>cases n<;>simp[DJ,roots,g]
 |node p k x _ g=>cases n<;>simp[DJ,roots,g]
theorem kI(u:TF)(n:Nat):(u.Eo n).app (u.DJ n)=u:=by
 induction u generalizing n with
 |nil=>simp[Eo,DJ,app]
 |leaf k s r x g=>cases n<;>simp[Eo,DJ,app,g]
 |node p k x _ g=>cases n<;>simp[Eo,DJ,app,g]
theorem v8(u y:TF)(i:Nat):(u.app y).jP i=u.jP i++y.jP (i+Z u.flat):=by
 induction u generalizing i with
 |nil=>rfl
 |leaf k s r x g=>simp[app,jP,g,flat,py,adZ 1]
 |node p k x _ g=>
  simp[app,jP,g,flat];rw[show i+(Z k.flat+Z x.flat+1)=i+1+Z k.flat+Z x.flat by omega]
theorem nJ{g:AE}{u:TF}{ss:List Symbol}(h:u.fit g ss):Z u.roots=Z ss:=by
 induction u generalizing ss with
 |nil=>simp[fit]at h;simp[h,roots]
 |leaf k s r x i=>obtain⟨_,_,j,rfl,h⟩:=h;simp[roots,i h]
 |node p k x _ i=>obtain⟨q,_,_,j,rfl,h⟩:=h;simp[roots,i h]
theorem YG{g:AE}{u y:TF}{ss ts:List Symbol}(h:u.fit g ss)(m:y.fit g ts):(u.app y).fit g (ss++ts):=by
 induction u generalizing ss with
 |nil=>simp[fit]at h;simpa[h,app]using m
 |leaf k s r x i=>obtain⟨a,b,j,rfl,h⟩:=h;exact⟨a,b,j++ts,rfl,i h⟩
 |node p k x _ i=>obtain⟨q,a,b,j,rfl,h⟩:=h;exact⟨q,a,b,j++ts,rfl,i h⟩
theorem UX{g:AE}{u:TF}{ss:List Symbol}(h:u.fit g ss)(n:Nat):(u.Eo n).fit g (ss.take n):=by
 induction u generalizing ss n with
 |nil=>simp[fit]at h;simp[h,Eo,fit]
 |leaf k s r x i=>obtain⟨a,b,j,rfl,h⟩:=h;cases n with
  |zero=>simp[Eo,fit]
  |succ n=>exact⟨a,b,j.take n,by simp,i h n⟩
 |node p k x _ i=>obtain⟨q,a,b,j,rfl,h⟩:=h;cases n with
  |zero=>simp[Eo,fit]
  |succ n=>exact⟨q,a,b,j.take n,by simp,i h n⟩
theorem fit_drop{g:AE}{u:TF}{ss:List Symbol}(h:u.fit g ss)(n:Nat):(u.DJ n).fit g (ss.drop n):=by
 induction u generalizing ss n with
 |nil=>simp[fit]at h;simp[h,DJ,fit]
 |leaf k s r x i=>cases n with
  |zero=>simpa[DJ]using h
  |succ n=>obtain⟨a,b,j,rfl,h⟩:=h;simpa[DJ]using i h n
 |node p k x _ i=>cases n with
  |zero=>simpa[DJ]using h
  |succ n=>obtain⟨q,a,b,j,rfl,h⟩:=h;simpa[DJ]using i h n
end TF
namespace TF
def EJ(j c a b:Nat):TF->TF
 |nil=>nil
 |leaf k s r x=>leaf k s r (x.EJ j c a b)
 |node p k x=>if p=j then node j (((k.EJ j c a b).Eo a).app (node c (((k.EJ j c a b).DJ a).Eo (b - a)) ((k.EJ j c a b).DJ b))) (x.EJ j c a b)else node p (k.EJ j c a b) (x.EJ j c a b)
def OR(j d:Nat):TF->TF
 |nil=>nil
 |leaf k s r x=>leaf k s r (x.OR j d)
 |node p k x=>node (if p=j then d else p) (k.OR j d) (x.OR j d)
def arity(j n:Nat):TF->Prop
 |nil=>True
 |leaf _ _ _ x=>x.arity j n
 |node p k x=>(p=j->Z k.roots=n)/\k.arity j n/\x.arity j n
theorem pa(j c a b:Nat)(u:TF):(u.EJ j c a b).roots=u.roots:=by
 induction u with
 |nil=>rfl
 |leaf k s r x g=>simp[EJ,roots,g]
 |node p k x _ g=>simp[EJ];split<;>simp[roots, *]
theorem ij(j d:Nat)(u:TF):Z (u.OR j d).roots=Z u.roots:=by
 induction u with
 |nil=>rfl
 |leaf k s r x g=>simp[OR,roots,g]
 |node p k x _ g=>simp[OR,roots,g]
theorem uu(j d:Nat)(u:TF):Z (u.OR j d).flat=Z u.flat:=by
 induction u with
 |nil=>rfl
 |leaf k s r x g=>simp[OR,flat,g]
 |node p k x h g=>simp[OR,flat,g,h]
theorem uT{g:AE}{j:Nat}{q:AO}(o:g.AD[j]?=am q){u:TF}{ss:List Symbol}(h:u.fit g ss):u.arity j (Z q.right):=by
 induction u generalizing ss with
 |nil=>trivial
 |leaf k s r x i=>obtain⟨_,_,v,rfl,h⟩:=h;exact i h
 |node p k x m i=>
  obtain⟨w,a,b,A,rfl,h⟩:=h;refine⟨λe=>?_,m b,i h⟩;subst e;rw[o]at a;cases a;exact nJ b
end TF
def WW(l:List BD):List BD:=l.filter λn=>decide (n.prod<0)
theorem KD(l k:List BD):WW (l++k)=WW l++WW k:=by simp[WW]
theorem PV(p:Nat)(l:List BD):WW (Gs p::l)=WW l:=by
 have:¬((p:Int)<0):=by omega
 simp[WW,Gs,this]
abbrev aca:=@List.drop_drop
namespace TF
theorem cut(u:TF){a b:Nat}(h:a<=b):u.flat=(u.Eo a).flat++(((u.DJ a).Eo (b - a)).flat++(u.DJ b).flat):=by
 rw[<-FU,<-FU,<-FU,<-FU,PG,PG,Pf,Pf,<-ab8,<-ab8];congr 1;have e:u.EX.drop b=(u.EX.drop a).drop (b - a):=by rw[aca];congr 1;omega
 rw[e,abV,abV]
theorem PI(j c a b:Nat)(k x:TF):(EJ j c a b (node j k x)).flat=Gs j::((((k.EJ j c a b).Eo a).flat++Gs c::((((k.EJ j c a b).DJ a).Eo (b - a)).flat++((k.EJ j c a b).DJ b).flat))++(x.EJ j c a b).flat):=by
 simp[EJ,flat,Mc]
theorem th(j c:Nat){a b:Nat}(i:a<=b)(u:TF):WW (u.EJ j c a b).flat=WW u.flat:=by
 induction u with
 |nil=>rfl
 |leaf k s r x h=>have m:=h;simp[WW]at m;simp[EJ,flat,WW,m]
 |node p k x g h=>
  by_cases e:p=j
  .subst e;rw[PI,PV,KD,KD,PV,<-KD,<-cut _ i,g,h];simp[flat,PV,KD]
  .simp[EJ,bv e,flat,PV,KD,g,h]
theorem uw(j d:Nat)(u:TF):WW (u.OR j d).flat=WW u.flat:=by
 induction u with
 |nil=>rfl
 |leaf k s r x g=>have i:=g;simp[WW]at i;simp[OR,flat,WW,i]
 |node p k x h g=>simp[OR,flat,PV,KD,h,g]
theorem uO(j c:Nat){a b:Nat}(g:a<=b)(u:TF):Z (u.EJ j c a b).flat<=2 * Z u.flat:=by
 induction u with
 |nil=>exact c9 _
 |leaf k s r x h=>simp[EJ,flat];omega
 |node p k x i h=>
  by_cases e:p=j
  .subst e;have m:=l5 Z (cut (k.EJ p c a b) g);rw[PI];simp[flat]at m⊢;omega
  .simp[EJ,bv e,flat];omega
theorem tn{g h:AE}{j c a b:Nat}{q:AO}{nt:Int}(hj:g.AD[j]?=am q)(_:a<=b)(_:b<=Z q.right)(Q:Z h.AT=Z g.AT)
  (L:∀p x,p≠j->g.AD[p]?=am x->h.AD[p]?=am x)
  (A:∃i,h.AD[j]?=am i/\i.left=q.left/\i.right=q.right.take a++⟨ap,nt⟩::q.right.drop b) (M:∃m,h.AD[c]?=am m/\m.left=nt/\m.right=(q.right.drop a).take (b - a))
  {u:TF} {ss:List Symbol} (B:u.fit g ss):(u.EJ j c a b).fit h ss:=by
 induction u generalizing ss with
 |nil=>exact B
 |leaf k s r x v=>obtain⟨N,R,w,rfl,P⟩:=B;exact⟨N,by omega,w,rfl,v P⟩
 |node p k x o v=>
  obtain⟨F,C,G,w,rfl,H⟩:=B;by_cases e:p=j
  .subst e;rw[hj]at C;cases C;obtain⟨i,f1,f2,f3⟩:=A;obtain⟨m,f4,f5,f6⟩:=M;simp[EJ];refine⟨i,f1,?_,w,by rw[f2],v H⟩;have E:=o G;rw[f3];refine YG (UX E a) ⟨m,f4,?_,_,by rw[f5],fit_drop E b⟩;rw[f6];exact UX (fit_drop E a) (b - a)
  .simp[EJ,bv e];exact⟨F,L p F e C,o G,w,rfl,v H⟩
end TF
open Go.Proofs DT
namespace TF
theorem ow(u:TF)(a b:Nat):(u.DJ a).DJ b=u.DJ (a+b):=by
 induction u generalizing a with
 |nil=>simp[DJ]
 |leaf k s r x g=>cases a with
  |zero=>simp[DJ]
  |succ a=>rw[show a+1+b=a+b+1 by omega];simp[DJ,g]
 |node p k x _ g=>cases a with
  |zero=>simp[DJ]
  |succ a=>rw[show a+1+b=a+b+1 by omega];simp[DJ,g]
end TF
section
variable {α:Type} {X:TF->Nat->List α} (happ:∀u y i,X (u.app y) i=X u i++X y (i+Z u.flat)) (hlen:∀u i,Z (X u i)=Z u.roots)
include happ hlen
end
def bare(n:BD):BD:={n with rem:=[]}
open Go.Proofs
abbrev ad0:=@Int.le_of_eq
section
variable (g:AE) (pr:Nat->Bool)
def FJ(f:Nat->Int)(r:List Symbol):Int:=r.foldl (λn s=>if s.token then n else max n (f s.index.toNat)) 0
theorem YS(f:Nat->Int)(k:Int):∀(r:List Symbol) (a:Int),r.foldl (λn s=>if s.token then n else max n (f s.index.toNat)) a<=k↔a<=k/\∀s∈r,s.token=ap->f s.index.toNat<=k
 |[],a=>by simp
 |s::r,a=>by
  rw[adG,YS f k r];cases h:s.token with
  |true=>simp[h]
  |false=>
   simp only[ob,jw,List.forall_mem_cons,h,true_implies,Int.max_le,and_assoc]
theorem MJ{f:Nat->Int}{k:Int}{r:List Symbol}:FJ f r<=k↔0<=k/\∀s∈r,s.token=ap->f s.index.toNat<=k:=YS f k r 0
theorem GP(f:Nat->Int)(r:List Symbol):0<=FJ f r:=((MJ (f:=f) (r:=r)).1 (q6 _)).1
theorem Ml{f:Nat->Int}{r:List Symbol}{s:Symbol}(h:s∈r)(i:s.token=ap):f s.index.toNat<=FJ f r:=((MJ (f:=f) (r:=r)).1 (q6 _)).2 s h i
theorem RF{f f':Nat->Int}{r:List Symbol}(h:∀s∈r,s.token=ap->f s.index.toNat<=f' s.index.toNat):FJ f r<=FJ f' r:=
 MJ.2 ⟨GP _ _,λs i j=>Int.le_trans (h s i j) (Ml i j)⟩
def Co(p:Nat):Nat:=match g.AD[p]? with|some q=>q.left.toNat|none=>0
def EM(p:Nat):List Symbol:=match g.AD[p]? with|some q=>q.right|none=>[]
def GK(f:Nat->Int)(p:Nat):Int:=if pr p then min (FJ f (EM g p)+1) 1000 else 1000
def Ie:Prop:=∀p,p<Z g.AD->Co g p<Z g.A0/\∀s∈EM g p,s.token=ap->s.index.toNat<Z g.A0
theorem J2{f f':Nat->Int}(i:Ie g)(h:∀n,n<Z g.A0->f n<=f' n){p:Nat}(j:p<Z g.AD):GK g pr f p<=GK g pr f' p:=by
 unfold GK;split
 .have:=RF (f:=f) (f':=f') (r:=EM g p) λs k m=>h _ ((i p j).2 s k m);omega
 .exact q6 _
theorem dC(f:Nat->Int)(p:Nat):GK g pr f p<=1000:=by unfold GK;split<;>omega
theorem SB(f:Nat->Int)(p:Nat):1<=GK g pr f p:=by
 unfold GK;split
 .have:=GP f (EM g p);omega
 .omega
def Lh(f:Nat->Int)(n:Nat):Int:=(i6 (Z g.AD)).foldl (λa p=>if Co g p=n then min a (GK g pr f p)else a) 1000
theorem JY(h:Nat->Int)(n:Nat):∀(l:List Nat) (a:Int),(l.foldl (λa p=>if Co g p=n then min a (h p)else a) a<=a/\∀p∈l,Co g p=n->l.foldl (λa p=>if Co g p=n then min a (h p)else a) a<=h p)/\(l.foldl (λa p=>if Co g p=n then min a (h p)else a) a=a\/∃p∈l,Co g p=n/\l.foldl (λa p=>if Co g p=n then min a (h p)else a) a=h p)
 |[],a=>by simp
 |p::l,a=>by
  rw[adG];by_cases e:Co g p=n
  .rw[ca e];obtain⟨⟨o,m⟩,j⟩:=JY h n l (min a (h p));refine⟨⟨by omega,λq i k=>?_⟩,?_⟩
   .rcases ke.1 i with rfl|i
    .omega
    .exact m q i k
   .rcases j with j|⟨q,i,k,j⟩
    .rcases Int.le_total a (h p)with u|u
     .left;omega
     .right;exact⟨p,by simp,e,by omega⟩
    .right;exact⟨q,by simp[i],k,j⟩
  .rw[bv e];obtain⟨⟨o,m⟩,j⟩:=JY h n l a;refine⟨⟨o,λq i k=>?_⟩,?_⟩
   .rcases ke.1 i with rfl|i
    .exact absurd k e
    .exact m q i k
   .rcases j with j|⟨q,i,k,j⟩
    .exact .inl j
    .exact .inr ⟨q,by simp[i],k,j⟩
theorem OU{f:Nat->Int}{p n:Nat}(i:p<Z g.AD)(h:Co g p=n):Lh g pr f n<=GK g pr f p:=(JY g (GK g pr f) n _ _).1.2 p (by simpa using i) h
theorem O6(f:Nat->Int)(n:Nat):Lh g pr f n<=1000:=(JY g (GK g pr f) n _ _).1.1
theorem KG(f:Nat->Int)(n:Nat):Lh g pr f n=1000\/∃p,p<Z g.AD/\Co g p=n/\Lh g pr f n=GK g pr f p:=by
 rcases(JY g (GK g pr f) n (i6 (Z g.AD)) 1000).2 with h|⟨p,i,j,k⟩
 .exact .inl h
 .exact .inr ⟨p,by simpa using i,j,k⟩
def hD:Nat->Nat->Int
 |0,_=>1000
 |r+1,n=>Lh g pr (hD r) n
theorem Yb(r n:Nat):hD g pr r n<=1000:=by cases r with
 |zero=>exact q6 _
 |succ r=>exact O6 g pr _ _
theorem ND{f f':Nat->Int}(j:Ie g)(h:∀n,n<Z g.A0->f n<=f' n)(n:Nat):Lh g pr f n<=Lh g pr f' n:=by
 rcases KG g pr f' n with e|⟨p,i,k,e⟩
 .rw[e];exact O6 g pr _ _
 .rw[e];exact Int.le_trans (OU g pr i k) (J2 g pr j h i)
theorem TL(h:Ie g):∀(r n:Nat),n<Z g.A0->hD g pr (r+1) n<=hD g pr r n
 |0,_,_=>O6 g pr _ _
 |r+1,n,_=>ND g pr h (λk i=>TL h r k i) n
theorem O7(j:Ie g):∀(r n:Nat),hD g pr r n<1000->hD g pr r n<=r
 |0,n,h=>absurd h (by simp[hD])
 |r+1,n,h=>by
  rcases KG g pr (hD g pr r) n with e|⟨p,o,q,e⟩
  .rw[hD,e]at h;exact absurd h (by omega)
  .rw[hD,e]at h⊢;unfold GK at h⊢;split at h
   .next i=>
    rw[ca i];have:FJ (hD g pr r) (EM g p)<=r:=MJ.2 ⟨by omega,λs k m=>O7 j r _ (by
     have:=Ml (f:=hD g pr r) k m;omega)⟩
    omega
   .omega
theorem XW(q:Ie g):∀(r n:Nat),n<Z g.A0->hD g pr (r+1) n<hD g pr r n->((r+1:Nat):Int)<=hD g pr (r+1) n
 |0,n,w,h=>by
  rcases KG g pr (hD g pr 0) n with e|⟨p,m,u,e⟩
  .rw[hD,e];omega
  .rw[hD,e];exact SB g pr _ _
 |r+1,n,w,h=>by
  rcases KG g pr (hD g pr (r+1)) n with e|⟨p,m,u,e⟩
  .rw[show hD g pr (r+1+1) n=Lh g pr (hD g pr (r+1)) n from rfl,e]at h;have:=Yb g pr (r+1) n;omega
  .rw[show hD g pr (r+1+1) n=Lh g pr (hD g pr (r+1)) n from rfl,e]at h⊢;have B:hD g pr (r+1) n<=GK g pr (hD g pr r) p:=OU g pr m u;have o:GK g pr (hD g pr (r+1)) p<GK g pr (hD g pr r) p:=by omega
   unfold GK at o⊢;split
   .next i=>
    rw[ca i,ca i]at o;have:∃s∈EM g p,s.token=ap/\hD g pr (r+1) s.index.toNat<hD g pr r s.index.toNat:=by
     apply abi;intro A;have:FJ (hD g pr r) (EM g p)<=FJ (hD g pr (r+1)) (EM g p):=RF λs j k=>by
      apply abi;intro v;exact A ⟨s,j,k,by omega⟩
     omega
    obtain⟨s,j,k,v⟩:=this;have C:=XW q r s.index.toNat ((q p m).2 s j k) v;have E:=Ml (f:=hD g pr (r+1)) j k;omega
   .next i=>rw[bv i,bv i]at o;omega
def fy(r N:Nat):Nat:=(i6 N).countP λn=>decide (hD g pr r n<1000)
theorem l9(r N:Nat):fy g pr r N<=N:=by have:=adr (p:=λn=>decide (hD g pr r n<1000)) (l:=i6 N);simpa[fy]using this
theorem Pk{p q:Nat->Bool}:∀{l:List Nat},(∀x∈l,p x=J->q x=J)->(∃x∈l,p x=ap/\q x=J)->l.countP p<l.countP q
 |[],_,⟨x,i,_⟩=>by simp at i
 |a::l,h,⟨x,i,k,m⟩=>by
  have o:l.countP p<=l.countP q:=adq λx i=>h x (by simp[i]);rcases ke.1 i with rfl|i
  .rw[acF,acF,k,m];simp;omega
  .have:=Pk (λx i=>h x (by simp[i])) ⟨x,i,k,m⟩;rw[acF,acF];have ha:=h a (by simp);cases j:p a with
   |false=>simp;omega
   |true=>rw[ha j];simp;omega
theorem aB(j:Ie g){r:Nat}(h:∀n,n<Z g.A0->hD g pr (r+1) n=hD g pr r n):∀s,r<=s->∀n,n<Z g.A0->hD g pr (s+1) n=hD g pr s n:=by
 intro s v;obtain⟨d,rfl⟩:∃d,s=r+d:=⟨s - r,by omega⟩;induction d with
 |zero=>exact h
 |succ d o=>
  intro n w;have m:=o (by omega);have q:hD g pr (r+(d+1)+1) n=Lh g pr (hD g pr (r+d+1)) n:=rfl;have u:hD g pr (r+(d+1)) n=Lh g pr (hD g pr (r+d)) n:=rfl;rw[q,u];exact Int.le_antisymm (ND g pr j (λk i=>ad0 (m k i)) n) (ND g pr j (λk i=>ad0 (m k i).symm) n)
theorem SV(j:Ie g):∀n,n<Z g.A0->hD g pr (Z g.A0+1) n=hD g pr (Z g.A0) n:=by
 have key:∀r,(∃s,s<=r/\∀n,n<Z g.A0->hD g pr (s+1) n=hD g pr s n)\/r+1<=fy g pr (r+1) (Z g.A0):=by
  have step:∀r,(¬∀n,n<Z g.A0->hD g pr (r+1) n=hD g pr r n)->fy g pr r (Z g.A0)<fy g pr (r+1) (Z g.A0):=by
   intro r i;apply Pk
   .intro n k q;have:=TL g pr j r n (by simpa using k);simp only[fc]at q⊢;omega
   .apply abi;intro u;refine i λn k=>?_;have ha:=TL g pr j r n k;apply abi;intro w;have hj:=XW g pr j r n k (by omega);have hb:¬hD g pr r n<1000:=λv=>by
     have:=O7 g pr j r n v;omega
    exact u ⟨n,by simpa using k,by simpa using hb,by
     have:=Yb g pr r n;simp only[fc];omega⟩
  intro r;induction r with
  |zero=>
   by_cases i:∀n,n<Z g.A0->hD g pr (0+1) n=hD g pr 0 n
   .exact .inl ⟨0,c9 _,i⟩
   .right;have:=step 0 i;omega
  |succ r m=>
   rcases m with⟨s,o,h⟩|m
   .exact .inl ⟨s,by omega,h⟩
   .by_cases i:∀n,n<Z g.A0->hD g pr (r+1+1) n=hD g pr (r+1) n
    .exact .inl ⟨r+1,c9 _,i⟩
    .right;have:=step (r+1) i;omega
 rcases key (Z g.A0) with⟨s,o,h⟩|h
 .exact aB g pr j h _ o
 .have:=l9 g pr (Z g.A0+1) (Z g.A0);omega
def Nl(l:List Int)(p:Nat):List Int:=l.set (Co g p) (min (l.getD (Co g p) 0) (GK g pr (λn=>l.getD n 0) p))
def Ct(l:List Int):Nat->List Int
 |0=>l
 |p+1=>Nl g pr (Ct l p) p
def DC:Nat->List Int
 |0=>List.replicate (Z g.A0) 1000
 |r+1=>Ct g pr (DC r) (Z g.AD)
def Kx:List Int:=DC g pr (Z g.A0+1)
theorem Z7(l:List Int)(p:Nat):Z (Nl g pr l p)=Z l:=by simp[Nl]
theorem I8(l:List Int)(p:Nat):Z (Ct g pr l p)=Z l:=by
 induction p with
 |zero=>rfl
 |succ p h=>rw[Ct,Z7,h]
theorem GV(r:Nat):Z (DC g pr r)=Z g.A0:=by
 induction r with
 |zero=>simp[DC]
 |succ r h=>rw[DC,I8,h]
theorem Q6{l:List Int}{p:Nat}(k:Z l=Z g.A0)(i:Ie g)(j:p<Z g.AD)(n:Nat):(Nl g pr l p).getD n 0=if n=Co g p then min (l.getD n 0) (GK g pr (λn=>l.getD n 0) p)else l.getD n 0:=by
 have m:=(i p j).1;unfold Nl;by_cases e:n=Co g p
 .rw[ca e,e];rw[GE,acY];simp[show Co g p<Z l by omega]
 .rw[bv e,GE,acY,bv (λh=>e h.symm),<-GE]
theorem Q8(i:Ie g){l:List Int}(k:Z l=Z g.A0){f:Nat->Int}(h:∀n,n<Z g.A0->l.getD n 0<=f n):∀p,p<=Z g.AD->(∀n,n<Z g.A0->(Ct g pr l p).getD n 0<=f n)/\∀q,q<p->(Ct g pr l p).getD (Co g q) 0<=GK g pr f q
 |0,_=>⟨h,λq m=>absurd m (by omega)⟩
 |p+1,A=>by
  obtain⟨o,v⟩:=Q8 i k h p (by omega);have j:Z (Ct g pr l p)=Z g.A0:=by rw[I8,k]
  have u:=Q6 g pr j i (show p<Z g.AD by omega);have B:GK g pr (λn=>(Ct g pr l p).getD n 0) p<=GK g pr f p:=J2 g pr i o (by omega);refine⟨λn w=>?_,λq m=>?_⟩
  .rw[Ct,u];have:=o n w;split<;>omega
  .rw[Ct,u];by_cases e:q=p
   .subst e;rw[ca rfl];omega
   .have:=v q (by omega);split<;>omega
theorem PF(i:Ie g){l:List Int}(k:Z l=Z g.A0){f:Nat->Int}(m:∀p,p<Z g.AD->f (Co g p)<=GK g pr f p)(h:∀n,n<Z g.A0->f n<=l.getD n 0):∀p,p<=Z g.AD->∀n,n<Z g.A0->f n<=(Ct g pr l p).getD n 0
 |0,_=>h
 |p+1,v=>by
  have o:=PF i k m h p (by omega);have j:Z (Ct g pr l p)=Z g.A0:=by rw[I8,k]
  have q:=Q6 g pr j i (show p<Z g.AD by omega);intro n u;rw[Ct,q];have:=o n u;split
  .next e=>
   have w:=m p (by omega);have A:GK g pr f p<=GK g pr (λn=>(Ct g pr l p).getD n 0) p:=J2 g pr i o (by omega);rw[e]at this⊢;omega
  .exact this
theorem rp(j:Ie g):∀n,n<Z g.A0->(Kx g pr).getD n 0=hD g pr (Z g.A0) n:=by
 have i:=SV g pr j;have u:∀r,∀n,n<Z g.A0->(DC g pr r).getD n 0<=hD g pr r n:=by
  intro r;induction r with
  |zero=>intro n h;simp[DC,hD,h]
  |succ r m=>
   intro n h;obtain⟨o,q⟩:=Q8 g pr j (GV g pr r) m (Z g.AD) (c9 _);rcases KG g pr (hD g pr r) n with e|⟨p,k,v,e⟩
   .have:=o n h;have:=Yb g pr r n;show(Ct g pr (DC g pr r) (Z g.AD)).getD n 0<=Lh g pr (hD g pr r) n
    omega
   .have:=q p k;show(Ct g pr (DC g pr r) (Z g.AD)).getD n 0<=Lh g pr (hD g pr r) n
    rw[e,<-v];exact this
 have w:∀p,p<Z g.AD->hD g pr (Z g.A0) (Co g p)<=GK g pr (hD g pr (Z g.A0)) p:=λp k=>by
  rw[<-i _ (j p k).1];exact OU g pr k rfl
 have low:∀r,∀n,n<Z g.A0->hD g pr (Z g.A0) n<=(DC g pr r).getD n 0:=by
  intro r;induction r with
  |zero=>
   intro n h;have:=Yb g pr (Z g.A0) n;simp[DC,h];omega
  |succ r m=>exact PF g pr j (GV g pr r) w m (Z g.AD) (c9 _)
 intro n h;have o:=u (Z g.A0+1) n h;have q:=low (Z g.A0+1) n h;have A:=i n h;unfold Kx;omega
theorem cz(j:Ie g):(∀p,p<Z g.AD->(Kx g pr).getD (Co g p) 0<=GK g pr (λn=>(Kx g pr).getD n 0) p)/\∀n,n<Z g.A0->(Kx g pr).getD n 0<1000->((Kx g pr).getD n 0<=Z g.A0/\∃p,p<Z g.AD/\Co g p=n/\GK g pr (λn=>(Kx g pr).getD n 0) p=(Kx g pr).getD n 0):=by
 have m:=rp g pr j;have o:∀p,p<Z g.AD->GK g pr (λn=>(Kx g pr).getD n 0) p=GK g pr (hD g pr (Z g.A0)) p:=λp i=>
  Int.le_antisymm (J2 g pr j (λn k=>by rw[m n k];exact q6 _) i) (J2 g pr j (λn k=>by rw[m n k];exact q6 _) i)
 refine⟨λp i=>?_,λn k h=>?_⟩
 .rw[o p i,m _ (j p i).1,<-SV g pr j _ (j p i).1];exact OU g pr i rfl
 .rw[m n k]at h⊢;refine⟨O7 g pr j _ _ h,?_⟩;rcases KG g pr (hD g pr (Z g.A0)) n with e|⟨p,i,q,e⟩
  .have:=SV g pr j n k;rw[show hD g pr (Z g.A0+1) n=Lh g pr (hD g pr (Z g.A0)) n from rfl,e]at this;omega
  .exact⟨p,i,q,by rw[o p i,<-e];exact SV g pr j n k⟩
end
end Go.Koi
