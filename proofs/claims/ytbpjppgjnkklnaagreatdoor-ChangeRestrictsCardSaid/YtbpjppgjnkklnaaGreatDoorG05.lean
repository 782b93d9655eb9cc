/-
  Part 6 of the proof that the law ChangeRestricts returns true for every input.
-/
import Derived.Test.YtbpjppgjnkklnaaGreatDoorG03
import Derived.Still
set_option maxHeartbeats 64000000
set_option maxRecDepth 100000
open List renaming length->Z
open Array renaming replicate->Bk
open Go.Op renaming operands->qs
open Bool renaming true->J,false->ap
open Option renaming some->am
namespace Go.Koi
open Go renaming Oper->dl,FuncId->eN,Program->cP
abbrev acj:=@List.mem_append_left
abbrev acZ:=@List.mem_of_mem_drop
abbrev lh:=@and_self
abbrev adu:=@List.mem_toArray
abbrev acV:=@beq_iff_eq
abbrev ut:=@List.mem_filter
abbrev adS:=@ready_mono
abbrev ab1:=@List.mem_cons_of_mem
abbrev adk:=@List.filter_eq_nil_iff
section
variable {P:Program} {n b:Nat} {o:dl} {tm tm':Tm} {S S':Sg} {v:V} {ops:Array dl} {K:Tm->Sg->Prop}
theorem Hj(h:∀t∈o.looksAt ops,tm' t=tm t):∀x∈o.op.operands,ev tm' x=ev tm x:=λx g=>by
 cases x with
 |tmp t=>
  refine h t ?_;unfold Oper.looksAt;exact acj _ (List.mem_filterMap.2 ⟨.tmp t,by simpa using g,rfl⟩)
 |_=>rfl
theorem I6{g:List (Nat×Operand)}(h:∀p∈g,ev tm' p.2=ev tm p.2):I2 tm' g=I2 tm g:=by
 induction g with
 |nil=>rfl
 |cons p g i=>simp only[I2,h p (by simp),i λq j=>h q (by simp[j])]
theorem Tq{xs:List Operand}(h:∀x∈xs,ev tm' x=ev tm x):PZ tm' xs=PZ tm xs:=by
 induction xs with
 |nil=>rfl
 |cons p j g=>simp only[PZ,h p (by simp),g λq i=>h q (by simp[i])]
theorem Rl{xs:List Operand}(h:∀x∈xs,ev tm' x=ev tm x):xs.map (ev tm')=xs.map (ev tm):=AC h
theorem LX{xs:List Operand}(h:∀x∈xs,ev tm' x=ev tm x):ev tm' (xs.headD (.const undef))=ev tm (xs.headD (.const undef)):=by
 cases xs with
 |nil=>rfl
 |cons x xs=>exact h x (by simp)
theorem LB{op:Op}(h:∀x∈op.operands,ev tm' x=ev tm x):BX P op tm' S=BX P op tm S/\Bc P op tm' S=Bc P op tm S/\C2 P op tm' S=C2 P op tm S:=by
 cases op;case call c=>
  have ha:∀x∈c.args.toList,ev tm' x=ev tm x:=λx g=>h x (by simp[qs,Call.operands];exact .inr (by simpa using g));have h0:ev tm' (EN c)=ev tm (EN c):=LX ha;have F:ev tm' (F0 c)=ev tm (F0 c):=LX λx g=>ha x (acZ g);have G:ev tm' (Kh c)=ev tm (Kh c):=LX λx g=>ha x (acZ g);simp only[BX,Bc,C2,F9,GI,Hn,HT,h0,F,G,lh]
 case build T q=>
  have i:∀p∈q.toList,ev tm' p.2=ev tm p.2:=λp i=>h p.2 (by simp only[qs];exact adu.2 (g7.2 ⟨p,i,rfl⟩));have m:=I6 i;have j:Cl tm' q=Cl tm q:=AC λp B=>by rw[i p B]
  simp only[BX,Bc,C2,F9,GI,Hn,HT,m,j,lh]
 case buildSlice T k q=>
  have i:∀p∈q.toList,ev tm' p.2=ev tm p.2:=λp i=>h p.2 (by simp only[qs];exact adu.2 (g7.2 ⟨p,i,rfl⟩));have m:=I6 i;have j:Cl tm' q=Cl tm q:=AC λp B=>by rw[i p B]
  simp only[BX,Bc,C2,F9,GI,Hn,HT,m,j,lh]
 case makeFunc f as C=>
  have m:as.toList.map (ev tm')=as.toList.map (ev tm):=Rl λx g=>h x (by simp[qs];exact .inl (by simpa using g));have j:C.toList.map (ev tm')=C.toList.map (ev tm):=Rl λx g=>h x (by simp[qs];exact .inr (by simpa using g));simp only[BX,Bc,C2,F9,GI,Hn,HT,m,j,lh]
 case slice T x lo hi w=>
  have g:=h x (by simp[qs]);have m:EU tm' lo=EU tm lo/\Fu tm' lo=Fu tm lo:=by
   cases lo with
   |none=>exact⟨rfl,rfl⟩
   |some y=>have:=h y (by simp[qs]);simp only[EU,Fu,this,lh]
  have j:EU tm' hi=EU tm hi/\Fu tm' hi=Fu tm hi/\∀X,rG tm' X hi=rG tm X hi:=by
   cases hi with
   |none=>exact⟨rfl,rfl,λ_=>rfl⟩
   |some y=>have:=h y (by simp[qs]);simp only[EU,Fu,rG,this,lh,implies_true]
  have E:EU tm' w=EU tm w/\Fu tm' w=Fu tm w:=by
   cases w with
   |none=>exact⟨rfl,rfl⟩
   |some y=>have:=h y (by simp[qs]);simp only[EU,Fu,this,lh]
  simp only[BX,Bc,C2,F9,GI,g,m.1,m.2,j.1,j.2.1,j.2.2,E.1,E.2,lh]
 case unOp u T x=>
  have g:=h x (by simp[qs]);cases u<;>simp only[BX,Bc,C2,F9,GI,Hn,HT,g,lh]
 all_goals first
  |(simp only[BX,Bc,C2,F9,GI,Hn,HT,lh];done)
  |(rename_i x
    have g:=h x (by simp[qs])
    simp only[BX,Bc,C2,F9,GI,Hn,HT,g,lh];done)
  |(rename_i x y
    have g:=h x (by simp[qs])
    simp only[BX,Bc,C2,F9,GI,Hn,HT,g,lh];done)
  |(rename_i x y
    have g:=h x (by simp[qs])
    have A:=h y (by simp[qs])
    simp only[BX,Bc,C2,F9,GI,Hn,HT,g,A,lh];done)
  |(rename_i x y z
    have g:=h x (by simp[qs])
    have A:=h y (by simp[qs])
    simp only[BX,Bc,C2,F9,GI,Hn,HT,g,A,lh];done)
  |(rename_i x y z
    have g:=h x (by simp[qs])
    have A:=h y (by simp[qs])
    have H:=h z (by simp[qs])
    simp only[BX,Bc,C2,F9,GI,Hn,HT,g,A,H,lh];done)
  |skip
theorem guard_congr{j:Nat}{g:Bool}(i:o.guard=am (j,g))(h:∀t∈o.looksAt ops,tm' t=tm t):CW ops tm' j g=CW ops tm j g:=by
 unfold CW;cases k:(ops[j]?).bind (·.dst)with
 |none=>rfl
 |some d=>
  have:tm' d=tm d:=h d (by simp[Oper.looksAt,i,k]);simp[this]
theorem mM(h:∀t∈o.looksAt ops,tm' t=tm t):EY P n ops o tm' S=EY P n ops o tm S/\Dm P ops o tm' S=Dm P ops o tm S/\oS P o tm' S=oS P o tm S:=by
 obtain⟨i,k,q⟩:=LB (P:=P) (S:=S) (op:=o.op) (Hj h);cases g:o.guard with
 |none=>simp only[EY,Dm,oS,g,i,k,q,lh]
 |some u=>
  obtain⟨j,m⟩:=u;have:=guard_congr g h;simp only[EY,Dm,oS,g,i,k,this,lh]
def Bu(P:Program)(n b:Nat)(ops:Array dl)(i:Nat)(o:dl)(tm:Tm)(S:Sg)(v:V)(S':Sg):Prop:=
 ∀tm',(∀t∈o.looksAt ops,tm' t=tm t)->Step P n b ops i tm' S (put tm' o.dst v) S'
theorem Bu.congr{i:Nat}(h:Bu P n b ops i o tm S v S')(k:∀t∈o.looksAt ops,tm' t=tm t):Bu P n b ops i o tm' S v S':=λg m=>
 h g λt j=>(m t j).trans (k t j)
theorem Bu.El{i:Nat}(hi:ops[i]?=am o)(h:EY P n ops o tm S):Bu P n b ops i o tm S (Dm P ops o tm S) (oS P o tm S):=λtm' g=>by
 obtain⟨j,k,m⟩:=mM (P:=P) (n:=n) (S:=S) g;rw[<-k,<-m];exact Step.El hi (by rw[j];exact h)
theorem Gz{c:Call}(k:o.op=.call c)(h:∀t∈o.looksAt ops,tm' t=tm t):callee tm' c=callee tm c/\BB tm' c=BB tm c:=by
 have g:=Hj h;rw[k]at g;have ha:∀x∈c.args.toList,ev tm' x=ev tm x:=λx i=>g x (by simp[qs,Call.operands];exact .inr (by simpa using i));have j:=Tq ha;have m:c.args.toList.map (λx=>strip (ev tm' x))=c.args.toList.map (λx=>strip (ev tm x)):=AC λx i=>by rw[ha x i]
 unfold callee BB;cases q:c.callee with
 |value f=>
  have u:=g f (by simp[qs,Call.operands,q]);simp only[u,j,m,lh]
 |_=>exact⟨rfl,by simp only[j]⟩
theorem Bu.call{i:Nat}{c:Call}{f:FuncId}{args:List V}(hi:ops[i]?=am o)(g:o.op=.call c)(j:o.guard=none)(k:A6 n o.dst)(m:callee tm c=am (f,args))(q:BB tm c)
  (h:AG P f args S v S'):Bu P n b ops i o tm S v S':=λtm' u=>by
 obtain⟨w,A⟩:=Gz g u;exact Do hi k j (Hx g (by rw[w];exact m) (by rw[A];exact q) h)
abbrev E2:=@Bu.call
theorem Bu.Mb{i:Nat}{c:Call}{f:FuncId}{args:List V}{j:Nat}{k g:Bool}(hi:ops[i]?=am o)(m:o.op=.call c)(q:o.guard=am (j,k))(w:A6 n o.dst)
  (A:CW ops tm j k=am g) (h:g=J->callee tm c=am (f,args)/\BB tm c/\AG P f args S v S):Bu P n b ops i o tm S (Ha g v) S:=λtm' u=>by
 obtain⟨B,C⟩:=Gz m u;refine Step.GB hi w q (by rw[guard_congr q u];exact A) λe=>?_;obtain⟨E,F,G⟩:=h e;exact Hx m (by rw[B];exact E) (by rw[C];exact F) G
def waits(ops:Array dl)(j i:Nat):Bool:=
 match ops[j]? with
 |some g=>g.after.any λe=>Region.binds .any e&&e.on==i
 |none=>J
def ep(ops:Array dl)(B:List (Nat×(Sg->Prop)))(j:Nat)(S S':Sg):Prop:=∀p∈B,waits ops j p.1=J\/(p.2 S->p.2 S')
def Bj(P:Program)(n b:Nat)(ops:Array dl)(K:Tm->Sg->Prop)(B:List (Nat×(Sg->Prop))):Nat->Array Bool->Tm->Sg->Prop
 |0,g,tm,S=>Region.ready .any ops g=[]/\K tm S
 |h+1,g,tm,S=>(Region.ready .any ops g=[]->K tm S)/\∀i∈Region.ready .any ops g,∃o v S',ops[i]?=am o/\Bu P n b ops i o tm S v S'/\ep ops B i S S'/\Bj P n b ops K (B.filter λp=>!waits ops i p.1) h (g.setIfInBounds i J) (put tm o.dst v) S'
theorem put_comm{tm:Tm}{x y:Option Tmp}(v u:V)(h:∀d,x=am d->y≠am d):put (put tm x v) y u=put (put tm y u) x v:=by
 cases x with
 |none=>rfl
 |some d=>
  cases y with
  |none=>rfl
  |some e=>
   have i:d≠e:=λj=>h d rfl (j▸rfl);funext k;simp[put,Fk];by_cases g:k=d
   .subst g;simp[i]
   .simp[g]
theorem KJ{o o':dl}{tm:Tm}{u:V}(h:∀d,o'.dst=am d->d∉o.looksAt ops):∀t∈o.looksAt ops,(put tm o'.dst u) t=tm t:=λt g=>by
 cases i:o'.dst with
 |none=>rfl
 |some d=>
  have:t≠d:=λe=>h d i (e▸g);simp[put,Fk,this]
theorem MO{j i:Nat}{g:dl}(hj:ops[j]?=am g)(h:waits ops j i=J):∃e∈g.after,Region.binds .any e=J/\e.on=i:=by
 unfold waits at h;rw[hj]at h;obtain⟨e,k,hb⟩:=Array.any_eq_true'.1 h;simp at hb;exact⟨e,k,hb.1,hb.2⟩
theorem OA:∀(g:Nat) (B m:List (Nat×(Sg->Prop))) (i:Array Bool) (tm:Tm) (S:Sg),(∀p∈m,p∈B)->Bj P n b ops K B g i tm S->Bj P n b ops K m g i tm S
 |0,_,_,_,_,_,_,h=>h
 |g+1,B,m,_,_,_,q,h=>⟨h.1,λk u=>by
  obtain⟨o,v,S',w,A,C,E⟩:=h.2 k u;refine⟨o,v,S',w,A,λp j=>C p (q p j),OA g _ _ _ _ _ (λp j=>?_) E⟩;rw[ut]at j⊢;exact⟨q p j.1,j.2⟩⟩
theorem Pa{i:Nat}{T:dl}{C:Sg->Prop}(hi:ops[i]?=am T):
  ∀(m:Nat) (B:List (Nat×(Sg->Prop))) (g:Array Bool) (tm:Tm) (S:Sg),(∀j N,ops[j]?=am N->j≠i->g.getD j J=ap->(∀e∈N.after,Region.binds .any e=J->e.on≠i)->T.apart ops N=J)->i∈Region.ready .any ops g->C S->(∀S',C S'->Bu P n b ops i T tm S' v S')->Bj P n b ops K ((i,C)::B) m (g.setIfInBounds i J) (put tm T.dst v) S->Bj P n b ops K B (m+1) g tm S:=by
 intro m;induction m with
 |zero=>
  intro B g tm S _ U hS hy H;refine⟨λh=>(by rw[h]at U;cases U),λj hj=>?_⟩;by_cases q:j=i
  .subst q;refine⟨T,v,S,hi,hy S hS,λp _=>.inr id,H⟩
  .have:=adS hj q;rw[H.1]at this;cases this
 |succ m ih=>
  intro B g tm S A U hS hy H;refine⟨λh=>(by rw[h]at U;cases U),λj hj=>?_⟩;by_cases q:j=i
  .subst q;refine⟨T,v,S,hi,hy S hS,λp _=>.inr id,OA _ _ _ _ _ _ (λp hp=>?_) H⟩;exact ab1 _ (ut.1 hp).1
  .obtain⟨N,u,S',E,zk,w,F⟩:=H.2 j (adS hj q);obtain⟨Q,oj',R,zj⟩:=mem_ready.1 hj;rw[E]at R;cases R;have G:∀e∈N.after,Region.binds .any e=J->e.on≠i:=λe W hb L=>by
    have X:=zj e W hb;have h0:=(mem_ready.1 U).1;rw[L]at X;rcases s9 i g.size with h'|h'
    .simp[h']at h0 X;rw[h0]at X;cases X
    .simp[H1 h']at X
   obtain⟨a1,a2,a3⟩:=Oper.apart_spec (A j N E q Q G);have hw:waits ops j i=false:=by
    cases hx:waits ops j i with
    |false=>rfl
    |true=>
     obtain⟨e,W,hb,L⟩:=MO E hx;exact absurd L (G e W hb)
   have hC:C S':=by
    rcases w (i,C) (by simp)with h|h
    .obtain⟨e,W,hb,L⟩:=MO E h;exact absurd L (G e W hb)
    .exact h hS
   have M:∀k ok,ops[k]?=am ok->k≠i->(g.setIfInBounds j J).getD k J=ap->(∀e∈ok.after,Region.binds .any e=J->e.on≠i)->T.apart ops ok=true:=λk ok hk hki Y zw=>by
    refine A k ok hk hki ?_ zw;by_cases hjk:j=k
    .subst hjk;exact Q
    .rw[getD_set_ne J hjk]at Y;exact Y
   refine⟨N,u,S',E,zk.congr λt ht=>(KJ a1 t ht).symm,λp hp=>w p (by simp[hp]),?_⟩;refine ih (B.filter λp=>!waits ops j p.1) (g.setIfInBounds j J) (put tm N.dst u) S' M (adS U (n7 q)) hC (λS2 h2=>(hy S2 h2).congr (KJ a3)) ?_;rw[Array.setIfInBounds_comm _ _ q,put_comm u v λd hd h=>a2 d h hd];rw[List.filter_cons_of_pos (by simp[hw])]at F;exact F
theorem Iy{Q:Exit->Act->World->Prop}:∀(j:Nat) (g:Array Bool) (tm:Tm) (S:Sg),Bj P n b ops K [] j g tm S->∀G w a,St P n G S w a tm->b<=Z S->(∀q u,(∃C S' tm',IP P n b G S w a.defers q u C S' tm'/\K tm' S')->Q .normal q u)->wpAny P .any ops Q j g a w
 |0,g,tm,S,h,G,w,a,st,hb,A=>⟨h.1,A a w ⟨G,S,tm,.refl st hb,h.2⟩⟩
 |j+1,g,tm,S,h,G,w,a,st,hb,A=>by
  refine⟨λh0=>A a w ⟨G,S,tm,.refl st hb,h.1 h0⟩,λi hi=>?_⟩;obtain⟨o,v,S',U,F,_,k⟩:=h.2 i hi;refine F tm (λ_ _=>rfl) G w a _ Q st hb λq u C m=>?_;refine Iy j _ _ _ k C u q m.st m.late.len λH L M=>?_;obtain⟨N,R,E,B,T⟩:=M;exact A H L ⟨N,R,E,⟨B.st,B.ds.trans m.ds,m.tr.trans B.tr,m.late.trans B.late⟩,T⟩
def Ed(ops:Array dl):List (Nat×Bool)->Array Bool->Bool
 |[],g=>Region.ready .any ops g==[]
 |(i,q)::rest,g=>(if q then(Region.ready .any ops g).contains i&&Region.free .any ops g i else Region.ready .any ops g==[i])&&Ed ops rest (g.setIfInBounds i J)
def Em(ops:Array dl)(l:List (Nat×Bool)):List (Nat×Bool×dl):=l.map λp=>(p.1,p.2,ops.getD p.1 {dst:=none,op:=.move<|.const undef,type:=0,pos:= "",after:=#[],guard:=none})
def Ab(P:Program)(n b:Nat)(ops:Array dl)(B:List (Nat×(Sg->Prop)))(l:List (Nat×Bool×dl))(tm:Tm)(S:Sg)(K:Tm->Sg->Prop):Prop:=
 ∀g,(∀p∈l,ops[p.1]?=am p.2.2)->Ed ops (l.map λp=>(p.1,p.2.1)) g=J->Bj P n b ops K B (Z l) g tm S
theorem xM{B:List (Nat×(Sg->Prop))}(h:K tm S):Ab P n b ops B [] tm S K:=λg _ i=>⟨by simpa[Ed]using i,h⟩
theorem Ab.quiet{B:List (Nat×(Sg->Prop))}{i:Nat}{rest:List (Nat×Bool×dl)}(C:Sg->Prop)(hS:C S)(m:ops[i]?=am o->∀S',C S'->Bu P n b ops i o tm S' v S')
  (h:Ab P n b ops ((i,C)::B) rest (put tm o.dst v) S K):Ab P n b ops B ((i,J,o)::rest) tm S K:=λg k j=>by
 have hi:ops[i]?=am o:=k (i,J,o) (by simp);simp[Ed]at j;obtain⟨⟨q,u⟩,w⟩:=j;exact Pa hi _ B g tm S (Region.free_spec hi u) (by simpa using q) hS (m hi) (h _ (λp j=>k p (by simp[j])) w)
abbrev q7:=@Ab.quiet
theorem Ab.last{B:List (Nat×(Sg->Prop))}{i:Nat}{rest:List (Nat×Bool×dl)}(w:(B.map (·.1)).all (waits ops i)=J)(A:ops[i]?=am o->Bu P n b ops i o tm S v S')
  (h:Ab P n b ops [] rest (put tm o.dst v) S' K):Ab P n b ops B ((i,ap,o)::rest) tm S K:=λk m g=>by
 have hi:ops[i]?=am o:=m (i,ap,o) (by simp);simp[Ed]at g;obtain⟨q,C⟩:=g;have u:∀p∈B,waits ops i p.1=true:=λp g=>ed.1 w p.1 (g7.2 ⟨p,g,rfl⟩);refine⟨λh0=>(by rw[q]at h0;cases h0),λj hj=>?_⟩;rw[q]at hj;have:j=i:=by simpa using hj
 subst this;have E:(B.filter λp=>!waits ops j p.1)=[]:=adk.2 λp g=>by simp[u p g]
 exact⟨o,v,S',hi,A hi,λp g=>.inl (u p g),by rw[E];exact h _ (λp g=>m p (by simp[g])) C⟩
theorem Hs{B:List (Nat×(Sg->Prop))}{i:Nat}{rest:List (Nat×Bool×dl)}(g:EY P n ops o tm S/\oS P o tm S=S)(h:Ab P n b ops ((i,λS'=>S'=S)::B) rest (put tm o.dst (Dm P ops o tm S)) S K):
  Ab P n b ops B ((i,J,o)::rest) tm S K:=
 q7 (λS'=>S'=S) rfl (λhi S' hS=>by
  subst hS;have:=Bu.El (b:=b) hi g.1;rwa [g.2]at this) h
theorem Ab.uM{B:List (Nat×(Sg->Prop))}{i:Nat}{rest:List (Nat×Bool×dl)}(C:Sg->Prop)(hS:C S)(g:∀S',C S'->EY P n ops o tm S'/\Dm P ops o tm S'=v/\oS P o tm S'=S')(h:Ab P n b ops ((i,C)::B) rest (put tm o.dst v) S K):
  Ab P n b ops B ((i,J,o)::rest) tm S K:=
 q7 C hS (λhi S' hS=>by
  obtain⟨j,k,m⟩:=g S' hS;have:=Bu.El (b:=b) hi j;rwa [k,m]at this) h
def Ft(S:Sg)(tm:Tm)(c:Call)(f:FuncId)(ds:List D):Prop:=
 match callee tm c with
 |some (g,args)=>g=f/\args.map (BO S)=ds.map am
 |none=>False
theorem GH{c:Call}{f:FuncId}{ds:List D}(h:Ft S tm c f ds):∃args,callee tm c=am (f,args)/\args.map (BO S)=ds.map some:=by
 unfold Ft at h;split at h
 .rename_i i args g;obtain⟨rfl,h⟩:=h;exact⟨args,g,h⟩
 .exact h.elim
theorem Bq{rest:List dl}{c:Call}{f:FuncId}{ds:List D}{d:D}(h:Pure P f ds d)(g:o.op=.call c)(i:o.guard=none/\A6 n o.dst/\BB tm c/\Ft S tm c f ds)
  (j:AS P n b ops rest (put tm o.dst (.d d)) S K):AS P n b ops (o::rest) tm S K:=by
 obtain⟨k,m,q,u⟩:=i;obtain⟨args,w,A⟩:=GH u;exact i9 g k m w q (h.call A) j
theorem AS.C0{rest:List dl}{c:Call}{f:FuncId}{ds:List D}{d:D}{j:Nat}{i g:Bool}(k:o.op=.call c)(m:o.guard=am (j,i))(q:CW ops tm j i=am g)
  (h:g=J->Pure P f ds d) (B:A6 n o.dst/\(g=J->BB tm c/\Ft S tm c f ds))
  (u:AS P n b ops rest (put tm o.dst (Ha g (.d d))) S K):AS P n b ops (o::rest) tm S K:=by
 obtain⟨w,A⟩:=B;by_cases e:g=J
 .obtain⟨args,C,E⟩:=GH (A e).2;exact AS.Mb k m w q (λe=>⟨C,(A e).1,(h e).call E⟩) u
 .exact AS.Mb (f:=f) (args:=[]) k m w q (λF=>absurd F e) u
abbrev vj:=@AS.C0
theorem Ab.Ck{B:List (Nat×(Sg->Prop))}{i:Nat}{rest:List (Nat×Bool×dl)}{c:Call}{f:FuncId}{ds:List D}{d:D}(h:Pure P f ds d)(g:o.op=.call c)
  (j:o.guard=none/\A6 n o.dst/\BB tm c/\Ft S tm c f ds) (k:Ab P n b ops ((i,λS'=>S'=S)::B) rest (put tm o.dst (.d d)) S K):Ab P n b ops B ((i,J,o)::rest) tm S K:=by
 obtain⟨m,q,u,w⟩:=j;obtain⟨args,A,C⟩:=GH w;exact q7 (λS'=>S'=S) rfl (λhi S' hS=>by subst hS;exact E2 hi g m q A u (h.call C)) k
abbrev j0:=@Ab.Ck
theorem Ab.C0{B:List (Nat×(Sg->Prop))}{i:Nat}{rest:List (Nat×Bool×dl)}{c:Call}{f:FuncId}{ds:List D}{d:D}{j:Nat}{k g:Bool}(m:o.op=.call c)(q:o.guard=am (j,k))
  (u:CW ops tm j k=am g) (h:g=J->Pure P f ds d) (E:A6 n o.dst/\(g=J->BB tm c/\Ft S tm c f ds))
  (w:Ab P n b ops ((i,λS'=>S'=S)::B) rest (put tm o.dst (Ha g (.d d))) S K):Ab P n b ops B ((i,J,o)::rest) tm S K:=by
 obtain⟨A,C⟩:=E;by_cases e:g=J
 .obtain⟨args,F,G⟩:=GH (C e).2;exact q7 (λS'=>S'=S) rfl (λhi S' hS=>by subst hS;exact Bu.Mb hi m q A u λe=>⟨F,(C e).1,(h e).call G⟩) w
 .exact q7 (λS'=>S'=S) rfl (λhi S' hS=>by subst hS;exact Bu.Mb (f:=f) (args:=[]) hi m q A u λH=>absurd H e) w
theorem AW.YP{id:Nat}{Q:Exit->Tm->Sg->Prop}(l:List (Nat×Bool))(A:P.follows .mixedOrders=J)(g:Z l=ops.size)(i:Ed ops l (Bk ops.size ap)=J)
  (k:l.all (λp=>decide (p.1<ops.size))=J) (h:Ab P n b ops [] (Em ops l) tm S (Q .normal)):AW P n b (.region id ops J) Q tm S:=λG w a st hb=>by
 refine wp_region_any A ?_;obtain⟨r1,r2,m⟩:=st.rel.drawn (w':={w with drawn:=w.drawn+1}) rfl rfl rfl;have u:=h (Bk ops.size ap) (λp i=>by
  simp only[Em,g7]at i;obtain⟨q,B,rfl⟩:=i;have C:q.1<ops.size:=by simpa using ed.1 k q B
  simp[C]) (by
   have e:(Em ops l).map (λp=>(p.1,p.2.1))=l:=by simp[Em,nc]
   rw[e];exact i)
 have E:Z (Em ops l)=ops.size:=by simp[Em,g]
 rw[E]at u;refine Iy _ _ _ _ u G {w with drawn:=w.drawn+1} a ⟨st.size,st.tm.later m,r1⟩ hb λM w' F=>?_;obtain⟨H,S',tm',j,L⟩:=F;exact⟨H,S',tm',⟨j.st,j.ds,r2.trans j.tr,(m.late hb).trans j.late⟩,L⟩
theorem AW.Jm{id:Nat}{Q:Exit->Tm->Sg->Prop}(l:List (Nat×Bool))(j:P.follows .mixedOrders=J)(g:Z l=ops.size)(k:Ed ops l (Bk ops.size ap)=J)
  (i:l.all (λp=>decide (p.1<ops.size))=J) (h:∀K:Tm->Sg->Prop,(∀tm S,Q .normal tm S->K tm S)->Ab P n b ops [] (Em ops l) tm S K):AW P n b (.region id ops J) Q tm S:=
 AW.YP l j g k i (h _ λ_ _ h=>h)
theorem FG{id:Nat}{Q:Exit->Tm->Sg->Prop}(h:∀K:Tm->Sg->Prop,(∀tm S,Q .normal tm S->K tm S)->AS P n b ops ops.toList tm S K):AW P n b (.region id ops ap) Q tm S:=
 AW.region (h _ λ_ _ h=>h)
end
attribute [simp] Ft Em
section
variable {P:Program} {n b:Nat} {tm:Tm} {S:Sg} {ops:Array dl} {K:Tm->Sg->Prop} {Q:Exit->Tm->Sg->Prop}
def xR(P:Program)(n:Nat)(ops:Array dl)(K:Tm->Sg->Prop):List dl->Tm->Sg->Prop
 |[],tm,S=>K tm S
 |o::l,tm,S=>EY P n ops o tm S/\xR P n ops K l (put tm o.dst (Dm P ops o tm S)) (oS P o tm S)
theorem Um:∀{l:List dl} {tm:Tm} {S:Sg},xR P n ops K l tm S->AS P n b ops l tm S K
 |[],_,_,h=>BY h
 |_::_,_,_,h=>Cc h.1 (Um h.2)
theorem xV{id:Nat}(h:∀K:Tm->Sg->Prop,(∀tm S,Q .normal tm S->K tm S)->xR P n ops K ops.toList tm S):AW P n b (.region id ops ap) Q tm S:=
 FG λK g=>Um (h K g)
theorem xW{id:Nat}{y:Code}(h:∀K:Tm->Sg->Prop,(∀tm S,AW P n b y Q tm S->K tm S)->xR P n ops K ops.toList tm S):AW P n b (.seq (.region id ops ap) y) Q tm S:=
 E5 λK g=>Um (h K g)
theorem xC{c:Operand}{x y z:Code}(h:match ev tm c with|.d (.bool t)=>(t=J->AW P n b x (B5 (AW P n b z Q) Q) tm S)/\(t=ap->AW P n b y (B5 (AW P n b z Q) Q) tm S)|_=>False):AW P n b (.seq (.cond c x y) z) Q tm S:=
 xS (AP h)
theorem xK{y:Code}(h:AW P n b y Q tm S):AW P n b .skip (B5 (AW P n b y Q) Q) tm S:=CF h
theorem xB{id:Nat}{c y:Code}(h:AW P n b c (A2 id (B5 (AW P n b y Q) Q)) tm S):AW P n b (.seq (.block id c) y) Q tm S:=xS (Bo h)
theorem xQ{next:Tm->Sg->Prop}{i j:Nat}:B5 next Q .normal tm S=next tm S/\B5 next Q .ret tm S=Q .ret tm S/\B5 next Q (.exit i) tm S=Q (.exit i) tm S/\A2 i Q .normal tm S=Q .normal tm S/\A2 i Q .ret tm S=Q .ret tm S/\A2 i Q (.exit j) tm S=if j=i then Q .normal tm S else Q (.exit j) tm S:=⟨rfl,rfl,rfl,rfl,rfl,rfl⟩
def xT:List Nat->List Bool
 |[]=>[]
 |k::l=>(k !=0)::xT l
def xP:List Nat->List (Nat×Bool)
 |[]=>[]
 |k::l=>(k / 2,k % 2==0)::xP l
theorem xE{id:Nat}(l:List Nat)(g:(P.follows .mixedOrders&&(Z (xP l)==ops.size&&(Ed ops (xP l) (Bk ops.size ap)&&(xP l).all λp=>decide (p.1<ops.size))))=J)
  (h:∀K:Tm->Sg->Prop,(∀tm S,Q .normal tm S->K tm S)->Ab P n b ops [] (Em ops (xP l)) tm S K):AW P n b (.region id ops J) Q tm S:=by
 simp only[cF,acV]at g;exact AW.Jm (xP l) g.1 g.2.1 g.2.2.1 g.2.2.2 h
theorem xD{id:Nat}{y:Code}(l:List Nat)(g:(P.follows .mixedOrders&&(Z (xP l)==ops.size&&(Ed ops (xP l) (Bk ops.size ap)&&(xP l).all λp=>decide (p.1<ops.size))))=J)
  (h:∀K:Tm->Sg->Prop,(∀tm S,AW P n b y Q tm S->K tm S)->Ab P n b ops [] (Em ops (xP l)) tm S K):AW P n b (.seq (.region id ops J) y) Q tm S:=
 xS (xE l g h)
end
def x6:Nat->Nat->List Nat->List Nat
 |_,0,l=>l
 |i,k+1,l=>i::x6 (i+2) k l
def A7(k:Nat)(l:List Nat):List Nat:=x6 0 k l
attribute [simp] xR xT xP x6 A7
abbrev nu:=@Option.some.inj
section
variable {P:Program} {n b:Nat} {o:dl} {tm tm':Tm} {S S':Sg} {v:V} {ops:Array dl} {K:Tm->Sg->Prop} {Q:Exit->Tm->Sg->Prop}
theorem AS.JW{rest:List dl}{neg:Bool}{T U:TypeId}{x:Operand}{xs:List D}(A:o.op=.binOp (if neg then .neq else .eql) T x (.const (.slice none 0 0)) U)
  (B:o.guard=none/\A6 n o.dst/\(Al P T).isSome=J/\need (ev tm x)/\(strip (ev tm x)=.d (.sl xs)\/strip (ev tm x)=.full xs))
  (h:∀t:Bool,(xs≠[]->t=ap)->AS P n b ops rest (put tm o.dst (.d (.bool (t !=neg)))) S K):AS P n b ops (o::rest) tm S K:=λk u G w a Q st hb C=>by
 obtain⟨F,H,L,M,N⟩:=B;obtain⟨E,R⟩:=md.1 L;obtain⟨t,W,X⟩:=A4 R;have h0:ops[k]?=am o:=by simpa using(u 0).symm
 obtain⟨i,Y,zm⟩:=nil_eq A W X M N st;simp[aci];rw[acU];unfold wpOp;simp[h0,Region.wanted,F];left;unfold Oper.wp;rw[zm];simp[Oper.upon];have m:St P n G S w (a.put o.dst (.bool (i !=neg))) (put tm o.dst (.d (.bool (i !=neg)))):=st.put H (.d _ _ (.bool _)) st.rel (aer _ _ _);refine h i Y (k+1) (λj=>by have:=u (j+1);simp at this;rw[this];congr 1;omega) G w _ Q m hb λa2 w2 hh=>?_;obtain⟨G2,S2,q,g,hK⟩:=hh;exact C a2 w2 ⟨G2,S2,q,⟨g.st,g.ds.trans Cy,g.tr,g.late⟩,hK⟩
theorem AS.ghost{l:List dl}(g:AI P n b tm S tm' S')(h:AS P n b ops l tm' S' K):AS P n b ops l tm S K:=λk q G w a Q st hb u=>by
 obtain⟨A,j,t,l⟩:=g G w a st hb;refine h k q A w a Q j l.len λB C E=>?_;obtain⟨F,H,m,i,L⟩:=E;exact u B C ⟨F,H,m,⟨i.st,i.ds,t.trans i.tr,l.trans i.late⟩,L⟩
abbrev vb:=@AS.ghost
def Df(S:Sg):List V->Option (List D)
 |[]=>am []
 |x::g=>match BO S x,Df S g with
  |some d,am ds=>am (d::ds)
  |_,_=>none
theorem QI:∀{g:List V} {ds:List D},Df S g=am ds->Z ds=Z g/\∀i (h:i<Z g) (A:i<Z ds),BO S g[i]=am ds[i]
 |[],ds,h=>by simp[Df]at h;subst h;exact⟨rfl,λi h=>by simp at h⟩
 |x::g,ds,h=>by
  simp[Df]at h;split at h
  .rename_i d j k m;cases h;obtain⟨q,u⟩:=QI m;refine⟨by simp[q],λi hi w=>?_⟩;cases i with
   |zero=>exact k
   |succ i=>simpa using u i (by simpa using hi) (by simpa using w)
  .cases h
@[simp] theorem CM(S:Sg)(xs:List D):Df S (xs.map .d)=am xs:=by
 induction xs with
 |nil=>rfl
 |cons x xs g=>simp[Df,BO,B4,g]
@[simp] theorem Cp{α:Type}(S:Sg)(f:α->D)(xs:List α):Df S (xs.map λx=>V.d (f x))=am (xs.map f):=by
 induction xs with
 |nil=>rfl
 |cons x xs g=>simp[Df,BO,B4,g]
theorem AI.Ca(r:Nat){wr:Bool}{sz:Nat}{els:List V}{xs:List D}(U:S[r]?=am (.row wr sz els))(hx:Df S els=am xs):AI P n b tm S tm (S.set r (.BT xs)):=λG w a st hb=>by
 have R:=st.rel;have hrl:=Ag U;obtain⟨hl,W⟩:=QI hx;have X:=R.Da r _ U;let Y:Gh:={G with I:=λk=>G.I k\/(k=G.CP r/\G.BG r=none)};have M:(S.set r (.BT xs))[r]?=am (.BT xs):=by simp[hrl]
 have N:∀m,m≠r->(S.set r (.BT xs))[m]?=S[m]?:=λm h=>by simp[pv (n7 h)]
 have L:BA G S w Y (S.set r (.BT xs)) w:=by
  refine⟨λk u=>.inl u,λ_ _=>rfl,by simp,λm hr' n' hn'=>?_,λm hr' hm=>?_⟩
  .by_cases e:m=r
   .subst e;have:n'=Z xs:=by simpa[lenOf,M]using hn'.symm
    exact⟨Z els,by simp[lenOf,U],by omega,λ_=>⟨rfl,rfl,rfl,.inr (by simp[C1,M])⟩⟩
   .have:lenOf (S.set r (.BT xs)) m=lenOf S m:=by simp[lenOf,N m e]
    exact⟨n',by rw[<-this];exact hn',c9 _,λ_=>⟨rfl,rfl,rfl,.inl (by simp[C1,N m e])⟩⟩
  .by_cases e:m=r
   .subst e;simp[isMap,M]at hm
   .exact⟨by simp[isMap,N m e]at hm;exact hm,rfl⟩
 have own:∀k,Own Y (S.set r (.BT xs)) k->Own G S k/\¬(k=G.CP r/\G.BG r=none):=by
  rintro k ⟨m,x,B,C,h3⟩;by_cases e:m=r
  .subst e;rw[M]at B;cases B;simp[Ba]at C
  .rw[N m e]at B;have h2':Ba G m x=true:=C;refine⟨⟨m,x,B,h2',h3⟩,λ⟨u,E⟩=>?_⟩;have:G.CP m=G.CP r:=by rw[<-u,h3]
   exact e (R.inj m r x _ B U h2' (by simp[Ba,E]) this)
 have F:G.BG r=none->Own G S (G.CP r):=λE=>⟨r,_,U,by simp[Ba,E],rfl⟩;refine⟨Y,⟨st.size,st.tm.later L,⟨R.Gl.later L,λm x A=>?_,λr1 r2 x1 x2 B C o1 o2 he=>?_,λk u=>?_,λk u=>?_,λk u=>R.IJ k (own k u).1⟩⟩,⟨c9 _,λk u=>.inl u,λ_ _ _=>rfl,λk u=>.inl (own k u).1,λk u=>?_,rfl,rfl⟩,L.late hb⟩
 .by_cases e:m=r
  .subst e;rw[M]at A;cases A;simp[OK];have hrv:Y.BU m (Z xs)=G.BU m (Z xs):=rfl;rw[hrv];simp only[OK]at X;cases E:G.BG m with
   |none=>
    simp only[E]at X;obtain⟨c,T,g1,g2,g3,g4,g5⟩:=X;unfold Gh.BU;simp[E];let us:Nat->Value:=λi=>if h:i<Z els then(g5 i h).choose else undef;have H:∀i (h:i<Z els),CV G S w els[i] (us i)/\(us i).cells.size=sz/\∀j,j<sz->c[(G.cap m).2+(i * sz+j)]?=(us i).cells[j]?:=λi hi=>by
     have:=(g5 i hi).choose_spec;simp[us,hi,NE];exact⟨this.1,this.2.1,this.2.2.2⟩
    refine .sl sz xs _ (G.cap m).2 _ us (.inr ⟨rfl,E⟩) (by omega) (by omega) (λi hi=>?_) (λi hi=>⟨(H i (by omega)).2.1,λj hj=>?_⟩)
    .have zo:i<Z els:=by omega
     exact(((H i zo).1.BO R (W i zo hi))).mono (λk u=>.inl u) (λ_ _=>rfl)
    .rw[cell_of g1,py];exact(H i (by omega)).2.2 j hj
   |some q=>
    simp[E]at X;obtain⟨_,_,ys,rfl,hc⟩:=X;have hxy:xs=ys:=by
     rw[CM]at hx;exact(nu hx).symm
    subst hxy;unfold Gh.BU;simp[E];exact hc.mono (λk u=>.inl u) (λ_ _=>rfl)
  .rw[N m e]at A;exact(R.Da m x A).later L (λ_=>rfl) rfl rfl rfl
 .have g:∀m x,(S.set r (.BT xs))[m]?=am x->Ba Y m x=J->∃x',S[m]?=am x'/\Ba G m x'=true:=λm x A hw=>by
   by_cases e:m=r
   .subst e;rw[M]at A;cases A;simp[Ba]at hw
   .rw[N m e]at A;exact⟨x,A,hw⟩
  obtain⟨y1,g1,p1⟩:=g r1 x1 B o1;obtain⟨y2,g2,p2⟩:=g r2 x2 C o2;exact R.inj r1 r2 y1 y2 g1 g2 p1 p2 he
 .rintro(h|⟨B,C⟩)
  .exact R.nI k (own k u).1 h
  .exact(own k u).2 ⟨B,C⟩
 .rcases u with h|⟨B,C⟩
  .exact R.JH k h
  .rw[B];exact R.IJ _ (F C)
 .rcases u with h|⟨B,C⟩
  .exact .inl h
  .rw[B];exact .inr (.inl (F C))
abbrev gl:=@AI.Ca
end
mutual
def BW(ρ:Nat->Nat):V->V
 |.row r n=>.row (ρ r) n
 |.ptr r n i j=>.ptr (ρ r) n i j
 |.map r=>.map (ρ r)
 |.fn f as k=>.fn f (CN ρ as) (CN ρ k)
 |.agg h=>.agg (CN ρ h)
 |.CX h=>.CX (CN ρ h)
 |.opt g v=>.opt g (BW ρ v)
 |.any=>.any
 |.d d=>.d d
 |.full m=>.full m
 |.DW h=>.DW h
def CN(ρ:Nat->Nat):List V->List V
 |[]=>[]
 |x::g=>BW ρ x::CN ρ g
end
def DM(ρ:Nat->Nat):O->O
 |.row h sz g=>.row h sz (CN ρ g)
 |.map i=>.map (i.map λp=>(p.1,BW ρ p.2))
 |.BT j=>.BT j
 |.dead=>.dead
theorem Ea(ρ:Nat->Nat)(xs:List V):CN ρ xs=xs.map (BW ρ):=by
 induction xs with
 |nil=>rfl
 |cons x xs g=>simp[CN,g]
structure bJ(ρ:Nat->Nat)(G0:Gh)(S0:Sg)(G:Gh)(S:Sg):Prop where
 I:∀b,G0.I b↔G.I b
 lt:∀i,i<Z S0->ρ i<Z S
 len:∀i,i<Z S0->lenOf S (ρ i)=lenOf S0 i
 sz:∀i,i<Z S0->C1 S (ρ i)=C1 S0 i
 map:∀i,i<Z S0->isMap S (ρ i)=isMap S0 i
 CP:∀i,i<Z S0->G0.CP i=G.CP (ρ i)
 cap:∀i,i<Z S0->G0.cap i=G.cap (ρ i)
 BG:∀i,i<Z S0->G0.BG i=G.BG (ρ i)
theorem bJ.BU{ρ:Nat->Nat}{G0:Gh}{S0:Sg}{G:Gh}{S:Sg}(E:bJ ρ G0 S0 G S){i:Nat}(hi:i<Z S0)(n:Nat):G0.BU i n=G.BU (ρ i) n:=by
 simp[Gh.BU,E.CP i hi,E.cap i hi,E.BG i hi]
theorem bJ.addr{ρ:Nat->Nat}{G0:Gh}{S0:Sg}{G:Gh}{S:Sg}(E:bJ ρ G0 S0 G S){i:Nat}(hi:i<Z S0)(n:Nat):G0.addr i n=G.addr (ρ i) n:=by
 simp[Gh.addr,E.CP i hi,E.cap i hi,E.BG i hi]
theorem CV.sZ{ρ:Nat->Nat}{G0:Gh}{S0:Sg}{G:Gh}{S:Sg}(E:bJ ρ G0 S0 G S){w:World}{x:V}{v:Value}(h:CV G0 S0 w x v):CV G S w (BW ρ x) v:=by
 have C:∀b,G0.I b->G.I b:=λb=>(E.I b).1;induction h with
 |any v=>exact .any v
 |d d v h=>exact .d d v (h.mono C λ_ _=>rfl)
 |full M a h=>exact .full M a (h.mono C λ_ _=>rfl)
 |row r n v o k h=>
  refine .row _ _ _ o (E.lt r k) λm q=>?_;obtain⟨u,A⟩:=h m (by rw[<-E.len r k];exact q);exact⟨u,λe=>by rw[A e,E.BU k]⟩
 |ptr r n i j v o k h=>
  refine .ptr _ _ _ _ _ o (E.lt r k) λm q=>?_;obtain⟨u,A⟩:=h m (by rw[<-E.len r k];exact q);exact⟨u,λe sz N=>by rw[A e sz (by rw[<-E.sz r k];exact N),E.addr k]⟩
 |DW F b off H K h=>exact .DW F b off H (C _ K) λj hj=>⟨(h j hj).1,(h j hj).2.1.mono C λ_ _=>rfl,(h j hj).2.2⟩
 |map r v o k h=>exact .map _ _ o (E.lt r k) λq=>by rw[h (by rw[<-E.map r k];exact q),E.CP r k]
 |fn f as T M U u A W X P Q=>
  simp[BW,Ea];exact .fn _ _ _ _ _ (by simp[u]) (by simp[A]) (λi hi=>by simpa using P i (by simpa using hi)) (λi hi=>by simpa using Q i (by simpa using hi))
 |agg F H L h o B=>
  simp[BW,Ea];exact .agg _ _ (by simp[L]) (λi hi=>by simpa using B i (by simpa using hi)) o
 |CX F H L h B=>
  simp[BW,Ea];exact .CX _ _ (by simp[L]) (λi hi=>by simpa using B i (by simpa using hi))
 |opt g x v h R B=>exact .opt _ _ _ B R
theorem CV.PU{ρ:Nat->Nat}{G0:Gh}{S0:Sg}{G:Gh}{S:Sg}(E:bJ ρ G0 S0 G S){w:World}{y:V}{v:Value}(h:CV G S w y v):∀{x:V},y=BW ρ x->AJ (Z S0) x=J->CV G0 S0 w x v:=by
 have F:∀b,G.I b->G0.I b:=λb=>(E.I b).2;induction h with
 |any v=>
  intro x e hb;cases x<;>simp[BW]at e;exact .any v
 |d d v h=>
  intro x e hb;cases x<;>simp[BW]at e;subst e;exact .d _ v (h.mono F λ_ _=>rfl)
 |full P a h=>
  intro x e hb;cases x<;>simp[BW]at e;subst e;exact .full _ a (h.mono F λ_ _=>rfl)
 |row r n v q M h=>
  intro x e hb;cases x<;>simp[BW]at e;rename_i o Q;obtain⟨rfl,rfl⟩:=e;have k:o<Z S0:=by simpa[AJ]using hb
  refine .row _ _ _ q k λm u=>?_;obtain⟨A,B⟩:=h m (by rw[E.len o k];exact u);exact⟨A,λe=>by rw[B e,E.BU k]⟩
 |ptr r n i j v q M h=>
  intro x e hb;cases x<;>simp[BW]at e;rename_i o Q i' j';obtain⟨rfl,rfl,rfl,rfl⟩:=e;have k:o<Z S0:=by simpa[AJ]using hb
  refine .ptr _ _ _ _ _ q k λm u=>?_;obtain⟨A,B⟩:=h m (by rw[E.len o k];exact u);exact⟨A,λe sz R=>by rw[B e sz (by rw[E.sz o k];exact R),E.addr k]⟩
 |DW N b off H K h=>
  intro x e hb;cases x<;>simp[BW]at e;subst e;exact .DW _ b off H (F _ K) λj hj=>⟨(h j hj).1,(h j hj).2.1.mono F λ_ _=>rfl,(h j hj).2.2⟩
 |map r v q M h=>
  intro x e hb;cases x<;>simp[BW]at e;rename_i o;subst e;have k:o<Z S0:=by simpa[AJ]using hb
  exact .map _ _ q k λu=>by rw[h (by rw[E.map o k];exact u),E.CP o k]
 |fn f as bs P ys A B h3 h4 T U=>
  intro x e hb;cases x<;>simp[BW,Ea]at e;rename_i f' W X;obtain⟨rfl,rfl,rfl⟩:=e;simp[AJ]at hb;refine .fn _ _ _ _ _ (by simpa using A) (by simpa using B) (λi hi=>T i (by simpa using hi) (by simp) (Dc hb.1 i hi)) (λi hi=>U i (by simpa using hi) (by simp) (Dc hb.2 i hi))
 |agg N H L h q C=>
  intro x e hb;cases x<;>simp[BW,Ea]at e;subst e;exact .agg _ _ (by simpa using L) (λi hi=>C i (by simpa using hi) (by simp) (Dc hb i hi)) q
 |CX N H L h C=>
  intro x e hb;cases x<;>simp[BW,Ea]at e;subst e;exact .CX _ _ (by simpa using L) (λi hi=>C i (by simpa using hi) (by simp) (Dc hb i hi))
 |opt g x v h Y C=>
  intro x e hb;cases x<;>simp[BW]at e;obtain⟨rfl,rfl⟩:=e;exact .opt _ _ _ (λhg=>C hg rfl (by simpa[AJ]using hb)) Y
theorem KC(ρ:Nat->Nat)(o:O){S S0:Sg}{i j:Nat}(h:S0[i]?=am o)(g:S[j]?=am (DM ρ o)):lenOf S j=lenOf S0 i/\C1 S j=C1 S0 i/\isMap S j=isMap S0 i:=by
 cases o<;>simp[lenOf,C1,isMap,h,g,DM,Ea]
theorem Dz{ρ:Nat->Nat}{G0 G:Gh}{i j:Nat}(o:O)(h:G0.BG i=G.BG j):Ba G j (DM ρ o)=Ba G0 i o:=by
 cases o<;>simp[Ba,DM,h]
section
variable {P:cP} {n b:Nat} {o:Oper} {tm tm':Tm} {S S0 S0' S':Sg} {v:V}
theorem OK.PU{ρ:Nat->Nat}{G0 G:Gh}{w:World}(E:bJ ρ G0 S0 G S){i:Nat}(hi:i<Z S0){o:O}(h:OK G S w (ρ i) (DM ρ o))(hb:Ao (Z S0) o=J):OK G0 S0 w i o:=by
 have B:∀b,G.I b->G0.I b:=λb=>(E.I b).2;cases o with
 |row wr sz j=>
  simp only[OK,DM,Ea]at h⊢;rw[E.BG i hi,E.CP i hi,E.cap i hi];cases L:G.BG (ρ i)with
  |none=>
   simp only[L]at h⊢;obtain⟨c,T,C,F,H,Q,R⟩:=h;refine⟨c,T,C,F,by simpa using H,by simpa using Q,λk q=>?_⟩;obtain⟨u,U,W,X,Y⟩:=R k (by simpa using q);exact⟨u,U.PU E (by simp) (Dc hb k q),W,X,Y⟩
  |some a=>
   simp[L]at h⊢;obtain⟨h1,h2,A,M,h4⟩:=h;refine⟨h1,by simpa using h2,A,?_,h4.mono B λ_ _=>rfl⟩;apply xv
   .have:=l5 Z M;simpa using this
   .intro k k1 k2;have e:=l5 (·[k]?) M;have k3:k<Z A:=by simpa using k2
    simp[ej k1,ej k3]at e;have:j[k]=.d A[k]:=by
     generalize j[k]=y at e;cases y<;>simp[BW]at e;subst e;rfl
    simpa using this
 |BT A=>
  simp[OK,DM]at h⊢;rw[E.BU hi];exact h.mono B λ_ _=>rfl
 |map N=>
  simp[OK,DM]at h⊢;rw[E.CP i hi];obtain⟨m,g,C,F,gk,H⟩:=h;refine⟨m,g,C,by simpa using F,by simpa using gk,λk q=>?_⟩;obtain⟨e,e1,e2,e3,e4,e5⟩:=H k (by simpa using q);have K:AJ (Z S0) N[k].2=true:=ed.1 hb N[k] (by simp);exact⟨e,e1,by simpa using e2.mono B λ_ _=>rfl,e3.PU E (by simp) K,e4,e5⟩
 |dead=>trivial
theorem OK.sZ{ρ:Nat->Nat}{G0 G:Gh}{w:World}(E:bJ ρ G0 S0 G S){i:Nat}(hi:i<Z S0){o:O}(h:OK G0 S0 w i o):OK G S w (ρ i) (DM ρ o):=by
 have m:∀b,G0.I b->G.I b:=λb=>(E.I b).1;cases o with
 |row wr sz K=>
  simp only[OK,DM,Ea]at h⊢;rw[E.BG i hi,E.CP i hi,E.cap i hi]at h;cases F:G.BG (ρ i)with
  |none=>
   simp only[F]at h⊢;obtain⟨c,T,q,A,B,L,M⟩:=h;refine⟨c,T,q,A,by simpa using B,by simpa using L,λk C=>?_⟩;obtain⟨u,N,Q,R,U⟩:=M k (by simpa using C);exact⟨u,by simpa using N.sZ E,Q,R,U⟩
  |some a=>
   simp[F]at h⊢;obtain⟨W,X,H,rfl,Y⟩:=h;exact⟨W,by simpa using X,H,by simp[BW,nc],Y.mono m λ_ _=>rfl⟩
 |BT H=>
  simp[OK,DM]at h⊢;rw[E.BU hi]at h;exact h.mono m λ_ _=>rfl
 |map es=>
  simp[OK,DM]at h⊢;rw[E.CP i hi]at h;obtain⟨j,g,q,A,gk,B⟩:=h;refine⟨j,g,q,by simpa using A,by simpa using gk,λk C=>?_⟩;obtain⟨e,e1,e2,e3,e4,e5⟩:=B k (by simpa using C);exact⟨e,e1,by simpa using e2.mono m λ_ _=>rfl,by simpa using e3.sZ E,e4,e5⟩
 |dead=>trivial
def FN(ρ:Nat->Nat)(k m:Nat):Nat->Nat:=λi=>if i<k then ρ i else m+(i - k)
structure VA(ρ:Nat->Nat)(S S0 S0' S':Sg):Prop where
 inj:∀i j:Nat,i<Z S0->j<Z S0->ρ i=ρ j->i=j
 J1:∀i:Nat,i<Z S0->∃o:O,S0[i]?=am o/\S[ρ i]?=am (DM ρ o)
 below:∀(i:Nat) (o:O),S0[i]?=am o->Ao (Z S0) o=J
 new:∀(i:Nat) (o:O),S0'[i]?=am o->S'[FN ρ (Z S0) (Z S) i]?=am (DM (FN ρ (Z S0) (Z S)) o)
 rest:∀r:Nat,r<Z S->(∀i:Nat,i<Z S0->ρ i≠r)->S'[r]?=S[r]?
 len:Z S'=Z S+(Z S0' - Z S0)
open Classical in
theorem BH.frame{f:eN}{args:List V}{RR:V->Sg->Prop}(h:BH P f args S0 RR)(ρ:Nat->Nat)(F:Sg->Sg){S1 S2:Sg}(M0:VA ρ S S0 S1 S2)(hM:∀v S0',RR v S0'->VA ρ S S0 S0' (F S0')/\Z S0<=Z S0')(hb:∀x∈args,AJ (Z S0) x=J):
  BH P f (args.map (BW ρ)) S (λv' S'=>∃v S0',RR v S0'/\v'=BW (FN ρ (Z S0) (Z S)) v/\S'=F S0'):=by
 refine⟨h.1,λG w cargs R zp zl=>?_⟩;let G0:Gh:={I:=G.I,CP:=λi=>G.CP (ρ i),cap:=λi=>G.cap (ρ i),BG:=λi=>G.BG (ρ i)};have B:∀i,i<Z S0->lenOf S (ρ i)=lenOf S0 i/\C1 S (ρ i)=C1 S0 i/\isMap S (ρ i)=isMap S0 i:=λi hi=>by
  obtain⟨o,u,q⟩:=M0.J1 i hi;exact KC ρ o u q
 have E:bJ ρ G0 S0 G S:=⟨λ_=>Iff.rfl,λi hi=>by obtain⟨o,_,q⟩:=M0.J1 i hi;exact Ag q,λi hi=>(B i hi).1,λi hi=>(B i hi).2.1,λi hi=>(B i hi).2.2,λ_ _=>rfl,λ_ _=>rfl,λ_ _=>rfl⟩;have Y:∀k,Own G0 S0 k->Own G S k:=by
  rintro k ⟨i,o,u,q,h3⟩;have hi:=Ag u;obtain⟨o',H,g2⟩:=M0.J1 i hi;rw[u]at H;cases H;exact⟨ρ i,_,g2,by rw[Dz (ρ:=ρ) (G0:=G0) (G:=G) (i:=i) (j:=ρ i) o rfl];exact q,h3⟩
 have R0:Rel P G0 S0 w:=by
  refine⟨R.Gl,λi o ho=>?_,λi j x y hx hy ox oy he=>?_,λk N=>R.nI k (Y k N),R.JH,λk N=>R.IJ k (Y k N)⟩
  .have hi:=Ag ho;obtain⟨o',H,g2⟩:=M0.J1 i hi;rw[ho]at H;cases H;exact(R.Da _ _ g2).PU E hi (M0.below i o ho)
  .obtain⟨x',H,g2⟩:=M0.J1 i (Ag hx);obtain⟨y',g3,g4⟩:=M0.J1 j (Ag hy);rw[hx]at H;cases H;rw[hy]at g3;cases g3;exact M0.inj i j (Ag hx) (Ag hy) (R.inj (ρ i) (ρ j) _ _ g2 g4 (by rw[Dz (ρ:=ρ) (G0:=G0) (G:=G) (i:=i) (j:=ρ i) x rfl];exact ox) (by rw[Dz (ρ:=ρ) (G0:=G0) (G:=G) (i:=j) (j:=ρ j) y rfl];exact oy) he)
 refine(h.2 G0 w cargs R0 (by simpa using zp) (λi hi zo=>(zl i (by simpa using hi) zo).PU E (by simp) (hb _ (cL hi)))).mono ?_;rintro e w' ⟨cv,A,v,S0',hRR,he,hcv,R0',T0,L0⟩;obtain⟨M,hle⟩:=hM _ _ hRR;generalize hS':F S0'=S' at M;let g:=FN ρ (Z S0) (Z S);have hρ:∀i,i<Z S0->g i=ρ i:=λi hi=>by simp[g,FN,hi]
 have hρ2:∀i,Z S0<=i->g i=Z S+(i - Z S0):=λi hi=>by simp[g,FN,Nat.not_lt.2 hi]
 have hinj:∀i j,i<Z S0'->j<Z S0'->g i=g j->i=j:=λi j hi hj hij=>by
  by_cases a1:i<Z S0<;>by_cases a2:j<Z S0
  .rw[hρ i a1,hρ j a2]at hij;exact M.inj i j a1 a2 hij
  .rw[hρ i a1,hρ2 j (by omega)]at hij;have:=E.lt i a1;omega
  .rw[hρ2 i (by omega),hρ j a2]at hij;have:=E.lt j a2;omega
  .rw[hρ2 i (by omega),hρ2 j (by omega)]at hij;omega
 let K (r:Nat):Option Nat:=if h:∃i,i<Z S0'/\g i=r then am h.choose else none;have hback:∀i,i<Z S0'->K (g i)=am i:=λi hi=>by
  have C:∃j,j<Z S0'/\g j=g i:=⟨i,hi,rfl⟩;have:=C.choose_spec;simp[K,C,NE];rw[hinj _ _ this.1 hi this.2]
 have hnone:∀r,(∀i,i<Z S0'->g i≠r)->K r=none:=λr hr=>by
  have:¬∃i,i<Z S0'/\g i=r:=λ⟨i,u,q⟩=>hr i u q;simp[K,this,dif_neg,not_false_eq_true]
 let G':Gh:={I:=A.I,CP:=λr=>match K r with|some i=>A.CP i|none=>G.CP r,cap:=λr=>match K r with|some i=>A.cap i|none=>G.cap r,BG:=λr=>match K r with|some i=>A.BG i|none=>G.BG r};have gB:∀i,i<Z S0'->G'.CP (g i)=A.CP i/\G'.cap (g i)=A.cap i/\G'.BG (g i)=A.BG i:=λi hi=>by simp[G',hback i hi]
 have gN:∀r,(∀i,i<Z S0'->g i≠r)->G'.CP r=G.CP r/\G'.cap r=G.cap r/\G'.BG r=G.BG r:=λr hr=>by simp[G',hnone r hr]
 have get':∀i,i<Z S0'->∃o,S0'[i]?=am o/\S'[g i]?=am (DM g o):=λi hi=>⟨S0'[i],ej hi,M.new i _ (ej hi)⟩;have m:∀i,i<Z S0'->lenOf S' (g i)=lenOf S0' i/\C1 S' (g i)=C1 S0' i/\isMap S' (g i)=isMap S0' i:=λi hi=>by
  obtain⟨o,u,q⟩:=get' i hi;exact KC g o u q
 have E':bJ g A S0' G' S':=⟨λ_=>Iff.rfl,λi hi=>by obtain⟨o,_,q⟩:=get' i hi;exact Ag q,λi hi=>(m i hi).1,λi hi=>(m i hi).2.1,λi hi=>(m i hi).2.2,λi hi=>(gB i hi).1.symm,λi hi=>(gB i hi).2.1.symm,λi hi=>(gB i hi).2.2.symm⟩;have U:∀r x,S'[r]?=am x->(∃i,∃_:i<Z S0',g i=r/\∃o,S0'[i]?=am o/\x=DM g o)\/(r<Z S/\(∀i,i<Z S0'->g i≠r)/\S[r]?=am x):=λr x hx=>by
  by_cases C:∃i,i<Z S0'/\g i=r
  .obtain⟨i,hi,rfl⟩:=C;obtain⟨o,H,g2⟩:=get' i hi;rw[g2]at hx;cases hx;exact .inl ⟨i,hi,rfl,o,H,rfl⟩
  .have X:∀i,i<Z S0'->g i≠r:=λi hi e=>C ⟨i,hi,e⟩;have hrl:r<Z S:=by
    have u:=Ag hx;rw[M.len]at u;rcases s9 r (Z S) with q|q
    .exact q
    .exact absurd (hρ2 (Z S0+(r - Z S)) (by omega)) (by have:=X (Z S0+(r - Z S)) (by omega);intro e;apply this;rw[e];omega)
   exact .inr ⟨hrl,X,by rw[<-M.rest r hrl (λi hi e=>X i (by omega) (by rw[hρ i hi];exact e))];exact hx⟩
 have ownC:∀k,Own G' S' k->Own A S0' k\/∃r x,(∀i,i<Z S0'->g i≠r)/\S[r]?=am x/\Ba G r x=J/\k=G.CP r:=by
  rintro k ⟨r,x,u,q,h3⟩;rcases U r x u with⟨i,hi,rfl,o,H,rfl⟩|⟨hrl,X,hS⟩
  .left;exact⟨i,o,H,by rw[Dz o (G0:=A) (i:=i) (gB i hi).2.2.symm]at q;exact q,by rw[h3,(gB i hi).1]⟩
  .right;have hv:=gN r X;refine⟨r,x,X,hS,?_,by rw[h3,hv.1]⟩;cases x<;>simp[Ba]at q⊢;rw[hv.2.2]at q;exact q
 have notIm:∀r x,(∀i,i<Z S0'->g i≠r)->S[r]?=am x->Ba G r x=J->¬Own G0 S0 (G.CP r):=by
  rintro r x X hx ho ⟨i,o,u,q,h3⟩;have hi:=Ag u;obtain⟨o',H,g2⟩:=M.J1 i hi;rw[u]at H;cases H;have:=R.inj r (ρ i) _ _ hx g2 ho (by rw[Dz (ρ:=ρ) (G0:=G0) (G:=G) (i:=i) (j:=ρ i) o rfl];exact q) h3;exact X i (by omega) (by rw[hρ i hi];exact this.symm)
 have L:BA G S w G' S' w':=by
  refine⟨λk N=>L0.I k N,λk N=>L0.DB k N,by rw[M.len];omega,λr hr n' hn'=>?_,λr hr hm=>?_⟩
  .by_cases C:∃i,i<Z S0/\ρ i=r
   .obtain⟨i,hi,rfl⟩:=C;have zo:i<Z S0':=by omega
    rw[<-hρ i hi]at hn'⊢;rw[(m i zo).1]at hn';obtain⟨n0,a1,a2,a3⟩:=L0.row i hi n' hn';refine⟨n0,by rw[hρ i hi,(B i hi).1];exact a1,a2,λe=>?_⟩;obtain⟨b1,b2,b3,b4⟩:=a3 e;obtain⟨c1,c2,c3⟩:=gB i zo;rw[c1,c2,c3,(m i zo).2.1,hρ i hi,(B i hi).2.1];exact⟨b1,b2,b3,b4⟩
   .have X:∀i,i<Z S0'->g i≠r:=λi hi e=>by
     by_cases a:i<Z S0
     .exact C ⟨i,a,by rw[<-hρ i a];exact e⟩
     .rw[hρ2 i (by omega)]at e;omega
    have W:=M.rest r hr λi hi e=>C ⟨i,hi,e⟩;obtain⟨c1,c2,c3⟩:=gN r X;refine⟨n',by simpa only[lenOf,W]using hn',c9 _,λ_=>⟨c1,c2,c3,.inl (by simp[C1,W])⟩⟩
  .by_cases C:∃i,i<Z S0/\ρ i=r
   .obtain⟨i,hi,rfl⟩:=C;have zo:i<Z S0':=by omega
    rw[<-hρ i hi]at hm⊢;rw[(m i zo).2.2]at hm;obtain⟨a1,a2⟩:=L0.map i hi hm;exact⟨by rw[hρ i hi,(B i hi).2.2];exact a1,by rw[(gB i zo).1,a2,hρ i hi]⟩
   .have X:∀i,i<Z S0'->g i≠r:=λi hi e=>by
     by_cases a:i<Z S0
     .exact C ⟨i,a,by rw[<-hρ i a];exact e⟩
     .rw[hρ2 i (by omega)]at e;omega
    have W:=M.rest r hr λi hi e=>C ⟨i,hi,e⟩;exact⟨by simpa only[isMap,W]using hm,(gN r X).1⟩
 have T:Tr G S w G' S' w':=by
  refine⟨T0.size,λk N=>T0.I k N,λk N hn=>T0.DB k N λho=>hn (Y k ho),λk N=>?_,λk N=>?_,T0.os,T0.out⟩
  .rcases ownC k N with u|⟨r,x,_,q,h3,h4⟩
   .exact(T0.own k u).imp (Y k) id
   .exact .inl ⟨r,x,q,h3,h4⟩
  .rcases T0.im k N with u|u|u
   .exact .inl u
   .exact .inr (.inl (Y k u))
   .exact .inr (.inr u)
 refine⟨cv,G',_,S',⟨v,S0',hRR,rfl,hS'.symm⟩,he,hcv.sZ E',⟨R.Gl.later L,λr x hx=>?_,λr1 r2 x1 x2 u q o1 o2 Q=>?_,λk N=>?_,λk N=>R0'.JH k N,λk N=>?_⟩,T,L⟩
 .rcases U r x hx with⟨i,hi,rfl,o,H,rfl⟩|⟨hrl,X,hS⟩
  .exact(R0'.Da i o H).sZ E' hi
  .obtain⟨c1,c2,c3⟩:=gN r X;exact(R.Da r x hS).later L (λhw=>T0.DB _ (R.IJ _ ⟨r,x,hS,hw,rfl⟩) (notIm r x X hS hw)) c1 c2 c3
 .have side:∀r x,S'[r]?=am x->Ba G' r x=J->(∃i,∃_:i<Z S0',g i=r/\∃o,S0'[i]?=am o/\Ba A i o=J/\G'.CP r=A.CP i)\/((∀i,i<Z S0'->g i≠r)/\S[r]?=am x/\Ba G r x=J/\G'.CP r=G.CP r):=λr x hx ho=>by
   rcases U r x hx with⟨i,hi,rfl,o,H,rfl⟩|⟨hrl,X,hS⟩
   .exact .inl ⟨i,hi,rfl,o,H,by rw[Dz o (G0:=A) (i:=i) (gB i hi).2.2.symm]at ho;exact ho,(gB i hi).1⟩
   .have hv:=gN r X;refine .inr ⟨X,hS,?_,hv.1⟩;cases x<;>simp[Ba]at ho⊢;rw[hv.2.2]at ho;exact ho
  have clash:∀i o r x,S0'[i]?=am o->Ba A i o=J->(∀i,i<Z S0'->g i≠r)->S[r]?=am x->Ba G r x=J->A.CP i≠G.CP r:=λi o r x H g2 g3 g4 g5 Q=>by
   rcases T0.own _ ⟨i,o,H,g2,rfl⟩with h|h
   .exact notIm r x g3 g4 g5 (by rw[<-Q];exact h)
   .have:=R.IJ _ ⟨r,x,g4,g5,rfl⟩;omega
  rcases side r1 x1 u o1 with⟨i,hi,rfl,o,H,g2,g3⟩|⟨H,g2,g3,g4⟩
  .rcases side r2 x2 q o2 with⟨j,hj,rfl,o',k1,k2,k3⟩|⟨k1,k2,k3,k4⟩
   .rw[g3,k3]at Q;rw[R0'.inj i j o o' H k1 g2 k2 Q]
   .rw[g3,k4]at Q;exact absurd Q (clash i o r2 x2 H g2 k1 k2 k3)
  .rcases side r2 x2 q o2 with⟨j,hj,rfl,o',k1,k2,k3⟩|⟨k1,k2,k3,k4⟩
   .rw[g4,k3]at Q;exact absurd Q.symm (clash j o' r1 x1 k1 k2 H g2 g3)
   .rw[g4,k4]at Q;exact R.inj r1 r2 x1 x2 g2 k2 g3 k3 Q
 .rcases ownC k N with u|⟨r,x,u,q,h3,h4⟩
  .exact R0'.nI k u
  .intro hI;rcases T0.im k hI with a|a|a
   .exact R.nI k ⟨r,x,q,h3,h4⟩ a
   .exact notIm r x u q h3 (by rw[<-h4];exact a)
   .have:=R.IJ k ⟨r,x,q,h3,h4⟩;omega
 .rcases ownC k N with u|⟨r,x,u,q,h3,h4⟩
  .exact R0'.IJ k u
  .have:=R.IJ k ⟨r,x,q,h3,h4⟩;have:=T0.size;omega
theorem AG.frame{f:eN}{args:List V}{v:V}(h:AG P f args S0 v S0')(ρ:Nat->Nat)(M:VA ρ S S0 S0' S')(g:Z S0<=Z S0')(hb:∀x∈args,AJ (Z S0) x=J):
  AG P f (args.map (BW ρ)) S (BW (FN ρ (Z S0) (Z S)) v) S':=
 BH.aA ((h.oM.frame ρ (λ_=>S') M (λ_ _ e=>e.2▸⟨M,g⟩) hb).mono λ_ _ ⟨_,_,⟨i,_⟩,j,k⟩=>⟨i▸j,k⟩)
end
abbrev ke:=@List.mem_cons
abbrev va:=@not_or
abbrev abm:=@List.getElem?_set_self
abbrev acy:=@List.nodup_cons
abbrev abQ:=@List.pairwise_iff_getElem
abbrev io:=@List.getElem?_append_left
abbrev z9:=@List.getElem?_append_right
section
variable {P:cP} {n b:Nat} {o:Oper} {tm tm':Tm} {S S0 S0' S':Sg} {v:V} {ops:Array Oper} {K:Tm->Sg->Prop}
def HZ(S:Sg):List Nat->List O->Sg
 |r::rs,o::os=>(HZ S rs os).set r o
 |_,_=>S
theorem D1(S:Sg):∀(rs:List Nat) (os:List O),Z (HZ S rs os)=Z S
 |[],_=>rfl
 |_::_,[]=>rfl
 |r::rs,o::os=>by simp[HZ,D1 S rs os]
theorem MA(S:Sg){r:Nat}:∀(rs:List Nat) (os:List O),r∉rs->(HZ S rs os)[r]?=S[r]?
 |[],_,_=>rfl
 |_::_,[],_=>rfl
 |q::rs,o::os,h=>by
  simp at h;simp[HZ];rw[pv (n7 h.1),MA S rs os h.2]
theorem RS(S:Sg):∀(rs:List Nat) (os:List O) (i:Nat) (h:i<Z rs) (k:i<Z os),rs.Nodup->(∀r∈rs,r<Z S)->(HZ S rs os)[rs[i]]?=am os[i]
 |q::rs,o::os,0,_,_,_,j=>by
  simp[HZ];rw[abm (by rw[D1];exact j q (by simp))]
 |q::rs,o::os,i+1,h,k,g,j=>by
  simp[HZ];have m:q∉rs:=(acy.1 g).1;have hi:i<Z rs:=by simpa using h
  have u:q≠rs[i]:=λe=>m (e▸cL hi);rw[pv u];exact RS S rs os i hi (by simpa using k) (acy.1 g).2 λr w=>j r (by simp[w])
theorem KZ{rs:List Nat}(h:rs.Nodup){i j:Nat}(hi:i<Z rs)(hj:j<Z rs)(e:rs[i]=rs[j]):i=j:=by
 have k:=abQ.1 h;rcases Nat.lt_trichotomy i j with g|g|g
 .exact absurd e (k i j hi hj g)
 .exact g
 .exact absurd e.symm (k j i hj hi g)
def nameOf(rs:List Nat):Nat->Nat:=λi=>rs.getD i 0
def Dk(S S0':Sg)(rs:List Nat):Sg:=
 HZ S rs ((S0'.take (Z rs)).map (DM (FN (nameOf rs) (Z rs) (Z S))))++(S0'.drop (Z rs)).map (DM (FN (nameOf rs) (Z rs) (Z S)))
def FC(S S0:Sg)(rs:List Nat):Prop:=rs.Nodup/\rs.map (λr=>S[r]?)=S0.map (λo=>am (DM (nameOf rs) o))/\S0.all (Ao (Z rs))=J
theorem BH.Ef{f:eN}{args:List V}{C:V->Sg->Prop}(h:BH P f args S0 C)(rs:List Nat)(N:FC S S0 rs)(m:∀v S0',C v S0'->Z rs<=Z S0')(hb:args.all (AJ (Z rs))=J):
  BH P f (args.map (BW (nameOf rs))) S (λQ S'=>∃v S0',C v S0'/\Q=BW (FN (nameOf rs) (Z rs) (Z S)) v/\S'=Dk S S0' rs):=by
 obtain⟨w,k,E⟩:=N;have g:Z rs=Z S0:=by have:=l5 Z k;simpa using this
 have H:∀i (h:i<Z rs) (h':i<Z S0),S[rs[i]]?=am (DM (nameOf rs) S0[i]):=λi R U=>by
  have:=l5 (·[i]?) k;simpa[R,U]using this
 have A:∀i (h:i<Z rs),nameOf rs i=rs[i]:=λi h=>by simp[nameOf,List.getD,h]
 have L:∀r∈rs,r<Z S:=λr q=>by
  obtain⟨i,hi,rfl⟩:=lm.1 q;exact Ag (H i hi (by omega))
 have M:∀S0':Sg,Z rs<=Z S0'->VA (nameOf rs) S S0 S0' (Dk S S0' rs):=λS0' m=>by
  refine⟨λi j hi hj e=>?_,λi hi=>⟨S0[i],ej hi,?_⟩,λi o u=>?_,λi o u=>?_,λr q W=>?_,?_⟩
  .rw[A i (by omega),A j (by omega)]at e;exact KZ w (by omega) (by omega) e
  .rw[A i (by omega)];exact H i (by omega) hi
  .rw[<-g];exact ed.1 E o (oj u)
  .rw[<-g];have hi:=Ag u;have F:S0'[i]=o:=by rw[ej hi]at u;simpa using u
   unfold Dk;by_cases B:i<Z rs
   .have G:FN (nameOf rs) (Z rs) (Z S) i=rs[i]:=by simp[FN,B,A i B]
    rw[G,io (by rw[D1];exact L _ (cL B))];rw[RS S rs _ i B (by simp;omega) w L];simp[F]
   .have G:FN (nameOf rs) (Z rs) (Z S) i=Z S+(i - Z rs):=by simp[FN,B]
    rw[G,z9 (by rw[D1];omega),D1];have:Z S+(i - Z rs) - Z S=i - Z rs:=by omega
    rw[this];simp only[abL,List.getElem?_drop];have:Z rs+(i - Z rs)=i:=by omega
    rw[this,u];rfl
  .unfold Dk;rw[io (by rw[D1];exact q)];refine MA S rs _ λX=>?_;obtain⟨i,hi,rfl⟩:=lm.1 X;exact W i (by omega) (A i hi)
  .unfold Dk;rw[jp,D1,y3,List.length_drop,g]
 have:=h.frame (nameOf rs) (λT=>Dk S T rs) (M S0 (by omega)) (λv S0' q=>⟨M S0' (m v S0' q),by rw[<-g];exact m v S0' q⟩) (λx Y=>by rw[<-g];exact ed.1 hb x Y);rwa [<-g]at this
theorem AG.Ef{f:eN}{args:List V}(h:AG P f args S0 v S0')(rs:List Nat)(i:FC S S0 rs)(g:Z rs<=Z S0')(hb:args.all (AJ (Z rs))=J):
  AG P f (args.map (BW (nameOf rs))) S (BW (FN (nameOf rs) (Z rs) (Z S)) v) (Dk S S0' rs):=
 BH.aA ((h.oM.Ef rs i (λ_ _ e=>e.2▸g) hb).mono λ_ _ ⟨_,_,⟨j,e0⟩,k,m⟩=>⟨j▸k,e0▸m⟩)
def Cr(tm:Tm)(c:Call)(f:eN)(g:List V)(rs:List Nat):Prop:=
 match callee tm c with
 |some (h,args)=>h=f/\args=g.map (BW (nameOf rs))
 |none=>False
theorem AS.E0{rest:List Oper}{c:Call}{f:eN}{g:List V}(h:AG P f g S0 v S0')(rs:List Nat)(j:o.op=.call c)
  (k:o.guard=none/\A6 n o.dst/\BB tm c/\Cr tm c f g rs/\FC S S0 rs/\Z rs<=Z S0'/\g.all (AJ (Z rs))=J)
  (m:AS P n b ops rest (put tm o.dst (BW (FN (nameOf rs) (Z rs) (Z S)) v)) (Dk S S0' rs) K):AS P n b ops (o::rest) tm S K:=by
 obtain⟨q,u,w,i,A,B,C⟩:=k;unfold Cr at i;split at i
 .rename_i F args E;obtain⟨rfl,rfl⟩:=i;exact i9 j q u E w (h.Ef rs A B C) m
 .exact i.elim
end
attribute [simp] Cr FC nameOf BW CN DM FN Dk HZ
mutual
def Ij:V->Prop
 |.d d=>DY d
 |.full h=>DY (.sl h)
 |.agg g=>Gk g
 |.CX g=>Gk g
 |_=>True
def Gk:List V->Prop
 |[]=>True
 |x::g=>Ij x/\Gk g
end
theorem H0:∀{g:List V},(∀i (h:i<Z g),Ij g[i])->Gk g
 |[],_=>trivial
 |x::g,h=>⟨h 0 (by simp),H0 λi hi=>h (i+1) (by simpa using hi)⟩
theorem dH(xs:List D):Gk (xs.map .d)↔Bm xs:=by
 induction xs with
 |nil=>simp[Gk,Bm]
 |cons x xs g=>simp[Gk,Bm,Ij,g]
theorem CV.wf{G:Gh}{S:Sg}{w:World}{x:V}{v:Value}(h:CV G S w x v):Ij x:=by
 induction h with
 |d d v h=>exact h.wf
 |full m a h=>exact h.wf
 |agg i j k h o g=>exact H0 g
 |CX i j k h g=>exact H0 g
 |_=>trivial
def vY:O->Prop
 |.row _ _ g=>Z g<=maxLen/\Gk g
 |.BT i=>DY (.sl i)
 |.map h=>Bm (h.map (·.1))/\Gk (h.map (·.2))
 |.dead=>True
def LZ:List O->Prop
 |[]=>True
 |o::os=>vY o/\LZ os
theorem YL:∀{g:List O},(∀i (h:i<Z g),vY g[i])->LZ g
 |[],_=>trivial
 |x::g,h=>⟨h 0 (by simp),YL λi hi=>h (i+1) (by simpa using hi)⟩
section
variable {P:cP} {n b:Nat} {tm tm':Tm} {S S':Sg} {v:V} {Q:Exit->Tm->Sg->Prop}
theorem Rel.x5{G:Gh}{w:World}(R:Rel P G S w):LZ S:=YL λr m=>by
 have g:=R.Da r _ (ej m);generalize S[r]=o at g;cases o with
 |row U sz q=>
  simp only[OK]at g;split at g
  .obtain⟨c,T,A,B,h,C,E⟩:=g;refine⟨C,H0 λi hi=>?_⟩;obtain⟨u,F,_⟩:=E i hi;exact F.wf
  .obtain⟨_,H,K,rfl,L⟩:=g;refine⟨H,?_⟩;rw[dH];have:=L.wf;simp[DY]at this;exact this.2
 |BT K=>exact CD.wf g
 |map W=>
  simp[OK]at g;obtain⟨k,j,A,B,_,h⟩:=g;refine⟨Mh λi hi=>?_,H0 λi hi=>?_⟩
  .obtain⟨e,_,M,_⟩:=h i (by simpa using hi);simpa using M.wf
  .obtain⟨e,_,_,N,_⟩:=h i (by simpa using hi);simpa using N.wf
 |dead=>trivial
def Aq(S:Sg)(x v:V):Prop:=x=v\/∃d,BO S x=am d/\v=.d d
def qT(P:cP)(n b:Nat)(rs:List ResultVar)(v:V)(S':Sg):Exit->Tm->Sg->Prop
 |.normal,tm,S|.ret,tm,S=>∃g,AI P n b tm S g S'/\Ix P g S' rs/\Aq S' (Kg P g S' rs) v
 |_,_,_=>False
theorem AG.Aw{f:eN}{fn:Func}{c:Code}{args:List V}(H:P.funcs[f]?=am fn)(o:(fn.name== "runtime.NumGoroutine")=false)(hb:fn.body=am c)(K:Z args<=fn.ntmps)
  (h:Gk args->LZ S->AW P fn.ntmps (Z S) c (qT P fn.ntmps (Z S) fn.results.toList v S') (ER args) S):AG P f args S v S':=by
 refine AG.intro H o hb K (AW.assume (p:=Gk args/\LZ S) (λG w a st=>⟨H0 λi hi=>?_,st.rel.x5⟩) λC=>(h C.1 C.2).mono λL tm E q=>?_)
 .have:=st.tm i;have e:ER args i=args[i]:=by simp[ER,List.getD,hi]
  rw[e]at this;exact this.wf
 .have key:(∃j,AI P fn.ntmps (Z S) tm E j S'/\Ix P j S' fn.results.toList/\Aq S' (Kg P j S' fn.results.toList) v)->∃j m,AI P fn.ntmps (Z S) tm E j m/\Ix P j m fn.results.toList/\∀G w a,St P fn.ntmps G m w a j->Z S<=Z m->∃B F k,(∀cv,CV G m w (Kg P j m fn.results.toList) cv->CV B k w F cv)/\Rel P B k w/\Tr G m w B k w/\EL (Z S) G m B k/\F=v/\k=S':=by
   rintro⟨j,g,M,u⟩;refine⟨j,S',g,M,λG w a st N=>⟨G,v,S',λcv A=>?_,st.rel,tv _ _ _,aev N,rfl,rfl⟩⟩;rcases u with u|⟨d,u,R⟩
   .rw[<-u];exact A
   .rw[R];exact .og (A.BO st.rel u)
  cases L with
  |normal=>exact key q
  |ret=>exact key q
  |exit=>exact q.elim
  |goto=>exact q.elim
  |panic=>exact q.elim
  |outgrown=>exact q.elim
abbrev oF:=@AG.Aw
end
attribute [simp] TR nR
mutual
theorem Iz(ρ:Nat->Nat):∀(x:V),AJ 0 x=J->BW ρ x=x
 |.row r n,h=>by simp[AJ]at h
 |.ptr r n i j,h=>by simp[AJ]at h
 |.map r,h=>by simp[AJ]at h
 |.fn f as m,h=>by
  simp only[AJ,cF]at h;simp only[BW];rw[GY ρ as h.1,GY ρ m h.2]
 |.agg k,h=>by simp only[AJ]at h;simp only[BW];rw[GY ρ k h]
 |.CX k,h=>by simp only[AJ]at h;simp only[BW];rw[GY ρ k h]
 |.opt g v,h=>by simp only[AJ]at h;simp only[BW];rw[Iz ρ v h]
 |.any,_=>by simp[BW]
 |.d _,_=>by simp[BW]
 |.full _,_=>by simp[BW]
 |.DW _,_=>by simp[BW]
theorem GY(ρ:Nat->Nat):∀(g:List V),Au 0 g=J->CN ρ g=g
 |[],_=>by simp[CN]
 |x::g,h=>by
  simp only[Au,cF]at h;simp only[CN];rw[Iz ρ x h.1,GY ρ g h.2]
end
abbrev ac0:=@List.nodup_nil
section
variable {P:cP} {n b:Nat} {o:Oper} {tm tm':Tm} {S S':Sg} {v:V} {ops:Array Oper} {K:Tm->Sg->Prop}
theorem AG.Ry{f:eN}{args:List V}(h:AG P f args [] v [])(i:AJ 0 v=J)(hb:args.all (AJ 0)=J):AG P f args S v S:=by
 have g:=h.Ef (S:=S) [] ⟨ac0,rfl,rfl⟩ (by simp) hb;have j:args.map (BW (nameOf []))=args:=by
  have:∀x∈args,BW (nameOf []) x=x:=λx k=>Iz _ x (ed.1 hb x k);conv=>rhs;rw[<-List.map_id args]
  exact AC this
 have m:Dk S [] []=S:=by simp[Dk,HZ]
 rw[j,m,Iz _ v i]at g;exact g
def FP(tm:Tm)(c:Call)(f:eN)(args:List V):Prop:=
 match callee tm c with
 |some (h,g)=>h=f/\g=args
 |none=>False
theorem FW{c:Call}{f:eN}{args:List V}(h:FP tm c f args):callee tm c=am (f,args):=by
 unfold FP at h;split at h
 .rename_i j g i;obtain⟨rfl,rfl⟩:=h;exact i
 .exact h.elim
theorem AS.Tb{rest:List Oper}{c:Call}{f:eN}{args:List V}(h:AG P f args [] v [])(g:o.op=.call c)
  (i:o.guard=none/\A6 n o.dst/\BB tm c/\FP tm c f args/\args.all (AJ 0)=J/\AJ 0 v=J) (j:AS P n b ops rest (put tm o.dst v) S K):AS P n b ops (o::rest) tm S K:=by
 obtain⟨k,m,q,u,w,A⟩:=i;exact i9 g k m (FW u) q (h.Ry A w) j
theorem AS.Vb{rest:List Oper}{c:Call}{f:eN}{args:List V}{j:Nat}{i g:Bool}(k:o.op=.call c)(m:o.guard=am (j,i))(q:CW ops tm j i=am g)
  (h:g=J->AG P f args [] v []) (u:A6 n o.dst/\(g=J->BB tm c/\FP tm c f args/\args.all (AJ 0)=J/\AJ 0 v=J))
  (w:AS P n b ops rest (put tm o.dst (Ha g v)) S K):AS P n b ops (o::rest) tm S K:=by
 obtain⟨A,B⟩:=u;exact AS.Mb k m A q (λe=>by obtain⟨C,E,F,G⟩:=B e;exact⟨FW E,C,(h e).Ry G F⟩) w
theorem Ab.Tb{B:List (Nat×(Sg->Prop))}{i:Nat}{rest:List (Nat×Bool×Oper)}{c:Call}{f:eN}{args:List V}(h:AG P f args [] v [])(g:o.op=.call c)
  (j:o.guard=none/\A6 n o.dst/\BB tm c/\FP tm c f args/\args.all (AJ 0)=J/\AJ 0 v=J) (k:Ab P n b ops ((i,λS'=>S'=S)::B) rest (put tm o.dst v) S K):Ab P n b ops B ((i,J,o)::rest) tm S K:=by
 obtain⟨m,q,u,w,A,C⟩:=j;exact q7 (λS'=>S'=S) rfl (λhi S' hS=>by subst hS;exact E2 hi g m q (FW w) u (h.Ry C A)) k
theorem AI.BG(t sz:Nat){xs:List D}(m:tm t=.full xs):AI P n b tm S (Fk tm t (.row (Z S) (Z xs))) (S++[.row false sz (xs.map .d)]):=λG w a st hb=>by
 have g:=st.tm t;rw[m]at g;generalize q:a.tmps.getD t undef=X at g;cases g with
 |full _ base i=>
  obtain⟨r1,r2,j⟩:=st.rel.OV sz xs base i.len i;refine⟨_,⟨st.size,λk=>?_,r1⟩,r2,j.late hb⟩;unfold Fk;by_cases e:k=t
  .subst e;rw[ca rfl,q];refine .row _ _ _ rfl (by simp) λu h=>?_;have:u=Z xs:=by simpa[lenOf]using h.symm
   subst this;exact⟨c9 _,λ_=>by simp[Gh.BU,Gh.at]⟩
  .rw[bv e];exact(st.tm k).later j
abbrev oa:=@AI.BG
end
attribute [simp] FP
section
variable {P:cP} {n b:Nat} {o:Oper} {tm tm':Tm} {S S':Sg} {v:V} {ops:Array Oper} {K:Tm->Sg->Prop}
def Ll:Nat->List (Nat×V)->Prop
 |_,[]=>True
 |k,p::g=>p.1=k/\Ll (k+1) g
theorem Nu:∀{g:List (Nat×V)} {k:Nat},Ll k g->∀i (h:i<Z g),g[i].1=k+i
 |p::g,k,h,0,_=>h.1
 |p::g,k,h,i+1,hi=>by
  have:=Nu h.2 i (by simpa using hi);simp;omega
theorem Uj{T E:TypeId}{len:Nat}{parts:Array (Nat×Operand)}{t e:TI}{z:Value}(X:o.op=.buildSlice T len parts)(Y:ti P T=am t)(C:t.kind=.slice E)
  (W:ti P E=am e) (hz:e.zero=am z) (hn:∀p∈parts.toList,need (ev tm p.2)) (g:parts.size=len)
  (hp:Ll 0 (Cl tm parts)) (hs:F2 e.size (Cl tm parts))
  (hm:len * e.size<=2 ^ 24) (F:len<=maxLen):CR P n o tm S (.row (Z S) len) (S++[.row J e.size ((Cl tm parts).map (·.2))]):=.val λG w a st=>by
 obtain⟨d,hd,H⟩:=An Y w;have M:d=.slice E:=by rw[C]at H;cases d<;>simp[tk]at H⊢;exact H
 subst M;have m:∀i (h:i<parts.size),CV G S w (strip (ev tm parts[i].2)) (a.eval parts[i].2):=λi hi=>(BS st _).strip (hn _ (by simp));have N:∀i (h:i<parts.size),(a.eval parts[i].2).cells.size=e.size/\∀x∈(a.eval parts[i].2).cells,one x=true:=λi hi=>by
  have:=Jk _ hs i (by simpa[Cl]using hi);simp only[Cl,m6,QQ]at this;obtain⟨c1,c2,_⟩:=(m i hi).cells (by simpa using this.2);refine⟨by omega,λx hx=>?_⟩;obtain⟨k,C,rfl⟩:=abD.1 hx;exact c2 k C
 let A:Array Value:=if len * e.size=0 then #[]else z.cells;let base:Array Value:=(Array.range (len * e.size)).map (A[·% A.size]!);obtain⟨u',B,e2,e3,_⟩:=RO (size:=e.size) (len:=len) (parts.toList.map λp=>(p.1,a.eval p.2)) 0 base (by simp[base]) (by simp[g]) (λi hi=>by
  have q:i<parts.size:=by simpa using hi
  simp only[m6,QQ];have:=Nu hp i (by simpa[Cl]using q);simp only[Cl,m6,QQ]at this;exact⟨this,(N i q).1⟩)
 obtain⟨r1,r2,r3⟩:=st.rel.add len (.row J e.size ((Cl tm parts).map (·.2))) (.cells u' E (0,0)) (λL=>by
  have hv:(G.at (Z S) w.heap.size len none).BG (Z S)=none:=by simp[Gh.at]
  have Q:(G.at (Z S) w.heap.size len none).CP (Z S)=w.heap.size:=by simp[Gh.at]
  have R:(G.at (Z S) w.heap.size len none).cap (Z S)=(len,0):=by simp[Gh.at]
  simp only[OK,hv,Q,R];refine⟨_,E,EV,by rw[e2];simp[base],by simp[Cl,g],by simp[Cl,g];exact F,λi hi=>?_⟩;have q:i<parts.size:=by simpa[Cl]using hi
  refine⟨a.eval parts[i].2,by simpa[Cl]using(m i q).later L,(N i q).1,(N i q).2,λj hj=>?_⟩;have:=e3 i (by simpa using q) j hj;simpa using this)
 refine⟨.slice (am ⟨w.heap.size,0,none⟩) len len,_,_,?_,?_,r1,r2,r3⟩
 .simp only[execOp,X,Instr.buildSlice,ls,hd,kv,Bg W];rw[bv (by omega)];simp only[base]at B;by_cases h0:len * e.size=0
  .have u:A=#[]:=by simp[A,h0]
   rw[u]at B;simp only[ca h0,ls,pc,kv,acE,B];simp[newRow,Bl]
  .have u:A=z.cells:=by simp[A,h0]
   rw[u]at B;simp only[bv h0,ls,EG W w hz,pc,kv,acE,B];simp[newRow,Bl]
 .refine .row _ _ _ rfl (by simp) λm' U=>?_;have:m'=len:=by simpa[lenOf,Cl,g]using U.symm
  subst this;exact⟨c9 _,λ_=>by simp[Gh.BU,Gh.at]⟩
theorem AS.ZG{rest:List Oper}(g:o.guard=none/\A6 n o.dst)(h:CR P n o tm S v S')(i:AS P n b ops rest (put tm o.dst v) S' K):AS P n b ops (o::rest) tm S K:=
 EQ (λ_ hi=>Do hi g.2 g.1 h) i
def Na(P:cP)(T:TypeId)(len:Nat)(parts:Array (Nat×Operand))(tm:Tm):Prop:=
 I2 tm parts.toList/\parts.size=len/\Ll 0 (Cl tm parts)/\len<=maxLen/\(match Al P T with|some E=>(match Am P E with|some s=>(As P E).isSome=J/\F2 s (Cl tm parts)/\len * s<=2 ^ 24|none=>False)|none=>False)
theorem ML{T:TypeId}{len:Nat}{parts:Array (Nat×Operand)}(m:o.op=.buildSlice T len parts)(h:Na P T len parts tm):
  CR P n o tm S (.row (Z S) len) (S++[.row J (Kv P T) ((Cl tm parts).map (·.2))]):=by
 obtain⟨q,w,A,B,g⟩:=h;split at g
 .rename_i E i;split at g
  .rename_i s j;obtain⟨g,C,F⟩:=g;obtain⟨t,G,H⟩:=A4 i;obtain⟨e,f1,f2,_⟩:=CO j;obtain⟨z,L⟩:=md.1 g;obtain⟨N,u,k,M,Q⟩:=Ey L;rw[f1]at k;cases k;simp only[Kv,i,adt,j,up];subst f2;exact Uj m G H f1 M (I5 q) w A C F B
  .exact g.elim
 .exact g.elim
theorem AS.J7{rest:List Oper}{T:TypeId}{len:Nat}{parts:Array (Nat×Operand)}(h:o.op=.buildSlice T len parts)(g:o.guard=none/\A6 n o.dst/\Na P T len parts tm)
  (i:AS P n b ops rest (put tm o.dst (.row (Z S) len)) (S++[.row J (Kv P T) ((Cl tm parts).map (·.2))]) K):AS P n b ops (o::rest) tm S K:=
 AS.ZG ⟨g.1,g.2.1⟩ (ML h g.2.2) i
end
attribute [simp] Na Ll
abbrev gq:=@List.getElem?_eq_some_iff
abbrev adp:=@List.getElem_set_self
section
variable {P:cP} {n b:Nat} {o:Oper} {tm tm':Tm} {S S':Sg} {v:V} {ops:Array Oper} {K:Tm->Sg->Prop} {Q:Exit->Tm->Sg->Prop}
theorem AS.QC{rest:List Oper}{c:Call}{f:eN}{args:List V}{R:V->Sg->Prop}(C:o.op=.call c)(E:o.guard=none)(F:A6 n o.dst)(H:callee tm c=am (f,args))(L:BB tm c)
  (h:BH P f args S R) (M:∀v S',R v S'->AS P n b ops rest (put tm o.dst v) S' K):AS P n b ops (o::rest) tm S K:=λk B G w a Q st hb N=>by
 have h0:ops[k]?=am o:=by simpa using(B 0).symm
 simp only[gr,aci];rw[acU];unfold wpOp;simp only[h0,Region.wanted,E,ip];left;have key:∀(next:Act->World->Prop),(∀cv g i v S',R v S'->CV i S' g v cv->Rel P i S' g->Tr G S w i S' g->BA G S w i S' g->next (a.put o.dst cv) g)->o.wp P a w next Q:=λnext m=>O5 C H L h st m
 refine key _ λcv g i v S' T U W X u=>?_;refine M v S' T (k+1) (λj=>by have:=B (j+1);simp only[ri]at this;rw[this];congr 1;omega) i g _ Q (st.put F U W u) (u.late hb).len λY w2 hh=>?_;obtain⟨G2,S2,A,q,hK⟩:=hh;exact N Y w2 ⟨G2,S2,A,⟨q.st,q.ds.trans Cy,X.trans q.tr,(u.late hb).trans q.late⟩,hK⟩
theorem AI.dM(t i sz:Nat){g:List V}{xs:List D}(H:tm t=.agg g)(hi:g[i]?=am (.full xs)):AI P n b tm S (Fk tm t (.agg (g.set i (.row (Z S) (Z xs))))) (S++[.row false sz (xs.map .d)]):=λG w a st hb=>by
 have m:=st.tm t;rw[H]at m;generalize L:a.tmps.getD t undef=X at m;cases m with
 |agg _ M N h R=>
  obtain⟨q,u⟩:=gq.1 hi;have A:=h i q;rw[u]at A;generalize T:M[i]'(by omega)=Y at A;cases A with
  |full _ base E=>
   obtain⟨r1,r2,B⟩:=st.rel.OV sz xs base E.len E;refine⟨_,⟨st.size,λk=>?_,r1⟩,r2,B.late hb⟩;unfold Fk;by_cases e:k=t
   .subst e;rw[ca rfl,L];refine .agg _ _ (by simp[N]) (λj hj=>?_) R;by_cases F:j=i
    .subst F;simp only[adp,T];refine .row _ _ _ rfl (by simp) λU C=>?_;have:U=Z xs:=by simpa[lenOf]using C.symm
     subst this;exact⟨c9 _,λ_=>by simp[Gh.BU,Gh.at]⟩
    .rw[acA (λh=>F h.symm)];exact(h j (by simpa using hj)).later B
   .rw[bv e];exact(st.tm k).later B
def RN(S:Sg)(x y:V):Prop:=y=x\/y=.any\/∃d,BO S x=am d/\y=.d d
def XM(S:Sg):List V->List V->Prop
 |[],[]=>True
 |x::g,y::h=>RN S x y/\XM S g h
 |_,_=>False
def YF(S:Sg)(x y:V):Prop:=RN S x y\/∃g h,x=.agg g/\y=.agg h/\XM S g h
def YB(S:Sg):List V->List V->Prop
 |[],[]=>True
 |x::g,y::h=>YF S x y/\YB S g h
 |_,_=>False
theorem O4{G:Gh}{w:World}(R:Rel P G S w){x y:V}{v:Value}(h:RN S x y)(g:CV G S w x v):CV G S w y v:=by
 rcases h with rfl|rfl|⟨d,h,rfl⟩
 .exact g
 .exact .any _
 .exact .og (g.BO R h)
theorem Zi{xs g:List V}(h:XM S xs g):Z g=Z xs/\∀i (hi:i<Z xs) (j:i<Z g),RN S xs[i] g[i]:=by
 induction xs generalizing g with
 |nil=>cases g with
  |nil=>exact⟨rfl,λi hi=>by simp at hi⟩
  |cons=>exact h.elim
 |cons x xs k=>cases g with
  |nil=>exact h.elim
  |cons y g=>
   obtain⟨m,q⟩:=h;obtain⟨u,w⟩:=k q;refine⟨by simp[u],λi hi j=>?_⟩;cases i with
   |zero=>exact m
   |succ i=>exact w i (by simpa using hi) (by simpa using j)
theorem jU{G:Gh}{w:World}(R:Rel P G S w){x y:V}{v:Value}(h:YF S x y)(g:CV G S w x v):CV G S w y v:=by
 rcases h with h|⟨q,u,rfl,rfl,h⟩
 .exact O4 R h g
 .cases g with
  |agg _ A B j k=>
   obtain⟨C,m⟩:=Zi h;exact .agg _ _ (by omega) (λi hi=>O4 R (m i (by omega) hi) (j i (by omega))) k
theorem Yr{xs g:List V}(h:YB S xs g):Z g=Z xs/\∀i (hi:i<Z xs) (j:i<Z g),YF S xs[i] g[i]:=by
 induction xs generalizing g with
 |nil=>cases g with
  |nil=>exact⟨rfl,λi hi=>by simp at hi⟩
  |cons=>exact h.elim
 |cons x xs k=>cases g with
  |nil=>exact h.elim
  |cons y g=>
   obtain⟨m,q⟩:=h;obtain⟨u,w⟩:=k q;refine⟨by simp[u],λi hi j=>?_⟩;cases i with
   |zero=>exact m
   |succ i=>exact w i (by simpa using hi) (by simpa using j)
theorem AI.SQ(r:Nat){sz:Nat}{els:List V}(els':List V)(A:S[r]?=am (.row J sz els))(hw:YB S els els'):AI P n b tm S tm (S.set r (.row J sz els')):=λG w a st hb=>by
 have R:=st.rel;have W:=Ag A;obtain⟨hl,B⟩:=Yr hw;have C:(S.set r (.row J sz els'))[r]?=am (.row J sz els'):=by simp[W]
 have E:∀g,g≠r->(S.set r (.row J sz els'))[g]?=S[g]?:=λg h=>by simp[pv (n7 h)]
 have el:∀g,lenOf (S.set r (.row J sz els')) g=lenOf S g:=λg=>by
  by_cases e:g=r
  .subst e;simp[lenOf,C,A,hl]
  .simp only[lenOf,E g e]
 have es:∀g,C1 (S.set r (.row J sz els')) g=C1 S g:=λg=>by
  by_cases e:g=r
  .subst e;simp[C1,C,A]
  .simp only[C1,E g e]
 have em:∀g,isMap (S.set r (.row J sz els')) g=isMap S g:=λg=>by
  by_cases e:g=r
  .subst e;simp[isMap,C,A]
  .simp only[isMap,E g e]
 have L:BA G S w G (S.set r (.row J sz els')) w:=
  ⟨λ_ h=>h,λ_ _=>rfl,by simp,λg _ n' X=>⟨n',by rw[<-el];exact X,c9 _,λ_=>⟨rfl,rfl,rfl,.inl (es g)⟩⟩,λg _ hm=>⟨by rw[<-em];exact hm,rfl⟩⟩
 have own:∀g x,(S.set r (.row J sz els'))[g]?=am x->∃N,S[g]?=am N/\Ba G g N=Ba G g x:=λg x U=>by
  by_cases e:g=r
  .subst e;rw[C]at U;cases U;exact⟨_,A,rfl⟩
  .rw[E g e]at U;exact⟨x,U,rfl⟩
 have j:∀k,Own G (S.set r (.row J sz els')) k->Own G S k:=by
  rintro k ⟨g,x,Y,h2,h3⟩;obtain⟨N,F,H⟩:=own g x Y;exact⟨g,N,F,by rw[H];exact h2,h3⟩
 refine⟨G,⟨st.size,st.tm.later L,⟨R.Gl.later L,λg x m=>?_,λr1 r2 x1 x2 Y h2 o1 o2 he=>?_,λk u=>R.nI k (j k u),R.JH,λk u=>R.IJ k (j k u)⟩⟩,⟨c9 _,λ_ h=>h,λ_ _ _=>rfl,λk u=>.inl (j k u),λk u=>.inl u,rfl,rfl⟩,L.late hb⟩
 .by_cases e:g=r
  .subst e;rw[C]at m;cases m;have M:=R.Da g _ A;simp only[OK]at M⊢;cases hv:G.BG g with
   |none=>
    simp only[hv]at M⊢;obtain⟨c,T,F,H,g3,g4,g5⟩:=M;refine⟨c,T,F,H,by omega,by omega,λi hi=>?_⟩;obtain⟨v,k1,k2,k3,k4⟩:=g5 i (by omega);exact⟨v,(jU R (B i (by omega) hi) k1).later L,k2,k3,k4⟩
   |some q=>simp only[hv]at M;exact absurd M.1 (by simp)
  .rw[E g e]at m;exact(R.Da g x m).later L (λ_=>rfl) rfl rfl rfl
 .obtain⟨y1,F,p1⟩:=own r1 x1 Y;obtain⟨y2,H,p2⟩:=own r2 x2 h2;exact R.inj r1 r2 y1 y2 F H (by rw[p1];exact o1) (by rw[p2];exact o2) he
end
attribute [simp] RN XM YF YB
end Go.Koi
