/-
  Part 6 of the proof that the law ChangeFoldInline returns true for every input.
-/
import Derived.Test.YtgdfmldabcofeaaGreatDoorK03
import Derived.Still
set_option maxHeartbeats 64000000
set_option maxRecDepth 100000
namespace Go.Koi
open Go renaming Oper->cL,FuncId->cP,Program->b8
abbrev acm:=@List.mem_append_left
abbrev acJ:=@List.mem_of_mem_drop
abbrev gr:=@and_self
abbrev zO:=@beq_iff_eq
abbrev ms:=@List.mem_filter
abbrev adX:=@ready_mono
abbrev WP:=@List.mem_cons_of_mem
abbrev acX:=@List.filter_eq_nil_iff
section
variable {P:Program} {n b:Nat} {o:cL} {tm tm':Tm} {S S':Sg} {v:V} {ops:Array cL} {K:Tm->Sg->Prop}
theorem Ig(h:∀t∈o.looksAt ops,tm' t=tm t):∀x∈o.op.operands,ev tm' x=ev tm x:=λx g=>by
 cases x with
 |tmp t=>
  refine h t ?_;unfold Oper.looksAt;exact acm _ (List.mem_filterMap.2 ⟨.tmp t,by simpa using g,rfl⟩)
 |_=>rfl
theorem Ix{g:List (Nat×Operand)}(h:∀p∈g,ev tm' p.2=ev tm p.2):JD tm' g=JD tm g:=by
 induction g with
 |nil=>rfl
 |cons p g i=>simp only[JD,h p (by simp),i λq j=>h q (by simp[j])]
theorem Ud{xs:List Operand}(h:∀x∈xs,ev tm' x=ev tm x):QA tm' xs=QA tm xs:=by
 induction xs with
 |nil=>rfl
 |cons p j g=>simp only[QA,h p (by simp),g λq i=>h q (by simp[i])]
theorem Qr{xs:List Operand}(h:∀x∈xs,ev tm' x=ev tm x):xs.map (ev tm')=xs.map (ev tm):=rr h
theorem LC{xs:List Operand}(h:∀x∈xs,ev tm' x=ev tm x):ev tm' (xs.headD (.const undef))=ev tm (xs.headD (.const undef)):=by
 cases xs with
 |nil=>rfl
 |cons x xs=>exact h x (by simp)
theorem K8{op:Op}(h:∀x∈op.operands,ev tm' x=ev tm x):Bd P op tm' S=Bd P op tm S/\Bh P op tm' S=Bh P op tm S/\DC P op tm' S=DC P op tm S:=by
 cases op;case call c=>
  have ha:∀x∈c.args.toList,ev tm' x=ev tm x:=λx g=>h x (by simp[Op.operands,Call.operands];exact .inr (by simpa using g));have h0:ev tm' (ES c)=ev tm (ES c):=LC ha;have h1:ev tm' (Fg c)=ev tm (Fg c):=LC λx g=>ha x (acJ g);have C:ev tm' (Pn c)=ev tm (Pn c):=LC λx g=>ha x (acJ g);simp only[Bd,Bh,DC,GA,F0,Hi,HO,h0,h1,C,gr]
 case build T q=>
  have i:∀p∈q.toList,ev tm' p.2=ev tm p.2:=λp i=>h p.2 (by simp only[Op.operands];exact List.mem_toArray.2 (eo.2 ⟨p,i,rfl⟩));have m:=Ix i;have j:Cv tm' q=Cv tm q:=rr λp w=>by rw[i p w]
  simp only[Bd,Bh,DC,GA,F0,Hi,HO,m,j,gr]
 case buildSlice T k q=>
  have i:∀p∈q.toList,ev tm' p.2=ev tm p.2:=λp i=>h p.2 (by simp only[Op.operands];exact List.mem_toArray.2 (eo.2 ⟨p,i,rfl⟩));have m:=Ix i;have j:Cv tm' q=Cv tm q:=rr λp w=>by rw[i p w]
  simp only[Bd,Bh,DC,GA,F0,Hi,HO,m,j,gr]
 case makeFunc f as A=>
  have m:as.toList.map (ev tm')=as.toList.map (ev tm):=Qr λx g=>h x (by simp[Op.operands];exact .inl (by simpa using g));have j:A.toList.map (ev tm')=A.toList.map (ev tm):=Qr λx g=>h x (by simp[Op.operands];exact .inr (by simpa using g));simp only[Bd,Bh,DC,GA,F0,Hi,HO,m,j,gr]
 case slice T x lo hi s=>
  have g:=h x (by simp[Op.operands]);have m:EN tm' lo=EN tm lo/\Fa tm' lo=Fa tm lo:=by
   cases lo with
   |none=>exact⟨rfl,rfl⟩
   |some y=>have:=h y (by simp[Op.operands]);simp only[EN,Fa,this,gr]
  have j:EN tm' hi=EN tm hi/\Fa tm' hi=Fa tm hi/\∀X,oK tm' X hi=oK tm X hi:=by
   cases hi with
   |none=>exact⟨rfl,rfl,λ_=>rfl⟩
   |some y=>have:=h y (by simp[Op.operands]);simp only[EN,Fa,oK,this,gr,implies_true]
  have B:EN tm' s=EN tm s/\Fa tm' s=Fa tm s:=by
   cases s with
   |none=>exact⟨rfl,rfl⟩
   |some y=>have:=h y (by simp[Op.operands]);simp only[EN,Fa,this,gr]
  simp only[Bd,Bh,DC,GA,F0,g,m.1,m.2,j.1,j.2.1,j.2.2,B.1,B.2,gr]
 case unOp u T x=>
  have g:=h x (by simp[Op.operands]);cases u<;>simp only[Bd,Bh,DC,GA,F0,Hi,HO,g,gr]
 all_goals first
  |(simp only[Bd,Bh,DC,GA,F0,Hi,HO,gr];done)
  |(rename_i x
    have g:=h x (by simp[Op.operands])
    simp only[Bd,Bh,DC,GA,F0,Hi,HO,g,gr];done)
  |(rename_i x y
    have g:=h x (by simp[Op.operands])
    simp only[Bd,Bh,DC,GA,F0,Hi,HO,g,gr];done)
  |(rename_i x y
    have g:=h x (by simp[Op.operands])
    have t:=h y (by simp[Op.operands])
    simp only[Bd,Bh,DC,GA,F0,Hi,HO,g,t,gr];done)
  |(rename_i x y z
    have g:=h x (by simp[Op.operands])
    have t:=h y (by simp[Op.operands])
    simp only[Bd,Bh,DC,GA,F0,Hi,HO,g,t,gr];done)
  |(rename_i x y z
    have g:=h x (by simp[Op.operands])
    have t:=h y (by simp[Op.operands])
    have E:=h z (by simp[Op.operands])
    simp only[Bd,Bh,DC,GA,F0,Hi,HO,g,t,E,gr];done)
  |skip
theorem guard_congr{j:Nat}{g:Bool}(i:o.guard=some (j,g))(h:∀t∈o.looksAt ops,tm' t=tm t):CW ops tm' j g=CW ops tm j g:=by
 unfold CW;cases k:(ops[j]?).bind (·.dst)with
 |none=>rfl
 |some d=>
  have:tm' d=tm d:=h d (by simp[Oper.looksAt,i,k]);simp[this]
theorem kJ(h:∀t∈o.looksAt ops,tm' t=tm t):EE P n ops o tm' S=EE P n ops o tm S/\Dc P ops o tm' S=Dc P ops o tm S/\oS P o tm' S=oS P o tm S:=by
 obtain⟨h1,i,m⟩:=K8 (P:=P) (S:=S) (op:=o.op) (Ig h);cases g:o.guard with
 |none=>simp only[EE,Dc,oS,g,h1,i,m,gr]
 |some q=>
  obtain⟨j,k⟩:=q;have:=guard_congr g h;simp only[EE,Dc,oS,g,h1,i,this,gr]
def B1(P:Program)(n b:Nat)(ops:Array cL)(i:Nat)(o:cL)(tm:Tm)(S:Sg)(v:V)(S':Sg):Prop:=
 ∀tm',(∀t∈o.looksAt ops,tm' t=tm t)->Step P n b ops i tm' S (put tm' o.dst v) S'
theorem B1.congr{i:Nat}(h:B1 P n b ops i o tm S v S')(k:∀t∈o.looksAt ops,tm' t=tm t):B1 P n b ops i o tm' S v S':=λg m=>
 h g λt j=>(m t j).trans (k t j)
theorem B1.D7{i:Nat}(hi:ops[i]?=some o)(h:EE P n ops o tm S):B1 P n b ops i o tm S (Dc P ops o tm S) (oS P o tm S):=λtm' g=>by
 obtain⟨h1,j,k⟩:=kJ (P:=P) (n:=n) (S:=S) g;rw[<-j,<-k];exact Step.D7 hi (by rw[h1];exact h)
theorem HF{c:Call}(j:o.op=.call c)(h:∀t∈o.looksAt ops,tm' t=tm t):callee tm' c=callee tm c/\BE tm' c=BE tm c:=by
 have g:=Ig h;rw[j]at g;have ha:∀x∈c.args.toList,ev tm' x=ev tm x:=λx i=>g x (by simp[Op.operands,Call.operands];exact .inr (by simpa using i));have hn:=Ud ha;have k:c.args.toList.map (λx=>strip (ev tm' x))=c.args.toList.map (λx=>strip (ev tm x)):=rr λx i=>by rw[ha x i]
 unfold callee BE;cases m:c.callee with
 |value f=>
  have q:=g f (by simp[Op.operands,Call.operands,m]);simp only[q,hn,k,gr]
 |_=>exact⟨rfl,by simp only[hn]⟩
theorem B1.call{i:Nat}{c:Call}{f:FuncId}{args:List V}(hi:ops[i]?=some o)(g:o.op=.call c)(j:o.guard=none)(k:BA n o.dst)(m:callee tm c=some (f,args))(hn:BE tm c)
  (h:AG P f args S v S'):B1 P n b ops i o tm S v S':=λtm' q=>by
 obtain⟨h1,s⟩:=HF g q;exact AC hi k j (HH g (by rw[h1];exact m) (by rw[s];exact hn) h)
abbrev wd:=@B1.call
theorem B1.Li{i:Nat}{c:Call}{f:FuncId}{args:List V}{j:Nat}{k g:Bool}(hi:ops[i]?=some o)(m:o.op=.call c)(q:o.guard=some (j,k))(t:BA n o.dst)
  (u:CW ops tm j k=some g) (h:g=true->callee tm c=some (f,args)/\BE tm c/\AG P f args S v S):B1 P n b ops i o tm S (HP g v) S:=λtm' s=>by
 obtain⟨h1,w⟩:=HF m s;refine Step.Fw hi t q (by rw[guard_congr q s];exact u) λe=>?_;obtain⟨z,A,B⟩:=h e;exact HH m (by rw[h1];exact z) (by rw[w];exact A) B
def waits(ops:Array cL)(j i:Nat):Bool:=
 match ops[j]? with
 |some g=>g.after.any λe=>Region.binds .any e&&e.on==i
 |none=>true
def Wn(ops:Array cL)(B:List (Nat×(Sg->Prop)))(j:Nat)(S S':Sg):Prop:=∀p∈B,waits ops j p.1=true\/(p.2 S->p.2 S')
def Bm(P:Program)(n b:Nat)(ops:Array cL)(K:Tm->Sg->Prop)(B:List (Nat×(Sg->Prop))):Nat->Array Bool->Tm->Sg->Prop
 |0,g,tm,S=>Region.ready .any ops g=[]/\K tm S
 |h+1,g,tm,S=>(Region.ready .any ops g=[]->K tm S)/\∀i∈Region.ready .any ops g,∃o v S',ops[i]?=some o/\B1 P n b ops i o tm S v S'/\Wn ops B i S S'/\Bm P n b ops K (B.filter λp=>!waits ops i p.1) h (g.setIfInBounds i true) (put tm o.dst v) S'
theorem put_comm{tm:Tm}{x y:Option Tmp}(v u:V)(h:∀d,x=some d->y≠some d):put (put tm x v) y u=put (put tm y u) x v:=by
 cases x with
 |none=>rfl
 |some d=>
  cases y with
  |none=>rfl
  |some e=>
   have g:d≠e:=λi=>h d rfl (i▸rfl);funext k;simp[put,FP];by_cases h1:k=d
   .subst h1;simp[g]
   .simp[h1]
theorem KQ{o o':cL}{tm:Tm}{u:V}(h:∀d,o'.dst=some d->d∉o.looksAt ops):∀t∈o.looksAt ops,(put tm o'.dst u) t=tm t:=λt g=>by
 cases i:o'.dst with
 |none=>rfl
 |some d=>
  have:t≠d:=λe=>h d i (e▸g);simp[put,FP,this]
theorem Ll{j i:Nat}{g:cL}(hj:ops[j]?=some g)(h:waits ops j i=true):∃e∈g.after,Region.binds .any e=true/\e.on=i:=by
 unfold waits at h;rw[hj]at h;obtain⟨e,k,hb⟩:=Array.any_eq_true'.1 h;simp at hb;exact⟨e,k,hb.1,hb.2⟩
theorem Jn:∀(g:Nat) (B m:List (Nat×(Sg->Prop))) (i:Array Bool) (tm:Tm) (S:Sg),(∀p∈m,p∈B)->Bm P n b ops K B g i tm S->Bm P n b ops K m g i tm S
 |0,_,_,_,_,_,_,h=>h
 |g+1,B,m,_,_,_,q,h=>⟨h.1,λk s=>by
  obtain⟨o,v,S',t,u,w,z⟩:=h.2 k s;refine⟨o,v,S',t,u,λp j=>w p (q p j),Jn g _ _ _ _ _ (λp j=>?_) z⟩;rw[ms]at j⊢;exact⟨q p j.1,j.2⟩⟩
theorem Pb{i:Nat}{J:cL}{C:Sg->Prop}(hi:ops[i]?=some J):
  ∀(m:Nat) (B:List (Nat×(Sg->Prop))) (g:Array Bool) (tm:Tm) (S:Sg),(∀j A,ops[j]?=some A->j≠i->g.getD j true=false->(∀e∈A.after,Region.binds .any e=true->e.on≠i)->J.apart ops A=true)->i∈Region.ready .any ops g->C S->(∀S',C S'->B1 P n b ops i J tm S' v S')->Bm P n b ops K ((i,C)::B) m (g.setIfInBounds i true) (put tm J.dst v) S->Bm P n b ops K B (m+1) g tm S:=by
 intro m;induction m with
 |zero=>
  intro B g tm S _ L hS R H;refine⟨λh=>(by rw[h]at L;cases L),λj hj=>?_⟩;by_cases E:j=i
  .subst E;refine⟨J,v,S,hi,R S hS,λp _=>.inr id,H⟩
  .have:=adX hj E;rw[H.1]at this;cases this
 |succ m ih=>
  intro B g tm S Y L hS R H;refine⟨λh=>(by rw[h]at L;cases L),λj hj=>?_⟩;by_cases E:j=i
  .subst E;refine⟨J,v,S,hi,R S hS,λp _=>.inr id,Jn _ _ _ _ _ _ (λp T=>?_) H⟩;exact WP _ (ms.1 T).1
  .obtain⟨A,u,S',s,vx,q,Z⟩:=H.2 j (adX hj E);obtain⟨F,oj',G,vk⟩:=mem_ready.1 hj;rw[s]at G;cases G;have U:∀e∈A.after,Region.binds .any e=true->e.on≠i:=λe M hb w=>by
    have h1:=vk e M hb;have h0:=(mem_ready.1 L).1;rw[w]at h1;rcases pu i g.size with W|W
    .simp[W]at h0 h1;rw[h0]at h1;cases h1
    .simp[wE W]at h1
   obtain⟨a1,a2,a3⟩:=Oper.apart_spec (Y j A s E F U);have hw:waits ops j i=false:=by
    cases hx:waits ops j i with
    |false=>rfl
    |true=>
     obtain⟨e,M,hb,w⟩:=Ll s hx;exact absurd w (U e M hb)
   have hC:C S':=by
    rcases q (i,C) (by simp)with h|h
    .obtain⟨e,M,hb,w⟩:=Ll s h;exact absurd w (U e M hb)
    .exact h hS
   have z:∀k ok,ops[k]?=some ok->k≠i->(g.setIfInBounds j true).getD k true=false->(∀e∈ok.after,Region.binds .any e=true->e.on≠i)->J.apart ops ok=true:=λk ok hk X N vt=>by
    refine Y k ok hk X ?_ vt;by_cases Q:j=k
    .subst Q;exact F
    .rw[getD_set_ne true Q]at N;exact N
   refine⟨A,u,S',s,vx.congr λt ht=>(KQ a1 t ht).symm,λp T=>q p (by simp[T]),?_⟩;refine ih (B.filter λp=>!waits ops j p.1) (g.setIfInBounds j true) (put tm A.dst u) S' z (adX L (le E)) hC (λS2 h2=>(R S2 h2).congr (KQ a3)) ?_;rw[Array.setIfInBounds_comm _ _ E,put_comm u v λd hd h=>a2 d h hd];rw[List.filter_cons_of_pos (by simp[hw])]at Z;exact Z
theorem LI{Q:Exit->Act->World->Prop}:∀(j:Nat) (g:Array Bool) (tm:Tm) (S:Sg),Bm P n b ops K [] j g tm S->∀G w a,St P n G S w a tm->b<=S.length->(∀m q,(∃u S' tm',Gu P n b G S w a.defers m q u S' tm'/\K tm' S')->Q .normal m q)->wpAny P .any ops Q j g a w
 |0,g,tm,S,h,G,w,a,st,hb,s=>⟨h.1,s a w ⟨G,S,tm,.refl st hb,h.2⟩⟩
 |j+1,g,tm,S,h,G,w,a,st,hb,s=>by
  refine⟨λh0=>s a w ⟨G,S,tm,.refl st hb,h.1 h0⟩,λi hi=>?_⟩;obtain⟨o,v,S',M,A,_,B⟩:=h.2 i hi;refine A tm (λ_ _=>rfl) G w a _ Q st hb λm q u k=>?_;refine LI j _ _ _ B u q m k.st k.late.len λC E F=>?_;obtain⟨H,J,z,t,L⟩:=F;exact s C E ⟨H,J,z,⟨t.st,t.ds.trans k.ds,k.tr.trans t.tr,k.late.trans t.late⟩,L⟩
def Ec(ops:Array cL):List (Nat×Bool)->Array Bool->Bool
 |[],g=>Region.ready .any ops g==[]
 |(i,q)::rest,g=>(if q then(Region.ready .any ops g).contains i&&Region.free .any ops g i else Region.ready .any ops g==[i])&&Ec ops rest (g.setIfInBounds i true)
def Fu(ops:Array cL)(l:List (Nat×Bool)):List (Nat×Bool×cL):=l.map λp=>(p.1,p.2,ops.getD p.1 {dst:=none,op:=.move<|.const undef,type:=0,pos:= "",after:=#[],guard:=none})
def Ag(P:Program)(n b:Nat)(ops:Array cL)(B:List (Nat×(Sg->Prop)))(l:List (Nat×Bool×cL))(tm:Tm)(S:Sg)(K:Tm->Sg->Prop):Prop:=
 ∀g,(∀p∈l,ops[p.1]?=some p.2.2)->Ec ops (l.map λp=>(p.1,p.2.1)) g=true->Bm P n b ops K B l.length g tm S
theorem xM{B:List (Nat×(Sg->Prop))}(h:K tm S):Ag P n b ops B [] tm S K:=λg _ i=>⟨by simpa[Ec]using i,h⟩
theorem Ag.quiet{B:List (Nat×(Sg->Prop))}{i:Nat}{rest:List (Nat×Bool×cL)}(C:Sg->Prop)(hS:C S)(m:ops[i]?=some o->∀S',C S'->B1 P n b ops i o tm S' v S')
  (h:Ag P n b ops ((i,C)::B) rest (put tm o.dst v) S K):Ag P n b ops B ((i,true,o)::rest) tm S K:=λg k j=>by
 have hi:ops[i]?=some o:=k (i,true,o) (by simp);simp[Ec]at j;obtain⟨⟨h1,q⟩,s⟩:=j;exact Pb hi _ B g tm S (Region.free_spec hi q) (by simpa using h1) hS (m hi) (h _ (λp j=>k p (by simp[j])) s)
abbrev o4:=@Ag.quiet
theorem Ag.only{B:List (Nat×(Sg->Prop))}{i:Nat}{rest:List (Nat×Bool×cL)}(q:ops[i]?=some o->B1 P n b ops i o tm S v S')(s:Wn ops B i S S')
  (h:Ag P n b ops B rest (put tm o.dst v) S' K):Ag P n b ops B ((i,false,o)::rest) tm S K:=λk m g=>by
 have hi:ops[i]?=some o:=m (i,false,o) (by simp);simp[Ec]at g;obtain⟨h1,t⟩:=g;refine⟨λh0=>(by rw[h1]at h0;cases h0),λj hj=>?_⟩;rw[h1]at hj;have:j=i:=by simpa using hj
 subst this;exact⟨o,v,S',hi,q hi,s,Jn _ _ _ _ _ _ (λp g=>(ms.1 g).1) (h _ (λp g=>m p (by simp[g])) t)⟩
theorem Ag.last{B:List (Nat×(Sg->Prop))}{i:Nat}{rest:List (Nat×Bool×cL)}(s:(B.map (·.1)).all (waits ops i)=true)(t:ops[i]?=some o->B1 P n b ops i o tm S v S')
  (h:Ag P n b ops [] rest (put tm o.dst v) S' K):Ag P n b ops B ((i,false,o)::rest) tm S K:=λk m g=>by
 have hi:ops[i]?=some o:=m (i,false,o) (by simp);simp[Ec]at g;obtain⟨h1,u⟩:=g;have q:∀p∈B,waits ops i p.1=true:=λp g=>cl.1 s p.1 (eo.2 ⟨p,g,rfl⟩);refine⟨λh0=>(by rw[h1]at h0;cases h0),λj hj=>?_⟩;rw[h1]at hj;have:j=i:=by simpa using hj
 subst this;have w:(B.filter λp=>!waits ops j p.1)=[]:=acX.2 λp g=>by simp[q p g]
 exact⟨o,v,S',hi,t hi,λp g=>.inl (q p g),by rw[w];exact h _ (λp g=>m p (by simp[g])) u⟩
theorem Hz{B:List (Nat×(Sg->Prop))}{i:Nat}{rest:List (Nat×Bool×cL)}(h1:EE P n ops o tm S/\oS P o tm S=S)(h:Ag P n b ops ((i,λS'=>S'=S)::B) rest (put tm o.dst (Dc P ops o tm S)) S K):
  Ag P n b ops B ((i,true,o)::rest) tm S K:=
 o4 (λS'=>S'=S) rfl (λhi S' hS=>by
  subst hS;have:=B1.D7 (b:=b) hi h1.1;rwa [h1.2]at this) h
theorem Ag.qg{B:List (Nat×(Sg->Prop))}{i:Nat}{rest:List (Nat×Bool×cL)}(C:Sg->Prop)(hS:C S)(h1:∀S',C S'->EE P n ops o tm S'/\Dc P ops o tm S'=v/\oS P o tm S'=S')(h:Ag P n b ops ((i,C)::B) rest (put tm o.dst v) S K):
  Ag P n b ops B ((i,true,o)::rest) tm S K:=
 o4 C hS (λhi S' hS=>by
  obtain⟨g,j,k⟩:=h1 S' hS;have:=B1.D7 (b:=b) hi g;rwa [j,k]at this) h
theorem Ag.vB{B:List (Nat×(Sg->Prop))}{i:Nat}{rest:List (Nat×Bool×cL)}(g:(B.map (·.1)).all (waits ops i)=true)(h1:EE P n ops o tm S)(h:Ag P n b ops [] rest (put tm o.dst (Dc P ops o tm S)) (oS P o tm S) K):
  Ag P n b ops B ((i,false,o)::rest) tm S K:=
 Ag.last g (λhi=>B1.D7 hi h1) h
def Fk(S:Sg)(tm:Tm)(c:Call)(f:FuncId)(ds:List D):Prop:=
 match callee tm c with
 |some (g,args)=>g=f/\args.map (Ba S)=ds.map some
 |none=>False
theorem F9{c:Call}{f:FuncId}{ds:List D}(h:Fk S tm c f ds):∃args,callee tm c=some (f,args)/\args.map (Ba S)=ds.map some:=by
 unfold Fk at h;split at h
 .rename_i i args g;obtain⟨rfl,h⟩:=h;exact⟨args,g,h⟩
 .exact h.elim
theorem B9{rest:List cL}{c:Call}{f:FuncId}{ds:List D}{d:D}(h:Pure P f ds d)(g:o.op=.call c)(i:o.guard=none/\BA n o.dst/\BE tm c/\Fk S tm c f ds)
  (j:AV P n b ops rest (put tm o.dst (.d d)) S K):AV P n b ops (o::rest) tm S K:=by
 obtain⟨k,m,q,s⟩:=i;obtain⟨args,t,u⟩:=F9 s;exact gl g k m t q (h.call u) j
theorem AV.EU{rest:List cL}{c:Call}{f:FuncId}{ds:List D}{d:D}{j:Nat}{i g:Bool}(k:o.op=.call c)(m:o.guard=some (j,i))(q:CW ops tm j i=some g)
  (h:g=true->Pure P f ds d) (w:BA n o.dst/\(g=true->BE tm c/\Fk S tm c f ds))
  (s:AV P n b ops rest (put tm o.dst (HP g (.d d))) S K):AV P n b ops (o::rest) tm S K:=by
 obtain⟨t,u⟩:=w;by_cases e:g=true
 .obtain⟨args,z,A⟩:=F9 (u e).2;exact AV.Li k m t q (λe=>⟨z,(u e).1,(h e).call A⟩) s
 .exact AV.Li (f:=f) (args:=[]) k m t q (λB=>absurd B e) s
abbrev wl:=@AV.EU
theorem Ag.Cr{B:List (Nat×(Sg->Prop))}{i:Nat}{rest:List (Nat×Bool×cL)}{c:Call}{f:FuncId}{ds:List D}{d:D}(h:Pure P f ds d)(g:o.op=.call c)
  (j:o.guard=none/\BA n o.dst/\BE tm c/\Fk S tm c f ds) (k:Ag P n b ops ((i,λS'=>S'=S)::B) rest (put tm o.dst (.d d)) S K):Ag P n b ops B ((i,true,o)::rest) tm S K:=by
 obtain⟨m,q,s,t⟩:=j;obtain⟨args,u,w⟩:=F9 t;exact o4 (λS'=>S'=S) rfl (λhi S' hS=>by subst hS;exact wd hi g m q u s (h.call w)) k
abbrev go:=@Ag.Cr
theorem Ag.EU{B:List (Nat×(Sg->Prop))}{i:Nat}{rest:List (Nat×Bool×cL)}{c:Call}{f:FuncId}{ds:List D}{d:D}{j:Nat}{k g:Bool}(m:o.op=.call c)(q:o.guard=some (j,k))
  (s:CW ops tm j k=some g) (h:g=true->Pure P f ds d) (z:BA n o.dst/\(g=true->BE tm c/\Fk S tm c f ds))
  (t:Ag P n b ops ((i,λS'=>S'=S)::B) rest (put tm o.dst (HP g (.d d))) S K):Ag P n b ops B ((i,true,o)::rest) tm S K:=by
 obtain⟨u,w⟩:=z;by_cases e:g=true
 .obtain⟨args,A,C⟩:=F9 (w e).2;exact o4 (λS'=>S'=S) rfl (λhi S' hS=>by subst hS;exact B1.Li hi m q u s λe=>⟨A,(w e).1,(h e).call C⟩) t
 .exact o4 (λS'=>S'=S) rfl (λhi S' hS=>by subst hS;exact B1.Li (f:=f) (args:=[]) hi m q u s λE=>absurd E e) t
theorem AW.Xl{id:Nat}{Q:Exit->Tm->Sg->Prop}(l:List (Nat×Bool))(m:P.follows .mixedOrders=true)(g:l.length=ops.size)(i:Ec ops l (Array.replicate ops.size false)=true)
  (s:l.all (λp=>decide (p.1<ops.size))=true) (h:Ag P n b ops [] (Fu ops l) tm S (Q .normal)):AW P n b (.region id ops true) Q tm S:=λG w a st hb=>by
 refine wp_region_any m ?_;obtain⟨r1,r2,k⟩:=st.rel.drawn (w':={w with drawn:=w.drawn+1}) rfl rfl rfl;have h1:=h (Array.replicate ops.size false) (λp i=>by
  simp only[Fu,eo]at i;obtain⟨q,t,rfl⟩:=i;have u:q.1<ops.size:=by simpa using cl.1 s q t
  simp[u]) (by
   have e:(Fu ops l).map (λp=>(p.1,p.2.1))=l:=by simp[Fu,kw]
   rw[e];exact i)
 have z:(Fu ops l).length=ops.size:=by simp[Fu,g]
 rw[z]at h1;refine LI _ _ _ _ h1 G {w with drawn:=w.drawn+1} a ⟨st.size,st.tm.later k,r1⟩ hb λE w' A=>?_;obtain⟨B,S',tm',j,C⟩:=A;exact⟨B,S',tm',⟨j.st,j.ds,r2.trans j.tr,(k.late hb).trans j.late⟩,C⟩
theorem AW.gJ{id:Nat}{Q:Exit->Tm->Sg->Prop}(l:List (Nat×Bool))(i:P.follows .mixedOrders=true)(g:l.length=ops.size)(j:Ec ops l (Array.replicate ops.size false)=true)
  (k:l.all (λp=>decide (p.1<ops.size))=true) (h:∀K:Tm->Sg->Prop,(∀tm S,Q .normal tm S->K tm S)->Ag P n b ops [] (Fu ops l) tm S K):AW P n b (.region id ops true) Q tm S:=
 AW.Xl l i g j k (h _ λ_ _ h=>h)
theorem HA{id:Nat}{Q:Exit->Tm->Sg->Prop}(h:∀K:Tm->Sg->Prop,(∀tm S,Q .normal tm S->K tm S)->AV P n b ops ops.toList tm S K):AW P n b (.region id ops false) Q tm S:=
 AW.region (h _ λ_ _ h=>h)
end
attribute [simp] Fk Fu
section
variable {P:Program} {n b:Nat} {tm:Tm} {S:Sg} {ops:Array cL} {K:Tm->Sg->Prop} {Q:Exit->Tm->Sg->Prop}
def xR(P:Program)(n:Nat)(ops:Array cL)(K:Tm->Sg->Prop):List cL->Tm->Sg->Prop
 |[],tm,S=>K tm S
 |o::l,tm,S=>EE P n ops o tm S/\xR P n ops K l (put tm o.dst (Dc P ops o tm S)) (oS P o tm S)
theorem TS:∀{l:List cL} {tm:Tm} {S:Sg},xR P n ops K l tm S->AV P n b ops l tm S K
 |[],_,_,h=>B6 h
 |_::_,_,_,h=>Cd h.1 (TS h.2)
theorem xV{id:Nat}(h:∀K:Tm->Sg->Prop,(∀tm S,Q .normal tm S->K tm S)->xR P n ops K ops.toList tm S):AW P n b (.region id ops false) Q tm S:=
 HA λK g=>TS (h K g)
theorem xW{id:Nat}{y:Code}(h:∀K:Tm->Sg->Prop,(∀tm S,AW P n b y Q tm S->K tm S)->xR P n ops K ops.toList tm S):AW P n b (.seq (.region id ops false) y) Q tm S:=
 FX λK g=>TS (h K g)
theorem xC{c:Operand}{x y z:Code}(h:match ev tm c with|.d (.bool t)=>(t=true->AW P n b x (C4 (AW P n b z Q) Q) tm S)/\(t=false->AW P n b y (C4 (AW P n b z Q) Q) tm S)|_=>False):AW P n b (.seq (.cond c x y) z) Q tm S:=
 xS (AR h)
theorem xK{y:Code}(h:AW P n b y Q tm S):AW P n b .skip (C4 (AW P n b y Q) Q) tm S:=CT h
theorem xB{id:Nat}{c y:Code}(h:AW P n b c (BW id (C4 (AW P n b y Q) Q)) tm S):AW P n b (.seq (.block id c) y) Q tm S:=xS (Bx h)
theorem xQ{next:Tm->Sg->Prop}{i j:Nat}:C4 next Q .normal tm S=next tm S/\C4 next Q .ret tm S=Q .ret tm S/\C4 next Q (.exit i) tm S=Q (.exit i) tm S/\BW i Q .normal tm S=Q .normal tm S/\BW i Q .ret tm S=Q .ret tm S/\BW i Q (.exit j) tm S=if j=i then Q .normal tm S else Q (.exit j) tm S:=⟨rfl,rfl,rfl,rfl,rfl,rfl⟩
def xT:List Nat->List Bool
 |[]=>[]
 |k::l=>(k !=0)::xT l
def xP:List Nat->List (Nat×Bool)
 |[]=>[]
 |k::l=>(k / 2,k % 2==0)::xP l
theorem xE{id:Nat}(l:List Nat)(g:(P.follows .mixedOrders&&((xP l).length==ops.size&&(Ec ops (xP l) (Array.replicate ops.size false)&&(xP l).all λp=>decide (p.1<ops.size))))=true)
  (h:∀K:Tm->Sg->Prop,(∀tm S,Q .normal tm S->K tm S)->Ag P n b ops [] (Fu ops (xP l)) tm S K):AW P n b (.region id ops true) Q tm S:=by
 simp only[bi,zO]at g;exact AW.gJ (xP l) g.1 g.2.1 g.2.2.1 g.2.2.2 h
theorem xD{id:Nat}{y:Code}(l:List Nat)(g:(P.follows .mixedOrders&&((xP l).length==ops.size&&(Ec ops (xP l) (Array.replicate ops.size false)&&(xP l).all λp=>decide (p.1<ops.size))))=true)
  (h:∀K:Tm->Sg->Prop,(∀tm S,AW P n b y Q tm S->K tm S)->Ag P n b ops [] (Fu ops (xP l)) tm S K):AW P n b (.seq (.region id ops true) y) Q tm S:=
 xS (xE l g h)
end
attribute [simp] xR xT xP
abbrev oi:=@Option.some.inj
section
variable {P:Program} {n b:Nat} {o:cL} {tm tm':Tm} {S S':Sg} {v:V} {ops:Array cL} {K:Tm->Sg->Prop} {Q:Exit->Tm->Sg->Prop}
theorem AV.JT{rest:List cL}{neg:Bool}{T U:TypeId}{x:Operand}{xs:List D}(u:o.op=.binOp (if neg then .neq else .eql) T x (.const (.slice none 0 0)) U)
  (z:o.guard=none/\BA n o.dst/\(As P T).isSome=true/\need (ev tm x)/\(strip (ev tm x)=.d (.sl xs)\/strip (ev tm x)=.full xs))
  (h:∀t:Bool,(xs≠[]->t=false)->AV P n b ops rest (put tm o.dst (.d (.bool (t !=neg)))) S K):AV P n b ops (o::rest) tm S K:=λk s G w a Q st hb A=>by
 obtain⟨B,C,F,H,J⟩:=z;obtain⟨E,L⟩:=jw.1 F;obtain⟨t,M,N⟩:=BJ L;have h0:ops[k]?=some o:=by simpa using(s 0).symm
 obtain⟨i,R,W⟩:=nil_eq u M N H J st;simp[xj];rw[vj];unfold wpOp;simp[h0,Region.wanted,B];left;unfold Oper.wp;rw[W];simp[Oper.upon];have m:St P n G S w (a.put o.dst (.bool (i !=neg))) (put tm o.dst (.d (.bool (i !=neg)))):=st.put C (.d _ _ (.bool _)) st.rel (z0 _ _ _);refine h i R (k+1) (λj=>by have:=s (j+1);simp at this;rw[this];congr 1;omega) G w _ Q m hb λX Y Z=>?_;obtain⟨G2,S2,q,g,hK⟩:=Z;exact A X Y ⟨G2,S2,q,⟨g.st,g.ds.trans B8,g.tr,g.late⟩,hK⟩
theorem AV.ghost{l:List cL}(g:AJ P n b tm S tm' S')(h:AV P n b ops l tm' S' K):AV P n b ops l tm S K:=λk q G w a Q st hb s=>by
 obtain⟨u,j,t,l⟩:=g G w a st hb;refine h k q u w a Q j l.len λz A B=>?_;obtain⟨C,E,m,i,F⟩:=B;exact s z A ⟨C,E,m,⟨i.st,i.ds,t.trans i.tr,l.trans i.late⟩,F⟩
abbrev sv:=@AV.ghost
def Dw(S:Sg):List V->Option (List D)
 |[]=>some []
 |x::g=>match Ba S x,Dw S g with
  |some d,some ds=>some (d::ds)
  |_,_=>none
theorem PF:∀{g:List V} {ds:List D},Dw S g=some ds->ds.length=g.length/\∀i (h:i<g.length) (t:i<ds.length),Ba S g[i]=some ds[i]
 |[],ds,h=>by simp[Dw]at h;subst h;exact⟨rfl,λi h=>by simp at h⟩
 |x::g,ds,h=>by
  simp[Dw]at h;split at h
  .rename_i d j h1 k;cases h;obtain⟨m,q⟩:=PF k;refine⟨by simp[m],λi hi s=>?_⟩;cases i with
   |zero=>exact h1
   |succ i=>simpa using q i (by simpa using hi) (by simpa using s)
  .cases h
@[simp] theorem CQ(S:Sg)(xs:List D):Dw S (xs.map .d)=some xs:=by
 induction xs with
 |nil=>rfl
 |cons x xs g=>simp[Dw,Ba,CF,g]
@[simp] theorem Cy{α:Type}(S:Sg)(f:α->D)(xs:List α):Dw S (xs.map λx=>V.d (f x))=some (xs.map f):=by
 induction xs with
 |nil=>rfl
 |cons x xs g=>simp[Dw,Ba,CF,g]
theorem AJ.CS(r:Nat){wr:Bool}{sz:Nat}{els:List V}{xs:List D}(C:S[r]?=some (.row wr sz els))(M:Dw S els=some xs):AJ P n b tm S tm (S.set r (.BY xs)):=λG w a st hb=>by
 have R:=st.rel;have wi:=AZ C;obtain⟨hl,vN⟩:=PF M;have E:=R.DG r _ C;let F:Gh:={G with I:=λk=>G.I k\/(k=G.B3 r/\G.BB r=none)};have Df:(S.set r (.BY xs))[r]?=some (.BY xs):=by simp[wi]
 have B:∀m,m≠r->(S.set r (.BY xs))[m]?=S[m]?:=λm h=>by simp[nt (le h)]
 have L:BL G S w F (S.set r (.BY xs)) w:=by
  refine⟨λk s=>.inl s,λ_ _=>rfl,by simp,λm w9 Y Z=>?_,λm w9 N=>?_⟩
  .by_cases e:m=r
   .subst e;have:Y=xs.length:=by simpa[lenOf,Df]using Z.symm
    exact⟨els.length,by simp[lenOf,C],by omega,λ_=>⟨rfl,rfl,rfl,.inr (by simp[C0,Df])⟩⟩
   .have:lenOf (S.set r (.BY xs)) m=lenOf S m:=by simp[lenOf,B m e]
    exact⟨Y,by rw[<-this];exact Z,br _,λ_=>⟨rfl,rfl,rfl,.inl (by simp[C0,B m e])⟩⟩
  .by_cases e:m=r
   .subst e;simp[Bb,Df]at N
   .exact⟨by simp[Bb,B m e]at N;exact N,rfl⟩
 have own:∀k,Fy F (S.set r (.BY xs)) k->Fy G S k/\¬(k=G.B3 r/\G.BB r=none):=by
  rintro k ⟨m,x,h1,t,h3⟩;by_cases e:m=r
  .subst e;rw[Df]at h1;cases h1;simp[BQ]at t
  .rw[B m e]at h1;have H:BQ G m x=true:=t;refine⟨⟨m,x,h1,H,h3⟩,λ⟨s,u⟩=>?_⟩;have:G.B3 m=G.B3 r:=by rw[<-s,h3]
   exact e (R.inj m r x _ h1 C H (by simp[BQ,u]) this)
 have xo:G.BB r=none->Fy G S (G.B3 r):=λu=>⟨r,_,C,by simp[BQ,u],rfl⟩;refine⟨F,⟨st.size,st.tm.later L,⟨R.GQ.later L,λm x z=>?_,λr1 r2 x1 x2 h1 t o1 o2 he=>?_,λk s=>?_,λk s=>?_,λk s=>R.HL k (own k s).1⟩⟩,⟨br _,λk s=>.inl s,λ_ _ _=>rfl,λk s=>.inl (own k s).1,λk s=>?_,rfl,rfl⟩,L.late hb⟩
 .by_cases e:m=r
  .subst e;rw[Df]at z;cases z;simp[OK];have U:F.BZ m xs.length=G.BZ m xs.length:=rfl;rw[U];simp only[OK]at E;cases u:G.BB m with
   |none=>
    simp only[u]at E;obtain⟨c,T,W,g2,g3,g4,g5⟩:=E;unfold Gh.BZ;simp[u];let J:Nat->Value:=λi=>if h:i<els.length then(g5 i h).choose else undef;have A:∀i (h:i<els.length),CV G S w els[i] (J i)/\(J i).cells.size=sz/\∀j,j<sz->c[(G.cap m).2+(i * sz+j)]?=(J i).cells[j]?:=λi hi=>by
     have:=(g5 i hi).choose_spec;simp[J,hi,x0];exact⟨this.1,this.2.1,this.2.2.2⟩
    refine .sl sz xs _ (G.cap m).2 _ J (.inr ⟨rfl,u⟩) (by omega) (by omega) (λi hi=>?_) (λi hi=>⟨(A i (by omega)).2.1,λj hj=>?_⟩)
    .have vo:i<els.length:=by omega
     exact(((A i vo).1.Ba R (vN i vo hi))).mono (λk s=>.inl s) (λ_ _=>rfl)
    .rw[cell_of W,nl];exact(A i (by omega)).2.2 j hj
   |some q=>
    simp[u]at E;obtain⟨_,_,ys,rfl,hc⟩:=E;have X:xs=ys:=by
     rw[CQ]at M;exact(oi M).symm
    subst X;unfold Gh.BZ;simp[u];exact hc.mono (λk s=>.inl s) (λ_ _=>rfl)
  .rw[B m e]at z;exact(R.DG m x z).later L (λ_=>rfl) rfl rfl rfl
 .have g:∀m x,(S.set r (.BY xs))[m]?=some x->BQ F m x=true->∃x',S[m]?=some x'/\BQ G m x'=true:=λm x z hw=>by
   by_cases e:m=r
   .subst e;rw[Df]at z;cases z;simp[BQ]at hw
   .rw[B m e]at z;exact⟨x,z,hw⟩
  obtain⟨y1,W,p1⟩:=g r1 x1 h1 o1;obtain⟨y2,g2,p2⟩:=g r2 x2 t o2;exact R.inj r1 r2 y1 y2 W g2 p1 p2 he
 .rintro(h|⟨h1,t⟩)
  .exact R.nI k (own k s).1 h
  .exact(own k s).2 ⟨h1,t⟩
 .rcases s with h|⟨h1,t⟩
  .exact R.JY k h
  .rw[h1];exact R.HL _ (xo t)
 .rcases s with h|⟨h1,t⟩
  .exact .inl h
  .rw[h1];exact .inr (.inl (xo t))
abbrev c9:=@AJ.CS
end
mutual
def Bc(ρ:Nat->Nat):V->V
 |.row r n=>.row (ρ r) n
 |.ptr r n i j=>.ptr (ρ r) n i j
 |.map r=>.map (ρ r)
 |.fn f as k=>.fn f (Cn ρ as) (Cn ρ k)
 |.agg h=>.agg (Cn ρ h)
 |.Cb h=>.Cb (Cn ρ h)
 |.opt g v=>.opt g (Bc ρ v)
 |.any=>.any
 |.d d=>.d d
 |.full m=>.full m
 |.DX h=>.DX h
def Cn(ρ:Nat->Nat):List V->List V
 |[]=>[]
 |x::g=>Bc ρ x::Cn ρ g
end
def DK(ρ:Nat->Nat):O->O
 |.row h sz g=>.row h sz (Cn ρ g)
 |.map i=>.map (i.map λp=>(p.1,Bc ρ p.2))
 |.BY j=>.BY j
 |.dead=>.dead
theorem EY(ρ:Nat->Nat)(xs:List V):Cn ρ xs=xs.map (Bc ρ):=by
 induction xs with
 |nil=>rfl
 |cons x xs g=>simp[Cn,g]
structure Xy(ρ:Nat->Nat)(G0:Gh)(S0:Sg)(G:Gh)(S:Sg):Prop where
 I:∀b,G0.I b↔G.I b
 lt:∀i,i<S0.length->ρ i<S.length
 len:∀i,i<S0.length->lenOf S (ρ i)=lenOf S0 i
 sz:∀i,i<S0.length->C0 S (ρ i)=C0 S0 i
 map:∀i,i<S0.length->Bb S (ρ i)=Bb S0 i
 B3:∀i,i<S0.length->G0.B3 i=G.B3 (ρ i)
 cap:∀i,i<S0.length->G0.cap i=G.cap (ρ i)
 BB:∀i,i<S0.length->G0.BB i=G.BB (ρ i)
theorem Xy.BZ{ρ:Nat->Nat}{G0:Gh}{S0:Sg}{G:Gh}{S:Sg}(E:Xy ρ G0 S0 G S){i:Nat}(hi:i<S0.length)(n:Nat):G0.BZ i n=G.BZ (ρ i) n:=by
 simp[Gh.BZ,E.B3 i hi,E.cap i hi,E.BB i hi]
theorem Xy.addr{ρ:Nat->Nat}{G0:Gh}{S0:Sg}{G:Gh}{S:Sg}(E:Xy ρ G0 S0 G S){i:Nat}(hi:i<S0.length)(n:Nat):G0.addr i n=G.addr (ρ i) n:=by
 simp[Gh.addr,E.B3 i hi,E.cap i hi,E.BB i hi]
theorem CV.jm{ρ:Nat->Nat}{G0:Gh}{S0:Sg}{G:Gh}{S:Sg}(E:Xy ρ G0 S0 G S){w:World}{x:V}{v:Value}(h:CV G0 S0 w x v):CV G S w (Bc ρ x) v:=by
 have u:∀b,G0.I b->G.I b:=λb=>(E.I b).1;induction h with
 |any v=>exact .any v
 |d d v h=>exact .d d v (h.mono u λ_ _=>rfl)
 |full F a h=>exact .full F a (h.mono u λ_ _=>rfl)
 |row r n v o k h=>
  refine .row _ _ _ o (E.lt r k) λm q=>?_;obtain⟨h1,s⟩:=h m (by rw[<-E.len r k];exact q);exact⟨h1,λe=>by rw[s e,E.BZ k]⟩
 |ptr r n i j v o k h=>
  refine .ptr _ _ _ _ _ o (E.lt r k) λm q=>?_;obtain⟨h1,s⟩:=h m (by rw[<-E.len r k];exact q);exact⟨h1,λe sz H=>by rw[s e sz (by rw[<-E.sz r k];exact H),E.addr k]⟩
 |DX z b off A B h=>exact .DX z b off A (u _ B) λj hj=>⟨(h j hj).1,(h j hj).2.1.mono u λ_ _=>rfl,(h j hj).2.2⟩
 |map r v o k h=>exact .map _ _ o (E.lt r k) λq=>by rw[h (by rw[<-E.map r k];exact q),E.B3 r k]
 |fn f as M F N h1 s P Q J K=>
  simp[Bc,EY];exact .fn _ _ _ _ _ (by simp[h1]) (by simp[s]) (λi hi=>by simpa using J i (by simpa using hi)) (λi hi=>by simpa using K i (by simpa using hi))
 |agg z A C h o t=>
  simp[Bc,EY];exact .agg _ _ (by simp[C]) (λi hi=>by simpa using t i (by simpa using hi)) o
 |Cb z A C h t=>
  simp[Bc,EY];exact .Cb _ _ (by simp[C]) (λi hi=>by simpa using t i (by simpa using hi))
 |opt g x v h L t=>exact .opt _ _ _ t L
theorem CV.Lh{ρ:Nat->Nat}{G0:Gh}{S0:Sg}{G:Gh}{S:Sg}(E:Xy ρ G0 S0 G S){w:World}{y:V}{v:Value}(h:CV G S w y v):∀{x:V},y=Bc ρ x->AP S0.length x=true->CV G0 S0 w x v:=by
 have z:∀b,G.I b->G0.I b:=λb=>(E.I b).2;induction h with
 |any v=>
  intro x e hb;cases x<;>simp[Bc]at e;exact .any v
 |d d v h=>
  intro x e hb;cases x<;>simp[Bc]at e;subst e;exact .d _ v (h.mono z λ_ _=>rfl)
 |full J a h=>
  intro x e hb;cases x<;>simp[Bc]at e;subst e;exact .full _ a (h.mono z λ_ _=>rfl)
 |row r n v q F h=>
  intro x e hb;cases x<;>simp[Bc]at e;rename_i o K;obtain⟨rfl,rfl⟩:=e;have k:o<S0.length:=by simpa[AP]using hb
  refine .row _ _ _ q k λm s=>?_;obtain⟨h1,t⟩:=h m (by rw[E.len o k];exact s);exact⟨h1,λe=>by rw[t e,E.BZ k]⟩
 |ptr r n i j v q F h=>
  intro x e hb;cases x<;>simp[Bc]at e;rename_i o K U W;obtain⟨rfl,rfl,rfl,rfl⟩:=e;have k:o<S0.length:=by simpa[AP]using hb
  refine .ptr _ _ _ _ _ q k λm s=>?_;obtain⟨h1,t⟩:=h m (by rw[E.len o k];exact s);exact⟨h1,λe sz L=>by rw[t e sz (by rw[E.sz o k];exact L),E.addr k]⟩
 |DX H b off A B h=>
  intro x e hb;cases x<;>simp[Bc]at e;subst e;exact .DX _ b off A (z _ B) λj hj=>⟨(h j hj).1,(h j hj).2.1.mono z λ_ _=>rfl,(h j hj).2.2⟩
 |map r v q F h=>
  intro x e hb;cases x<;>simp[Bc]at e;rename_i o;subst e;have k:o<S0.length:=by simpa[AP]using hb
  exact .map _ _ q k λs=>by rw[h (by rw[E.map o k];exact s),E.B3 o k]
 |fn f as X J Y h1 t Z h4 M N=>
  intro x e hb;cases x<;>simp[Bc,EY]at e;rename_i f' P Q;obtain⟨rfl,rfl,rfl⟩:=e;simp[AP]at hb;refine .fn _ _ _ _ _ (by simpa using h1) (by simpa using t) (λi hi=>M i (by simpa using hi) (by simp) (Dd hb.1 i hi)) (λi hi=>N i (by simpa using hi) (by simp) (Dd hb.2 i hi))
 |agg H A C h q u=>
  intro x e hb;cases x<;>simp[Bc,EY]at e;subst e;exact .agg _ _ (by simpa using C) (λi hi=>u i (by simpa using hi) (by simp) (Dd hb i hi)) q
 |Cb H A C h u=>
  intro x e hb;cases x<;>simp[Bc,EY]at e;subst e;exact .Cb _ _ (by simpa using C) (λi hi=>u i (by simpa using hi) (by simp) (Dd hb i hi))
 |opt g x v h R u=>
  intro x e hb;cases x<;>simp[Bc]at e;obtain⟨rfl,rfl⟩:=e;exact .opt _ _ _ (λT=>u T rfl (by simpa[AP]using hb)) R
theorem HJ(ρ:Nat->Nat)(o:O){S S0:Sg}{i j:Nat}(h:S0[i]?=some o)(g:S[j]?=some (DK ρ o)):lenOf S j=lenOf S0 i/\C0 S j=C0 S0 i/\Bb S j=Bb S0 i:=by
 cases o<;>simp[lenOf,C0,Bb,h,g,DK,EY]
theorem Cl{ρ:Nat->Nat}{G0 G:Gh}{i j:Nat}(o:O)(h:G0.BB i=G.BB j):BQ G j (DK ρ o)=BQ G0 i o:=by
 cases o<;>simp[BQ,DK,h]
section
variable {P:b8} {n b:Nat} {o:Oper} {tm tm':Tm} {S S0 S0' S':Sg} {v:V}
theorem OK.Lh{ρ:Nat->Nat}{G0 G:Gh}{w:World}(E:Xy ρ G0 S0 G S){i:Nat}(hi:i<S0.length){o:O}(h:OK G S w (ρ i) (DK ρ o))(hb:Ar S0.length o=true):OK G0 S0 w i o:=by
 have t:∀b,G.I b->G0.I b:=λb=>(E.I b).2;cases o with
 |row wr sz j=>
  simp only[OK,DK,EY]at h⊢;rw[E.BB i hi,E.B3 i hi,E.cap i hi];cases C:G.BB (ρ i)with
  |none=>
   simp only[C]at h⊢;obtain⟨c,T,z,A,B,J,K⟩:=h;refine⟨c,T,z,A,by simpa using B,by simpa using J,λk q=>?_⟩;obtain⟨u,L,M,N,Q⟩:=K k (by simpa using q);exact⟨u,L.Lh E (by simp) (Dd hb k q),M,N,Q⟩
  |some a=>
   simp[C]at h⊢;obtain⟨h1,R,s,F,U⟩:=h;refine⟨h1,by simpa using R,s,?_,U.mono t λ_ _=>rfl⟩;apply un
   .have:=i6 List.length F;simpa using this
   .intro k k1 k2;have e:=i6 (·[k]?) F;have k3:k<s.length:=by simpa using k2
    simp[ci k1,ci k3]at e;have:j[k]=.d s[k]:=by
     generalize j[k]=y at e;cases y<;>simp[Bc]at e;subst e;rfl
    simpa using this
 |BY s=>
  simp[OK,DK]at h⊢;rw[E.BZ hi];exact h.mono t λ_ _=>rfl
 |map H=>
  simp[OK,DK]at h⊢;rw[E.B3 i hi];obtain⟨m,g,z,A,W,B⟩:=h;refine⟨m,g,z,by simpa using A,by simpa using W,λk q=>?_⟩;obtain⟨e,X,Y,Z,e4,e5⟩:=B k (by simpa using q);have yk:AP S0.length H[k].2=true:=cl.1 hb H[k] (by simp);exact⟨e,X,by simpa using Y.mono t λ_ _=>rfl,Z.Lh E (by simp) yk,e4,e5⟩
 |dead=>trivial
theorem OK.jm{ρ:Nat->Nat}{G0 G:Gh}{w:World}(E:Xy ρ G0 S0 G S){i:Nat}(hi:i<S0.length){o:O}(h:OK G0 S0 w i o):OK G S w (ρ i) (DK ρ o):=by
 have m:∀b,G0.I b->G.I b:=λb=>(E.I b).1;cases o with
 |row wr sz C=>
  simp only[OK,DK,EY]at h⊢;rw[E.BB i hi,E.B3 i hi,E.cap i hi]at h;cases A:G.BB (ρ i)with
  |none=>
   simp only[A]at h⊢;obtain⟨c,T,q,s,t,F,H⟩:=h;refine⟨c,T,q,s,by simpa using t,by simpa using F,λk z=>?_⟩;obtain⟨u,J,K,L,M⟩:=H k (by simpa using z);exact⟨u,by simpa using J.jm E,K,L,M⟩
  |some a=>
   simp[A]at h⊢;obtain⟨h1,N,B,rfl,Q⟩:=h;exact⟨h1,by simpa using N,B,by simp[Bc,kw],Q.mono m λ_ _=>rfl⟩
 |BY B=>
  simp[OK,DK]at h⊢;rw[E.BZ hi]at h;exact h.mono m λ_ _=>rfl
 |map es=>
  simp[OK,DK]at h⊢;rw[E.B3 i hi]at h;obtain⟨j,g,q,s,R,t⟩:=h;refine⟨j,g,q,by simpa using s,by simpa using R,λk z=>?_⟩;obtain⟨e,U,W,X,Y,Z⟩:=t k (by simpa using z);exact⟨e,U,by simpa using W.mono m λ_ _=>rfl,by simpa using X.jm E,Y,Z⟩
 |dead=>trivial
def EF(ρ:Nat->Nat)(k m:Nat):Nat->Nat:=λi=>if i<k then ρ i else m+(i - k)
structure Q0(ρ:Nat->Nat)(S S0 S0' S':Sg):Prop where
 inj:∀i j:Nat,i<S0.length->j<S0.length->ρ i=ρ j->i=j
 Hy:∀i:Nat,i<S0.length->∃o:O,S0[i]?=some o/\S[ρ i]?=some (DK ρ o)
 below:∀(i:Nat) (o:O),S0[i]?=some o->Ar S0.length o=true
 new:∀(i:Nat) (o:O),S0'[i]?=some o->S'[EF ρ S0.length S.length i]?=some (DK (EF ρ S0.length S.length) o)
 rest:∀r:Nat,r<S.length->(∀i:Nat,i<S0.length->ρ i≠r)->S'[r]?=S[r]?
 len:S'.length=S.length+(S0'.length - S0.length)
open Classical in
theorem AG.frame{f:cP}{args:List V}{v:V}(h:AG P f args S0 v S0')(ρ:Nat->Nat)(M:Q0 ρ S S0 S0' S')(hle:S0.length<=S0'.length)(hb:∀x∈args,AP S0.length x=true):
  AG P f (args.map (Bc ρ)) S (Bc (EF ρ S0.length S.length) v) S':=by
 refine⟨h.1,λG w cargs R vr vl=>?_⟩;let G0:Gh:={I:=G.I,B3:=λi=>G.B3 (ρ i),cap:=λi=>G.cap (ρ i),BB:=λi=>G.BB (ρ i)};have t:∀i,i<S0.length->lenOf S (ρ i)=lenOf S0 i/\C0 S (ρ i)=C0 S0 i/\Bb S (ρ i)=Bb S0 i:=λi hi=>by
  obtain⟨o,h1,q⟩:=M.Hy i hi;exact HJ ρ o h1 q
 have E:Xy ρ G0 S0 G S:=⟨λ_=>UV,λi hi=>by obtain⟨o,_,q⟩:=M.Hy i hi;exact AZ q,λi hi=>(t i hi).1,λi hi=>(t i hi).2.1,λi hi=>(t i hi).2.2,λ_ _=>rfl,λ_ _=>rfl,λ_ _=>rfl⟩;have H:∀k,Fy G0 S0 k->Fy G S k:=by
  rintro k ⟨i,o,h1,q,U⟩;have hi:=AZ h1;obtain⟨o',z,J⟩:=M.Hy i hi;rw[h1]at z;cases z;exact⟨ρ i,_,J,by rw[Cl (ρ:=ρ) (G0:=G0) (G:=G) (i:=i) (j:=ρ i) o rfl];exact q,U⟩
 have R0:Rel P G0 S0 w:=by
  refine⟨R.GQ,λi o Y=>?_,λi j x y W hy ox oy he=>?_,λk A=>R.nI k (H k A),R.JY,λk A=>R.HL k (H k A)⟩
  .have hi:=AZ Y;obtain⟨o',z,J⟩:=M.Hy i hi;rw[Y]at z;cases z;exact(R.DG _ _ J).Lh E hi (M.below i o Y)
  .obtain⟨x',z,J⟩:=M.Hy i (AZ W);obtain⟨y',g3,g4⟩:=M.Hy j (AZ hy);rw[W]at z;cases z;rw[hy]at g3;cases g3;exact M.inj i j (AZ W) (AZ hy) (R.inj (ρ i) (ρ j) _ _ J g4 (by rw[Cl (ρ:=ρ) (G0:=G0) (G:=G) (i:=i) (j:=ρ i) x rfl];exact ox) (by rw[Cl (ρ:=ρ) (G0:=G0) (G:=G) (i:=j) (j:=ρ j) y rfl];exact oy) he)
 refine(h.2 G0 w cargs R0 (by simpa using vr) (λi hi vo=>(vl i (by simpa using hi) vo).Lh E (by simp) (hb _ (b9 hi)))).mono ?_;rintro e w' ⟨cv,s,he,wG,Z,T0,L0⟩;let g:=EF ρ S0.length S.length;have X:∀i,i<S0.length->g i=ρ i:=λi hi=>by simp[g,EF,hi]
 have N:∀i,S0.length<=i->g i=S.length+(i - S0.length):=λi hi=>by simp[g,EF,Nat.not_lt.2 hi]
 have hinj:∀i j,i<S0'.length->j<S0'.length->g i=g j->i=j:=λi j hi hj hij=>by
  by_cases a1:i<S0.length<;>by_cases a2:j<S0.length
  .rw[X i a1,X j a2]at hij;exact M.inj i j a1 a2 hij
  .rw[X i a1,N j (by omega)]at hij;have:=E.lt i a1;omega
  .rw[N i (by omega),X j a2]at hij;have:=E.lt j a2;omega
  .rw[N i (by omega),N j (by omega)]at hij;omega
 let back (r:Nat):Option Nat:=if h:∃i,i<S0'.length/\g i=r then some h.choose else none;have zz:∀i,i<S0'.length->back (g i)=some i:=λi hi=>by
  have u:∃j,j<S0'.length/\g j=g i:=⟨i,hi,rfl⟩;have:=u.choose_spec;simp[back,u,x0];rw[hinj _ _ this.1 hi this.2]
 have hnone:∀r,(∀i,i<S0'.length->g i≠r)->back r=none:=λr hr=>by
  have:¬∃i,i<S0'.length/\g i=r:=λ⟨i,h1,q⟩=>hr i h1 q;simp[back,this,dif_neg,not_false_eq_true]
 let K:Gh:={I:=s.I,B3:=λr=>match back r with|some i=>s.B3 i|none=>G.B3 r,cap:=λr=>match back r with|some i=>s.cap i|none=>G.cap r,BB:=λr=>match back r with|some i=>s.BB i|none=>G.BB r};have gB:∀i,i<S0'.length->K.B3 (g i)=s.B3 i/\K.cap (g i)=s.cap i/\K.BB (g i)=s.BB i:=λi hi=>by simp[K,zz i hi]
 have gN:∀r,(∀i,i<S0'.length->g i≠r)->K.B3 r=G.B3 r/\K.cap r=G.cap r/\K.BB r=G.BB r:=λr hr=>by simp[K,hnone r hr]
 have get':∀i,i<S0'.length->∃o,S0'[i]?=some o/\S'[g i]?=some (DK g o):=λi hi=>⟨S0'[i],ci hi,M.new i _ (ci hi)⟩;have m:∀i,i<S0'.length->lenOf S' (g i)=lenOf S0' i/\C0 S' (g i)=C0 S0' i/\Bb S' (g i)=Bb S0' i:=λi hi=>by
  obtain⟨o,h1,q⟩:=get' i hi;exact HJ g o h1 q
 have E':Xy g s S0' K S':=⟨λ_=>UV,λi hi=>by obtain⟨o,_,q⟩:=get' i hi;exact AZ q,λi hi=>(m i hi).1,λi hi=>(m i hi).2.1,λi hi=>(m i hi).2.2,λi hi=>(gB i hi).1.symm,λi hi=>(gB i hi).2.1.symm,λi hi=>(gB i hi).2.2.symm⟩;have C:∀r x,S'[r]?=some x->(∃i,∃_:i<S0'.length,g i=r/\∃o,S0'[i]?=some o/\x=DK g o)\/(r<S.length/\(∀i,i<S0'.length->g i≠r)/\S[r]?=some x):=λr x W=>by
  by_cases u:∃i,i<S0'.length/\g i=r
  .obtain⟨i,hi,rfl⟩:=u;obtain⟨o,z,J⟩:=get' i hi;rw[J]at W;cases W;exact .inl ⟨i,hi,rfl,o,z,rfl⟩
  .have F:∀i,i<S0'.length->g i≠r:=λi hi e=>u ⟨i,hi,e⟩;have wi:r<S.length:=by
    have h1:=AZ W;rw[M.len]at h1;rcases pu r S.length with q|q
    .exact q
    .exact absurd (N (S0.length+(r - S.length)) (by omega)) (by have:=F (S0.length+(r - S.length)) (by omega);intro e;apply this;rw[e];omega)
   exact .inr ⟨wi,F,by rw[<-M.rest r wi (λi hi e=>F i (by omega) (by rw[X i hi];exact e))];exact W⟩
 have ownC:∀k,Fy K S' k->Fy s S0' k\/∃r x,(∀i,i<S0'.length->g i≠r)/\S[r]?=some x/\BQ G r x=true/\k=G.B3 r:=by
  rintro k ⟨r,x,h1,q,U⟩;rcases C r x h1 with⟨i,hi,rfl,o,z,rfl⟩|⟨wi,F,hS⟩
  .left;exact⟨i,o,z,by rw[Cl o (G0:=s) (i:=i) (gB i hi).2.2.symm]at q;exact q,by rw[U,(gB i hi).1]⟩
  .right;have hv:=gN r F;refine⟨r,x,F,hS,?_,by rw[U,hv.1]⟩;cases x<;>simp[BQ]at q⊢;rw[hv.2.2]at q;exact q
 have Q:∀r x,(∀i,i<S0'.length->g i≠r)->S[r]?=some x->BQ G r x=true->¬Fy G0 S0 (G.B3 r):=by
  rintro r x F W Y ⟨i,o,h1,q,U⟩;have hi:=AZ h1;obtain⟨o',z,J⟩:=M.Hy i hi;rw[h1]at z;cases z;have:=R.inj r (ρ i) _ _ W J Y (by rw[Cl (ρ:=ρ) (G0:=G0) (G:=G) (i:=i) (j:=ρ i) o rfl];exact q) U;exact F i (by omega) (by rw[X i hi];exact this.symm)
 have L:BL G S w K S' w':=by
  refine⟨λk A=>L0.I k A,λk A=>L0.Dz k A,by rw[M.len];omega,λr hr n' wg=>?_,λr hr hm=>?_⟩
  .by_cases u:∃i,i<S0.length/\ρ i=r
   .obtain⟨i,hi,rfl⟩:=u;have vo:i<S0'.length:=by omega
    rw[<-X i hi]at wg⊢;rw[(m i vo).1]at wg;obtain⟨n0,a1,a2,a3⟩:=L0.row i hi n' wg;refine⟨n0,by rw[X i hi,(t i hi).1];exact a1,a2,λe=>?_⟩;obtain⟨b1,b2,b3,b4⟩:=a3 e;obtain⟨c1,c2,c3⟩:=gB i vo;rw[c1,c2,c3,(m i vo).2.1,X i hi,(t i hi).2.1];exact⟨b1,b2,b3,b4⟩
   .have F:∀i,i<S0'.length->g i≠r:=λi hi e=>by
     by_cases a:i<S0.length
     .exact u ⟨i,a,by rw[<-X i a];exact e⟩
     .rw[N i (by omega)]at e;omega
    have v8:=M.rest r hr λi hi e=>u ⟨i,hi,e⟩;obtain⟨c1,c2,c3⟩:=gN r F;refine⟨n',by simpa only[lenOf,v8]using wg,br _,λ_=>⟨c1,c2,c3,.inl (by simp[C0,v8])⟩⟩
  .by_cases u:∃i,i<S0.length/\ρ i=r
   .obtain⟨i,hi,rfl⟩:=u;have vo:i<S0'.length:=by omega
    rw[<-X i hi]at hm⊢;rw[(m i vo).2.2]at hm;obtain⟨a1,a2⟩:=L0.map i hi hm;exact⟨by rw[X i hi,(t i hi).2.2];exact a1,by rw[(gB i vo).1,a2,X i hi]⟩
   .have F:∀i,i<S0'.length->g i≠r:=λi hi e=>by
     by_cases a:i<S0.length
     .exact u ⟨i,a,by rw[<-X i a];exact e⟩
     .rw[N i (by omega)]at e;omega
    have v8:=M.rest r hr λi hi e=>u ⟨i,hi,e⟩;exact⟨by simpa only[Bb,v8]using hm,(gN r F).1⟩
 have T:Tr G S w K S' w':=by
  refine⟨T0.size,λk A=>T0.I k A,λk A hn=>T0.Dz k A λY=>hn (H k Y),λk A=>?_,λk A=>?_,T0.os,T0.out⟩
  .rcases ownC k A with h1|⟨r,x,_,q,U,h4⟩
   .exact(T0.own k h1).imp (H k) id
   .exact .inl ⟨r,x,q,U,h4⟩
  .rcases T0.im k A with h1|h1|h1
   .exact .inl h1
   .exact .inr (.inl (H k h1))
   .exact .inr (.inr h1)
 refine⟨cv,K,he,wG.jm E',⟨R.GQ.later L,λr x W=>?_,λr1 r2 x1 x2 h1 q o1 o2 B=>?_,λk A=>?_,λk A=>Z.JY k A,λk A=>?_⟩,T,L⟩
 .rcases C r x W with⟨i,hi,rfl,o,z,rfl⟩|⟨wi,F,hS⟩
  .exact(Z.DG i o z).jm E' hi
  .obtain⟨c1,c2,c3⟩:=gN r F;exact(R.DG r x hS).later L (λhw=>T0.Dz _ (R.HL _ ⟨r,x,hS,hw,rfl⟩) (Q r x F hS hw)) c1 c2 c3
 .have side:∀r x,S'[r]?=some x->BQ K r x=true->(∃i,∃_:i<S0'.length,g i=r/\∃o,S0'[i]?=some o/\BQ s i o=true/\K.B3 r=s.B3 i)\/((∀i,i<S0'.length->g i≠r)/\S[r]?=some x/\BQ G r x=true/\K.B3 r=G.B3 r):=λr x W Y=>by
   rcases C r x W with⟨i,hi,rfl,o,z,rfl⟩|⟨wi,F,hS⟩
   .exact .inl ⟨i,hi,rfl,o,z,by rw[Cl o (G0:=s) (i:=i) (gB i hi).2.2.symm]at Y;exact Y,(gB i hi).1⟩
   .have hv:=gN r F;refine .inr ⟨F,hS,?_,hv.1⟩;cases x<;>simp[BQ]at Y⊢;rw[hv.2.2]at Y;exact Y
  have clash:∀i o r x,S0'[i]?=some o->BQ s i o=true->(∀i,i<S0'.length->g i≠r)->S[r]?=some x->BQ G r x=true->s.B3 i≠G.B3 r:=λi o r x z J g3 g4 g5 B=>by
   rcases T0.own _ ⟨i,o,z,J,rfl⟩with h|h
   .exact Q r x g3 g4 g5 (by rw[<-B];exact h)
   .have:=R.HL _ ⟨r,x,g4,g5,rfl⟩;omega
  rcases side r1 x1 h1 o1 with⟨i,hi,rfl,o,z,J,g3⟩|⟨z,J,g3,g4⟩
  .rcases side r2 x2 q o2 with⟨j,hj,rfl,o',k1,k2,k3⟩|⟨k1,k2,k3,k4⟩
   .rw[g3,k3]at B;rw[Z.inj i j o o' z k1 J k2 B]
   .rw[g3,k4]at B;exact absurd B (clash i o r2 x2 z J k1 k2 k3)
  .rcases side r2 x2 q o2 with⟨j,hj,rfl,o',k1,k2,k3⟩|⟨k1,k2,k3,k4⟩
   .rw[g4,k3]at B;exact absurd B.symm (clash j o' r1 x1 k1 k2 z J g3)
   .rw[g4,k4]at B;exact R.inj r1 r2 x1 x2 J k2 g3 k3 B
 .rcases ownC k A with h1|⟨r,x,h1,q,U,h4⟩
  .exact Z.nI k h1
  .intro hI;rcases T0.im k hI with a|a|a
   .exact R.nI k ⟨r,x,q,U,h4⟩ a
   .exact Q r x h1 q U (by rw[<-h4];exact a)
   .have:=R.HL k ⟨r,x,q,U,h4⟩;omega
 .rcases ownC k A with h1|⟨r,x,h1,q,U,h4⟩
  .exact Z.HL k h1
  .have:=R.HL k ⟨r,x,q,U,h4⟩;have:=T0.size;omega
end
abbrev fi:=@List.mem_cons
abbrev q7:=@not_or
abbrev zl:=@List.getElem?_set_self
abbrev NE:=@List.nodup_cons
abbrev ej:=@List.getElem?_append_left
abbrev ls:=@List.getElem?_append_right
abbrev acC:=@List.getElem?_drop
abbrev acy:=@List.length_drop
section
variable {P:b8} {n b:Nat} {o:Oper} {tm tm':Tm} {S S0 S0' S':Sg} {v:V} {ops:Array Oper} {K:Tm->Sg->Prop}
def HV(S:Sg):List Nat->List O->Sg
 |r::g,o::os=>(HV S g os).set r o
 |_,_=>S
theorem CR(S:Sg):∀(g:List Nat) (os:List O),(HV S g os).length=S.length
 |[],_=>rfl
 |_::_,[]=>rfl
 |r::g,o::os=>by simp[HV,CR S g os]
theorem I6(S:Sg){r:Nat}:∀(g:List Nat) (os:List O),r∉g->(HV S g os)[r]?=S[r]?
 |[],_,_=>rfl
 |_::_,[],_=>rfl
 |q::g,o::os,h=>by
  simp at h;simp[HV];rw[nt (le h.1),I6 S g os h.2]
theorem M7(S:Sg):∀(g:List Nat) (os:List O) (i:Nat) (h:i<g.length) (k:i<os.length),g.Nodup->(∀r∈g,r<S.length)->(HV S g os)[g[i]]?=some os[i]
 |q::g,o::os,0,_,_,_,j=>by
  simp[HV];rw[zl (by rw[CR];exact j q (by simp))]
 |q::g,o::os,i+1,h,k,m,j=>by
  simp[HV];have s:q∉g:=(NE.1 m).1;have hi:i<g.length:=by simpa using h
  have t:q≠g[i]:=λe=>s (e▸b9 hi);rw[nt t];exact M7 S g os i hi (by simpa using k) (NE.1 m).2 λr u=>j r (by simp[u])
theorem IQ{g:List Nat}(h:g.Nodup){i j:Nat}(hi:i<g.length)(hj:j<g.length)(e:g[i]=g[j]):i=j:=by
 have k:=List.pairwise_iff_getElem.1 h;rcases Nat.lt_trichotomy i j with h1|h1|h1
 .exact absurd e (k i j hi hj h1)
 .exact h1
 .exact absurd e.symm (k j i hj hi h1)
def nameOf(g:List Nat):Nat->Nat:=λi=>g.getD i 0
def C8(S S0':Sg)(g:List Nat):Sg:=
 HV S g ((S0'.take g.length).map (DK (EF (nameOf g) g.length S.length)))++(S0'.drop g.length).map (DK (EF (nameOf g) g.length S.length))
def Eg(S S0:Sg)(g:List Nat):Prop:=g.Nodup/\g.map (λr=>S[r]?)=S0.map (λo=>some (DK (nameOf g) o))/\S0.all (Ar g.length)=true
theorem AG.Eb{f:cP}{args:List V}(h:AG P f args S0 v S0')(g:List Nat)(B:Eg S S0 g)(C:g.length<=S0'.length)(hb:args.all (AP g.length)=true):
  AG P f (args.map (Bc (nameOf g))) S (Bc (EF (nameOf g) g.length S.length) v) (C8 S S0' g):=by
 obtain⟨w,z,E⟩:=B;have k:g.length=S0.length:=by have:=i6 List.length z;simpa using this
 have Df:∀i (h:i<g.length) (L:i<S0.length),S[g[i]]?=some (DK (nameOf g) S0[i]):=λi h1 F=>by
  have:=i6 (·[i]?) z;simpa[h1,F]using this
 have hn:∀i (h:i<g.length),nameOf g i=g[i]:=λi h=>by simp[nameOf,List.getD,h]
 have A:∀r∈g,r<S.length:=λr s=>by
  obtain⟨i,hi,rfl⟩:=jp.1 s;exact AZ (Df i hi (by omega))
 have M:Q0 (nameOf g) S S0 S0' (C8 S S0' g):=by
  refine⟨λi j hi hj e=>?_,λi hi=>⟨S0[i],ci hi,?_⟩,λi o m=>?_,λi o m=>?_,λr s G=>?_,?_⟩
  .rw[hn i (by omega),hn j (by omega)]at e;exact IQ w (by omega) (by omega) e
  .rw[hn i (by omega)];exact Df i (by omega) hi
  .rw[<-k];exact cl.1 E o (lw m)
  .rw[<-k];have hi:=AZ m;have t:S0'[i]=o:=by rw[ci hi]at m;simpa using m
   unfold C8;by_cases q:i<g.length
   .have u:EF (nameOf g) g.length S.length i=g[i]:=by simp[EF,q,hn i q]
    rw[u,ej (by rw[CR];exact A _ (b9 q))];rw[M7 S g _ i q (by simp;omega) w A];simp[t]
   .have u:EF (nameOf g) g.length S.length i=S.length+(i - g.length):=by simp[EF,q]
    rw[u,ls (by rw[CR];omega),CR];have:S.length+(i - g.length) - S.length=i - g.length:=by omega
    rw[this];simp only[xi,acC];have:g.length+(i - g.length)=i:=by omega
    rw[this,m];rfl
  .unfold C8;rw[ej (by rw[CR];exact s)];refine I6 S g _ λH=>?_;obtain⟨i,hi,rfl⟩:=jp.1 H;exact G i (by omega) (hn i hi)
  .unfold C8;rw[eN,CR,li,acy,k]
 have:=h.frame (nameOf g) M (by omega) (λx J=>by rw[<-k];exact cl.1 hb x J);rwa [<-k]at this
def Ch(tm:Tm)(c:Call)(f:cP)(g:List V)(h:List Nat):Prop:=
 match callee tm c with
 |some (i,args)=>i=f/\args=g.map (Bc (nameOf h))
 |none=>False
theorem AV.El{rest:List Oper}{c:Call}{f:cP}{g:List V}(h:AG P f g S0 v S0')(i:List Nat)(k:o.op=.call c)
  (m:o.guard=none/\BA n o.dst/\BE tm c/\Ch tm c f g i/\Eg S S0 i/\i.length<=S0'.length/\g.all (AP i.length)=true)
  (q:AV P n b ops rest (put tm o.dst (Bc (EF (nameOf i) i.length S.length) v)) (C8 S S0' i) K):AV P n b ops (o::rest) tm S K:=by
 obtain⟨s,t,u,j,w,z,A⟩:=m;unfold Ch at j;split at j
 .rename_i C args B;obtain⟨rfl,rfl⟩:=j;exact gl k s t B u (h.Eb i w z A) q
 .exact j.elim
end
attribute [simp] Ch Eg nameOf Bc Cn DK EF C8 HV
mutual
def JQ:V->Prop
 |.d d=>DZ d
 |.full h=>DZ (.sl h)
 |.agg g=>Hw g
 |.Cb g=>Hw g
 |_=>True
def Hw:List V->Prop
 |[]=>True
 |x::g=>JQ x/\Hw g
end
theorem H6:∀{g:List V},(∀i (h:i<g.length),JQ g[i])->Hw g
 |[],_=>trivial
 |x::g,h=>⟨h 0 (by simp),H6 λi hi=>h (i+1) (by simpa using hi)⟩
theorem eK(xs:List D):Hw (xs.map .d)↔Bs xs:=by
 induction xs with
 |nil=>simp[Hw,Bs]
 |cons x xs g=>simp[Hw,Bs,JQ,g]
theorem CV.wf{G:Gh}{S:Sg}{w:World}{x:V}{v:Value}(h:CV G S w x v):JQ x:=by
 induction h with
 |d d v h=>exact h.wf
 |full m a h=>exact h.wf
 |agg i j k h o g=>exact H6 g
 |Cb i j k h g=>exact H6 g
 |_=>trivial
def sQ:O->Prop
 |.row _ _ g=>g.length<=maxLen/\Hw g
 |.BY i=>DZ (.sl i)
 |.map h=>Bs (h.map (·.1))/\Hw (h.map (·.2))
 |.dead=>True
def OI:List O->Prop
 |[]=>True
 |o::os=>sQ o/\OI os
theorem W8:∀{g:List O},(∀i (h:i<g.length),sQ g[i])->OI g
 |[],_=>trivial
 |x::g,h=>⟨h 0 (by simp),W8 λi hi=>h (i+1) (by simpa using hi)⟩
section
variable {P:b8} {n b:Nat} {tm tm':Tm} {S S':Sg} {v:V} {Q:Exit->Tm->Sg->Prop}
theorem Rel.tT{G:Gh}{w:World}(R:Rel P G S w):OI S:=W8 λr m=>by
 have g:=R.DG r _ (ci m);generalize S[r]=o at g;cases o with
 |row K sz q=>
  simp only[OK]at g;split at g
  .obtain⟨c,T,s,t,h,z,A⟩:=g;refine⟨z,H6 λi hi=>?_⟩;obtain⟨u,B,_⟩:=A i hi;exact B.wf
  .obtain⟨_,C,E,rfl,F⟩:=g;refine⟨C,?_⟩;rw[eK];have:=F.wf;simp[DZ]at this;exact this.2
 |BY E=>exact CD.wf g
 |map L=>
  simp[OK]at g;obtain⟨k,j,s,t,_,h⟩:=g;refine⟨Le λi hi=>?_,H6 λi hi=>?_⟩
  .obtain⟨e,_,H,_⟩:=h i (by simpa using hi);simpa using H.wf
  .obtain⟨e,_,_,J,_⟩:=h i (by simpa using hi);simpa using J.wf
 |dead=>trivial
def Au(S:Sg)(x v:V):Prop:=x=v\/∃d,Ba S x=some d/\v=.d d
def sP(P:b8)(n b:Nat)(h:List ResultVar)(v:V)(S':Sg):Exit->Tm->Sg->Prop
 |.normal,tm,S|.ret,tm,S=>∃g,AJ P n b tm S g S'/\J6 P g S' h/\Au S' (Lc P g S' h) v
 |_,_,_=>False
theorem AG.AK{f:cP}{fn:Func}{c:Code}{args:List V}(B:P.funcs[f]?=some fn)(C:(fn.name== "runtime.NumGoroutine")=false)(hb:fn.body=some c)(hn:args.length<=fn.ntmps)
  (h:Hw args->OI S->AW P fn.ntmps S.length c (sP P fn.ntmps S.length fn.results.toList v S') (E3 args) S):AG P f args S v S':=by
 refine AG.intro B C hb hn (AW.assume (p:=Hw args/\OI S) (λG w a st=>⟨H6 λi hi=>?_,st.rel.tT⟩) λt=>(h t.1 t.2).mono λE tm u o=>?_)
 .have:=st.tm i;have e:E3 args i=args[i]:=by simp[E3,List.getD,hi]
  rw[e]at this;exact this.wf
 .have key:(∃j,AJ P fn.ntmps S.length tm u j S'/\J6 P j S' fn.results.toList/\Au S' (Lc P j S' fn.results.toList) v)->∃j m,AJ P fn.ntmps S.length tm u j m/\J6 P j m fn.results.toList/\∀G w a,St P fn.ntmps G m w a j->S.length<=m.length->∃s z k,(∀cv,CV G m w (Lc P j m fn.results.toList) cv->CV s k w z cv)/\Rel P s k w/\Tr G m w s k w/\E7 S.length G m s k/\z=v/\k=S':=by
   rintro⟨j,g,h1,q⟩;refine⟨j,S',g,h1,λG w a st F=>⟨G,v,S',λcv A=>?_,st.rel,yL _ _ _,GT F,rfl,rfl⟩⟩;rcases q with q|⟨d,q,H⟩
   .rw[<-q];exact A
   .rw[H];exact .jO (A.Ba st.rel q)
  cases E with
  |normal=>exact key o
  |ret=>exact key o
  |exit=>exact o.elim
  |goto=>exact o.elim
  |panic=>exact o.elim
  |outgrown=>exact o.elim
abbrev md:=@AG.AK
end
attribute [simp] Sj ln
mutual
theorem Iq(ρ:Nat->Nat):∀(x:V),AP 0 x=true->Bc ρ x=x
 |.row r n,h=>by simp[AP]at h
 |.ptr r n i j,h=>by simp[AP]at h
 |.map r,h=>by simp[AP]at h
 |.fn f as m,h=>by
  simp only[AP,bi]at h;simp only[Bc];rw[GS ρ as h.1,GS ρ m h.2]
 |.agg k,h=>by simp only[AP]at h;simp only[Bc];rw[GS ρ k h]
 |.Cb k,h=>by simp only[AP]at h;simp only[Bc];rw[GS ρ k h]
 |.opt g v,h=>by simp only[AP]at h;simp only[Bc];rw[Iq ρ v h]
 |.any,_=>by simp[Bc]
 |.d _,_=>by simp[Bc]
 |.full _,_=>by simp[Bc]
 |.DX _,_=>by simp[Bc]
theorem GS(ρ:Nat->Nat):∀(g:List V),Aw 0 g=true->Cn ρ g=g
 |[],_=>by simp[Cn]
 |x::g,h=>by
  simp only[Aw,bi]at h;simp only[Cn];rw[Iq ρ x h.1,GS ρ g h.2]
end
abbrev acU:=@List.nodup_nil
section
variable {P:b8} {n b:Nat} {o:Oper} {tm tm':Tm} {S S':Sg} {v:V} {ops:Array Oper} {K:Tm->Sg->Prop}
theorem AG.So{f:cP}{args:List V}(h:AG P f args [] v [])(g:AP 0 v=true)(hb:args.all (AP 0)=true):AG P f args S v S:=by
 have h1:=h.Eb (S:=S) [] ⟨acU,rfl,rfl⟩ (by simp) hb;have i:args.map (Bc (nameOf []))=args:=by
  have:∀x∈args,Bc (nameOf []) x=x:=λx j=>Iq _ x (cl.1 hb x j);conv=>rhs;rw[<-List.map_id args]
  exact rr this
 have k:C8 S [] []=S:=by simp[C8,HV]
 rw[i,k,Iq _ v g]at h1;exact h1
def FF(tm:Tm)(c:Call)(f:cP)(args:List V):Prop:=
 match callee tm c with
 |some (h,g)=>h=f/\g=args
 |none=>False
theorem FI{c:Call}{f:cP}{args:List V}(h:FF tm c f args):callee tm c=some (f,args):=by
 unfold FF at h;split at h
 .rename_i j g i;obtain⟨rfl,rfl⟩:=h;exact i
 .exact h.elim
theorem AV.Xj{rest:List Oper}{c:Call}{f:cP}{args:List V}(h:AG P f args [] v [])(g:o.op=.call c)
  (i:o.guard=none/\BA n o.dst/\BE tm c/\FF tm c f args/\args.all (AP 0)=true/\AP 0 v=true) (j:AV P n b ops rest (put tm o.dst v) S K):AV P n b ops (o::rest) tm S K:=by
 obtain⟨k,m,q,s,t,u⟩:=i;exact gl g k m (FI s) q (h.So u t) j
theorem AV.WJ{rest:List Oper}{c:Call}{f:cP}{args:List V}{j:Nat}{i g:Bool}(k:o.op=.call c)(m:o.guard=some (j,i))(q:CW ops tm j i=some g)
  (h:g=true->AG P f args [] v []) (s:BA n o.dst/\(g=true->BE tm c/\FF tm c f args/\args.all (AP 0)=true/\AP 0 v=true))
  (t:AV P n b ops rest (put tm o.dst (HP g v)) S K):AV P n b ops (o::rest) tm S K:=by
 obtain⟨u,w⟩:=s;exact AV.Li k m u q (λe=>by obtain⟨z,A,B,C⟩:=w e;exact⟨FI A,z,(h e).So C B⟩) t
theorem Ag.Xj{B:List (Nat×(Sg->Prop))}{i:Nat}{rest:List (Nat×Bool×Oper)}{c:Call}{f:cP}{args:List V}(h:AG P f args [] v [])(g:o.op=.call c)
  (j:o.guard=none/\BA n o.dst/\BE tm c/\FF tm c f args/\args.all (AP 0)=true/\AP 0 v=true) (k:Ag P n b ops ((i,λS'=>S'=S)::B) rest (put tm o.dst v) S K):Ag P n b ops B ((i,true,o)::rest) tm S K:=by
 obtain⟨m,q,s,t,u,w⟩:=j;exact o4 (λS'=>S'=S) rfl (λhi S' hS=>by subst hS;exact wd hi g m q (FI t) s (h.So w u)) k
theorem AJ.BB(t sz:Nat){xs:List D}(i:tm t=.full xs):AJ P n b tm S (FP tm t (.row S.length xs.length)) (S++[.row false sz (xs.map .d)]):=λG w a st hb=>by
 have h1:=st.tm t;rw[i]at h1;generalize j:a.tmps.getD t undef=X at h1;cases h1 with
 |full _ base g=>
  obtain⟨r1,r2,h⟩:=st.rel.MS sz xs base g.len g;refine⟨_,⟨st.size,λk=>?_,r1⟩,r2,h.late hb⟩;unfold FP;by_cases e:k=t
  .subst e;rw[ap rfl,j];refine .row _ _ _ rfl (by simp) λm q=>?_;have:m=xs.length:=by simpa[lenOf]using q.symm
   subst this;exact⟨br _,λ_=>by simp[Gh.BZ,Gh.at]⟩
  .rw[ao e];exact(st.tm k).later h
abbrev ll:=@AJ.BB
end
attribute [simp] FF
section
variable {P:b8} {n b:Nat} {o:Oper} {tm tm':Tm} {S S':Sg} {v:V} {ops:Array Oper} {K:Tm->Sg->Prop}
def Ln:Nat->List (Nat×V)->Prop
 |_,[]=>True
 |k,p::g=>p.1=k/\Ln (k+1) g
theorem Nx:∀{g:List (Nat×V)} {k:Nat},Ln k g->∀i (h:i<g.length),g[i].1=k+i
 |p::g,k,h,0,_=>h.1
 |p::g,k,h,i+1,hi=>by
  have:=Nx h.2 i (by simpa using hi);simp;omega
theorem Tt{T E:TypeId}{len:Nat}{parts:Array (Nat×Operand)}{t e:TI}{z:Value}(N:o.op=.buildSlice T len parts)(Q:ti P T=some t)(A:t.kind=.slice E)
  (J:ti P E=some e) (R:e.zero=some z) (hn:∀p∈parts.toList,need (ev tm p.2)) (g:parts.size=len)
  (U:Ln 0 (Cv tm parts)) (hs:FD e.size (Cv tm parts))
  (hm:len * e.size<=2 ^ 24) (B:len<=maxLen):Cf P n o tm S (.row S.length len) (S++[.row true e.size ((Cv tm parts).map (·.2))]):=.val λG w a st=>by
 obtain⟨d,W,C⟩:=An Q w;have F:d=.slice E:=by rw[A]at C;cases d<;>simp[tk]at C⊢;exact C
 subst F;have M:∀i (h:i<parts.size),CV G S w (strip (ev tm parts[i].2)) (a.eval parts[i].2):=λi hi=>(BV st _).strip (hn _ (by simp));have H:∀i (h:i<parts.size),(a.eval parts[i].2).cells.size=e.size/\∀x∈(a.eval parts[i].2).cells,one x=true:=λi hi=>by
  have:=Jg _ hs i (by simpa[Cv]using hi);simp only[Cv,kt,tg]at this;obtain⟨c1,X,_⟩:=(M i hi).cells (by simpa using this.2);refine⟨by omega,λx Y=>?_⟩;obtain⟨k,A,rfl⟩:=EQ.1 Y;exact X k A
 let s:Array Value:=if len * e.size=0 then #[]else z.cells;let base:Array Value:=(Array.range (len * e.size)).map (s[·% s.size]!);obtain⟨Z,u,e2,e3,_⟩:=RE (size:=e.size) (len:=len) (parts.toList.map λp=>(p.1,a.eval p.2)) 0 base (by simp[base]) (by simp[g]) (λi hi=>by
  have m:i<parts.size:=by simpa using hi
  simp only[kt,tg];have:=Nx U i (by simpa[Cv]using m);simp only[Cv,kt,tg]at this;exact⟨this,(H i m).1⟩)
 obtain⟨r1,r2,r3⟩:=st.rel.add len (.row true e.size ((Cv tm parts).map (·.2))) (.cells Z E (0,0)) (λL=>by
  have hv:(G.at S.length w.heap.size len none).BB S.length=none:=by simp[Gh.at]
  have yk:(G.at S.length w.heap.size len none).B3 S.length=w.heap.size:=by simp[Gh.at]
  have zg:(G.at S.length w.heap.size len none).cap S.length=(len,0):=by simp[Gh.at]
  simp only[OK,hv,yk,zg];refine⟨_,E,D2,by rw[e2];simp[base],by simp[Cv,g],by simp[Cv,g];exact B,λi hi=>?_⟩;have m:i<parts.size:=by simpa[Cv]using hi
  refine⟨a.eval parts[i].2,by simpa[Cv]using(M i m).later L,(H i m).1,(H i m).2,λj hj=>?_⟩;have:=e3 i (by simpa using m) j hj;simpa using this)
 refine⟨.slice (some ⟨w.heap.size,0,none⟩) len len,_,_,?_,?_,r1,r2,r3⟩
 .simp only[execOp,N,Instr.buildSlice,gI,W,ge,Bi J];rw[ao (by omega)];simp only[base]at u;by_cases h0:len * e.size=0
  .have q:s=#[]:=by simp[s,h0]
   rw[q]at u;simp only[ap h0,gI,l6,ge,acR,u];simp[newRow,Bn]
  .have q:s=z.cells:=by simp[s,h0]
   rw[q]at u;simp only[ao h0,gI,EH J w R,l6,ge,acR,u];simp[newRow,Bn]
 .refine .row _ _ _ rfl (by simp) λm' wO=>?_;have:m'=len:=by simpa[lenOf,Cv,g]using wO.symm
  subst this;exact⟨br _,λ_=>by simp[Gh.BZ,Gh.at]⟩
theorem AV.Zt{rest:List Oper}(g:o.guard=none/\BA n o.dst)(h:Cf P n o tm S v S')(i:AV P n b ops rest (put tm o.dst v) S' K):AV P n b ops (o::rest) tm S K:=
 Do (λ_ hi=>AC hi g.2 g.1 h) i
def NI(P:b8)(T:TypeId)(len:Nat)(parts:Array (Nat×Operand))(tm:Tm):Prop:=
 JD tm parts.toList/\parts.size=len/\Ln 0 (Cv tm parts)/\len<=maxLen/\(match As P T with|some E=>(match Aq P E with|some s=>(Ax P E).isSome=true/\FD s (Cv tm parts)/\len * s<=2 ^ 24|none=>False)|none=>False)
theorem Lb{T:TypeId}{len:Nat}{parts:Array (Nat×Operand)}(m:o.op=.buildSlice T len parts)(h:NI P T len parts tm):
  Cf P n o tm S (.row S.length len) (S++[.row true (Kp P T) ((Cv tm parts).map (·.2))]):=by
 obtain⟨h1,q,w,A,g⟩:=h;split at g
 .rename_i E i;split at g
  .rename_i s j;obtain⟨g,B,C⟩:=g;obtain⟨t,F,G⟩:=BJ i;obtain⟨e,f1,f2,_⟩:=CM j;obtain⟨z,H⟩:=jw.1 g;obtain⟨L,u,k,J,M⟩:=Eo H;rw[f1]at k;cases k;simp only[Kp,i,adx,j,ut];subst f2;exact Tt m F G f1 J (I8 h1) q w B C A
  .exact g.elim
 .exact g.elim
theorem AV.Ii{rest:List Oper}{T:TypeId}{len:Nat}{parts:Array (Nat×Operand)}(h:o.op=.buildSlice T len parts)(g:o.guard=none/\BA n o.dst/\NI P T len parts tm)
  (i:AV P n b ops rest (put tm o.dst (.row S.length len)) (S++[.row true (Kp P T) ((Cv tm parts).map (·.2))]) K):AV P n b ops (o::rest) tm S K:=
 AV.Zt ⟨g.1,g.2.1⟩ (Lb h g.2.2) i
end
attribute [simp] NI Ln
abbrev df:=@List.getElem?_eq_some_iff
abbrev ac3:=@List.getElem_set_self
section
variable {P:b8} {n b:Nat} {o:Oper} {tm tm':Tm} {S S':Sg} {v:V} {ops:Array Oper} {K:Tm->Sg->Prop} {Q:Exit->Tm->Sg->Prop}
def BP(P:b8)(f:cP)(args:List V)(S:Sg)(R:V->Sg->Prop):Prop:=
 OO P f=true/\∀G w (g:Array Value),Rel P G S w->g.size=args.length->(∀i (h:i<args.length) (m:i<g.size),CV G S w args[i] g[i])->Calls P f g w λe j=>∃cv k v S',R v S'/\e=.returned cv/\CV k S' j v cv/\Rel P k S' j/\Tr G S w k S' j/\BL G S w k S' j
theorem AG.sY{f:cP}{args:List V}(h:AG P f args S v S'):BP P f args S λu T=>u=v/\T=S':=
 ⟨h.1,λG w g R i ha=>(h.2 G w g R i ha).mono λ_ _ ⟨cv,j,h1,k,m,q,s⟩=>⟨cv,j,v,S',⟨rfl,rfl⟩,h1,k,m,q,s⟩⟩
theorem BP.mono{f:cP}{args:List V}{R i:V->Sg->Prop}(h:BP P f args S R)(j:∀v S',R v S'->i v S'):BP P f args S i:=
 ⟨h.1,λG w g r k ha=>(h.2 G w g r k ha).mono λ_ _ ⟨cv,m,v,S',h0,h1⟩=>⟨cv,m,v,S',j _ _ h0,h1⟩⟩
theorem AV.O7{rest:List Oper}{c:Call}{f:cP}{args:List V}{R:V->Sg->Prop}(ho:o.op=.call c)(hg:o.guard=none)(hd:BA n o.dst)(m:callee tm c=some (f,args))(hn:BE tm c)
  (h:BP P f args S R) (E:∀v S',R v S'->AV P n b ops rest (put tm o.dst v) S' K):AV P n b ops (o::rest) tm S K:=λk U G w a Q st hb hq=>by
 have h0:ops[k]?=some o:=by simpa using(U 0).symm
 simp only[ea,xj];rw[vj];unfold wpOp;simp only[h0,Region.wanted,hg,er];left;have key:∀(next:Act->World->Prop),(∀cv g q v S',R v S'->CV q S' g v cv->Rel P q S' g->Tr G S w q S' g->BL G S w q S' g->next (a.put o.dst cv) g)->o.wp P a w next Q:=λnext t=>by
  obtain⟨s,h⟩:=h;unfold callee at m;obtain⟨W,yj⟩:=hn;cases A:c.callee with
  |value x=>
   simp only[A]at m W;have F:=(BV st x).strip W;split at m
   .rename_i k' first Y H
    simp only[fd,GE]at m;obtain⟨B,Z⟩:=m;subst B;subst Z;rw[H]at F;generalize hX:a.eval x=X at F;cases F with
    |fn _ _ _ xs ys h1 E h3 h4=>
     unfold OO at s;have vl:=h G w (xs++c.args.map a.eval++ys) st.rel (by simp[h1,E]) (λi hi vo=>by
      by_cases B:i<first.length
      .rw[lg (by simp;omega),lg B];rw[ww (by simp;omega),ww (by omega)];exact h3 i B
      .by_cases Z:i<first.length+c.args.size
       .rw[lg (by simp;omega),rg (by omega)];rw[ww (by simp;omega),Hh (by omega)];simp only[kt,adn,tg,h1];exact(BV st _).strip (IP yj _ (by simp))
       .simp only[eN,li,x3]at hi;rw[rg (by simp;omega)];rw[Hh (by simp;omega)];simp only[eN,li,x3,X7,adV,h1];exact h4 _ (by omega))
     unfold Oper.wp;have vm:(execOp a.eval o).run P w=.ok (.enter k' (xs++c.args.map a.eval++ys)) w:=by
      split at s
      .rename_i fn u;simp only[bi,mp,acO,ne_eq]at s;obtain⟨b,hb⟩:=jw.1 s.2;simp[execOp,ho,resolve,A,hX,Deferred.ofValue,invoke,callFunc,u,s.1,hb]
      .cases s
     rw[vm];simp only[Oper.upon];exact vl.mono λe g ⟨cv,q,v,S',J,he,L,M,N,z⟩=>by subst he;exact t cv g q v S' J L M N z
   .cases m
  |invoke=>simp[A]at m
  |builtin=>simp[A]at m
 refine key _ λcv g q v S' J L M N z=>?_;refine E v S' J (k+1) (λj=>by have:=U (j+1);simp only[of]at this;rw[this];congr 1;omega) q g _ Q (st.put hd L M z) (z.late hb).len λa2 w2 hh=>?_;obtain⟨G2,S2,T,C,hK⟩:=hh;exact hq a2 w2 ⟨G2,S2,T,⟨C.st,C.ds.trans B8,N.trans C.tr,(z.late hb).trans C.late⟩,hK⟩
theorem AJ.gF(t i sz:Nat){g:List V}{xs:List D}(A:tm t=.agg g)(hi:g[i]?=some (.full xs)):AJ P n b tm S (FP tm t (.agg (g.set i (.row S.length xs.length)))) (S++[.row false sz (xs.map .d)]):=λG w a st hb=>by
 have h1:=st.tm t;rw[A]at h1;generalize B:a.tmps.getD t undef=X at h1;cases h1 with
 |agg _ C E h F=>
  obtain⟨H,m⟩:=df.1 hi;have q:=h i H;rw[m]at q;generalize J:C[i]'(by omega)=Y at q;cases q with
  |full _ base u=>
   obtain⟨r1,r2,s⟩:=st.rel.MS sz xs base u.len u;refine⟨_,⟨st.size,λk=>?_,r1⟩,r2,s.late hb⟩;unfold FP;by_cases e:k=t
   .subst e;rw[ap rfl,B];refine .agg _ _ (by simp[E]) (λj hj=>?_) F;by_cases z:j=i
    .subst z;simp only[ac3,J];refine .row _ _ _ rfl (by simp) λL M=>?_;have:L=xs.length:=by simpa[lenOf]using M.symm
     subst this;exact⟨br _,λ_=>by simp[Gh.BZ,Gh.at]⟩
    .rw[acs (λh=>z h.symm)];exact(h j (by simpa using hj)).later s
   .rw[ao e];exact(st.tm k).later s
def RV(S:Sg)(x y:V):Prop:=y=x\/y=.any\/∃d,Ba S x=some d/\y=.d d
def XM(S:Sg):List V->List V->Prop
 |[],[]=>True
 |x::g,y::h=>RV S x y/\XM S g h
 |_,_=>False
def Xv(S:Sg)(x y:V):Prop:=RV S x y\/∃g h,x=.agg g/\y=.agg h/\XM S g h
def XA(S:Sg):List V->List V->Prop
 |[],[]=>True
 |x::g,y::h=>Xv S x y/\XA S g h
 |_,_=>False
theorem PC{G:Gh}{w:World}(R:Rel P G S w){x y:V}{v:Value}(h:RV S x y)(g:CV G S w x v):CV G S w y v:=by
 rcases h with rfl|rfl|⟨d,h,rfl⟩
 .exact g
 .exact .any _
 .exact .jO (g.Ba R h)
theorem Y5{xs g:List V}(h:XM S xs g):g.length=xs.length/\∀i (hi:i<xs.length) (j:i<g.length),RV S xs[i] g[i]:=by
 induction xs generalizing g with
 |nil=>cases g with
  |nil=>exact⟨rfl,λi hi=>by simp at hi⟩
  |cons=>exact h.elim
 |cons x xs k=>cases g with
  |nil=>exact h.elim
  |cons y g=>
   obtain⟨h1,m⟩:=h;obtain⟨q,s⟩:=k m;refine⟨by simp[q],λi hi j=>?_⟩;cases i with
   |zero=>exact h1
   |succ i=>exact s i (by simpa using hi) (by simpa using j)
theorem cV{G:Gh}{w:World}(R:Rel P G S w){x y:V}{v:Value}(h:Xv S x y)(g:CV G S w x v):CV G S w y v:=by
 rcases h with h|⟨q,s,rfl,rfl,h⟩
 .exact PC R h g
 .cases g with
  |agg _ t u j k=>
   obtain⟨z,m⟩:=Y5 h;exact .agg _ _ (by omega) (λi hi=>PC R (m i (by omega) hi) (j i (by omega))) k
theorem Z2{xs g:List V}(h:XA S xs g):g.length=xs.length/\∀i (hi:i<xs.length) (j:i<g.length),Xv S xs[i] g[i]:=by
 induction xs generalizing g with
 |nil=>cases g with
  |nil=>exact⟨rfl,λi hi=>by simp at hi⟩
  |cons=>exact h.elim
 |cons x xs k=>cases g with
  |nil=>exact h.elim
  |cons y g=>
   obtain⟨h1,m⟩:=h;obtain⟨q,s⟩:=k m;refine⟨by simp[q],λi hi j=>?_⟩;cases i with
   |zero=>exact h1
   |succ i=>exact s i (by simpa using hi) (by simpa using j)
theorem AJ.NJ(r:Nat){sz:Nat}{els:List V}(els':List V)(s:S[r]?=some (.row true sz els))(J:XA S els els'):AJ P n b tm S tm (S.set r (.row true sz els')):=λG w a st hb=>by
 have R:=st.rel;have M:=AZ s;obtain⟨N,U⟩:=Z2 J;have Df:(S.set r (.row true sz els'))[r]?=some (.row true sz els'):=by simp[M]
 have t:∀g,g≠r->(S.set r (.row true sz els'))[g]?=S[g]?:=λg h=>by simp[nt (le h)]
 have el:∀g,lenOf (S.set r (.row true sz els')) g=lenOf S g:=λg=>by
  by_cases e:g=r
  .subst e;simp[lenOf,Df,s,N]
  .simp only[lenOf,t g e]
 have W:∀g,C0 (S.set r (.row true sz els')) g=C0 S g:=λg=>by
  by_cases e:g=r
  .subst e;simp[C0,Df,s]
  .simp only[C0,t g e]
 have em:∀g,Bb (S.set r (.row true sz els')) g=Bb S g:=λg=>by
  by_cases e:g=r
  .subst e;simp[Bb,Df,s]
  .simp only[Bb,t g e]
 have L:BL G S w G (S.set r (.row true sz els')) w:=
  ⟨λ_ h=>h,λ_ _=>rfl,by simp,λg _ X Y=>⟨X,by rw[<-el];exact Y,br _,λ_=>⟨rfl,rfl,rfl,.inl (W g)⟩⟩,λg _ Z=>⟨by rw[<-em];exact Z,rfl⟩⟩
 have own:∀g x,(S.set r (.row true sz els'))[g]?=some x->∃B,S[g]?=some B/\BQ G g B=BQ G g x:=λg x C=>by
  by_cases e:g=r
  .subst e;rw[Df]at C;cases C;exact⟨_,s,rfl⟩
  .rw[t g e]at C;exact⟨x,C,rfl⟩
 have j:∀k,Fy G (S.set r (.row true sz els')) k->Fy G S k:=by
  rintro k ⟨g,x,h1,F,h3⟩;obtain⟨B,u,z⟩:=own g x h1;exact⟨g,B,u,by rw[z];exact F,h3⟩
 refine⟨G,⟨st.size,st.tm.later L,⟨R.GQ.later L,λg x E=>?_,λr1 r2 x1 x2 h1 F o1 o2 he=>?_,λk m=>R.nI k (j k m),R.JY,λk m=>R.HL k (j k m)⟩⟩,⟨br _,λ_ h=>h,λ_ _ _=>rfl,λk m=>.inl (j k m),λk m=>.inl m,rfl,rfl⟩,L.late hb⟩
 .by_cases e:g=r
  .subst e;rw[Df]at E;cases E;have A:=R.DG g _ s;simp only[OK]at A⊢;cases H:G.BB g with
   |none=>
    simp only[H]at A⊢;obtain⟨c,T,u,z,g3,g4,g5⟩:=A;refine⟨c,T,u,z,by omega,by omega,λi hi=>?_⟩;obtain⟨v,k1,k2,k3,k4⟩:=g5 i (by omega);exact⟨v,(cV R (U i (by omega) hi) k1).later L,k2,k3,k4⟩
   |some q=>simp only[H]at A;exact absurd A.1 (by simp)
  .rw[t g e]at E;exact(R.DG g x E).later L (λ_=>rfl) rfl rfl rfl
 .obtain⟨y1,u,p1⟩:=own r1 x1 h1;obtain⟨y2,z,p2⟩:=own r2 x2 F;exact R.inj r1 r2 y1 y2 u z (by rw[p1];exact o1) (by rw[p2];exact o2) he
end
attribute [simp] RV XM Xv XA
end Go.Koi
