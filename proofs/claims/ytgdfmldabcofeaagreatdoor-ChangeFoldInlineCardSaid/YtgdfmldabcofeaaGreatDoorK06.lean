/-
  Part 7 of the proof that the law ChangeFoldInline returns true for every input.
-/
import Derived.Test.YtgdfmldabcofeaaGreatDoorK05
import Derived.Scope
set_option maxHeartbeats 64000000
set_option maxRecDepth 100000
namespace Go.Koi
open Go renaming FuncId->cP
abbrev qs:=@List.cons_append
abbrev su:=@List.map_append
abbrev rt:=@List.nodup_append
abbrev zN:=@List.map_nil
abbrev cR:=@List.mem_singleton
section
variable {α β:Type} [DecidableEq α]
def Bg(ek:α->D)(ev:β->V)(l:List (α×β)):List (D×V):=l.map λp=>(ek p.1,ev p.2)
def look(l:List (α×β))(k:α):Option β:=(l.find? λp=>decide (p.1=k)).map (·.2)
def C9(l:List (α×β))(k:α)(x:β):List (α×β):=
 if(look l k).isSome then l.map λp=>if p.1=k then(p.1,x)else p else l++[(k,x)]
@[simp] theorem sV(k:α):look ([]:List (α×β)) k=none:=rfl
theorem Cx(p:α×β)(l:List (α×β))(k:α):look (p::l) k=if p.1=k then some p.2 else look l k:=by
 unfold look;rw[List.find?_cons];by_cases h:p.1=k<;>simp[h]
theorem UP(l m:List (α×β))(k:α):look (l++m) k=(look l k).or (look m k):=by
 induction l with
 |nil=>simp
 |cons p l g=>rw[qs,Cx,Cx,g];split<;>simp
theorem dm(l:List (α×β))(k:α)(x:β)(j:α):look (l.map λp=>if p.1=k then(p.1,x)else p) j=if j=k then(look l k).map λ_=>x else look l j:=by
 induction l with
 |nil=>simp
 |cons p l g=>
  rw[eP,Cx,g];by_cases h:p.1=k
  .subst h;rw[Cx];simp;by_cases e:p.1=j
   .subst e;simp
   .simp[e,Cx];rw[ao (λh=>e h.symm)];rw[ao (λh=>e h.symm)]
  .simp[h,Cx];by_cases e:p.1=j
   .subst e;simp[h]
   .simp[e]
theorem FR(l:List (α×β))(k:α)(x:β)(j:α):look (C9 l k x) j=if j=k then some x else look l j:=by
 unfold C9;split
 .next h=>
  rw[dm];split
  .obtain⟨y,g⟩:=jw.1 h;simp[g]
  .rfl
 .next h=>
  rw[UP,Cx];have hn:look l k=none:=by simpa using h
  by_cases e:j=k
  .subst e;simp[hn]
  .have i:¬k=j:=λh=>e h.symm;simp[e,i]
theorem L3{l:List (α×β)}{k:α}(x:β)(h:look l k=none):C9 l k x=l++[(k,x)]:=by simp[C9,h]
theorem Gk{l:List (α×β)}{k:α}{x:β}(h:look l k=some x):(k,x)∈l:=by
 unfold look at h;simp only[wL]at h;obtain⟨p,h1,g⟩:=h;have:=List.find?_some h1;simp at this;subst this;subst g;exact List.mem_of_find?_eq_some h1
theorem RW{l:List (α×β)}{k:α}:look l k=none↔k∉l.map (·.1):=by
 induction l with
 |nil=>simp
 |cons p l g=>
  rw[Cx];by_cases h:p.1=k
  .subst h;simp
  .simp only[h,fc,g,eP,fi,q7];exact⟨λa=>⟨λe=>h e.symm,a⟩,λa=>a.2⟩
def Keyed(l:List (α×β)):Prop:=(l.map (·.1)).Nodup
theorem Keyed.nil{α β:Type}:Keyed ([]:List (α×β)):=acU
theorem Keyed.C9{l:List (α×β)}(h:Keyed l)(k:α)(x:β):Keyed (C9 l k x):=by
 unfold Koi.C9 Keyed;split
 .have:(l.map λp=>if p.1=k then(p.1,x)else p).map (·.1)=l.map (·.1):=by
   rw[kv];apply rr;intro p _;simp[Function.comp];split<;>rfl
  rw[this];exact h
 .next hn=>
  rw[su,rt];refine⟨h,by simp,?_⟩;intro a ha b hb e;simp at hb;subst e;subst hb;exact(RW.1 (by simpa using hn)) ha
theorem Keyed.look{l:List (α×β)}(h:Keyed l){k:α}{x:β}(g:(k,x)∈l):Koi.look l k=some x:=by
 induction l with
 |nil=>simp at g
 |cons p l i=>
  rw[Cx];unfold Keyed at h;rw[eP,NE]at h;rcases fi.1 g with e|e
  .subst e;simp
  .have:p.1≠k:=λj=>h.1 (by rw[j];exact eo.2 ⟨_,e,rfl⟩);rw[ao this];exact i h.2 e
variable {ek:α->D} {ev:β->V}
theorem F2(h:∀a b,De (ek a) (ek b)=decide (a=b))(l:List (α×β))(k:α):DF (Bg ek ev l) (ek k)=(look l k).map ev:=by
 unfold DF Bg look;rw[List.find?_map];have:((λp:D×V=>De p.1 (ek k)) ∘ λp:α×β=>(ek p.1,ev p.2))=λp=>decide (p.1=k):=by
  funext p;simp[h]
 rw[this];cases l.find? (λp=>decide (p.1=k))<;>rfl
theorem EZ(h:∀a b,De (ek a) (ek b)=decide (a=b))(l:List (α×β))(k:α)(x:β):Ek (Bg ek ev l) (ek k) (ev x)=Bg ek ev (C9 l k x):=by
 unfold Ek C9;rw[F2 h];have:((look l k).map ev).isSome=(look l k).isSome:=by cases look l k<;>rfl
 rw[this];split
 .unfold Bg;rw[kv,kv];apply rr;intro p _;simp[Function.comp,h];by_cases e:p.1=k<;>simp[e]
 .simp[Bg]
theorem E9{α β:Type}{ek:α->D}{ev:β->V}{kk:KK}(h:∀a,B7 kk (ek a)=true)(l:List (α×β)):Bj kk (Bg ek ev l):=by
 apply Nu;intro p g;simp only[Bg,eo]at g;obtain⟨q,_,rfl⟩:=g;exact h _
theorem Vj{α β:Type}{ek:α->D}{ev:β->V}{k:Nat}(h:∀x,AP k (ev x)=true)(l:List (α×β)):(Bg ek ev l).all (λe=>AP k e.2)=true:=by
 rw[cl];intro p g;simp only[Bg,eo]at g;obtain⟨q,_,rfl⟩:=g;exact h _
end
section
variable {β:Type} {ev:β->V}
@[simp] theorem qU(l:List (Int×β))(k:Int):DF (Bg (D.int .i64) ev l) (.int .i64 k)=(look l k).map ev:=F2 (by intro a b;rw[eg];simp[De]) l k
@[simp] theorem sH(l:List (Int×Int))(k x:Int):Ek (Bg (D.int .i64) (λx=>.d (.int .i64 x)) l) (.int .i64 k) (.d (.int .i64 x))=Bg (D.int .i64) (λx=>.d (.int .i64 x)) (C9 l k x):=EZ (ev:=λx=>V.d (.int .i64 x)) (by intro a b;rw[eg];simp[De]) l k x
@[simp] theorem mR(l:List (Int×β)):Bj (.one (.int .i64)) (Bg (D.int .i64) ev l)=True:=eq_true (E9 (by intro a;simp[B7,CN]) l)
@[simp] theorem qW{α:Type}{ek:α->D}{k:Nat}(g:β->D)(l:List (α×β)):(Bg ek (λx=>V.d (g x)) l).all (λe=>AP k e.2)=true:=by
 rw[cl];intro p h;simp only[Bg,eo]at h;obtain⟨q,_,rfl⟩:=h;rfl
end
abbrev adq:=@Bool.and_assoc
abbrev ac8:=@List.pairwise_map
section
variable {P:Program} {n b:Nat} {o:Oper} {tm tm':Tm} {S S0 S0' S':Sg} {v:V} {ops:Array Oper} {K:Tm->Sg->Prop}
mutual
theorem MN{ρ:Nat->Nat}{k:Nat}(h:∀i,i<k->ρ i=i):∀x:V,AP k x=true->Bc ρ x=x
 |.row r _,hb=>by simp only[AP,cF]at hb;simp[Bc,h r hb]
 |.ptr r _ _ _,hb=>by simp only[AP,cF]at hb;simp[Bc,h r hb]
 |.map r,hb=>by simp only[AP,cF]at hb;simp[Bc,h r hb]
 |.fn _ as j,hb=>by
  simp only[AP,bi]at hb;simp only[Bc];rw[Ie h as hb.1,Ie h j hb.2]
 |.agg g,hb=>by simp only[AP]at hb;simp only[Bc];rw[Ie h g hb]
 |.Cb g,hb=>by simp only[AP]at hb;simp only[Bc];rw[Ie h g hb]
 |.opt _ x,hb=>by simp only[AP]at hb;simp only[Bc];rw[MN h x hb]
 |.any,_|.d _,_|.full _,_|.DX _,_=>by simp only[Bc]
theorem Ie{ρ:Nat->Nat}{k:Nat}(h:∀i,i<k->ρ i=i):∀g:List V,Aw k g=true->Cn ρ g=g
 |[],_=>by simp only[Cn]
 |x::g,hb=>by
  simp only[Aw,bi]at hb;simp only[Cn];rw[MN h x hb.1,Ie h g hb.2]
end
theorem Ws{ρ:Nat->Nat}{k:Nat}(h:∀i,i<k->ρ i=i)(o:O)(hb:Ar k o=true):DK ρ o=o:=by
 cases o with
 |row q sz g=>simp[Ar]at hb;simp[DK];rw[Ie h g hb]
 |map j=>
  simp only[Ar]at hb;simp only[DK];congr 1;have:∀p∈j,((p.1,Bc ρ p.2):D×V)=p:=λp m=>by rw[MN h p.2 (cl.1 hb p m)]
  rw[rr this,List.map_id']
 |BY s=>rfl
 |dead=>rfl
theorem AG.Pd{f:cP}{args:List V}(h:AG P f args S0 v S0')(T:Sg)(t:S0'.length=S0.length)(h1:S0.all (Ar S0.length)=true)(u:S0'.all (Ar S0.length)=true)
  (hb:args.all (AP S0.length)=true) (w:AP S0.length v=true):AG P f args (S0++T) v (S0'++T):=by
 have k:∀i,i<S0.length->(id:Nat->Nat) i=i:=λ_ _=>rfl;have g:∀i,i<S0.length->EF id S0.length (S0++T).length i=i:=λi hi=>by simp[EF,hi]
 have M:Q0 id (S0++T) S0 S0' (S0'++T):=by
  refine⟨λi j _ _ e=>e,λi hi=>⟨S0[i],ci hi,?_⟩,λi o m=>cl.1 h1 o (lw m),λi o m=>?_,λr A z=>?_,by simp[t]⟩
  .rw[Ws k _ (cl.1 h1 _ (b9 hi))];show(S0++T)[i]?=_
   rw[ej hi,ci hi]
  .have hi:=AZ m;rw[Ws g _ (cl.1 u _ (lw m)),g i (by omega)];rw[ej hi];exact m
  .have q:S0.length<=r:=by
    by_cases e:S0.length<=r
    .exact e
    .exact absurd rfl (z r (by omega))
   rw[ls q,ls (by omega),t]
 have:=h.frame id M (by omega) (λx s=>cl.1 hb x s);rw[MN g _ w]at this;have e:args.map (Bc id)=args:=by
  rw[rr (λx s=>MN k x (cl.1 hb x s)),List.map_id']
 rwa [e]at this
theorem AV.PA{rest:List Oper}{c:Call}{f:cP}{args:List V}(T:Sg)(h:AG P f args S0 v S0')(hS:S=S0++T)(i:o.op=.call c)
  (j:o.guard=none/\BA n o.dst/\BE tm c/\FF tm c f args/\S0'.length=S0.length/\S0.all (Ar S0.length)=true/\S0'.all (Ar S0.length)=true/\args.all (AP S0.length)=true/\AP S0.length v=true)
  (k:AV P n b ops rest (put tm o.dst v) (S0'++T) K):AV P n b ops (o::rest) tm S K:=by
 obtain⟨m,q,s,t,u,w,z,A,g⟩:=j;subst hS;exact gl i m q (FI t) s (h.Pd T u w z A g) k
theorem AJ.AT(k:Nat)(hS:S.take k=S')(hb:b<=k)(g:k<=S.length)(h:(S.take k).all (Ar k)=true):AJ P n b tm S (clean k tm) S':=hS▸ip k hb g h
abbrev a8:=@AJ.AT
theorem AJ.Uy(hS:S=S'):AJ P n b tm S tm S':=hS▸am
abbrev rc:=@AJ.Uy
@[simp] theorem cr(k:Nat)(xs g:List V):Aw k (xs++g)=(Aw k xs&&Aw k g):=by
 induction xs with
 |nil=>simp[Aw]
 |cons x xs h=>simp[Aw,h,adq]
@[simp] theorem kK(ρ:Nat->Nat)(xs g:List V):Cn ρ (xs++g)=Cn ρ xs++Cn ρ g:=by
 simp[EY]
theorem Uv:∀(n:Nat) (l:List Nat),l.Nodup->(∀x∈l,x<n)->l.length<=n
 |0,l,_,h=>by
  cases l with
  |nil=>simp
  |cons x l=>exact absurd (h x (by simp)) (by omega)
 |n+1,l,g,h=>by
  have h1:=Uv n (l.erase n) (g.erase n) (λx i=>by
   have j:=h x (List.mem_of_mem_erase i);have k:x≠n:=λe=>by subst e;exact g.not_mem_erase i
   omega)
  have j:=List.length_erase (a:=n) (l:=l);split at j<;>omega
theorem Hb{α:Type}(f:α->Nat){l:List α}{n:Nat}(g:l.Nodup)(h:∀x∈l,f x<n)(hi:∀x∈l,∀y∈l,f x=f y->x=y):l.length<=n:=by
 have h1:(l.map f).Nodup:=ac8.2 (g.imp_of_mem λha hb i e=>i (hi _ ha _ hb e));have:=Uv n (l.map f) h1 (λx j=>by obtain⟨y,k,rfl⟩:=eo.1 j;exact h y k);simpa using this
@[simp] theorem oW{α:Type}(ρ:Nat->Nat)(f:α->D)(xs:List α):Cn ρ (xs.map λx=>V.d (f x))=xs.map λx=>V.d (f x):=by
 rw[EY,kv];rfl
@[simp] theorem oh(ρ:Nat->Nat)(xs:List D):Cn ρ (xs.map V.d)=xs.map V.d:=by
 rw[EY,kv];rfl
@[simp] theorem sC{α β:Type}(ρ:Nat->Nat)(ek:α->D)(g:β->D)(l:List (α×β)):(Bg ek (λx=>V.d (g x)) l).map (λp=>(p.1,Bc ρ p.2))=Bg ek (λx=>V.d (g x)) l:=by
 unfold Bg;rw[kv];rfl
end
section
variable {P:Program} {n b:Nat} {o:Oper} {tm tm':Tm} {S S0 S0' S':Sg} {v:V} {ops:Array Oper} {K:Tm->Sg->Prop}
theorem BP.intro{f:cP}{fn:Func}{c:Code}{args:List V}{R:V->Sg->Prop}(Q:P.funcs[f]?=some fn)(W:(fn.name== "runtime.NumGoroutine")=false)(hb:fn.body=some c)(hn:args.length<=fn.ntmps)
  (h:AW P fn.ntmps S.length c (e9 P fn.ntmps S.length fn.results.toList R) (E3 args) S):BP P f args S R:=by
 refine⟨by simp[OO,Q,W,hb],λG w j T vr X=>?_⟩;refine calls_of_wp Q hb ?_;have st:St P fn.ntmps G S w {tmps:=j++Array.replicate (fn.ntmps - j.size) undef,defers:=[]} (E3 args):=by
  refine⟨by simp;omega,λk=>?_,T⟩;unfold E3;by_cases U:k<args.length
  .have M:args.getD k .any=args[k]:=by simp[List.getD,U]
   have Y:(j++Array.replicate (fn.ntmps - j.size) undef).getD k undef=j[k]'(by omega):=by
    rw[pi,abX (by omega)];simp[show k<j.size by omega]
   simp only[M,Y];exact X k U (by omega)
  .have M:args.getD k .any=.any:=by simp[List.getD,np (show args.length<=k by omega)]
   rw[M];exact .any _
 refine vX (h G w _ st (br _)) λZ H u hl=>?_;obtain⟨q,S0,tm',E,z⟩:=hl;have fin:(∃s t,AJ P fn.ntmps S.length tm' S0 s t/\J6 P s t fn.results.toList/\∀G w a,St P fn.ntmps G t w a s->S.length<=t.length->∃q J m,(∀cv,CV G t w (Lc P s t fn.results.toList) cv->CV q m w J cv)/\Rel P q m w/\Tr G t w q m w/\E7 S.length G t q m/\R J m)->H.defers=[]/\∃x,(results fn H.tmps).run P u=.ok x u/\∃cv q v S',R v S'/\Ending.returned x=.returned cv/\CV q S' u v cv/\Rel P q S' u/\Tr G S w q S' u/\BL G S w q S' u:=by
  intro z;obtain⟨s,t,g,h1,h2⟩:=z;refine⟨E.ds,?_⟩;obtain⟨N,F,t1,l1⟩:=g q u H E.st E.late.len;obtain⟨A,v1,B,L⟩:=LX F fn.results.toList h1;obtain⟨G2,J,m,g1,g2,g3,g4,g5⟩:=h2 N u H F l1.len;have zx:∀(A:List Value) (C:List V),A.length=C.length->(∀i (h:i<A.length) (h':i<C.length),CV N t u C[i] A[i])->CV N t u (TO C) (pack A):=λA C B L=>by
   match A,C with
   |[],[]=>exact .Cb _ _ rfl (λi h=>by simp at h)
   |[x],[y]=>exact L 0 (by simp) (by simp)
   |x::x'::xs,y::y'::ys=>
    refine .Cb _ _ (by simpa using B) (λi h=>?_);have:=L i (by omega) h;simpa using this
   |[],_::_=>simp at B
   |_::_,[]=>simp at B
   |[_],_::_::_=>simp at B
   |_::_::_,[_]=>simp at B
  have wG:=zx A _ B L;have tr:=(E.tr.trans t1).trans g3;have la:=(E.late.trans l1).trans g4;exact⟨_,Ga v1,_,G2,J,m,g5,rfl,g1 _ wG,g2,tr,la.later T tr⟩
 cases Z with
 |normal=>exact fin z
 |ret=>exact fin z
 |exit=>exact z.elim
 |goto=>exact z.elim
 |panic=>exact z.elim
 |outgrown=>exact z.elim
def UF(P:Program)(n b:Nat)(i:List ResultVar)(R:V->Sg->Prop):Exit->Tm->Sg->Prop
 |.normal,tm,S|.ret,tm,S=>∃g h,AJ P n b tm S g h/\J6 P g h i/\∃v S',R v S'/\((∃d j,Ba h (Lc P g h i)=some d/\v=.d d/\AJ P n b g h j S')\/(Lc P g h i=v/\S'=h))
 |_,_,_=>False
theorem BP.AK{f:cP}{fn:Func}{c:Code}{args:List V}{R:V->Sg->Prop}(B:P.funcs[f]?=some fn)(C:(fn.name== "runtime.NumGoroutine")=false)(hb:fn.body=some c)(hn:args.length<=fn.ntmps)
  (h:Hw args->OI S->AW P fn.ntmps S.length c (UF P fn.ntmps S.length fn.results.toList R) (E3 args) S):BP P f args S R:=by
 refine BP.intro B C hb hn (AW.assume (p:=Hw args/\OI S) (λG w a st=>⟨H6 λi hi=>?_,st.rel.tT⟩) λu=>(h u.1 u.2).mono λE tm z j=>?_)
 .have:=st.tm i;have e:E3 args i=args[i]:=by simp[E3,List.getD,hi]
  rw[e]at this;exact this.wf
 .have key:UF P fn.ntmps S.length fn.results.toList R .ret tm z->e9 P fn.ntmps S.length fn.results.toList R .ret tm z:=by
   rintro⟨k,F,g,h1,v,S',A,H⟩;rcases H with⟨d,J,m,rfl,L⟩|⟨m,rfl⟩
   .refine⟨k,F,g,h1,λG w a st q=>?_⟩;obtain⟨M,s,t2,l2⟩:=L G w a st q;exact⟨M,.d d,S',λcv t=>.d _ _ ((t.Ba st.rel m).mono t2.I (λ_ _=>rfl)),s.rel,t2,l2,A⟩
   .exact⟨k,S',g,h1,λG w a st q=>⟨G,v,S',λcv t=>m▸t,st.rel,yL _ _ _,GT q,A⟩⟩
  cases E with
  |normal=>exact key j
  |ret=>exact key j
  |exit=>exact j.elim
  |goto=>exact j.elim
  |panic=>exact j.elim
  |outgrown=>exact j.elim
theorem BP.pc{f:cP}{args:List V}(h:BP P f args S λu T=>u=v/\T=S'):AG P f args S v S':=
 ⟨h.1,λG w g R j ha=>(h.2 G w g R j ha).mono λ_ _ ⟨cv,k,_,_,⟨m,i⟩,h1,q,s,t,z⟩=>⟨cv,k,h1,m▸i▸q,i▸s,i▸t,i▸z⟩⟩
def qF(P:Program)(n b:Nat)(j:List ResultVar)(d:D)(S':Sg):Exit->Tm->Sg->Prop
 |.normal,tm,S|.ret,tm,S=>∃g h i,AJ P n b tm S g h/\J6 P g h j/\Ba h (Lc P g h j)=some d/\AJ P n b g h i S'
 |_,_,_=>False
theorem AG.CJ{f:cP}{fn:Func}{c:Code}{args:List V}{d:D}(u:P.funcs[f]?=some fn)(w:(fn.name== "runtime.NumGoroutine")=false)(hb:fn.body=some c)(hn:args.length<=fn.ntmps)
  (h:Hw args->OI S->AW P fn.ntmps S.length c (qF P fn.ntmps S.length fn.results.toList d S') (E3 args) S):AG P f args S (.d d) S':=by
 refine BP.pc (BP.AK u w hb hn λh1 z=>(h h1 z).mono λA tm k j=>?_);cases A with
 |normal=>obtain⟨g,k,i,m,q,s,t⟩:=j;exact⟨g,k,m,q,_,_,⟨rfl,rfl⟩,.inl ⟨d,i,s,rfl,t⟩⟩
 |ret=>obtain⟨g,k,i,m,q,s,t⟩:=j;exact⟨g,k,m,q,_,_,⟨rfl,rfl⟩,.inl ⟨d,i,s,rfl,t⟩⟩
 |exit=>exact j.elim
 |goto=>exact j.elim
 |panic=>exact j.elim
 |outgrown=>exact j.elim
@[simp] theorem sF{α β:Type}(ek:α->D)(ev:β->V):Bg ek ev []=[]:=rfl
@[simp] theorem qQ{α β:Type}(ek:α->D)(ev:β->V)(p:α×β)(l:List (α×β)):Bg ek ev (p::l)=(ek p.1,ev p.2)::Bg ek ev l:=rfl
end
section
variable {P:Program} {n b:Nat} {o:Oper} {tm tm':Tm} {S S0 S0' S':Sg} {v:V} {ops:Array Oper} {K:Tm->Sg->Prop}
inductive sA where
 |no
 |B3 (r:Nat)
 |fa (p:V)
def e8(x:V):Option sA:=
 match x with
 |.ptr r _ _ _=>some (.B3 r)
 |.DX _=>some .no
 |_=>none
def iv(x:V):Option sA:=
 match x with
 |.ptr r m i j=>some (.fa (.ptr r m i j))
 |.DX _=>some .no
 |_=>none
def OF(op:Op)(tm:Tm):Option sA:=
 match op with
 |.move _|.assign _|.extract _ _|.makeFunc ..|.build ..|.pick ..|.convert ..=>some .no
 |.load _ x=>e8 (strip (ev tm x))
 |.fieldAddr _ x _|.nilCheck x=>iv (strip (ev tm x))
 |.indexAddr _ x _=>match strip (ev tm x)with
  |.d _=>some .no
  |.full _=>some .no
  |.row r _=>some (.B3 r)
  |.ptr r m i j=>some (.fa (.ptr r m i j))
  |_=>none
 |_=>none
def W9(d:Option sA)(S S':Sg):Prop:=
 match d with
 |some (.B3 r)=>S'[r]?=S[r]?
 |some (.fa p)=>GU S' p=GU S p
 |_=>True
theorem Wu{op:Op}{d:sA}(h:OF op tm=some d)(hS:W9 (some d) S S'):Bd P op tm S'=Bd P op tm S/\Bh P op tm S'=Bh P op tm S/\DC P op tm S'=S':=by
 have s:∀x:V,e8 x=some d->(∀a k,Nl a k S' x=Nl a k S x)/\∀a k,Kt a k S' x=Kt a k S x:=λx g=>by
  cases x with
  |ptr r m i j=>
   simp only[e8,fd]at g;subst g;simp only[W9]at hS;simp only[Nl,Kt,JA,YQ,hS,gr,implies_true]
  |DX t=>simp only[Nl,Kt,gr,implies_true]
  |_=>simp[e8]at g
 have q:∀x:V,iv x=some d->GU S' x=GU S x/\bY S' x=bY S x:=λx g=>by
  cases x with
  |ptr r m i j=>
   simp only[iv,fd]at g;subst g;simp only[W9]at hS;exact⟨hS,hS⟩
  |DX t=>exact⟨rfl,rfl⟩
  |_=>simp[iv]at g
 cases op with
 |move x=>exact⟨rfl,rfl,rfl⟩
 |assign x=>exact⟨rfl,rfl,rfl⟩
 |extract x k=>exact⟨rfl,rfl,rfl⟩
 |makeFunc f a b=>exact⟨rfl,rfl,rfl⟩
 |build T C=>exact⟨rfl,rfl,rfl⟩
 |pick c x y=>exact⟨rfl,rfl,rfl⟩
 |convert A B x=>exact⟨rfl,rfl,rfl⟩
 |load T x=>
  obtain⟨u,w⟩:=s _ h;simp only[Bd,GA,Hi,Bh,F0,HO,DC,u,w,gr]
 |fieldAddr T x f=>
  obtain⟨h1,_⟩:=q _ h;simp only[Bd,GA,Hi,Bh,F0,HO,DC,h1,gr]
 |nilCheck x=>
  obtain⟨_,z⟩:=q _ h;simp only[Bd,GA,Hi,Bh,F0,HO,DC,z,gr]
 |indexAddr T x y=>
  simp only[OF]at h;simp only[Bd,GA,Hi,Bh,F0,HO,DC];generalize strip (ev tm x)=X at *;cases X with
  |d x=>cases x<;>simp[GU,CZ]
  |full E=>simp[GU,CZ]
  |row r m=>
   simp only[fd]at h;subst h;simp only[W9]at hS;simp only[GU,CZ,hS,gr]
  |ptr r m i j=>
   simp only[fd]at h;subst h;simp only[W9]at hS;simp only[CZ,hS,gr]
  |_=>simp at h
 |_=>simp[OF]at h
theorem Ag.qn{B:List (Nat×(Sg->Prop))}{i:Nat}{rest:List (Nat×Bool×Oper)}(m:o.guard=none/\(OF o.op tm).isSome=true/\EE P n ops o tm S)
  (h:Ag P n b ops ((i,W9 (OF o.op tm) S)::B) rest (put tm o.dst (Dc P ops o tm S)) S K):Ag P n b ops B ((i,true,o)::rest) tm S K:=by
 obtain⟨j,g,k⟩:=m;obtain⟨d,g⟩:=jw.1 g;rw[g]at h;refine Ag.qg (W9 (some d) S) (by unfold W9;split<;>trivial) (λS' hS=>?_) h;obtain⟨h1,q,s⟩:=Wu (P:=P) g hS;refine⟨⟨k.1,?_⟩,?_,?_⟩
 .have:=k.2;rw[j]at this⊢;rw[h1];exact this
 .unfold Dc;rw[j];exact q
 .unfold oS;rw[j];exact s
def okB:List Bool->List (Nat×(Sg->Prop))->Sg->Sg->Prop
 |w::g,p::h,S,S'=>(w=false->p.2 S->p.2 S')/\okB g h S S'
 |_,_,_,_=>True
def FA:List Bool->List (Nat×(Sg->Prop))->List (Nat×(Sg->Prop))
 |w::g,p::h=>match w with|true=>FA g h|false=>p::FA g h
 |_,_=>[]
theorem Gl{i:Nat}:∀{g:List Bool} {B:List (Nat×(Sg->Prop))},B.map (λp=>waits ops i p.1)=g->(B.filter λp=>!waits ops i p.1)=FA g B
 |[],[],_=>rfl
 |w::g,p::k,h=>by
  simp at h;obtain⟨h1,j⟩:=h;rw[List.filter_cons,h1,Gl j];cases w<;>rfl
 |[],_::_,h=>by simp at h
 |_::_,[],h=>by simp at h
theorem FQ{i:Nat}:∀{g:List Bool} {B:List (Nat×(Sg->Prop))},B.map (λp=>waits ops i p.1)=g->okB g B S S'->Wn ops B i S S'
 |[],[],_,_=>λp m=>by simp at m
 |w::g,p::t,h,k=>by
  simp at h;obtain⟨h1,s⟩:=h;intro q j;rcases fi.1 j with rfl|j
  .cases w with
   |true=>exact .inl h1
   |false=>exact .inr (k.1 rfl)
  .exact FQ s k.2 q j
 |[],_::_,h,_=>by simp at h
 |_::_,[],h,_=>by simp at h
theorem Ag.pD{B:List (Nat×(Sg->Prop))}{i:Nat}{rest:List (Nat×Bool×Oper)}(ws:List Bool)(m:B.map (λp=>waits ops i p.1)=ws)(s:ops[i]?=some o->B1 P n b ops i o tm S v S')(t:okB ws B S S')
  (h:Ag P n b ops (FA ws B) rest (put tm o.dst v) S' K):Ag P n b ops B ((i,false,o)::rest) tm S K:=λg q k=>by
 have hi:ops[i]?=some o:=q (i,false,o) (by simp);simp[Ec]at k;obtain⟨h1,u⟩:=k;refine⟨λh0=>(by rw[h1]at h0;cases h0),λj hj=>?_⟩;rw[h1]at hj;have:j=i:=by simpa using hj
 subst this;exact⟨o,v,S',hi,s hi,FQ m t,by rw[Gl m];exact h _ (λp k=>q p (by simp[k])) u⟩
theorem tS{B:List (Nat×(Sg->Prop))}{i:Nat}{rest:List (Nat×Bool×Oper)}(ws:List Bool)(g:B.map (λp=>waits ops i p.1)=ws)(h1:EE P n ops o tm S/\okB ws B S (oS P o tm S))
  (h:Ag P n b ops (FA ws B) rest (put tm o.dst (Dc P ops o tm S)) (oS P o tm S) K):Ag P n b ops B ((i,false,o)::rest) tm S K:=
 Ag.pD ws g (λhi=>B1.D7 hi h1.1) h1.2 h
theorem Ag.PA{B:List (Nat×(Sg->Prop))}{i:Nat}{rest:List (Nat×Bool×Oper)}{c:Call}{f:cP}{args:List V}(ws:List Bool)(T:Sg)(h:AG P f args S0 v S0')(k:B.map (λp=>waits ops i p.1)=ws)(hS:S=S0++T)(m:o.op=.call c)
  (q:o.guard=none/\BA n o.dst/\BE tm c/\FF tm c f args/\S0'.length=S0.length/\S0.all (Ar S0.length)=true/\S0'.all (Ar S0.length)=true/\args.all (AP S0.length)=true/\AP S0.length v=true/\okB ws B S (S0'++T))
  (s:Ag P n b ops (FA ws B) rest (put tm o.dst v) (S0'++T) K):Ag P n b ops B ((i,false,o)::rest) tm S K:=by
 obtain⟨t,u,w,z,A,C,E,F,g,j⟩:=q;subst hS;exact Ag.pD ws k (λhi=>wd hi m t u (FI z) w (h.Pd T A C E F g)) j s
theorem Ag.El{B:List (Nat×(Sg->Prop))}{i:Nat}{rest:List (Nat×Bool×Oper)}{c:Call}{f:cP}{g:List V}(ws:List Bool)(h:AG P f g S0 v S0')(j:List Nat)(m:B.map (λp=>waits ops i p.1)=ws)(q:o.op=.call c)
  (s:o.guard=none/\BA n o.dst/\BE tm c/\Ch tm c f g j/\Eg S S0 j/\j.length<=S0'.length/\g.all (AP j.length)=true/\okB ws B S (C8 S S0' j))
  (t:Ag P n b ops (FA ws B) rest (put tm o.dst (Bc (EF (nameOf j) j.length S.length) v)) (C8 S S0' j) K):Ag P n b ops B ((i,false,o)::rest) tm S K:=by
 obtain⟨u,w,z,k,A,C,E,F⟩:=s;unfold Ch at k;split at k
 .rename_i H args G;obtain⟨rfl,rfl⟩:=k;exact Ag.pD ws m (λhi=>wd hi q u w G z (h.Eb j A C E)) F t
 .exact k.elim
abbrev ru:=@Ag.El
theorem AG.pre{f:cP}{args:List V}{u z:Sg}(g:∀n,AJ P n S.length (E3 args) S (E3 args) u)(h:AG P f args u v z):AG P f args S v z:=by
 refine⟨h.1,λG w j R C ha=>?_⟩;have st:St P j.size G S w {tmps:=j,defers:=[]} (E3 args):=by
  refine⟨rfl,λk=>?_,R⟩;unfold E3;by_cases A:k<args.length
  .have m:args.getD k .any=args[k]:=by simp[List.getD,A]
   have s:j.getD k undef=j[k]'(by omega):=by simp[show k<j.size by omega]
   simp only[m,s];exact ha k A (by omega)
  .have m:args.getD k .any=.any:=by simp[List.getD,np (show args.length<=k by omega)]
   rw[m];exact .any _
 obtain⟨E,q,t,l⟩:=g j.size G w _ st (br _);refine(h.2 E w j q.rel C (λi hi F=>?_)).mono λe N ⟨cv,H,h1,J,L,B,M⟩=>⟨cv,H,h1,J,L,t.trans B,(l.trans (M.late l.len)).later R (t.trans B)⟩;have:=q.tm i;have m:E3 args i=args[i]:=by simp[E3,List.getD,hi]
 have s:j.getD i undef=j[i]:=by simp[F]
 rw[m]at this;simp[s]at this;exact this
end
attribute [simp] okB FA e8 iv OF W9
section
variable {P:Program} {n b:Nat} {o:Oper} {tm tm':Tm} {S S0 S0' S':Sg} {v:V} {ops:Array Oper} {K:Tm->Sg->Prop} {Q:Exit->Tm->Sg->Prop}
theorem Ag.oH{B:List (Nat×(Sg->Prop))}{i:Nat}{rest:List (Nat×Bool×Oper)}{c:Call}{f:cP}{args:List V}(T:Sg)(h:AG P f args S0 v S0)(hS:S=S0++T)(m:o.op=.call c)
  (q:o.guard=none/\BA n o.dst/\BE tm c/\FF tm c f args/\S0.all (Ar S0.length)=true/\args.all (AP S0.length)=true/\AP S0.length v=true)
  (s:Ag P n b ops ((i,λS'=>S'=S)::B) rest (put tm o.dst v) S K):Ag P n b ops B ((i,true,o)::rest) tm S K:=by
 obtain⟨t,u,w,z,k,A,g⟩:=q;refine o4 (λS'=>S'=S) rfl (λhi S' j=>?_) s;subst j;subst hS;exact wd hi m t u (FI z) w (h.Pd T rfl k k A g)
theorem Ag.Sm{B:List (Nat×(Sg->Prop))}{i:Nat}{rest:List (Nat×Bool×Oper)}{c:Call}{f:cP}{g:List V}(h:AG P f g S0 v S0')(j:List Nat)(q:o.op=.call c)
  (s:o.guard=none/\BA n o.dst/\BE tm c/\Ch tm c f g j/\Eg S S0 j/\j.length<=S0'.length/\g.all (AP j.length)=true/\C8 S S0' j=S)
  (t:Ag P n b ops ((i,λS'=>S'=S)::B) rest (put tm o.dst (Bc (EF (nameOf j) j.length S.length) v)) S K):Ag P n b ops B ((i,true,o)::rest) tm S K:=by
 obtain⟨u,w,z,k,A,C,E,F⟩:=s;unfold Ch at k;split at k
 .rename_i H args G;obtain⟨rfl,rfl⟩:=k;refine o4 (λS'=>S'=S) rfl (λhi S' m=>?_) t;subst m;have:=h.Eb j A C E;rw[F]at this;exact wd hi q u w G z this
 .exact k.elim
theorem AW.scope{c:Code}(h:AW P n b c (λg tm S=>(∀l,g≠.goto l)/\Q g tm S) tm S):AW P n b (.scope c) Q tm S:=λG w a st hb=>by
 refine wp_scope_straight (vX (h G w a st hb) λg q s j=>?_);obtain⟨k,S',tm',m,i⟩:=j;cases g with
 |goto l=>exact absurd rfl (i.1 l)
 |_=>exact⟨k,S',tm',m,i.2⟩
theorem AW.label{l:Nat}(h:Q .normal tm S):AW P n b (.label l) Q tm S:=λ_ _ _ st hb=>wp_label ⟨_,_,_,.refl st hb,h⟩
end
abbrev ac4:=@List.idxOf_lt_length_of_mem
abbrev R2:=@decide_true
abbrev ad1:=@Bool.and_self
section
variable {P:Program} {n b:Nat} {o:Oper} {tm tm':Tm} {S S0 S0' S':Sg} {v:V} {ops:Array Oper} {K:Tm->Sg->Prop} {Q:Exit->Tm->Sg->Prop}
mutual
def ak(g:List Nat):V->Bool
 |.row r _=>g.contains r
 |.ptr r _ _ _=>g.contains r
 |.map r=>g.contains r
 |.fn _ as h=>UM g as&&UM g h
 |.agg i=>UM g i
 |.Cb j=>UM g j
 |.opt _ v=>ak g v
 |_=>true
def UM(g:List Nat):List V->Bool
 |[]=>true
 |x::h=>ak g x&&UM g h
end
theorem LK{g:List Nat}{r:Nat}(h:g.contains r=true):nameOf g (g.idxOf r)=r/\g.idxOf r<g.length:=by
 have j:r∈g:=by simpa using h
 have i:=ac4 j;exact⟨by simp[nameOf,List.getD,i],i⟩
mutual
theorem SG(g:List Nat):∀x:V,ak g x=true->Bc (nameOf g) (Bc (λr=>g.idxOf r) x)=x/\AP g.length (Bc (λr=>g.idxOf r) x)=true
 |.row r _,h=>by simp only[ak]at h;have:=LK h;simp only[Bc,this.1,AP,this.2,R2,gr]
 |.ptr r _ _ _,h=>by simp only[ak]at h;have:=LK h;simp only[Bc,this.1,AP,this.2,R2,gr]
 |.map r,h=>by simp only[ak]at h;have:=LK h;simp only[Bc,this.1,AP,this.2,R2,gr]
 |.fn _ as k,h=>by
  simp only[ak,bi]at h;have h1:=Jd g as h.1;have j:=Jd g k h.2;simp only[Bc,h1.1,j.1,AP,h1.2,j.2,ad1,gr]
 |.agg i,h=>by simp only[ak]at h;have h1:=Jd g i h;simp only[Bc,h1.1,AP,h1.2,gr]
 |.Cb i,h=>by simp only[ak]at h;have h1:=Jd g i h;simp only[Bc,h1.1,AP,h1.2,gr]
 |.opt _ x,h=>by simp only[ak]at h;have h1:=SG g x h;simp only[Bc,h1.1,AP,h1.2,gr]
 |.any,_|.d _,_|.full _,_|.DX _,_=>by simp only[Bc,AP,gr]
theorem Jd(g:List Nat):∀i:List V,UM g i=true->Cn (nameOf g) (Cn (λr=>g.idxOf r) i)=i/\Aw g.length (Cn (λr=>g.idxOf r) i)=true
 |[],_=>by simp only[Cn,Aw,gr]
 |x::i,h=>by
  simp only[UM,bi]at h;have h1:=SG g x h.1;have j:=Jd g i h.2;simp only[Cn,h1.1,j.1,Aw,h1.2,j.2,ad1,gr]
end
def pick(g:List Nat)(tm:Tm):Tm:=λt=>if ak g (tm t)then Bc (λr=>g.idxOf r) (tm t)else .any
theorem AJ.pick(g:List Nat)(T:Eg S S0 g)(hb:b<=g.length)(A:∀i,i<b->nameOf g i=i):AJ P n b tm S (pick g tm) S0:=λG w a st _=>by
 have R:=st.rel;obtain⟨U,M,W⟩:=T;have t:g.length=S0.length:=by have:=i6 List.length M;simpa using this
 have Df:∀i (h:i<g.length) (h':i<S0.length),S[g[i]]?=some (DK (nameOf g) S0[i]):=λi h1 s=>by
  have:=i6 (·[i]?) M;simpa[h1,s]using this
 have hn:∀i (h:i<g.length),nameOf g i=g[i]:=λi h=>by simp[nameOf,List.getD,h]
 have Hy:∀i,i<S0.length->∃o:O,S0[i]?=some o/\S[nameOf g i]?=some (DK (nameOf g) o):=λi hi=>⟨S0[i],ci hi,by rw[hn i (by omega)];exact Df i (by omega) hi⟩;have inj:∀i j:Nat,i<S0.length->j<S0.length->nameOf g i=nameOf g j->i=j:=λi j hi hj e=>by
  rw[hn i (by omega),hn j (by omega)]at e;exact IQ U (by omega) (by omega) e
 let G0:Gh:={I:=G.I,B3:=λi=>G.B3 (nameOf g i),cap:=λi=>G.cap (nameOf g i),BB:=λi=>G.BB (nameOf g i)};have m:∀i,i<S0.length->lenOf S (nameOf g i)=lenOf S0 i/\C0 S (nameOf g i)=C0 S0 i/\Bb S (nameOf g i)=Bb S0 i:=λi hi=>by
  obtain⟨o,h1,s⟩:=Hy i hi;exact HJ (nameOf g) o h1 s
 have E:Xy (nameOf g) G0 S0 G S:=⟨λ_=>UV,λi hi=>by obtain⟨o,_,s⟩:=Hy i hi;exact AZ s,λi hi=>(m i hi).1,λi hi=>(m i hi).2.1,λi hi=>(m i hi).2.2,λ_ _=>rfl,λ_ _=>rfl,λ_ _=>rfl⟩;have q:∀k,Fy G0 S0 k->Fy G S k:=by
  rintro k ⟨i,o,h1,s,X⟩;have hi:=AZ h1;obtain⟨Y,u,B⟩:=Hy i hi;rw[h1]at u;cases u;exact⟨nameOf g i,_,B,by rw[Cl (ρ:=nameOf g) (G0:=G0) (G:=G) (i:=i) (j:=nameOf g i) o rfl];exact s,X⟩
 have Z:Rel P G0 S0 w:=by
  refine⟨R.GQ,λi o C=>?_,λi j x y F H ox oy he=>?_,λk z=>R.nI k (q k z),R.JY,λk z=>R.HL k (q k z)⟩
  .have hi:=AZ C;obtain⟨Y,u,B⟩:=Hy i hi;rw[C]at u;cases u;refine(R.DG _ _ B).Lh E hi ?_;rw[<-t];exact cl.1 W o (lw C)
  .obtain⟨x',u,B⟩:=Hy i (AZ F);obtain⟨y',N,g4⟩:=Hy j (AZ H);rw[F]at u;cases u;rw[H]at N;cases N;exact inj i j (AZ F) (AZ H) (R.inj (nameOf g i) (nameOf g j) _ _ B g4 (by rw[Cl (ρ:=nameOf g) (G0:=G0) (G:=G) (i:=i) (j:=nameOf g i) x rfl];exact ox) (by rw[Cl (ρ:=nameOf g) (G0:=G0) (G:=G) (i:=j) (j:=nameOf g j) y rfl];exact oy) he)
 refine⟨G0,⟨st.size,λk=>?_,Z⟩,⟨br _,λ_ h=>h,λ_ _ _=>rfl,λk z=>.inl (q k z),λk z=>.inl z,rfl,rfl⟩,⟨by omega,λr J n' wg=>?_,λr J hm=>?_⟩⟩
 .unfold Koi.pick;split
  .next h=>
   have s:=SG g (tm k) h;exact(st.tm k).Lh E s.1.symm (by rw[<-t];exact s.2)
  .exact .any _
 .have L:r<S0.length:=by omega
  have e:=A r J;have f:=m r L;rw[e]at f;exact⟨n',by rw[f.1];exact wg,br _,λ_=>⟨by simp only[G0,e],by simp only[G0,e],by simp only[G0,e],.inl f.2.1.symm⟩⟩
 .have L:r<S0.length:=by omega
  have e:=A r J;have f:=m r L;rw[e]at f;exact⟨by rw[f.2.2];exact hm,by simp only[G0,e]⟩
theorem AJ.G5(g:List Nat)(k:Eg S S0 g)(hb:b<=g.length)(j:g.take b=List.range b):AJ P n b tm S (Koi.pick g tm) S0:=
 AJ.pick g k hb λi hi=>by
  have h:=i6 (·[i]?) j;simp only[K1,hi,er,List.getElem?_range]at h;simp[nameOf,List.getD,h]
abbrev rx:=@AJ.G5
theorem E7.NJ{b i:Nat}{G:Gh}{j:Gh}(h:E7 i G S j S')(hb:b<=i):E7 b G S j S':=
 ⟨ke hb h.len,λr g=>h.row r (tv g hb),λr g=>h.map r (tv g hb)⟩
end
attribute [simp] ak UM
end Go.Koi
