/-
  Part 7 of the proof that the law ChangeRestricts returns true for every input.
-/
import Derived.Test.YtbpjppgjnkklnaaGreatDoorG05
import Derived.Scope
import Derived.Maps.RangeRun
set_option maxHeartbeats 64000000
set_option maxRecDepth 100000
open List renaming length->Z,getD->i5
open Bool renaming true->J
open Option renaming some->am,none->bi
namespace Go.Koi
open Go renaming FuncId->eN,Program->cP
abbrev x3:=@List.cons_append
abbrev abZ:=@List.map_append
abbrev Ks:=@List.nodup_append
abbrev W2:=@List.map_nil
abbrev go:=@List.mem_singleton
section
variable {α β:Type} [DecidableEq α]
def BV(ek:α->D)(ev:β->V)(l:List (α×β)):List (D×V):=l.map λp=>(ek p.1,ev p.2)
def look(l:List (α×β))(k:α):Option β:=(l.find? λp=>decide (p.1=k)).map (·.2)
def Cx(l:List (α×β))(k:α)(x:β):List (α×β):=
 if(look l k).isSome then l.map λp=>if p.1=k then(p.1,x)else p else l++[(k,x)]
@[simp] theorem look_nil(k:α):look ([]:List (α×β)) k=none:=rfl
theorem Cn(p:α×β)(l:List (α×β))(k:α):look (p::l) k=if p.1=k then am p.2 else look l k:=by
 unfold look;rw[List.find?_cons];by_cases h:p.1=k<;>simp[h]
theorem T4(l m:List (α×β))(k:α):look (l++m) k=(look l k).or (look m k):=by
 induction l with
 |nil=>simp
 |cons p l g=>rw[x3,Cn,Cn,g];split<;>simp
theorem fI(l:List (α×β))(k:α)(x:β)(j:α):look (l.map λp=>if p.1=k then(p.1,x)else p) j=if j=k then(look l k).map λ_=>x else look l j:=by
 induction l with
 |nil=>simp
 |cons p l g=>
  rw[ii,Cn,g];by_cases h:p.1=k
  .subst h;rw[Cn];simp;by_cases e:p.1=j
   .subst e;simp
   .simp[e,Cn];rw[bv (λh=>e h.symm)];rw[bv (λh=>e h.symm)]
  .simp[h,Cn];by_cases e:p.1=j
   .subst e;simp[h]
   .simp[e]
theorem Fc(l:List (α×β))(k:α)(x:β)(j:α):look (Cx l k x) j=if j=k then am x else look l j:=by
 unfold Cx;split
 .next h=>
  rw[fI];split
  .obtain⟨y,g⟩:=md.1 h;simp[g]
  .rfl
 .next h=>
  rw[T4,Cn];have i:look l k=none:=by simpa using h
  by_cases e:j=k
  .subst e;simp[i]
  .have m:¬k=j:=λh=>e h.symm;simp[e,m]
theorem Lt{l:List (α×β)}{k:α}(x:β)(h:look l k=bi):Cx l k x=l++[(k,x)]:=by simp[Cx,h]
theorem GU{l:List (α×β)}{k:α}{x:β}(h:look l k=am x):(k,x)∈l:=by
 unfold look at h;simp only[In]at h;obtain⟨p,g,i⟩:=h;have:=List.find?_some g;simp at this;subst this;subst i;exact List.mem_of_find?_eq_some g
theorem Q0{l:List (α×β)}{k:α}:look l k=bi↔k∉l.map (·.1):=by
 induction l with
 |nil=>simp
 |cons p l g=>
  rw[Cn];by_cases h:p.1=k
  .subst h;simp
  .simp only[h,jw,g,ii,ke,va];exact⟨λa=>⟨λe=>h e.symm,a⟩,λa=>a.2⟩
def Keyed(l:List (α×β)):Prop:=(l.map (·.1)).Nodup
theorem Keyed.nil{α β:Type}:Keyed ([]:List (α×β)):=ac0
theorem Keyed.Cx{l:List (α×β)}(h:Keyed l)(k:α)(x:β):Keyed (Cx l k x):=by
 unfold Koi.Cx Keyed;split
 .have:(l.map λp=>if p.1=k then(p.1,x)else p).map (·.1)=l.map (·.1):=by
   rw[m0];apply AC;intro p _;simp[Function.comp];split<;>rfl
  rw[this];exact h
 .next g=>
  rw[abZ,Ks];refine⟨h,by simp,?_⟩;intro a ha b hb e;simp at hb;subst e;subst hb;exact(Q0.1 (by simpa using g)) ha
theorem Keyed.look{l:List (α×β)}(h:Keyed l){k:α}{x:β}(g:(k,x)∈l):Koi.look l k=am x:=by
 induction l with
 |nil=>simp at g
 |cons p l i=>
  rw[Cn];unfold Keyed at h;rw[ii,acy]at h;rcases ke.1 g with e|e
  .subst e;simp
  .have:p.1≠k:=λj=>h.1 (by rw[j];exact g7.2 ⟨_,e,rfl⟩);rw[bv this];exact i h.2 e
variable {ek:α->D} {ev:β->V}
theorem FR(h:∀a b,DZ (ek a) (ek b)=decide (a=b))(l:List (α×β))(k:α):Cz (BV ek ev l) (ek k)=(look l k).map ev:=by
 unfold Cz BV look;rw[List.find?_map];have:((λp:D×V=>DZ p.1 (ek k)) ∘ λp:α×β=>(ek p.1,ev p.2))=λp=>decide (p.1=k):=by
  funext p;simp[h]
 rw[this];cases l.find? (λp=>decide (p.1=k))<;>rfl
theorem EA(h:∀a b,DZ (ek a) (ek b)=decide (a=b))(l:List (α×β))(k:α)(x:β):Ep (BV ek ev l) (ek k) (ev x)=BV ek ev (Cx l k x):=by
 unfold Ep Cx;rw[FR h];have:((look l k).map ev).isSome=(look l k).isSome:=by cases look l k<;>rfl
 rw[this];split
 .unfold BV;rw[m0,m0];apply AC;intro p _;simp[Function.comp,h];by_cases e:p.1=k<;>simp[e]
 .simp[BV]
theorem FH{α β:Type}{ek:α->D}{ev:β->V}{kk:KK}(h:∀a,Bz kk (ek a)=J)(l:List (α×β)):Bh kk (BV ek ev l):=by
 apply Ns;intro p g;simp only[BV,g7]at g;obtain⟨q,_,rfl⟩:=g;exact h _
theorem Vg{α β:Type}{ek:α->D}{ev:β->V}{k:Nat}(h:∀x,AJ k (ev x)=J)(l:List (α×β)):(BV ek ev l).all (λe=>AJ k e.2)=true:=by
 rw[ed];intro p g;simp only[BV,g7]at g;obtain⟨q,_,rfl⟩:=g;exact h _
end
section
variable {β:Type} {ev:β->V}
@[simp] theorem uF(l:List (Int×β))(k:Int):Cz (BV (D.int .i64) ev l) (.int .i64 k)=(look l k).map ev:=FR (by intro a b;rw[gI];simp[DZ]) l k
@[simp] theorem vR(l:List (Int×Int))(k x:Int):Ep (BV (D.int .i64) (λx=>.d (.int .i64 x)) l) (.int .i64 k) (.d (.int .i64 x))=BV (D.int .i64) (λx=>.d (.int .i64 x)) (Cx l k x):=EA (ev:=λx=>V.d (.int .i64 x)) (by intro a b;rw[gI];simp[DZ]) l k x
@[simp] theorem nW(l:List (Int×β)):Bh (.one (.int .i64)) (BV (D.int .i64) ev l)=True:=eq_true (FH (by intro a;simp[Bz,CC]) l)
@[simp] theorem tu{α:Type}{ek:α->D}{k:Nat}(g:β->D)(l:List (α×β)):(BV ek (λx=>V.d (g x)) l).all (λe=>AJ k e.2)=true:=by
 rw[ed];intro p h;simp only[BV,g7]at h;obtain⟨q,_,rfl⟩:=h;rfl
end
abbrev ac1:=@Bool.and_assoc
abbrev acW:=@List.pairwise_map
section
variable {P:cP} {n b:Nat} {o:Oper} {tm tm':Tm} {S S0 S0' S':Sg} {v:V} {ops:Array Oper} {K:Tm->Sg->Prop}
mutual
theorem ME{ρ:Nat->Nat}{k:Nat}(h:∀i,i<k->ρ i=i):∀x:V,AJ k x=J->BW ρ x=x
 |.row r _,hb=>by simp only[AJ,fc]at hb;simp[BW,h r hb]
 |.ptr r _ _ _,hb=>by simp only[AJ,fc]at hb;simp[BW,h r hb]
 |.map r,hb=>by simp only[AJ,fc]at hb;simp[BW,h r hb]
 |.fn _ as j,hb=>by
  simp only[AJ,cF]at hb;simp only[BW];rw[IL h as hb.1,IL h j hb.2]
 |.agg g,hb=>by simp only[AJ]at hb;simp only[BW];rw[IL h g hb]
 |.CX g,hb=>by simp only[AJ]at hb;simp only[BW];rw[IL h g hb]
 |.opt _ x,hb=>by simp only[AJ]at hb;simp only[BW];rw[ME h x hb]
 |.any,_|.d _,_|.full _,_|.DW _,_=>by simp only[BW]
theorem IL{ρ:Nat->Nat}{k:Nat}(h:∀i,i<k->ρ i=i):∀g:List V,Au k g=J->CN ρ g=g
 |[],_=>by simp only[CN]
 |x::g,hb=>by
  simp only[Au,cF]at hb;simp only[CN];rw[ME h x hb.1,IL h g hb.2]
end
theorem Xs{ρ:Nat->Nat}{k:Nat}(h:∀i,i<k->ρ i=i)(o:O)(hb:Ao k o=J):DM ρ o=o:=by
 cases o with
 |row q sz g=>simp[Ao]at hb;simp[DM];rw[IL h g hb]
 |map j=>
  simp only[Ao]at hb;simp only[DM];congr 1;have:∀p∈j,((p.1,BW ρ p.2):D×V)=p:=λp m=>by rw[ME h p.2 (ed.1 hb p m)]
  rw[AC this,List.map_id']
 |BT u=>rfl
 |dead=>rfl
theorem AG.Mv{f:eN}{args:List V}(h:AG P f args S0 v S0')(T:Sg)(w:Z S0'=Z S0)(A:S0.all (Ao (Z S0))=J)(B:S0'.all (Ao (Z S0))=J)
  (hb:args.all (AJ (Z S0))=J) (C:AJ (Z S0) v=J):AG P f args (S0++T) v (S0'++T):=by
 have k:∀i,i<Z S0->(id:Nat->Nat) i=i:=λ_ _=>rfl;have g:∀i,i<Z S0->FN id (Z S0) (Z (S0++T)) i=i:=λi hi=>by simp[FN,hi]
 have M:VA id (S0++T) S0 S0' (S0'++T):=by
  refine⟨λi j _ _ e=>e,λi hi=>⟨S0[i],ej hi,?_⟩,λi o m=>ed.1 A o (oj m),λi o m=>?_,λr F E=>?_,by simp[w]⟩
  .rw[Xs k _ (ed.1 A _ (cL hi))];show(S0++T)[i]?=_
   rw[io hi,ej hi]
  .have hi:=Ag m;rw[Xs g _ (ed.1 B _ (oj m)),g i (by omega)];rw[io hi];exact m
  .have q:Z S0<=r:=by
    by_cases e:Z S0<=r
    .exact e
    .exact absurd rfl (E r (by omega))
   rw[z9 q,z9 (by omega),w]
 have:=h.frame id M (by omega) (λx u=>ed.1 hb x u);rw[ME g _ C]at this;have e:args.map (BW id)=args:=by
  rw[AC (λx u=>ME k x (ed.1 hb x u)),List.map_id']
 rwa [e]at this
theorem AS.Oq{rest:List Oper}{c:Call}{f:eN}{args:List V}(T:Sg)(h:AG P f args S0 v S0')(hS:S=S0++T)(j:o.op=.call c)
  (k:o.guard=bi/\A6 n o.dst/\BB tm c/\FP tm c f args/\Z S0'=Z S0/\S0.all (Ao (Z S0))=J/\S0'.all (Ao (Z S0))=J/\args.all (AJ (Z S0))=J/\AJ (Z S0) v=J)
  (m:AS P n b ops rest (put tm o.dst v) (S0'++T) K):AS P n b ops (o::rest) tm S K:=by
 obtain⟨q,u,w,A,B,C,E,g,i⟩:=k;subst hS;exact i9 j q u (FW A) w (h.Mv T B C E g i) m
theorem AI.Az(k:Nat)(hS:S.take k=S')(hb:b<=k)(g:k<=Z S)(h:(S.take k).all (Ao k)=J):AI P n b tm S (clean k tm) S':=hS▸AI.drop k hb g h
abbrev fd:=@AI.Az
theorem AI.BJ(k:Nat)(hS:S.take k=S')(h:b<=k/\k<=Z S/\(S.take k).all (Ao k)=J):AI P n b tm S (clean k tm) S':=hS▸l6 k h
abbrev gc:=@AI.BJ
theorem AI.Cj(k:Nat)(h:S.take k=S'/\b<=k/\k<=Z S/\(S.take k).all (Ao k)=J):AI P n b tm S (clean k tm) S':=gc k h.1 h.2
abbrev j1:=@AI.Cj
theorem AI.Rk(hS:S=S'):AI P n b tm S tm S':=hS▸a9
abbrev rc:=@AI.Rk
@[simp] theorem fj(k:Nat)(xs g:List V):Au k (xs++g)=(Au k xs&&Au k g):=by
 induction xs with
 |nil=>simp[Au]
 |cons x xs h=>simp[Au,h,ac1]
@[simp] theorem lM(ρ:Nat->Nat)(xs g:List V):CN ρ (xs++g)=CN ρ xs++CN ρ g:=by
 simp[Ea]
theorem Un:∀(n:Nat) (l:List Nat),l.Nodup->(∀x∈l,x<n)->Z l<=n
 |0,l,_,h=>by
  cases l with
  |nil=>simp
  |cons x l=>exact absurd (h x (by simp)) (by omega)
 |n+1,l,g,h=>by
  have k:=Un n (l.erase n) (g.erase n) (λx i=>by
   have j:=h x (List.mem_of_mem_erase i);have m:x≠n:=λe=>by subst e;exact g.not_mem_erase i
   omega)
  have j:=List.length_erase (a:=n) (l:=l);split at j<;>omega
theorem It{α:Type}(f:α->Nat){l:List α}{n:Nat}(g:l.Nodup)(h:∀x∈l,f x<n)(hi:∀x∈l,∀y∈l,f x=f y->x=y):Z l<=n:=by
 have i:(l.map f).Nodup:=acW.2 (g.imp_of_mem λha hb j e=>j (hi _ ha _ hb e));have:=Un n (l.map f) i (λx k=>by obtain⟨y,m,rfl⟩:=g7.1 k;exact h y m);simpa using this
@[simp] theorem rm{α:Type}(ρ:Nat->Nat)(f:α->D)(xs:List α):CN ρ (xs.map λx=>V.d (f x))=xs.map λx=>V.d (f x):=by
 rw[Ea,m0];rfl
@[simp] theorem sK(ρ:Nat->Nat)(xs:List D):CN ρ (xs.map V.d)=xs.map V.d:=by
 rw[Ea,m0];rfl
@[simp] theorem vO{α β:Type}(ρ:Nat->Nat)(ek:α->D)(g:β->D)(l:List (α×β)):(BV ek (λx=>V.d (g x)) l).map (λp=>(p.1,BW ρ p.2))=BV ek (λx=>V.d (g x)) l:=by
 unfold BV;rw[m0];rfl
end
section
variable {P:cP} {n b:Nat} {o:Oper} {tm tm':Tm} {S S0 S0' S':Sg} {v:V} {ops:Array Oper} {K:Tm->Sg->Prop}
def Rq(P:cP)(n b:Nat)(rs:List ResultVar)(R:V->Sg->Prop):Exit->Tm->Sg->Prop
 |.normal,tm,S|.ret,tm,S=>∃g h,AI P n b tm S g h/\Ix P g h rs/\∃v S',R v S'/\((∃d i,BO h (Kg P g h rs)=am d/\v=.d d/\AI P n b g h i S')\/(Kg P g h rs=v/\S'=h))
 |_,_,_=>False
theorem BH.Aw{f:eN}{fn:Func}{c:Code}{args:List V}{R:V->Sg->Prop}(L:P.funcs[f]?=am fn)(j:(fn.name== "runtime.NumGoroutine")=false)(hb:fn.body=am c)(M:Z args<=fn.ntmps)
  (h:Gk args->LZ S->AW P fn.ntmps (Z S) c (Rq P fn.ntmps (Z S) fn.results.toList R) (ER args) S):BH P f args S R:=by
 refine BH.intro L j hb M (AW.assume (p:=Gk args/\LZ S) (λG w a st=>⟨H0 λi hi=>?_,st.rel.x5⟩) λC=>(h C.1 C.2).mono λN tm E m=>?_)
 .have:=st.tm i;have e:ER args i=args[i]:=by simp[ER,i5,hi]
  rw[e]at this;exact this.wf
 .have key:Rq P fn.ntmps (Z S) fn.results.toList R .ret tm E->Pm P fn.ntmps (Z S) fn.results.toList R .ret tm E:=by
   rintro⟨q,Q,g,F,v,S',H,T⟩;rcases T with⟨d,U,u,rfl,W⟩|⟨u,rfl⟩
   .refine⟨q,Q,g,F,λG w a st A=>?_⟩;obtain⟨X,B,t2,l2⟩:=W G w a st A;exact⟨X,.d d,S',λcv k=>.d _ _ ((k.BO st.rel u).mono t2.I (λ_ _=>rfl)),B.rel,t2,l2,H⟩
   .exact⟨q,S',g,F,λG w a st A=>⟨G,v,S',λcv k=>u▸k,st.rel,tv _ _ _,aev A,H⟩⟩
  cases N with
  |normal=>exact key m
  |ret=>exact key m
  |exit=>exact m.elim
  |goto=>exact m.elim
  |panic=>exact m.elim
  |outgrown=>exact m.elim
def Vh(P:cP)(n b:Nat)(rs:List ResultVar)(d:D)(S':Sg):Exit->Tm->Sg->Prop
 |.normal,tm,S|.ret,tm,S=>∃g h i,AI P n b tm S g h/\Ix P g h rs/\BO h (Kg P g h rs)=am d/\AI P n b g h i S'
 |_,_,_=>False
theorem AG.Gp{f:eN}{fn:Func}{c:Code}{args:List V}{d:D}(B:P.funcs[f]?=am fn)(g:(fn.name== "runtime.NumGoroutine")=false)(hb:fn.body=am c)(C:Z args<=fn.ntmps)
  (h:Gk args->LZ S->AW P fn.ntmps (Z S) c (Vh P fn.ntmps (Z S) fn.results.toList d S') (ER args) S):AG P f args S (.d d) S':=by
 refine BH.aA (BH.Aw B g hb C λE F=>(h E F).mono λG tm m k=>?_);cases G with
 |normal=>obtain⟨i,m,j,q,u,w,A⟩:=k;exact⟨i,m,q,u,_,_,⟨rfl,rfl⟩,.inl ⟨d,j,w,rfl,A⟩⟩
 |ret=>obtain⟨i,m,j,q,u,w,A⟩:=k;exact⟨i,m,q,u,_,_,⟨rfl,rfl⟩,.inl ⟨d,j,w,rfl,A⟩⟩
 |exit=>exact k.elim
 |goto=>exact k.elim
 |panic=>exact k.elim
 |outgrown=>exact k.elim
@[simp] theorem uy{α β:Type}(ek:α->D)(ev:β->V):BV ek ev []=[]:=rfl
@[simp] theorem uD{α β:Type}(ek:α->D)(ev:β->V)(p:α×β)(l:List (α×β)):BV ek ev (p::l)=(ek p.1,ev p.2)::BV ek ev l:=rfl
end
section
variable {P:cP} {n b:Nat} {o:Oper} {tm tm':Tm} {S S0 S0' S':Sg} {v:V} {ops:Array Oper} {K:Tm->Sg->Prop}
inductive uq where
 |no
 |CP (r:Nat)
 |fa (p:V)
def iZ(x:V):Option uq:=
 match x with
 |.ptr r _ _ _=>am (.CP r)
 |.DW _=>am .no
 |_=>bi
def gZ(x:V):Option uq:=
 match x with
 |.ptr r m i j=>am (.fa (.ptr r m i j))
 |.DW _=>am .no
 |_=>bi
def ON(op:Op)(tm:Tm):Option uq:=
 match op with
 |.move _|.assign _|.extract _ _|.makeFunc ..|.build ..|.pick ..|.convert ..=>am .no
 |.load _ x=>iZ (strip (ev tm x))
 |.fieldAddr _ x _|.nilCheck x=>gZ (strip (ev tm x))
 |.indexAddr _ x _=>match strip (ev tm x)with
  |.d _=>am .no
  |.full _=>am .no
  |.row r _=>am (.CP r)
  |.ptr r m i j=>am (.fa (.ptr r m i j))
  |_=>bi
 |_=>bi
def Xy(d:Option uq)(S S':Sg):Prop:=
 match d with
 |some (.CP r)=>S'[r]?=S[r]?
 |some (.fa p)=>Gg S' p=Gg S p
 |_=>True
theorem YK{op:Op}{d:uq}(h:ON op tm=am d)(hS:Xy (am d) S S'):BX P op tm S'=BX P op tm S/\Bc P op tm S'=Bc P op tm S/\C2 P op tm S'=S':=by
 have u:∀x:V,iZ x=am d->(∀a k,Nc a k S' x=Nc a k S x)/\∀a k,Kw a k S' x=Kw a k S x:=λx g=>by
  cases x with
  |ptr r m i j=>
   simp only[iZ,j3]at g;subst g;simp only[Xy]at hS;simp only[Nc,Kw,JA,Yw,hS,lh,implies_true]
  |DW w=>simp only[Nc,Kw,lh,implies_true]
  |_=>simp[iZ]at g
 have q:∀x:V,gZ x=am d->Gg S' x=Gg S x/\cg S' x=cg S x:=λx g=>by
  cases x with
  |ptr r m i j=>
   simp only[gZ,j3]at g;subst g;simp only[Xy]at hS;exact⟨hS,hS⟩
  |DW w=>exact⟨rfl,rfl⟩
  |_=>simp[gZ]at g
 cases op with
 |move x=>exact⟨rfl,rfl,rfl⟩
 |assign x=>exact⟨rfl,rfl,rfl⟩
 |extract x k=>exact⟨rfl,rfl,rfl⟩
 |makeFunc f a b=>exact⟨rfl,rfl,rfl⟩
 |build T H=>exact⟨rfl,rfl,rfl⟩
 |pick c x y=>exact⟨rfl,rfl,rfl⟩
 |convert A B x=>exact⟨rfl,rfl,rfl⟩
 |load T x=>
  obtain⟨C,E⟩:=u _ h;simp only[BX,F9,Hn,Bc,GI,HT,C2,C,E,lh]
 |fieldAddr T x f=>
  obtain⟨F,_⟩:=q _ h;simp only[BX,F9,Hn,Bc,GI,HT,C2,F,lh]
 |nilCheck x=>
  obtain⟨_,G⟩:=q _ h;simp only[BX,F9,Hn,Bc,GI,HT,C2,G,lh]
 |indexAddr T x y=>
  simp only[ON]at h;simp only[BX,F9,Hn,Bc,GI,HT,C2];generalize strip (ev tm x)=X at *;cases X with
  |d x=>cases x<;>simp[Gg,CL]
  |full L=>simp[Gg,CL]
  |row r m=>
   simp only[j3]at h;subst h;simp only[Xy]at hS;simp only[Gg,CL,hS,lh]
  |ptr r m i j=>
   simp only[j3]at h;subst h;simp only[Xy]at hS;simp only[CL,hS,lh]
  |_=>simp at h
 |_=>simp[ON]at h
theorem Ab.qI{B:List (Nat×(Sg->Prop))}{i:Nat}{rest:List (Nat×Bool×Oper)}(m:o.guard=bi/\(ON o.op tm).isSome=J/\EY P n ops o tm S)
  (h:Ab P n b ops ((i,Xy (ON o.op tm) S)::B) rest (put tm o.dst (Dm P ops o tm S)) S K):Ab P n b ops B ((i,J,o)::rest) tm S K:=by
 obtain⟨k,j,g⟩:=m;obtain⟨d,j⟩:=md.1 j;rw[j]at h;refine Ab.uM (Xy (am d) S) (by unfold Xy;split<;>trivial) (λS' hS=>?_) h;obtain⟨q,u,w⟩:=YK (P:=P) j hS;refine⟨⟨g.1,?_⟩,?_,?_⟩
 .have:=g.2;rw[k]at this⊢;rw[q];exact this
 .unfold Dm;rw[k];exact u
 .unfold oS;rw[k];exact w
def okB:List Bool->List (Nat×(Sg->Prop))->Sg->Sg->Prop
 |w::ws,p::g,S,S'=>(w=false->p.2 S->p.2 S')/\okB ws g S S'
 |_,_,_,_=>True
def FL:List Bool->List (Nat×(Sg->Prop))->List (Nat×(Sg->Prop))
 |w::ws,p::g=>match w with|true=>FL ws g|false=>p::FL ws g
 |_,_=>[]
theorem Gi{i:Nat}:∀{ws:List Bool} {B:List (Nat×(Sg->Prop))},B.map (λp=>waits ops i p.1)=ws->(B.filter λp=>!waits ops i p.1)=FL ws B
 |[],[],_=>rfl
 |w::ws,p::k,h=>by
  simp at h;obtain⟨g,j⟩:=h;rw[List.filter_cons,g,Gi j];cases w<;>rfl
 |[],_::_,h=>by simp at h
 |_::_,[],h=>by simp at h
theorem Fe{i:Nat}:∀{ws:List Bool} {B:List (Nat×(Sg->Prop))},B.map (λp=>waits ops i p.1)=ws->okB ws B S S'->ep ops B i S S'
 |[],[],_,_=>λp k=>by simp at k
 |w::ws,p::A,h,j=>by
  simp at h;obtain⟨m,u⟩:=h;intro q g;rcases ke.1 g with rfl|g
  .cases w with
   |true=>exact .inl m
   |false=>exact .inr (j.1 rfl)
  .exact Fe u j.2 q g
 |[],_::_,h,_=>by simp at h
 |_::_,[],h,_=>by simp at h
theorem Ab.ry{B:List (Nat×(Sg->Prop))}{i:Nat}{rest:List (Nat×Bool×Oper)}(ws:List Bool)(g:B.map (λp=>waits ops i p.1)=ws)(w:ops[i]?=am o->Bu P n b ops i o tm S v S')(A:okB ws B S S')
  (h:Ab P n b ops (FL ws B) rest (put tm o.dst v) S' K):Ab P n b ops B ((i,false,o)::rest) tm S K:=λk q m=>by
 have hi:ops[i]?=am o:=q (i,false,o) (by simp);simp[Ed]at m;obtain⟨u,C⟩:=m;refine⟨λh0=>(by rw[u]at h0;cases h0),λj hj=>?_⟩;rw[u]at hj;have:j=i:=by simpa using hj
 subst this;exact⟨o,v,S',hi,w hi,Fe g A,by rw[Gi g];exact h _ (λp m=>q p (by simp[m])) C⟩
theorem xr{B:List (Nat×(Sg->Prop))}{i:Nat}{rest:List (Nat×Bool×Oper)}(ws:List Bool)(g:B.map (λp=>waits ops i p.1)=ws)(j:EY P n ops o tm S/\okB ws B S (oS P o tm S))
  (h:Ab P n b ops (FL ws B) rest (put tm o.dst (Dm P ops o tm S)) (oS P o tm S) K):Ab P n b ops B ((i,false,o)::rest) tm S K:=
 Ab.ry ws g (λhi=>Bu.El hi j.1) j.2 h
theorem Ab.Oq{B:List (Nat×(Sg->Prop))}{i:Nat}{rest:List (Nat×Bool×Oper)}{c:Call}{f:eN}{args:List V}(ws:List Bool)(T:Sg)(h:AG P f args S0 v S0')(g:B.map (λp=>waits ops i p.1)=ws)(hS:S=S0++T)(q:o.op=.call c)
  (u:o.guard=bi/\A6 n o.dst/\BB tm c/\FP tm c f args/\Z S0'=Z S0/\S0.all (Ao (Z S0))=J/\S0'.all (Ao (Z S0))=J/\args.all (AJ (Z S0))=J/\AJ (Z S0) v=J/\okB ws B S (S0'++T))
  (w:Ab P n b ops (FL ws B) rest (put tm o.dst v) (S0'++T) K):Ab P n b ops B ((i,false,o)::rest) tm S K:=by
 obtain⟨A,C,E,F,G,H,L,j,k,m⟩:=u;subst hS;exact Ab.ry ws g (λhi=>E2 hi q A C (FW F) E (h.Mv T G H L j k)) m w
theorem Ab.E0{B:List (Nat×(Sg->Prop))}{i:Nat}{rest:List (Nat×Bool×Oper)}{c:Call}{f:eN}{g:List V}(ws:List Bool)(h:AG P f g S0 v S0')(rs:List Nat)(k:B.map (λp=>waits ops i p.1)=ws)(q:o.op=.call c)
  (u:o.guard=bi/\A6 n o.dst/\BB tm c/\Cr tm c f g rs/\FC S S0 rs/\Z rs<=Z S0'/\g.all (AJ (Z rs))=J/\okB ws B S (Dk S S0' rs))
  (w:Ab P n b ops (FL ws B) rest (put tm o.dst (BW (FN (nameOf rs) (Z rs) (Z S)) v)) (Dk S S0' rs) K):Ab P n b ops B ((i,false,o)::rest) tm S K:=by
 obtain⟨A,C,E,j,F,G,H,m⟩:=u;unfold Cr at j;split at j
 .rename_i M args L;obtain⟨rfl,rfl⟩:=j;exact Ab.ry ws k (λhi=>E2 hi q A C L E (h.Ef rs F G H)) m w
 .exact j.elim
abbrev ul:=@Ab.E0
theorem AG.pre{f:eN}{args:List V}{A B:Sg}(g:∀n,AI P n (Z S) (ER args) S (ER args) A)(h:AG P f args A v B):AG P f args S v B:=by
 refine⟨h.1,λG w j R F ha=>?_⟩;have st:St P j.size G S w {tmps:=j,defers:=[]} (ER args):=by
  refine⟨rfl,λk=>?_,R⟩;unfold ER;by_cases C:k<Z args
  .have m:args.getD k .any=args[k]:=by simp[i5,C]
   have u:j.getD k undef=j[k]'(by omega):=by simp[show k<j.size by omega]
   simp only[m,u];exact ha k C (by omega)
  .have m:args.getD k .any=.any:=by simp[i5,pu (show Z args<=k by omega)]
   rw[m];exact .any _
 obtain⟨H,q,t,l⟩:=g j.size G w _ st (c9 _);refine(h.2 H w j q.rel F (λi hi L=>?_)).mono λe W ⟨cv,M,N,Q,T,E,U⟩=>⟨cv,M,N,Q,T,t.trans E,(l.trans (U.late l.len)).later R (t.trans E)⟩;have:=q.tm i;have m:ER args i=args[i]:=by simp[ER,i5,hi]
 have u:j.getD i undef=j[i]:=by simp[L]
 rw[m]at this;simp[u]at this;exact this
end
attribute [simp] okB FL iZ gZ ON Xy
section
variable {P:cP} {n b:Nat} {o:Oper} {tm tm':Tm} {S S0 S0' S':Sg} {v:V} {ops:Array Oper} {K:Tm->Sg->Prop} {Q:Exit->Tm->Sg->Prop}
theorem Ab.sM{B:List (Nat×(Sg->Prop))}{i:Nat}{rest:List (Nat×Bool×Oper)}{c:Call}{f:eN}{args:List V}(T:Sg)(h:AG P f args S0 v S0)(hS:S=S0++T)(q:o.op=.call c)
  (u:o.guard=bi/\A6 n o.dst/\BB tm c/\FP tm c f args/\S0.all (Ao (Z S0))=J/\args.all (AJ (Z S0))=J/\AJ (Z S0) v=J)
  (w:Ab P n b ops ((i,λS'=>S'=S)::B) rest (put tm o.dst v) S K):Ab P n b ops B ((i,J,o)::rest) tm S K:=by
 obtain⟨A,C,E,F,m,g,j⟩:=u;refine q7 (λS'=>S'=S) rfl (λhi S' k=>?_) w;subst k;subst hS;exact E2 hi q A C (FW F) E (h.Mv T rfl m m g j)
theorem Ab.Vs{B:List (Nat×(Sg->Prop))}{i:Nat}{rest:List (Nat×Bool×Oper)}{c:Call}{f:eN}{g:List V}(h:AG P f g S0 v S0')(rs:List Nat)(q:o.op=.call c)
  (u:o.guard=bi/\A6 n o.dst/\BB tm c/\Cr tm c f g rs/\FC S S0 rs/\Z rs<=Z S0'/\g.all (AJ (Z rs))=J/\Dk S S0' rs=S)
  (w:Ab P n b ops ((i,λS'=>S'=S)::B) rest (put tm o.dst (BW (FN (nameOf rs) (Z rs) (Z S)) v)) S K):Ab P n b ops B ((i,J,o)::rest) tm S K:=by
 obtain⟨A,C,E,j,F,G,H,k⟩:=u;unfold Cr at j;split at j
 .rename_i M args L;obtain⟨rfl,rfl⟩:=j;refine q7 (λS'=>S'=S) rfl (λhi S' m=>?_) w;subst m;have:=h.Ef rs F G H;rw[k]at this;exact E2 hi q A C L E this
 .exact j.elim
theorem AW.scope{c:Code}(h:AW P n b c (λg tm S=>(∀l,g≠.goto l)/\Q g tm S) tm S):AW P n b (.scope c) Q tm S:=λG w a st hb=>by
 refine wp_scope_straight (K2 (h G w a st hb) λg q u j=>?_);obtain⟨k,S',tm',m,i⟩:=j;cases g with
 |goto l=>exact absurd rfl (i.1 l)
 |_=>exact⟨k,S',tm',m,i.2⟩
theorem AW.label{l:Nat}(h:Q .normal tm S):AW P n b (.label l) Q tm S:=λ_ _ _ st hb=>wp_label ⟨_,_,_,.refl st hb,h⟩
end
abbrev acP:=@List.idxOf_lt_length_of_mem
abbrev acQ:=@decide_true
abbrev adV:=@Bool.and_self
section
variable {P:cP} {n b:Nat} {o:Oper} {tm tm':Tm} {S S0 S0' S':Sg} {v:V} {ops:Array Oper} {K:Tm->Sg->Prop} {Q:Exit->Tm->Sg->Prop}
mutual
def bf(rs:List Nat):V->Bool
 |.row r _=>rs.contains r
 |.ptr r _ _ _=>rs.contains r
 |.map r=>rs.contains r
 |.fn _ as g=>UG rs as&&UG rs g
 |.agg h=>UG rs h
 |.CX i=>UG rs i
 |.opt _ v=>bf rs v
 |_=>J
def UG(rs:List Nat):List V->Bool
 |[]=>J
 |x::g=>bf rs x&&UG rs g
end
theorem LA{rs:List Nat}{r:Nat}(h:rs.contains r=J):nameOf rs (rs.idxOf r)=r/\rs.idxOf r<Z rs:=by
 have i:r∈rs:=by simpa using h
 have g:=acP i;exact⟨by simp[nameOf,i5,g],g⟩
mutual
theorem TB(rs:List Nat):∀x:V,bf rs x=J->BW (nameOf rs) (BW (λr=>rs.idxOf r) x)=x/\AJ (Z rs) (BW (λr=>rs.idxOf r) x)=J
 |.row r _,h=>by simp only[bf]at h;have:=LA h;simp only[BW,this.1,AJ,this.2,acQ,lh]
 |.ptr r _ _ _,h=>by simp only[bf]at h;have:=LA h;simp only[BW,this.1,AJ,this.2,acQ,lh]
 |.map r,h=>by simp only[bf]at h;have:=LA h;simp only[BW,this.1,AJ,this.2,acQ,lh]
 |.fn _ as k,h=>by
  simp only[bf,cF]at h;have g:=Jc rs as h.1;have j:=Jc rs k h.2;simp only[BW,g.1,j.1,AJ,g.2,j.2,adV,lh]
 |.agg i,h=>by simp only[bf]at h;have g:=Jc rs i h;simp only[BW,g.1,AJ,g.2,lh]
 |.CX i,h=>by simp only[bf]at h;have g:=Jc rs i h;simp only[BW,g.1,AJ,g.2,lh]
 |.opt _ x,h=>by simp only[bf]at h;have g:=TB rs x h;simp only[BW,g.1,AJ,g.2,lh]
 |.any,_|.d _,_|.full _,_|.DW _,_=>by simp only[BW,AJ,lh]
theorem Jc(rs:List Nat):∀g:List V,UG rs g=J->CN (nameOf rs) (CN (λr=>rs.idxOf r) g)=g/\Au (Z rs) (CN (λr=>rs.idxOf r) g)=J
 |[],_=>by simp only[CN,Au,lh]
 |x::g,h=>by
  simp only[UG,cF]at h;have i:=TB rs x h.1;have j:=Jc rs g h.2;simp only[CN,i.1,j.1,Au,i.2,j.2,adV,lh]
end
def pick(rs:List Nat)(tm:Tm):Tm:=λt=>if bf rs (tm t)then BW (λr=>rs.idxOf r) (tm t)else .any
theorem AI.pick(rs:List Nat)(hf:FC S S0 rs)(hb:b<=Z rs)(L:∀i,i<b->nameOf rs i=i):AI P n b tm S (pick rs tm) S0:=λG w a st _=>by
 have R:=st.rel;obtain⟨N,u,T⟩:=hf;have A:Z rs=Z S0:=by have:=l5 Z u;simpa using this
 have zv:∀i (h:i<Z rs) (h':i<Z S0),S[rs[i]]?=am (DM (nameOf rs) S0[i]):=λi H q=>by
  have:=l5 (·[i]?) u;simpa[H,q]using this
 have U:∀i (h:i<Z rs),nameOf rs i=rs[i]:=λi h=>by simp[nameOf,i5,h]
 have J1:∀i,i<Z S0->∃o:O,S0[i]?=am o/\S[nameOf rs i]?=am (DM (nameOf rs) o):=λi hi=>⟨S0[i],ej hi,by rw[U i (by omega)];exact zv i (by omega) hi⟩;have inj:∀i j:Nat,i<Z S0->j<Z S0->nameOf rs i=nameOf rs j->i=j:=λi j hi hj e=>by
  rw[U i (by omega),U j (by omega)]at e;exact KZ N (by omega) (by omega) e
 let G0:Gh:={I:=G.I,CP:=λi=>G.CP (nameOf rs i),cap:=λi=>G.cap (nameOf rs i),BG:=λi=>G.BG (nameOf rs i)};have g:∀i,i<Z S0->lenOf S (nameOf rs i)=lenOf S0 i/\C1 S (nameOf rs i)=C1 S0 i/\isMap S (nameOf rs i)=isMap S0 i:=λi hi=>by
  obtain⟨o,H,q⟩:=J1 i hi;exact KC (nameOf rs) o H q
 have E:bJ (nameOf rs) G0 S0 G S:=⟨λ_=>Iff.rfl,λi hi=>by obtain⟨o,_,q⟩:=J1 i hi;exact Ag q,λi hi=>(g i hi).1,λi hi=>(g i hi).2.1,λi hi=>(g i hi).2.2,λ_ _=>rfl,λ_ _=>rfl,λ_ _=>rfl⟩;have m:∀k,Own G0 S0 k->Own G S k:=by
  rintro k ⟨i,o,H,q,h3⟩;have hi:=Ag H;obtain⟨o',B,M⟩:=J1 i hi;rw[H]at B;cases B;exact⟨nameOf rs i,_,M,by rw[Dz (ρ:=nameOf rs) (G0:=G0) (G:=G) (i:=i) (j:=nameOf rs i) o rfl];exact q,h3⟩
 have R0:Rel P G0 S0 w:=by
  refine⟨R.Gl,λi o W=>?_,λi j x y X Y ox oy he=>?_,λk C=>R.nI k (m k C),R.JH,λk C=>R.IJ k (m k C)⟩
  .have hi:=Ag W;obtain⟨o',B,M⟩:=J1 i hi;rw[W]at B;cases B;refine(R.Da _ _ M).PU E hi ?_;rw[<-A];exact ed.1 T o (oj W)
  .obtain⟨x',B,M⟩:=J1 i (Ag X);obtain⟨y',g3,g4⟩:=J1 j (Ag Y);rw[X]at B;cases B;rw[Y]at g3;cases g3;exact inj i j (Ag X) (Ag Y) (R.inj (nameOf rs i) (nameOf rs j) _ _ M g4 (by rw[Dz (ρ:=nameOf rs) (G0:=G0) (G:=G) (i:=i) (j:=nameOf rs i) x rfl];exact ox) (by rw[Dz (ρ:=nameOf rs) (G0:=G0) (G:=G) (i:=j) (j:=nameOf rs j) y rfl];exact oy) he)
 refine⟨G0,⟨st.size,λk=>?_,R0⟩,⟨c9 _,λ_ h=>h,λ_ _ _=>rfl,λk C=>.inl (m k C),λk C=>.inl C,rfl,rfl⟩,⟨by omega,λr hr n' hn'=>?_,λr hr hm=>?_⟩⟩
 .unfold Koi.pick;split
  .next h=>
   have q:=TB rs (tm k) h;exact(st.tm k).PU E q.1.symm (by rw[<-A];exact q.2)
  .exact .any _
 .have F:r<Z S0:=by omega
  have e:=L r hr;have f:=g r F;rw[e]at f;exact⟨n',by rw[f.1];exact hn',c9 _,λ_=>⟨by simp only[G0,e],by simp only[G0,e],by simp only[G0,e],.inl f.2.1.symm⟩⟩
 .have F:r<Z S0:=by omega
  have e:=L r hr;have f:=g r F;rw[e]at f;exact⟨by rw[f.2.2];exact hm,by simp only[G0,e]⟩
theorem AI.HM(rs:List Nat)(j:FC S S0 rs)(hb:b<=Z rs)(g:rs.take b=List.range b):AI P n b tm S (Koi.pick rs tm) S0:=
 AI.pick rs j hb λi hi=>by
  have h:=l5 (·[i]?) g;simp only[abY,hi,ip,List.getElem?_range]at h;simp[nameOf,i5,h]
abbrev vk:=@AI.HM
theorem EL.SQ{b i:Nat}{G:Gh}{j:Gh}(h:EL i G S j S')(hb:b<=i):EL b G S j S':=
 ⟨ms hb h.len,λr g=>h.row r (su g hb),λr g=>h.map r (su g hb)⟩
end
attribute [simp] bf UG
open Go.ChangeMaps (setBlock)
section
variable {P:cP} {n b:Nat} {o:Oper} {tm tm':Tm} {S S0 S0' S':Sg} {v:V} {ops:Array Oper} {Q:Exit->Tm->Sg->Prop}
structure qU(G:Gh)(S:Sg)(w:World)(r k it:Nat)(seen:Array Nat):Prop where
 heap:w.heap[it]?=am (.mapIter (am (G.CP r)) k seen k)
 own:¬Own G S it
 fU:¬G.I it
theorem qU.later{G:Gh}{w:World}{j:Gh}{w':World}{r k i:Nat}{seen:Array Nat}(h:qU G S w r k i seen)(T:Tr G S w j S' w')(hb:j.CP r=G.CP r):qU j S' w' r k i seen:=by
 have m:=F8 h.heap;refine⟨by rw[T.DB i m h.own,hb];exact h.heap,λq=>?_,λhi=>?_⟩
 .rcases T.own i q with g|g
  .exact h.own g
  .omega
 .rcases T.im i hi with g|g|g
  .exact h.fU g
  .exact h.own g
  .omega
theorem Rel.sW{G:Gh}{w:World}(R:Rel P G S w)(H:Obj):Rel P G S (Bl w H)/\Tr G S w G S (Bl w H)/\BA G S w G S (Bl w H):=by
 have L:BA G S w G S (Bl w H):=⟨λ_ h=>h,λk g=>DP (R.JH k g),c9 _,λr _ n h=>⟨n,h,c9 _,λ_=>⟨rfl,rfl,rfl,.inl rfl⟩⟩,λr _ h=>⟨h,rfl⟩⟩;exact⟨⟨R.Gl.later L,λr x i=>(R.Da r x i).later L (λj=>DP (R.IJ _ ⟨r,x,i,j,rfl⟩)) rfl rfl rfl,R.inj,R.nI,λk g=>by have:=R.JH k g;simp;omega,λk g=>by have:=R.IJ k g;simp;omega⟩,⟨by simp,λ_ h=>h,λk g _=>DP g,λ_ h=>.inl h,λ_ h=>.inl h,rfl,rfl⟩,L⟩
theorem Rel.hidden{G:Gh}{w w':World}(R:Rel P G S w){i:Nat}(u:¬Own G S i)(A:¬G.I i)(j:w'.heap.size=w.heap.size)(m:∀k,k≠i->w'.heap[k]?=w.heap[k]?):Rel P G S w'/\BA G S w G S w':=by
 have L:BA G S w G S w':=⟨λ_ h=>h,λk g=>m k (λe=>A (e▸g)),c9 _,λr _ n h=>⟨n,h,c9 _,λ_=>⟨rfl,rfl,rfl,.inl rfl⟩⟩,λr _ h=>⟨h,rfl⟩⟩;exact⟨⟨R.Gl.later L,λr x q=>(R.Da r x q).later L (λB=>m _ (λe=>u (e▸⟨r,x,q,B,rfl⟩))) rfl rfl rfl,R.inj,R.nI,λk g=>by rw[j];exact R.JH k g,λk g=>by rw[j];exact R.IJ k g⟩,L⟩
end
abbrev WF:=@List.length_set
section
variable {P:cP} {n b:Nat} {o:Oper} {tm tm':Tm} {S S':Sg} {v:V} {ops:Array Oper} {K:Tm->Sg->Prop}
def Gh.vf(G:Gh)(r b:Nat)(c:Nat×Nat):Gh:=
 {I:=G.I,CP:=λk=>if k=r then b else G.CP k,cap:=λk=>if k=r then c else G.cap k,BG:=λk=>if k=r then bi else G.BG k}
theorem VV{G g:Gh}{k:Nat}(h:g.BG k=G.BG k)(x:O):Ba g k x=Ba G k x:=by cases x<;>simp[Ba,h]
theorem Nn{T E:TypeId}{x:Operand}{lo hi:Option Operand}{r m sz:Nat}{els:List V}{kl kh:IntKind}{l h:Int}{e:TI}{t:TI}(ho:o.op=.slice T x lo hi bi)(C:need (ev tm x))
  (ex:strip (ev tm x)=.row r m) (hr:S[r]?=am (.row J sz els)) (hm:Z els=m) (hT:ti P T=am t) (B:t.kind=.slice E) (he:ti P E=am e) (zp:e.size=sz) (hlo:Fu tm lo) (el:EU tm lo=.d (.int kl l)) (hhi:Fu tm hi)
  (eh:hi=bi->h=m) (eh':hi≠bi->EU tm hi=.d (.int kh h)) (h0:0<=l) (h1:l<=h) (h2:h<=m):
  CR P n o tm S (.row (Z S) (h - l).toNat) (S.set r .dead++[.row J sz ((els.take h.toNat).drop l.toNat)]):=.val λG w a st=>by
 have hv:=(BS st x).strip C;rw[ex]at hv;obtain⟨d,hd,zr⟩:=An hT w;have hdE:d=.slice E:=by rw[B]at zr;cases d<;>simp[tk]at zr⊢;exact zr
 subst hdE;have R:=st.rel;have hrl:=Ag hr;have hval:a.eval x=G.BU r m:=by cases hv with|row _ _ _ _ _ h=>exact(h m (by simp[lenOf,hr,hm])).2 rfl
 have zq:=R.Da r _ hr;simp only[OK]at zq;cases M:G.BG r with
 |some q=>simp only[M]at zq;exact absurd zq.1 (by simp)
 |none=>
  simp only[M]at zq;obtain⟨c,T0,g1,g2,g3,g4,g5⟩:=zq;simp[Gh.BU,M]at hval;generalize hcap:(G.cap r).1=cap at *;generalize hoff:(G.cap r).2=off at *;have hhr:∀y,hi=am y->a.eval y=.int kh h:=λy W=>B7 st (by simpa[Fu,W]using hhi) (by have:=eh' (by simp[W]);simpa[EU,W]using this);have hlr:∀y,lo=am y->a.eval y=.int kl l:=λy W=>B7 st (by simpa[Fu,W]using hlo) (by simpa[EU,W]using el);have e3:lo=bi->l=0:=λe=>by subst e;simp[EU]at el;exact el.2.symm
  have hb:(Instr.sliceBounds J m cap (lo.map a.eval) (hi.map a.eval) bi).run P w=.ok (l.toNat,h.toNat,cap) w:=by
   unfold Instr.sliceBounds;have e4:l<=(h.toNat:Int):=by omega
   have e5:(h:Int)<=cap:=by omega
   have e7:(0:Int)<=h:=by omega
   cases hi with
   |none=>
    have:=eh rfl;subst this;cases lo with
    |none=>have:=e3 rfl;subst this;simp
    |some z=>simp[hlr z rfl,Cf h0 h1]
   |some y=>
    cases lo with
    |none=>have:=e3 rfl;subst this;simp[hhr y rfl,Cf e7 e5]
    |some z=>simp[hhr y rfl,Cf e7 e5,hlr z rfl,Cf h0 e4]
  let A:=if cap=l.toNat then off else off+l.toNat * sz;let H:=G.vf (Z S) (G.CP r) (cap - l.toNat,A);have hlr':l.toNat<=h.toNat/\h.toNat<=m:=by omega
  have F:H.CP (Z S)=G.CP r:=by simp[H,Gh.vf]
  have hcp:H.cap (Z S)=(cap - l.toNat,A):=by simp[H,Gh.vf]
  have hvi:H.BG (Z S)=none:=by simp[H,Gh.vf]
  have X:∀k,k≠Z S->H.CP k=G.CP k/\H.cap k=G.cap k/\H.BG k=G.BG k:=λk B=>by simp[H,Gh.vf,B]
  have J1:∀k,k<Z S->k≠r->(S.set r .dead++[.row J sz ((els.take h.toNat).drop l.toNat)])[k]?=S[k]?:=λk B hkr=>by
   rw[io (by simpa using B),pv (n7 hkr)]
  have Y:(S.set r .dead++[.row J sz ((els.take h.toNat).drop l.toNat)])[r]?=am .dead:=by
   rw[io (by simpa using hrl)];simp[hrl]
  have new:(S.set r .dead++[.row J sz ((els.take h.toNat).drop l.toNat)])[Z S]?=am (.row J sz ((els.take h.toNat).drop l.toNat)):=by simp
  have L:BA G S w H (S.set r .dead++[.row J sz ((els.take h.toNat).drop l.toNat)]) w:=by
   refine⟨λ_ h=>h,λ_ _=>rfl,by simp,λk B n' hn'=>?_,λk B N=>?_⟩
   .by_cases e:k=r
    .subst e;simp only[lenOf,Y]at hn';cases hn'
    .obtain⟨a1,a2,a3⟩:=X k (by omega);exact⟨n',by simpa only[lenOf,J1 k B e]using hn',c9 _,λ_=>⟨a1,a2,a3,.inl (by simp[C1,J1 k B e])⟩⟩
   .by_cases e:k=r
    .subst e;simp only[isMap,Y]at N;cases N
    .exact⟨by simpa only[isMap,J1 k B e]using N,(X k (by omega)).1⟩
  have g:∀k x,(S.set r .dead++[.row J sz ((els.take h.toNat).drop l.toNat)])[k]?=am x->Ba H k x=J->(k≠r/\k<Z S/\S[k]?=am x/\Ba G k x=J)\/k=Z S:=λk x C hw=>by
   have hkl:=Ag C;simp at hkl;by_cases U:k=Z S
   .exact .inr U
   .left;by_cases e:k=r
    .subst e;rw[Y]at C;cases C;simp[Ba]at hw
    .rw[J1 k (by omega) e]at C;refine⟨e,by omega,C,?_⟩;rw[<-VV (X k U).2.2 x];exact hw
  have hownr:Own G S (G.CP r):=⟨r,_,hr,by simp[Ba,M],rfl⟩;have own:∀k,Own H (S.set r .dead++[.row J sz ((els.take h.toNat).drop l.toNat)]) k->Own G S k:=by
   rintro k ⟨i,x,q1,q2,q3⟩;rcases g i x q1 q2 with⟨_,hil,p1,p2⟩|e
   .exact⟨i,x,p1,p2,by rw[q3,(X i (by omega)).1]⟩
   .subst e;rw[q3,F];exact hownr
  refine⟨.slice (if cap=l.toNat then am ⟨G.CP r,off,bi⟩else(am (⟨G.CP r,off,bi⟩:Addr)).map (·.add (l.toNat * sz))) (h.toNat - l.toNat) (cap - l.toNat),H,w,?_,?_,⟨R.Gl.later L,λk x C=>?_,λi j x y C W ox oy Q=>?_,λk B=>R.nI k (own k B),R.JH,λk B=>R.IJ k (own k B)⟩,⟨c9 _,λ_ h=>h,λ_ _ _=>rfl,λk B=>.inl (own k B),λk B=>.inl B,rfl,rfl⟩,L⟩
  .subst zp;simp[execOp,ho,Instr.sliceAt,hval,hd,Instr.slice,hb,Bg he]
  .refine .row _ _ _ rfl (by simp) λm' N=>?_;have e1:m'=h.toNat - l.toNat:=by
    simp only[lenOf,new,j3]at N;rw[<-N];simp;omega
   subst e1;refine⟨by omega,λ_=>?_⟩;simp[Gh.BU,hvi,F,hcp];have U:h.toNat - l.toNat=(h - l).toNat:=by omega
   rw[U];simp[A];split<;>simp[Addr.add]
  .by_cases U:k=Z S
   .subst U;rw[new]at C;cases C;simp only[OK,hvi,F,hcp];refine⟨c,T0,g1,?_,by simp;omega,by simp;omega,λi hi=>?_⟩
    .simp[A];split
     .next e=>rw[e,adX,Nat.zero_mul];have:=ms (Nat.le_add_right off (cap * sz)) g2;omega
     .have:l.toNat * sz+(cap - l.toNat) * sz=cap * sz:=by rw[<-oE];congr 1;omega
      omega
    .have zo:i<h.toNat - l.toNat:=by simp at hi;omega
     obtain⟨u,u1,u2,u3,u4⟩:=g5 (l.toNat+i) (by omega);refine⟨u,?_,u2,u3,λj hj=>?_⟩
     .have:((els.take h.toNat).drop l.toNat)[i]=els[l.toNat+i]:=by simp
      rw[this];exact u1.later L
     .have:A+(i * sz+j)=off+((l.toNat+i) * sz+j):=by
       simp[A];rw[bv (by omega),oE];omega
      rw[this];exact u4 j hj
   .have hkl:=Ag C;simp at hkl;by_cases e:k=r
    .subst e;rw[Y]at C;cases C;trivial
    .rw[J1 k (by omega) e]at C;obtain⟨a1,a2,a3⟩:=X k U;exact(R.Da k x C).later L (λ_=>rfl) a1 a2 a3
  .rcases g i x C ox with⟨ir,il,p1,p2⟩|e1
   .rcases g j y W oy with⟨jr,jl,p3,p4⟩|U
    .rw[(X i (by omega)).1,(X j (by omega)).1]at Q;exact R.inj i j x y p1 p3 p2 p4 Q
    .subst U;rw[(X i (by omega)).1,F]at Q;exact absurd (R.inj i r x _ p1 hr p2 (by simp[Ba,M]) Q) ir
   .rcases g j y W oy with⟨jr,jl,p3,p4⟩|U
    .subst e1;rw[(X j (by omega)).1,F]at Q;exact absurd (R.inj j r y _ p3 hr p4 (by simp[Ba,M]) Q.symm) jr
    .omega
def wS(P:cP)(T:TypeId)(x:Operand)(lo hi:Option Operand)(r m sz:Nat)(els:List V)(l h:Int)(tm:Tm)(S:Sg):Prop:=
 need (ev tm x)/\strip (ev tm x)=.row r m/\S[r]?=am (.row J sz els)/\Z els=m/\(match Al P T with|some E=>Am P E=am sz|none=>False)/\Fu tm lo/\(∃g,EU tm lo=.d (.int g l))/\Fu tm hi/\(match hi with|none=>h=m|some _=>∃i,EU tm hi=.d (.int i h))/\0<=l/\l<=h/\h<=m
theorem AS.Ma{rest:List Oper}{T:TypeId}{x:Operand}{lo hi:Option Operand}(r m sz:Nat)(els:List V)(l h:Int)(k:o.op=.slice T x lo hi bi)
  (W:o.guard=bi/\A6 n o.dst/\wS P T x lo hi r m sz els l h tm S)
  (q:AS P n b ops rest (put tm o.dst (.row (Z S) (h - l).toNat)) (S.set r .dead++[.row J sz ((els.take h.toNat).drop l.toNat)]) K):AS P n b ops (o::rest) tm S K:=by
 obtain⟨u,w,A,B,C,F,i,G,⟨X,H⟩,L,g,M,N,Q⟩:=W;split at i
 .rename_i E j;obtain⟨t,R,U⟩:=A4 j;obtain⟨e,f1,f2,_⟩:=CO i;cases hi with
  |none=>exact AS.ZG ⟨u,w⟩ (Nn (kh:=.i64) k A B C F R U f1 f2 G H L (λ_=>g) (λh=>absurd rfl h) M N Q) q
  |some y=>
   obtain⟨kh,g⟩:=g;exact AS.ZG ⟨u,w⟩ (Nn k A B C F R U f1 f2 G H L (λh=>by cases h) (λ_=>g) M N Q) q
 .exact i.elim
def AY(P:cP)(n:Nat)(ops:Array Oper)(o:Oper)(tm:Tm)(v:V)(S':Sg):Prop:=EY P n ops o tm S'/\Dm P ops o tm S'=v/\oS P o tm S'=S'
theorem xG{B:List (Nat×(Sg->Prop))}{i:Nat}{rest:List (Nat×Bool×Oper)}(g:EY P n ops o tm S/\oS P o tm S=S)
  (h:Ab P n b ops ((i,AY P n ops o tm (Dm P ops o tm S))::B) rest (put tm o.dst (Dm P ops o tm S)) S K):Ab P n b ops B ((i,J,o)::rest) tm S K:=
 Ab.uM _ ⟨g.1,rfl,g.2⟩ (λ_ h=>h) h
def Ak(tm:Tm)(c:Call)(f:eN)(ds:List D)(S':Sg):Prop:=Ft S' tm c f ds
theorem B6{B:List (Nat×(Sg->Prop))}{i:Nat}{rest:List (Nat×Bool×Oper)}{c:Call}{f:eN}{ds:List D}{d:D}(h:Pure P f ds d)(g:o.op=.call c)
  (j:o.guard=bi/\A6 n o.dst/\BB tm c/\Ft S tm c f ds) (k:Ab P n b ops ((i,Ak tm c f ds)::B) rest (put tm o.dst (.d d)) S K):Ab P n b ops B ((i,J,o)::rest) tm S K:=by
 obtain⟨m,q,u,w⟩:=j;refine q7 _ w (λhi S' hS=>?_) k;obtain⟨args,A,C⟩:=GH (show Ft S' tm c f ds from hS);exact E2 hi g m q A u (h.call C)
theorem AI.wJ(t:Nat){d:D}(h:BO S (tm t)=am d):AI P n b tm S (Fk tm t (.d d)) S:=λG w a st hb=>by
 refine⟨G,⟨st.size,λk=>?_,st.rel⟩,tv _ _ _,aev hb⟩;unfold Fk;by_cases e:k=t
 .subst e;rw[ca rfl];exact .og ((st.tm k).BO st.rel h)
 .rw[bv e];exact st.tm k
end
attribute [simp] wS
end Go.Koi
