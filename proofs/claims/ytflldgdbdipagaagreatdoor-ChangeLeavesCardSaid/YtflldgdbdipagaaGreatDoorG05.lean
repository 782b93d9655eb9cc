/-
  Part 6 of the proof that the law ChangeLeaves returns true for every input.
-/
import Derived.Test.YtflldgdbdipagaaGreatDoorG04
import Derived.Scope
import Derived.Maps.RangeRun
set_option maxHeartbeats 64000000
set_option maxRecDepth 100000
open List renaming length->Z,getD->lg
open Bool renaming true->J,false->am
open Option renaming some->al,none->br
open Go renaming Program->cP
namespace Go.Koi
abbrev er:=@List.getElem?_eq_some_iff
abbrev acT:=@List.getElem_set_self
section
variable {P:cP} {n b:Nat} {o:Oper} {tm tm':Tm} {S S':Sg} {v:V} {ops:Array Oper} {K:Tm->Sg->Prop} {Q:Exit->Tm->Sg->Prop}
theorem AY.Px{rest:List Oper}{c:Call}{f:FuncId}{args:List V}{R:V->Sg->Prop}(z:o.op=.call c)(A:o.guard=none)(B:A6 n o.dst)(C:callee tm c=al (f,args))(hn:A9 tm c)
  (h:BL P f args S R) (E:∀v S',R v S'->AY P n b ops rest (put tm o.dst v) S' K):AY P n b ops (o::rest) tm S K:=λk u G w a Q st hb F=>by
 have h0:ops[k]?=al o:=by simpa using(u 0).symm
 simp only[gr,abW];rw[ac0];unfold wpOp;simp only[h0,Region.wanted,A,kw];left;have key:∀(next:Act->World->Prop),(∀cv g i v S',R v S'->CV i S' g v cv->Rel P i S' g->Tr G S w i S' g->BH G S w i S' g->next (a.put o.dst cv) g)->o.wp P a w next Q:=λnext m=>QC z C hn h st m
 refine key _ λcv g i v S' H L M N s=>?_;refine E v S' H (k+1) (λj=>by have:=u (j+1);simp only[y3]at this;rw[this];congr 1;omega) i g _ Q (st.put B L M s) (s.late hb).len λT U W=>?_;obtain⟨X,Y,t,q,hK⟩:=W;exact F T U ⟨X,Y,t,⟨q.st,q.ds.trans Cv,N.trans q.tr,(s.late hb).trans q.late⟩,hK⟩
theorem AJ.jE(t i sz:Nat){g:List V}{xs:List D}(B:tm t=.agg g)(hi:g[i]?=al (.full xs)):AJ P n b tm S (ER tm t (.agg (g.set i (.row (Z S) (Z xs))))) (S++[.row false sz (xs.map .d)]):=λG w a st hb=>by
 have h1:=st.tm t;rw[B]at h1;generalize C:a.tmps.getD t undef=X at h1;cases h1 with
 |agg _ E F h H=>
  obtain⟨L,m⟩:=er.1 hi;have q:=h i L;rw[m]at q;generalize M:E[i]'(by omega)=Y at q;cases q with
  |full _ base z=>
   obtain⟨r1,r2,s⟩:=st.rel.NB sz xs base z.len z;refine⟨_,⟨st.size,λk=>?_,r1⟩,r2,s.late hb⟩;unfold ER;by_cases e:k=t
   .subst e;rw[b8 rfl,C];refine .agg _ _ (by simp[F]) (λj hj=>?_) H;by_cases A:j=i
    .subst A;simp only[acT,M];refine .row _ _ _ rfl (by simp) λN u=>?_;have:N=Z xs:=by simpa[lenOf]using u.symm
     subst this;exact⟨ci _,λ_=>by simp[Gh.BP,Gh.at]⟩
    .rw[acu (λh=>A h.symm)];exact(h j (by simpa using hj)).later s
   .rw[a9 e];exact(st.tm k).later s
def RL(S:Sg)(x y:V):Prop:=y=x\/y=.any\/∃d,BC S x=al d/\y=.d d
def Xm(S:Sg):List V->List V->Prop
 |[],[]=>True
 |x::g,y::h=>RL S x y/\Xm S g h
 |_,_=>False
def Xs(S:Sg)(x y:V):Prop:=RL S x y\/∃g h,x=.agg g/\y=.agg h/\Xm S g h
def YS(S:Sg):List V->List V->Prop
 |[],[]=>True
 |x::g,y::h=>Xs S x y/\YS S g h
 |_,_=>False
theorem Pg{G:Gh}{w:World}(R:Rel P G S w){x y:V}{v:Value}(h:RL S x y)(g:CV G S w x v):CV G S w y v:=by
 rcases h with rfl|rfl|⟨d,h,rfl⟩
 .exact g
 .exact .any _
 .exact .pq (g.BC R h)
theorem bJ{xs g:List V}(h:Xm S xs g):Z g=Z xs/\∀i (hi:i<Z xs) (j:i<Z g),RL S xs[i] g[i]:=by
 induction xs generalizing g with
 |nil=>cases g with
  |nil=>exact⟨rfl,λi hi=>by simp at hi⟩
  |cons=>exact h.elim
 |cons x xs k=>cases g with
  |nil=>exact h.elim
  |cons y g=>
   obtain⟨h1,m⟩:=h;obtain⟨q,s⟩:=k m;refine⟨by simp[q],λi hi j=>?_⟩;cases i with
   |zero=>exact h1
   |succ i=>exact s i (by simpa using hi) (by simpa using j)
theorem iw{G:Gh}{w:World}(R:Rel P G S w){x y:V}{v:Value}(h:Xs S x y)(g:CV G S w x v):CV G S w y v:=by
 rcases h with h|⟨q,s,rfl,rfl,h⟩
 .exact Pg R h g
 .cases g with
  |agg _ t u j k=>
   obtain⟨z,m⟩:=bJ h;exact .agg _ _ (by omega) (λi hi=>Pg R (m i (by omega) hi) (j i (by omega))) k
theorem Za{xs g:List V}(h:YS S xs g):Z g=Z xs/\∀i (hi:i<Z xs) (j:i<Z g),Xs S xs[i] g[i]:=by
 induction xs generalizing g with
 |nil=>cases g with
  |nil=>exact⟨rfl,λi hi=>by simp at hi⟩
  |cons=>exact h.elim
 |cons x xs k=>cases g with
  |nil=>exact h.elim
  |cons y g=>
   obtain⟨h1,m⟩:=h;obtain⟨q,s⟩:=k m;refine⟨by simp[q],λi hi j=>?_⟩;cases i with
   |zero=>exact h1
   |succ i=>exact s i (by simpa using hi) (by simpa using j)
theorem AJ.TD(r:Nat){sz:Nat}{els:List V}(els':List V)(t:S[r]?=al (.row J sz els))(M:YS S els els'):AJ P n b tm S tm (S.set r (.row J sz els')):=λG w a st hb=>by
 have R:=st.rel;have N:=Ai t;obtain⟨U,W⟩:=Za M;have Dj:(S.set r (.row J sz els'))[r]?=al (.row J sz els'):=by simp[N]
 have u:∀g,g≠r->(S.set r (.row J sz els'))[g]?=S[g]?:=λg h=>by simp[sn (ru h)]
 have el:∀g,lenOf (S.set r (.row J sz els')) g=lenOf S g:=λg=>by
  by_cases e:g=r
  .subst e;simp[lenOf,Dj,t,U]
  .simp only[lenOf,u g e]
 have X:∀g,C0 (S.set r (.row J sz els')) g=C0 S g:=λg=>by
  by_cases e:g=r
  .subst e;simp[C0,Dj,t]
  .simp only[C0,u g e]
 have em:∀g,Bn (S.set r (.row J sz els')) g=Bn S g:=λg=>by
  by_cases e:g=r
  .subst e;simp[Bn,Dj,t]
  .simp only[Bn,u g e]
 have L:BH G S w G (S.set r (.row J sz els')) w:=
  ⟨λ_ h=>h,λ_ _=>rfl,by simp,λg _ Y zK=>⟨Y,by rw[<-el];exact zK,ci _,λ_=>⟨rfl,rfl,rfl,.inl (X g)⟩⟩,λg _ hm=>⟨by rw[<-em];exact hm,rfl⟩⟩
 have own:∀g x,(S.set r (.row J sz els'))[g]?=al x->∃C,S[g]?=al C/\Bb G g C=Bb G g x:=λg x E=>by
  by_cases e:g=r
  .subst e;rw[Dj]at E;cases E;exact⟨_,t,rfl⟩
  .rw[u g e]at E;exact⟨x,E,rfl⟩
 have j:∀k,HG G (S.set r (.row J sz els')) k->HG G S k:=by
  rintro k ⟨g,x,h1,F,h3⟩;obtain⟨C,z,A⟩:=own g x h1;exact⟨g,C,z,by rw[A];exact F,h3⟩
 refine⟨G,⟨st.size,st.tm.later L,⟨R.HU.later L,λg x m=>?_,λr1 r2 x1 x2 h1 F o1 o2 he=>?_,λk s=>R.nI k (j k s),R.Kf,λk s=>R.Ik k (j k s)⟩⟩,⟨ci _,λ_ h=>h,λ_ _ _=>rfl,λk s=>.inl (j k s),λk s=>.inl s,rfl,rfl⟩,L.late hb⟩
 .by_cases e:g=r
  .subst e;rw[Dj]at m;cases m;have B:=R.DX g _ t;simp only[OK]at B⊢;cases H:G.BJ g with
   |none=>
    simp only[H]at B⊢;obtain⟨c,T,z,A,g3,g4,g5⟩:=B;refine⟨c,T,z,A,by omega,by omega,λi hi=>?_⟩;obtain⟨v,k1,k2,k3,k4⟩:=g5 i (by omega);exact⟨v,(iw R (W i (by omega) hi) k1).later L,k2,k3,k4⟩
   |some q=>simp only[H]at B;exact absurd B.1 (by simp)
  .rw[u g e]at m;exact(R.DX g x m).later L (λ_=>rfl) rfl rfl rfl
 .obtain⟨y1,z,p1⟩:=own r1 x1 h1;obtain⟨y2,A,p2⟩:=own r2 x2 F;exact R.inj r1 r2 y1 y2 z A (by rw[p1];exact o1) (by rw[p2];exact o2) he
end
attribute [simp] RL Xm Xs YS
abbrev GT:=@List.cons_append
abbrev acU:=@List.find?_some
abbrev abV:=@List.mem_of_find?_eq_some
abbrev xv:=@List.map_append
abbrev L2:=@List.nodup_append
abbrev aco:=@List.map_nil
abbrev eN:=@List.mem_singleton
section
variable {α β:Type} [DecidableEq α]
def BT(ek:α->D)(ev:β->V)(l:List (α×β)):List (D×V):=l.map λp=>(ek p.1,ev p.2)
def look(l:List (α×β))(k:α):Option β:=(l.find? λp=>decide (p.1=k)).map (·.2)
def Cu(l:List (α×β))(k:α)(x:β):List (α×β):=
 if(look l k).isSome then l.map λp=>if p.1=k then(p.1,x)else p else l++[(k,x)]
@[simp] theorem vD(k:α):look ([]:List (α×β)) k=none:=rfl
theorem Cl(p:α×β)(l:List (α×β))(k:α):look (p::l) k=if p.1=k then al p.2 else look l k:=by
 unfold look;rw[List.find?_cons];by_cases h:p.1=k<;>simp[h]
theorem VE(l m:List (α×β))(k:α):look (l++m) k=(look l k).or (look m k):=by
 induction l with
 |nil=>simp
 |cons p l g=>rw[GT,Cl,Cl,g];split<;>simp
theorem gD(l:List (α×β))(k:α)(x:β)(j:α):look (l.map λp=>if p.1=k then(p.1,x)else p) j=if j=k then(look l k).map λ_=>x else look l j:=by
 induction l with
 |nil=>simp
 |cons p l g=>
  rw[ii,Cl,g];by_cases h:p.1=k
  .subst h;rw[Cl];simp;by_cases e:p.1=j
   .subst e;simp
   .simp[e,Cl];rw[a9 (λh=>e h.symm)];rw[a9 (λh=>e h.symm)]
  .simp[h,Cl];by_cases e:p.1=j
   .subst e;simp[h]
   .simp[e]
theorem Fj(l:List (α×β))(k:α)(x:β)(j:α):look (Cu l k x) j=if j=k then al x else look l j:=by
 unfold Cu;split
 .next h=>
  rw[gD];split
  .obtain⟨y,g⟩:=ol.1 h;simp[g]
  .rfl
 .next h=>
  rw[VE,Cl];have hn:look l k=none:=by simpa using h
  by_cases e:j=k
  .subst e;simp[hn]
  .have i:¬k=j:=λh=>e h.symm;simp[e,i]
theorem L5{l:List (α×β)}{k:α}(x:β)(h:look l k=none):Cu l k x=l++[(k,x)]:=by simp[Cu,h]
theorem Gu{l:List (α×β)}{k:α}{x:β}(h:look l k=al x):(k,x)∈l:=by
 unfold look at h;simp only[WP]at h;obtain⟨p,h1,g⟩:=h;have:=acU h1;simp at this;subst this;subst g;exact abV h1
theorem Rh{l:List (α×β)}{k:α}:look l k=none↔k∉l.map (·.1):=by
 induction l with
 |nil=>simp
 |cons p l g=>
  rw[Cl];by_cases h:p.1=k
  .subst h;simp
  .simp only[h,li,g,ii,ge,In];exact⟨λa=>⟨λe=>h e.symm,a⟩,λa=>a.2⟩
def Keyed(l:List (α×β)):Prop:=(l.map (·.1)).Nodup
theorem Keyed.nil{α β:Type}:Keyed ([]:List (α×β)):=ac4
theorem Keyed.Cu{l:List (α×β)}(h:Keyed l)(k:α)(x:β):Keyed (Cu l k x):=by
 unfold Koi.Cu Keyed;split
 .have:(l.map λp=>if p.1=k then(p.1,x)else p).map (·.1)=l.map (·.1):=by
   rw[md];apply y4;intro p _;simp[Function.comp];split<;>rfl
  rw[this];exact h
 .next hn=>
  rw[xv,L2];refine⟨h,by simp,?_⟩;intro a ha b hb e;simp at hb;subst e;subst hb;exact(Rh.1 (by simpa using hn)) ha
theorem Keyed.look{l:List (α×β)}(h:Keyed l){k:α}{x:β}(g:(k,x)∈l):Koi.look l k=al x:=by
 induction l with
 |nil=>simp at g
 |cons p l i=>
  rw[Cl];unfold Keyed at h;rw[ii,acv]at h;rcases ge.1 g with e|e
  .subst e;simp
  .have:p.1≠k:=λj=>h.1 (by rw[j];exact fd.2 ⟨_,e,rfl⟩);rw[a9 this];exact i h.2 e
variable {ek:α->D} {ev:β->V}
theorem Fe(h:∀a b,DY (ek a) (ek b)=decide (a=b))(l:List (α×β))(k:α):Cq (BT ek ev l) (ek k)=(look l k).map ev:=by
 unfold Cq BT look;rw[List.find?_map];have:((λp:D×V=>DY p.1 (ek k)) ∘ λp:α×β=>(ek p.1,ev p.2))=λp=>decide (p.1=k):=by
  funext p;simp[h]
 rw[this];cases l.find? (λp=>decide (p.1=k))<;>rfl
theorem EA(h:∀a b,DY (ek a) (ek b)=decide (a=b))(l:List (α×β))(k:α)(x:β):Ej (BT ek ev l) (ek k) (ev x)=BT ek ev (Cu l k x):=by
 unfold Ej Cu;rw[Fe h];have:((look l k).map ev).isSome=(look l k).isSome:=by cases look l k<;>rfl
 rw[this];split
 .unfold BT;rw[md,md];apply y4;intro p _;simp[Function.comp,h];by_cases e:p.1=k<;>simp[e]
 .simp[BT]
theorem FJ{α β:Type}{ek:α->D}{ev:β->V}{kk:KK}(h:∀a,B1 kk (ek a)=J)(l:List (α×β)):BW kk (BT ek ev l):=by
 apply OP;intro p g;simp only[BT,fd]at g;obtain⟨q,_,rfl⟩:=g;exact h _
theorem Wz{α β:Type}{ek:α->D}{ev:β->V}{k:Nat}(h:∀x,AP k (ev x)=J)(l:List (α×β)):(BT ek ev l).all (λe=>AP k e.2)=true:=by
 rw[de];intro p g;simp only[BT,fd]at g;obtain⟨q,_,rfl⟩:=g;exact h _
end
section
variable {β:Type} {ev:β->V}
@[simp] theorem tq(l:List (Int×β))(k:Int):Cq (BT (D.int .i64) ev l) (.int .i64 k)=(look l k).map ev:=Fe (by intro a b;rw[gI];simp[DY]) l k
@[simp] theorem uv(l:List (Int×Int))(k x:Int):Ej (BT (D.int .i64) (λx=>.d (.int .i64 x)) l) (.int .i64 k) (.d (.int .i64 x))=BT (D.int .i64) (λx=>.d (.int .i64 x)) (Cu l k x):=EA (ev:=λx=>V.d (.int .i64 x)) (by intro a b;rw[gI];simp[DY]) l k x
@[simp] theorem mX(l:List (Int×β)):BW (.one (.int .i64)) (BT (D.int .i64) ev l)=True:=eq_true (FJ (by intro a;simp[B1,B3]) l)
@[simp] theorem tX{α:Type}{ek:α->D}{k:Nat}(g:β->D)(l:List (α×β)):(BT ek (λx=>V.d (g x)) l).all (λe=>AP k e.2)=true:=by
 rw[de];intro p h;simp only[BT,fd]at h;obtain⟨q,_,rfl⟩:=h;rfl
end
abbrev ads:=@Bool.and_assoc
abbrev ac1:=@List.pairwise_map
section
variable {P:cP} {n b:Nat} {o:Oper} {tm tm':Tm} {S S0 S0' S':Sg} {v:V} {ops:Array Oper} {K:Tm->Sg->Prop}
mutual
theorem My{ρ:Nat->Nat}{k:Nat}(h:∀i,i<k->ρ i=i):∀x:V,AP k x=J->BU ρ x=x
 |.row r _,hb=>by simp only[AP,cR]at hb;simp[BU,h r hb]
 |.ptr r _ _ _,hb=>by simp only[AP,cR]at hb;simp[BU,h r hb]
 |.map r,hb=>by simp only[AP,cR]at hb;simp[BU,h r hb]
 |.fn _ g m,hb=>by
  simp only[AP,b9]at hb;simp only[BU];rw[It h g hb.1,It h m hb.2]
 |.agg j,hb=>by simp only[AP]at hb;simp only[BU];rw[It h j hb]
 |.CA j,hb=>by simp only[AP]at hb;simp only[BU];rw[It h j hb]
 |.opt _ x,hb=>by simp only[AP]at hb;simp only[BU];rw[My h x hb]
 |.any,_|.d _,_|.full _,_|.DW _,_=>by simp only[BU]
theorem It{ρ:Nat->Nat}{k:Nat}(h:∀i,i<k->ρ i=i):∀g:List V,Au k g=J->CE ρ g=g
 |[],_=>by simp only[CE]
 |x::g,hb=>by
  simp only[Au,b9]at hb;simp only[CE];rw[My h x hb.1,It h g hb.2]
end
theorem Yt{ρ:Nat->Nat}{k:Nat}(h:∀i,i<k->ρ i=i)(o:O)(hb:Ao k o=J):DM ρ o=o:=by
 cases o with
 |row q sz g=>simp[Ao]at hb;simp[DM];rw[It h g hb]
 |map j=>
  simp only[Ao]at hb;simp only[DM];congr 1;have:∀p∈j,((p.1,BU ρ p.2):D×V)=p:=λp m=>by rw[My h p.2 (de.1 hb p m)]
  rw[y4 this,List.map_id']
 |BQ s=>rfl
 |dead=>rfl
theorem AH.Nv{f:FuncId}{args:List V}(h:AH P f args S0 v S0')(T:Sg)(t:Z S0'=Z S0)(h1:S0.all (Ao (Z S0))=J)(u:S0'.all (Ao (Z S0))=J)
  (hb:args.all (AP (Z S0))=J) (w:AP (Z S0) v=J):AH P f args (S0++T) v (S0'++T):=by
 have k:∀i,i<Z S0->(id:Nat->Nat) i=i:=λ_ _=>rfl;have g:∀i,i<Z S0->FP id (Z S0) (Z (S0++T)) i=i:=λi hi=>by simp[FP,hi]
 have M:T8 id (S0++T) S0 S0' (S0'++T):=by
  refine⟨λi j _ _ e=>e,λi hi=>⟨S0[i],dl hi,?_⟩,λi o m=>de.1 h1 o (pu m),λi o m=>?_,λr A z=>?_,by simp[t]⟩
  .rw[Yt k _ (de.1 h1 _ (cF hi))];show(S0++T)[i]?=_
   rw[i5 hi,dl hi]
  .have hi:=Ai m;rw[Yt g _ (de.1 u _ (pu m)),g i (by omega)];rw[i5 hi];exact m
  .have q:Z S0<=r:=by
    by_cases e:Z S0<=r
    .exact e
    .exact absurd rfl (z r (by omega))
   rw[vp q,vp (by omega),t]
 have:=h.frame id M (by omega) (λx s=>de.1 hb x s);rw[My g _ w]at this;have e:args.map (BU id)=args:=by
  rw[y4 (λx s=>My k x (de.1 hb x s)),List.map_id']
 rwa [e]at this
theorem AY.Pw{rest:List Oper}{c:Call}{f:FuncId}{args:List V}(T:Sg)(h:AH P f args S0 v S0')(hS:S=S0++T)(j:o.op=.call c)
  (k:o.guard=none/\A6 n o.dst/\A9 tm c/\FT tm c f args/\Z S0'=Z S0/\S0.all (Ao (Z S0))=J/\S0'.all (Ao (Z S0))=J/\args.all (AP (Z S0))=J/\AP (Z S0) v=J)
  (m:AY P n b ops rest (put tm o.dst v) (S0'++T) K):AY P n b ops (o::rest) tm S K:=by
 obtain⟨q,s,t,u,w,z,A,g,i⟩:=k;subst hS;exact ms j q s (FX u) t (h.Nv T w z A g i) m
theorem AJ.Aw(k:Nat)(hS:S.take k=S')(hb:b<=k)(g:k<=Z S)(h:(S.take k).all (Ao k)=J):AJ P n b tm S (clean k tm) S':=hS▸AJ.drop k hb g h
abbrev ea:=@AJ.Aw
theorem AJ.BS(k:Nat)(hS:S.take k=S')(h:b<=k/\k<=Z S/\(S.take k).all (Ao k)=J):AJ P n b tm S (clean k tm) S':=hS▸ne k h
abbrev fi:=@AJ.BS
theorem AJ.Cb(k:Nat)(h:S.take k=S'/\b<=k/\k<=Z S/\(S.take k).all (Ao k)=J):AJ P n b tm S (clean k tm) S':=fi k h.1 h.2
abbrev k6:=@AJ.Cb
theorem AJ.Nh(hS:S=S'):AJ P n b tm S tm S':=hS▸ap
abbrev rr:=@AJ.Nh
@[simp] theorem kK(k:Nat)(xs g:List V):Au k (xs++g)=(Au k xs&&Au k g):=by
 induction xs with
 |nil=>simp[Au]
 |cons x xs h=>simp[Au,h,ads]
@[simp] theorem nF(ρ:Nat->Nat)(xs g:List V):CE ρ (xs++g)=CE ρ xs++CE ρ g:=by
 simp[ET]
theorem Ul:∀(n:Nat) (l:List Nat),l.Nodup->(∀x∈l,x<n)->Z l<=n
 |0,l,_,h=>by
  cases l with
  |nil=>simp
  |cons x l=>exact absurd (h x (by simp)) (by omega)
 |n+1,l,g,h=>by
  have h1:=Ul n (l.erase n) (g.erase n) (λx i=>by
   have j:=h x (List.mem_of_mem_erase i);have k:x≠n:=λe=>by subst e;exact g.not_mem_erase i
   omega)
  have j:=List.length_erase (a:=n) (l:=l);split at j<;>omega
theorem JR{α:Type}(f:α->Nat){l:List α}{n:Nat}(g:l.Nodup)(h:∀x∈l,f x<n)(hi:∀x∈l,∀y∈l,f x=f y->x=y):Z l<=n:=by
 have h1:(l.map f).Nodup:=ac1.2 (g.imp_of_mem λha hb i e=>i (hi _ ha _ hb e));have:=Ul n (l.map f) h1 (λx j=>by obtain⟨y,k,rfl⟩:=fd.1 j;exact h y k);simpa using this
@[simp] theorem sm{α:Type}(ρ:Nat->Nat)(f:α->D)(xs:List α):CE ρ (xs.map λx=>V.d (f x))=xs.map λx=>V.d (f x):=by
 rw[ET,md];rfl
@[simp] theorem qO(ρ:Nat->Nat)(xs:List D):CE ρ (xs.map V.d)=xs.map V.d:=by
 rw[ET,md];rfl
@[simp] theorem uw{α β:Type}(ρ:Nat->Nat)(ek:α->D)(g:β->D)(l:List (α×β)):(BT ek (λx=>V.d (g x)) l).map (λp=>(p.1,BU ρ p.2))=BT ek (λx=>V.d (g x)) l:=by
 unfold BT;rw[md];rfl
end
section
variable {P:cP} {n b:Nat} {o:Oper} {tm tm':Tm} {S S0 S0' S':Sg} {v:V} {ops:Array Oper} {K:Tm->Sg->Prop}
def SO(P:cP)(n b:Nat)(i:List ResultVar)(R:V->Sg->Prop):Exit->Tm->Sg->Prop
 |.normal,tm,S|.ret,tm,S=>∃g h,AJ P n b tm S g h/\J0 P g h i/\∃v S',R v S'/\((∃d j,BC h (Mg P g h i)=al d/\v=.d d/\AJ P n b g h j S')\/(Mg P g h i=v/\S'=h))
 |_,_,_=>False
theorem BL.Ae{f:FuncId}{fn:Func}{c:Code}{args:List V}{R:V->Sg->Prop}(B:P.funcs[f]?=al fn)(C:(fn.name== "runtime.NumGoroutine")=false)(hb:fn.body=al c)(hn:Z args<=fn.ntmps)
  (h:HC args->Ln S->AW P fn.ntmps (Z S) c (SO P fn.ntmps (Z S) fn.results.toList R) (Er args) S):BL P f args S R:=by
 refine BL.intro B C hb hn (AW.assume (p:=HC args/\Ln S) (λG w a st=>⟨ID λi hi=>?_,st.rel.wZ⟩) λu=>(h u.1 u.2).mono λE tm z k=>?_)
 .have:=st.tm i;have e:Er args i=args[i]:=by simp[Er,lg,hi]
  rw[e]at this;exact this.wf
 .have key:SO P fn.ntmps (Z S) fn.results.toList R .ret tm z->dy P fn.ntmps (Z S) fn.results.toList R .ret tm z:=by
   rintro⟨m,F,g,h1,v,S',A,H⟩;rcases H with⟨d,L,q,rfl,M⟩|⟨q,rfl⟩
   .refine⟨m,F,g,h1,λG w a st s=>?_⟩;obtain⟨N,t,t2,l2⟩:=M G w a st s;exact⟨N,.d d,S',λcv j=>.d _ _ ((j.BC st.rel q).mono t2.I (λ_ _=>rfl)),t.rel,t2,l2,A⟩
   .exact⟨m,S',g,h1,λG w a st s=>⟨G,v,S',λcv j=>q▸j,st.rel,aep _ _ _,aeu s,A⟩⟩
  cases E with
  |normal=>exact key k
  |ret=>exact key k
  |exit=>exact k.elim
  |goto=>exact k.elim
  |panic=>exact k.elim
  |outgrown=>exact k.elim
abbrev Ks:=@BL.Ae
def oE(P:cP)(n b:Nat)(j:List ResultVar)(d:D)(S':Sg):Exit->Tm->Sg->Prop
 |.normal,tm,S|.ret,tm,S=>∃g h i,AJ P n b tm S g h/\J0 P g h j/\BC h (Mg P g h j)=al d/\AJ P n b g h i S'
 |_,_,_=>False
theorem AH.F8{f:FuncId}{fn:Func}{c:Code}{args:List V}{d:D}(u:P.funcs[f]?=al fn)(w:(fn.name== "runtime.NumGoroutine")=false)(hb:fn.body=al c)(hn:Z args<=fn.ntmps)
  (h:HC args->Ln S->AW P fn.ntmps (Z S) c (oE P fn.ntmps (Z S) fn.results.toList d S') (Er args) S):AH P f args S (.d d) S':=by
 refine BL.Yz (Ks u w hb hn λh1 z=>(h h1 z).mono λA tm k j=>?_);cases A with
 |normal=>obtain⟨g,k,i,m,q,s,t⟩:=j;exact⟨g,k,m,q,_,_,⟨rfl,rfl⟩,.inl ⟨d,i,s,rfl,t⟩⟩
 |ret=>obtain⟨g,k,i,m,q,s,t⟩:=j;exact⟨g,k,m,q,_,_,⟨rfl,rfl⟩,.inl ⟨d,i,s,rfl,t⟩⟩
 |exit=>exact j.elim
 |goto=>exact j.elim
 |panic=>exact j.elim
 |outgrown=>exact j.elim
@[simp] theorem vF{α β:Type}(ek:α->D)(ev:β->V):BT ek ev []=[]:=rfl
@[simp] theorem uV{α β:Type}(ek:α->D)(ev:β->V)(p:α×β)(l:List (α×β)):BT ek ev (p::l)=(ek p.1,ev p.2)::BT ek ev l:=rfl
end
abbrev ac5:=@List.filter_cons
section
variable {P:cP} {n b:Nat} {o:Oper} {tm tm':Tm} {S S0 S0' S':Sg} {v:V} {ops:Array Oper} {K:Tm->Sg->Prop}
inductive ug where
 |no
 |Cf (r:Nat)
 |fa (p:V)
def dj(x:V):Option ug:=
 match x with
 |.ptr r _ _ _=>al (.Cf r)
 |.DW _=>al .no
 |_=>none
def eW(x:V):Option ug:=
 match x with
 |.ptr r m i j=>al (.fa (.ptr r m i j))
 |.DW _=>al .no
 |_=>none
def On(op:Op)(tm:Tm):Option ug:=
 match op with
 |.move _|.assign _|.extract _ _|.makeFunc ..|.build ..|.pick ..|.convert ..=>al .no
 |.load _ x=>dj (strip (ev tm x))
 |.fieldAddr _ x _|.nilCheck x=>eW (strip (ev tm x))
 |.indexAddr _ x _=>match strip (ev tm x)with
  |.d _=>al .no
  |.full _=>al .no
  |.row r _=>al (.Cf r)
  |.ptr r m i j=>al (.fa (.ptr r m i j))
  |_=>none
 |_=>none
def YK(d:Option ug)(S S':Sg):Prop:=
 match d with
 |some (.Cf r)=>S'[r]?=S[r]?
 |some (.fa p)=>Gn S' p=Gn S p
 |_=>True
theorem Xx{op:Op}{d:ug}(h:On op tm=al d)(hS:YK (al d) S S'):BV P op tm S'=BV P op tm S/\BX P op tm S'=BX P op tm S/\C5 P op tm S'=S':=by
 have s:∀x:V,dj x=al d->(∀a k,OH a k S' x=OH a k S x)/\∀a k,LP a k S' x=LP a k S x:=λx g=>by
  cases x with
  |ptr r m i j=>
   simp only[dj,i9]at g;subst g;simp only[YK]at hS;simp only[OH,LP,JI,ZT,hS,lw,implies_true]
  |DW t=>simp only[OH,LP,lw,implies_true]
  |_=>simp[dj]at g
 have q:∀x:V,eW x=al d->Gn S' x=Gn S x/\eL S' x=eL S x:=λx g=>by
  cases x with
  |ptr r m i j=>
   simp only[eW,i9]at g;subst g;simp only[YK]at hS;exact⟨hS,hS⟩
  |DW t=>exact⟨rfl,rfl⟩
  |_=>simp[eW]at g
 cases op with
 |move x=>exact⟨rfl,rfl,rfl⟩
 |assign x=>exact⟨rfl,rfl,rfl⟩
 |extract x k=>exact⟨rfl,rfl,rfl⟩
 |makeFunc f a b=>exact⟨rfl,rfl,rfl⟩
 |build T C=>exact⟨rfl,rfl,rfl⟩
 |pick c x y=>exact⟨rfl,rfl,rfl⟩
 |convert A B x=>exact⟨rfl,rfl,rfl⟩
 |load T x=>
  obtain⟨u,w⟩:=s _ h;simp only[BV,GS,Hm,BX,GJ,Hz,C5,u,w,lw]
 |fieldAddr T x f=>
  obtain⟨h1,_⟩:=q _ h;simp only[BV,GS,Hm,BX,GJ,Hz,C5,h1,lw]
 |nilCheck x=>
  obtain⟨_,z⟩:=q _ h;simp only[BV,GS,Hm,BX,GJ,Hz,C5,z,lw]
 |indexAddr T x y=>
  simp only[On]at h;simp only[BV,GS,Hm,BX,GJ,Hz,C5];generalize strip (ev tm x)=X at *;cases X with
  |d x=>cases x<;>simp[Gn,CR]
  |full E=>simp[Gn,CR]
  |row r m=>
   simp only[i9]at h;subst h;simp only[YK]at hS;simp only[Gn,CR,hS,lw]
  |ptr r m i j=>
   simp only[i9]at h;subst h;simp only[YK]at hS;simp only[CR,hS,lw]
  |_=>simp at h
 |_=>simp[On]at h
theorem Ad.tw{B:List (Nat×(Sg->Prop))}{i:Nat}{rest:List (Nat×Bool×Oper)}(m:o.guard=none/\(On o.op tm).isSome=J/\EX P n ops o tm S)
  (h:Ad P n b ops ((i,YK (On o.op tm) S)::B) rest (put tm o.dst (Dm P ops o tm S)) S K):Ad P n b ops B ((i,J,o)::rest) tm S K:=by
 obtain⟨k,j,g⟩:=m;obtain⟨d,j⟩:=ol.1 j;rw[j]at h;refine Ad.uW (YK (al d) S) (by unfold YK;split<;>trivial) (λS' hS=>?_) h;obtain⟨h1,q,s⟩:=Xx (P:=P) j hS;refine⟨⟨g.1,?_⟩,?_,?_⟩
 .have:=g.2;rw[k]at this⊢;rw[h1];exact this
 .unfold Dm;rw[k];exact q
 .unfold oS;rw[k];exact s
def okB:List Bool->List (Nat×(Sg->Prop))->Sg->Sg->Prop
 |w::g,p::h,S,S'=>(w=false->p.2 S->p.2 S')/\okB g h S S'
 |_,_,_,_=>True
def FK:List Bool->List (Nat×(Sg->Prop))->List (Nat×(Sg->Prop))
 |w::g,p::h=>match w with|true=>FK g h|false=>p::FK g h
 |_,_=>[]
theorem Ge{i:Nat}:∀{g:List Bool} {B:List (Nat×(Sg->Prop))},B.map (λp=>waits ops i p.1)=g->(B.filter λp=>!waits ops i p.1)=FK g B
 |[],[],_=>rfl
 |w::g,p::k,h=>by
  simp at h;obtain⟨h1,j⟩:=h;rw[ac5,h1,Ge j];cases w<;>rfl
 |[],_::_,h=>by simp at h
 |_::_,[],h=>by simp at h
theorem Ff{i:Nat}:∀{g:List Bool} {B:List (Nat×(Sg->Prop))},B.map (λp=>waits ops i p.1)=g->okB g B S S'->ft ops B i S S'
 |[],[],_,_=>λp m=>by simp at m
 |w::g,p::t,h,k=>by
  simp at h;obtain⟨h1,s⟩:=h;intro q j;rcases ge.1 j with rfl|j
  .cases w with
   |true=>exact .inl h1
   |false=>exact .inr (k.1 rfl)
  .exact Ff s k.2 q j
 |[],_::_,h,_=>by simp at h
 |_::_,[],h,_=>by simp at h
theorem Ad.tT{B:List (Nat×(Sg->Prop))}{i:Nat}{rest:List (Nat×Bool×Oper)}(ws:List Bool)(g:B.map (λp=>waits ops i p.1)=ws)(s:ops[i]?=al o->Bw P n b ops i o tm S v S')(t:okB ws B S S')
  (h:Ad P n b ops (FK ws B) rest (put tm o.dst v) S' K):Ad P n b ops B ((i,false,o)::rest) tm S K:=λk q m=>by
 have hi:ops[i]?=al o:=q (i,false,o) (by simp);simp[En]at m;obtain⟨h1,u⟩:=m;refine⟨λh0=>(by rw[h1]at h0;cases h0),λj hj=>?_⟩;rw[h1]at hj;have:j=i:=by simpa using hj
 subst this;exact⟨o,v,S',hi,s hi,Ff g t,by rw[Ge g];exact h _ (λp m=>q p (by simp[m])) u⟩
theorem xp{B:List (Nat×(Sg->Prop))}{i:Nat}{rest:List (Nat×Bool×Oper)}(ws:List Bool)(g:B.map (λp=>waits ops i p.1)=ws)(h1:EX P n ops o tm S/\okB ws B S (oS P o tm S))
  (h:Ad P n b ops (FK ws B) rest (put tm o.dst (Dm P ops o tm S)) (oS P o tm S) K):Ad P n b ops B ((i,false,o)::rest) tm S K:=
 Ad.tT ws g (λhi=>Bw.Eh hi h1.1) h1.2 h
theorem Ad.Pw{B:List (Nat×(Sg->Prop))}{i:Nat}{rest:List (Nat×Bool×Oper)}{c:Call}{f:FuncId}{args:List V}(ws:List Bool)(T:Sg)(h:AH P f args S0 v S0')(g:B.map (λp=>waits ops i p.1)=ws)(hS:S=S0++T)(q:o.op=.call c)
  (s:o.guard=none/\A6 n o.dst/\A9 tm c/\FT tm c f args/\Z S0'=Z S0/\S0.all (Ao (Z S0))=J/\S0'.all (Ao (Z S0))=J/\args.all (AP (Z S0))=J/\AP (Z S0) v=J/\okB ws B S (S0'++T))
  (t:Ad P n b ops (FK ws B) rest (put tm o.dst v) (S0'++T) K):Ad P n b ops B ((i,false,o)::rest) tm S K:=by
 obtain⟨u,w,z,A,C,E,F,j,k,m⟩:=s;subst hS;exact Ad.tT ws g (λhi=>Pi hi q u w (FX A) z (h.Nv T C E F j k)) m t
theorem Ad.Ei{B:List (Nat×(Sg->Prop))}{i:Nat}{rest:List (Nat×Bool×Oper)}{c:Call}{f:FuncId}{g:List V}(ws:List Bool)(h:AH P f g S0 v S0')(j:List Nat)(m:B.map (λp=>waits ops i p.1)=ws)(s:o.op=.call c)
  (t:o.guard=none/\A6 n o.dst/\A9 tm c/\Cm tm c f g j/\FB S S0 j/\Z j<=Z S0'/\g.all (AP (Z j))=J/\okB ws B S (Dd S S0' j))
  (u:Ad P n b ops (FK ws B) rest (put tm o.dst (BU (FP (nameOf j) (Z j) (Z S)) v)) (Dd S S0' j) K):Ad P n b ops B ((i,false,o)::rest) tm S K:=by
 obtain⟨w,z,A,k,C,E,F,q⟩:=t;unfold Cm at k;split at k
 .rename_i H args G;obtain⟨rfl,rfl⟩:=k;exact Ad.tT ws m (λhi=>Pi hi s w z G A (h.Ee j C E F)) q u
 .exact k.elim
abbrev AC:=@Ad.Ei
theorem AH.pre{f:FuncId}{args:List V}{u z:Sg}(g:∀n,AJ P n (Z S) (Er args) S (Er args) u)(h:AH P f args u v z):AH P f args S v z:=by
 refine⟨h.1,λG w j R C ha=>?_⟩;have st:St P j.size G S w {tmps:=j,defers:=[]} (Er args):=by
  refine⟨rfl,λk=>?_,R⟩;unfold Er;by_cases A:k<Z args
  .have m:args.getD k .any=args[k]:=by simp[lg,A]
   have s:j.getD k undef=j[k]'(by omega):=by simp[show k<j.size by omega]
   simp only[m,s];exact ha k A (by omega)
  .have m:args.getD k .any=.any:=by simp[lg,ut (show Z args<=k by omega)]
   rw[m];exact .any _
 obtain⟨E,q,t,l⟩:=g j.size G w _ st (ci _);refine(h.2 E w j q.rel C (λi hi F=>?_)).mono λe Q ⟨cv,H,h1,L,M,B,N⟩=>⟨cv,H,h1,L,M,t.trans B,(l.trans (N.late l.len)).later R (t.trans B)⟩;have:=q.tm i;have m:Er args i=args[i]:=by simp[Er,lg,hi]
 have s:j.getD i undef=j[i]:=by simp[F]
 rw[m]at this;simp[s]at this;exact this
end
attribute [simp] okB FK dj eW On YK
section
variable {P:cP} {n b:Nat} {o:Oper} {tm tm':Tm} {S S0 S0' S':Sg} {v:V} {ops:Array Oper} {K:Tm->Sg->Prop} {Q:Exit->Tm->Sg->Prop}
theorem Ad.qS{B:List (Nat×(Sg->Prop))}{i:Nat}{rest:List (Nat×Bool×Oper)}{c:Call}{f:FuncId}{args:List V}(T:Sg)(h:AH P f args S0 v S0)(hS:S=S0++T)(q:o.op=.call c)
  (s:o.guard=none/\A6 n o.dst/\A9 tm c/\FT tm c f args/\S0.all (Ao (Z S0))=J/\args.all (AP (Z S0))=J/\AP (Z S0) v=J)
  (t:Ad P n b ops ((i,λS'=>S'=S)::B) rest (put tm o.dst v) S K):Ad P n b ops B ((i,J,o)::rest) tm S K:=by
 obtain⟨u,w,z,A,m,g,j⟩:=s;refine vb (λS'=>S'=S) rfl (λhi S' k=>?_) t;subst k;subst hS;exact Pi hi q u w (FX A) z (h.Nv T rfl m m g j)
theorem Ad.S9{B:List (Nat×(Sg->Prop))}{i:Nat}{rest:List (Nat×Bool×Oper)}{c:Call}{f:FuncId}{g:List V}(h:AH P f g S0 v S0')(j:List Nat)(s:o.op=.call c)
  (t:o.guard=none/\A6 n o.dst/\A9 tm c/\Cm tm c f g j/\FB S S0 j/\Z j<=Z S0'/\g.all (AP (Z j))=J/\Dd S S0' j=S)
  (u:Ad P n b ops ((i,λS'=>S'=S)::B) rest (put tm o.dst (BU (FP (nameOf j) (Z j) (Z S)) v)) S K):Ad P n b ops B ((i,J,o)::rest) tm S K:=by
 obtain⟨w,z,A,k,C,E,F,m⟩:=t;unfold Cm at k;split at k
 .rename_i H args G;obtain⟨rfl,rfl⟩:=k;refine vb (λS'=>S'=S) rfl (λhi S' q=>?_) u;subst q;have:=h.Ee j C E F;rw[m]at this;exact Pi hi s w z G A this
 .exact k.elim
theorem AW.scope{c:Code}(h:AW P n b c (λg tm S=>(∀l,g≠.goto l)/\Q g tm S) tm S):AW P n b (.scope c) Q tm S:=λG w a st hb=>by
 refine wp_scope_straight (adU (h G w a st hb) λg q s j=>?_);obtain⟨k,S',tm',m,i⟩:=j;cases g with
 |goto l=>exact absurd rfl (i.1 l)
 |_=>exact⟨k,S',tm',m,i.2⟩
theorem AW.label{l:Nat}(h:Q .normal tm S):AW P n b (.label l) Q tm S:=λ_ _ _ st hb=>wp_label ⟨_,_,_,.refl st hb,h⟩
end
abbrev acV:=@List.idxOf_lt_length_of_mem
abbrev acW:=@decide_true
abbrev ad0:=@Bool.and_self
section
variable {P:cP} {n b:Nat} {o:Oper} {tm tm':Tm} {S S0 S0' S':Sg} {v:V} {ops:Array Oper} {K:Tm->Sg->Prop} {Q:Exit->Tm->Sg->Prop}
mutual
def cr(g:List Nat):V->Bool
 |.row r _=>g.contains r
 |.ptr r _ _ _=>g.contains r
 |.map r=>g.contains r
 |.fn _ h i=>Uh g h&&Uh g i
 |.agg j=>Uh g j
 |.CA k=>Uh g k
 |.opt _ v=>cr g v
 |_=>J
def Uh(g:List Nat):List V->Bool
 |[]=>J
 |x::h=>cr g x&&Uh g h
end
theorem Lg{g:List Nat}{r:Nat}(h:g.contains r=J):nameOf g (g.idxOf r)=r/\g.idxOf r<Z g:=by
 have j:r∈g:=by simpa using h
 have i:=acV j;exact⟨by simp[nameOf,lg,i],i⟩
mutual
theorem Tc(g:List Nat):∀x:V,cr g x=J->BU (nameOf g) (BU (λr=>g.idxOf r) x)=x/\AP (Z g) (BU (λr=>g.idxOf r) x)=J
 |.row r _,h=>by simp only[cr]at h;have:=Lg h;simp only[BU,this.1,AP,this.2,acW,lw]
 |.ptr r _ _ _,h=>by simp only[cr]at h;have:=Lg h;simp only[BU,this.1,AP,this.2,acW,lw]
 |.map r,h=>by simp only[cr]at h;have:=Lg h;simp only[BU,this.1,AP,this.2,acW,lw]
 |.fn _ i m,h=>by
  simp only[cr,b9]at h;have h1:=J2 g i h.1;have k:=J2 g m h.2;simp only[BU,h1.1,k.1,AP,h1.2,k.2,ad0,lw]
 |.agg j,h=>by simp only[cr]at h;have h1:=J2 g j h;simp only[BU,h1.1,AP,h1.2,lw]
 |.CA j,h=>by simp only[cr]at h;have h1:=J2 g j h;simp only[BU,h1.1,AP,h1.2,lw]
 |.opt _ x,h=>by simp only[cr]at h;have h1:=Tc g x h;simp only[BU,h1.1,AP,h1.2,lw]
 |.any,_|.d _,_|.full _,_|.DW _,_=>by simp only[BU,AP,lw]
theorem J2(g:List Nat):∀i:List V,Uh g i=J->CE (nameOf g) (CE (λr=>g.idxOf r) i)=i/\Au (Z g) (CE (λr=>g.idxOf r) i)=J
 |[],_=>by simp only[CE,Au,lw]
 |x::i,h=>by
  simp only[Uh,b9]at h;have h1:=Tc g x h.1;have j:=J2 g i h.2;simp only[CE,h1.1,j.1,Au,h1.2,j.2,ad0,lw]
end
def pick(g:List Nat)(tm:Tm):Tm:=λt=>if cr g (tm t)then BU (λr=>g.idxOf r) (tm t)else .any
theorem AJ.pick(g:List Nat)(W:FB S S0 g)(hb:b<=Z g)(B:∀i,i<b->nameOf g i=i):AJ P n b tm S (pick g tm) S0:=λG w a st _=>by
 have R:=st.rel;obtain⟨X,T,F⟩:=W;have t:Z g=Z S0:=by have:=mn Z T;simpa using this
 have Dj:∀i (h:i<Z g) (h':i<Z S0),S[g[i]]?=al (DM (nameOf g) S0[i]):=λi h1 s=>by
  have:=mn (·[i]?) T;simpa[h1,s]using this
 have hn:∀i (h:i<Z g),nameOf g i=g[i]:=λi h=>by simp[nameOf,lg,h]
 have KS:∀i,i<Z S0->∃o:O,S0[i]?=al o/\S[nameOf g i]?=al (DM (nameOf g) o):=λi hi=>⟨S0[i],dl hi,by rw[hn i (by omega)];exact Dj i (by omega) hi⟩;have inj:∀i j:Nat,i<Z S0->j<Z S0->nameOf g i=nameOf g j->i=j:=λi j hi hj e=>by
  rw[hn i (by omega),hn j (by omega)]at e;exact Ku X (by omega) (by omega) e
 let G0:Gh:={I:=G.I,Cf:=λi=>G.Cf (nameOf g i),cap:=λi=>G.cap (nameOf g i),BJ:=λi=>G.BJ (nameOf g i)};have m:∀i,i<Z S0->lenOf S (nameOf g i)=lenOf S0 i/\C0 S (nameOf g i)=C0 S0 i/\Bn S (nameOf g i)=Bn S0 i:=λi hi=>by
  obtain⟨o,h1,s⟩:=KS i hi;exact Ky (nameOf g) o h1 s
 have E:cZ (nameOf g) G0 S0 G S:=⟨λ_=>Iff.rfl,λi hi=>by obtain⟨o,_,s⟩:=KS i hi;exact Ai s,λi hi=>(m i hi).1,λi hi=>(m i hi).2.1,λi hi=>(m i hi).2.2,λ_ _=>rfl,λ_ _=>rfl,λ_ _=>rfl⟩;have q:∀k,HG G0 S0 k->HG G S k:=by
  rintro k ⟨i,o,h1,s,Y⟩;have hi:=Ai h1;obtain⟨o',u,C⟩:=KS i hi;rw[h1]at u;cases u;exact⟨nameOf g i,_,C,by rw[Du (ρ:=nameOf g) (G0:=G0) (G:=G) (i:=i) (j:=nameOf g i) o rfl];exact s,Y⟩
 have R0:Rel P G0 S0 w:=by
  refine⟨R.HU,λi o H=>?_,λi j x y L M ox oy he=>?_,λk z=>R.nI k (q k z),R.Kf,λk z=>R.Ik k (q k z)⟩
  .have hi:=Ai H;obtain⟨o',u,C⟩:=KS i hi;rw[H]at u;cases u;refine(R.DX _ _ C).P6 E hi ?_;rw[<-t];exact de.1 F o (pu H)
  .obtain⟨x',u,C⟩:=KS i (Ai L);obtain⟨y',U,g4⟩:=KS j (Ai M);rw[L]at u;cases u;rw[M]at U;cases U;exact inj i j (Ai L) (Ai M) (R.inj (nameOf g i) (nameOf g j) _ _ C g4 (by rw[Du (ρ:=nameOf g) (G0:=G0) (G:=G) (i:=i) (j:=nameOf g i) x rfl];exact ox) (by rw[Du (ρ:=nameOf g) (G0:=G0) (G:=G) (i:=j) (j:=nameOf g j) y rfl];exact oy) he)
 refine⟨G0,⟨st.size,λk=>?_,R0⟩,⟨ci _,λ_ h=>h,λ_ _ _=>rfl,λk z=>.inl (q k z),λk z=>.inl z,rfl,rfl⟩,⟨by omega,λr N n' zK=>?_,λr N hm=>?_⟩⟩
 .unfold Koi.pick;split
  .next h=>
   have s:=Tc g (tm k) h;exact(st.tm k).P6 E s.1.symm (by rw[<-t];exact s.2)
  .exact .any _
 .have A:r<Z S0:=by omega
  have e:=B r N;have f:=m r A;rw[e]at f;exact⟨n',by rw[f.1];exact zK,ci _,λ_=>⟨by simp only[G0,e],by simp only[G0,e],by simp only[G0,e],.inl f.2.1.symm⟩⟩
 .have A:r<Z S0:=by omega
  have e:=B r N;have f:=m r A;rw[e]at f;exact⟨by rw[f.2.2];exact hm,by simp only[G0,e]⟩
theorem AJ.HE(g:List Nat)(k:FB S S0 g)(hb:b<=Z g)(j:g.take b=List.range b):AJ P n b tm S (Koi.pick g tm) S0:=
 AJ.pick g k hb λi hi=>by
  have h:=mn (·[i]?) j;simp only[ab1,hi,kw,List.getElem?_range]at h;simp[nameOf,lg,h]
abbrev C4:=@AJ.HE
theorem Fb.TD{b i:Nat}{G:Gh}{j:Gh}(h:Fb i G S j S')(hb:b<=i):Fb b G S j S':=
 ⟨oq hb h.len,λr g=>h.row r (EQ g hb),λr g=>h.map r (EQ g hb)⟩
end
attribute [simp] cr Uh
open Go.ChangeMaps (setBlock)
section
variable {P:cP} {n b:Nat} {o:Oper} {tm tm':Tm} {S S0 S0' S':Sg} {v:V} {ops:Array Oper} {Q:Exit->Tm->Sg->Prop}
structure rW(G:Gh)(S:Sg)(w:World)(r k it:Nat)(seen:Array Nat):Prop where
 heap:w.heap[it]?=al (.mapIter (al (G.Cf r)) k seen k)
 own:¬HG G S it
 iF:¬G.I it
theorem rW.later{G:Gh}{w:World}{i:Gh}{w':World}{r k g:Nat}{seen:Array Nat}(h:rW G S w r k g seen)(T:Tr G S w i S' w')(hb:i.Cf r=G.Cf r):rW i S' w' r k g seen:=by
 have j:=GK h.heap;refine⟨by rw[T.EV g j h.own,hb];exact h.heap,λm=>?_,λhi=>?_⟩
 .rcases T.own g m with h1|h1
  .exact h.own h1
  .omega
 .rcases T.im g hi with h1|h1|h1
  .exact h.iF h1
  .exact h.own h1
  .omega
theorem Rel.sR{G:Gh}{w:World}(R:Rel P G S w)(H:Obj):Rel P G S (Bj w H)/\Tr G S w G S (Bj w H)/\BH G S w G S (Bj w H):=by
 have L:BH G S w G S (Bj w H):=⟨λ_ h=>h,λk g=>DO (R.Kf k g),ci _,λr _ n h=>⟨n,h,ci _,λ_=>⟨rfl,rfl,rfl,.inl rfl⟩⟩,λr _ h=>⟨h,rfl⟩⟩;exact⟨⟨R.HU.later L,λr x i=>(R.DX r x i).later L (λj=>DO (R.Ik _ ⟨r,x,i,j,rfl⟩)) rfl rfl rfl,R.inj,R.nI,λk g=>by have:=R.Kf k g;simp;omega,λk g=>by have:=R.Ik k g;simp;omega⟩,⟨by simp,λ_ h=>h,λk g _=>DO g,λ_ h=>.inl h,λ_ h=>.inl h,rfl,rfl⟩,L⟩
theorem Rel.hidden{G:Gh}{w w':World}(R:Rel P G S w){i:Nat}(h1:¬HG G S i)(s:¬G.I i)(j:w'.heap.size=w.heap.size)(m:∀k,k≠i->w'.heap[k]?=w.heap[k]?):Rel P G S w'/\BH G S w G S w':=by
 have L:BH G S w G S w':=⟨λ_ h=>h,λk g=>m k (λe=>s (e▸g)),ci _,λr _ n h=>⟨n,h,ci _,λ_=>⟨rfl,rfl,rfl,.inl rfl⟩⟩,λr _ h=>⟨h,rfl⟩⟩;exact⟨⟨R.HU.later L,λr x q=>(R.DX r x q).later L (λt=>m _ (λe=>h1 (e▸⟨r,x,q,t,rfl⟩))) rfl rfl rfl,R.inj,R.nI,λk g=>by rw[j];exact R.Kf k g,λk g=>by rw[j];exact R.Ik k g⟩,L⟩
end
abbrev ab2:=@List.length_set
section
variable {P:Program} {n b:Nat} {o:Oper} {tm tm':Tm} {S S':Sg} {v:V} {ops:Array Oper} {K:Tm->Sg->Prop}
def Gh.uj(G:Gh)(r b:Nat)(c:Nat×Nat):Gh:=
 {I:=G.I,Cf:=λk=>if k=r then b else G.Cf k,cap:=λk=>if k=r then c else G.cap k,BJ:=λk=>if k=r then br else G.BJ k}
theorem Wh{G g:Gh}{k:Nat}(h:g.BJ k=G.BJ k)(x:O):Bb g k x=Bb G k x:=by cases x<;>simp[Bb,h]
theorem OC{T E:TypeId}{x:Operand}{lo hi:Option Operand}{r m sz:Nat}{els:List V}{kl kh:IntKind}{l h:Int}{e:TI}{t:TI}(ho:o.op=.slice T x lo hi br)(B:need (ev tm x))
  (ex:strip (ev tm x)=.row r m) (hr:S[r]?=al (.row J sz els)) (hm:Z els=m) (hT:ti P T=al t) (A:t.kind=.slice E) (he:ti P E=al e) (zg:e.size=sz) (hlo:Fp tm lo) (el:EO tm lo=.d (.int kl l)) (hhi:Fp tm hi)
  (eh:hi=br->h=m) (eh':hi≠br->EO tm hi=.d (.int kh h)) (h0:0<=l) (h1:l<=h) (h2:h<=m):
  CP P n o tm S (.row (Z S) (h - l).toNat) (S.set r .dead++[.row J sz ((els.take h.toNat).drop l.toNat)]):=.val λG w a st=>by
 have hv:=(BY st x).strip B;rw[ex]at hv;obtain⟨d,hd,zh⟩:=An hT w;have hdE:d=.slice E:=by rw[A]at zh;cases d<;>simp[tk]at zh⊢;exact zh
 subst hdE;have R:=st.rel;have zV:=Ai hr;have zF:a.eval x=G.BP r m:=by cases hv with|row _ _ _ _ _ h=>exact(h m (by simp[lenOf,hr,hm])).2 rfl
 have zi:=R.DX r _ hr;simp only[OK]at zi;cases H:G.BJ r with
 |some q=>simp only[H]at zi;exact absurd zi.1 (by simp)
 |none=>
  simp only[H]at zi;obtain⟨c,T0,g1,g2,g3,g4,g5⟩:=zi;simp[Gh.BP,H]at zF;generalize hcap:(G.cap r).1=cap at *;generalize hoff:(G.cap r).2=off at *;have hhr:∀y,hi=al y->a.eval y=.int kh h:=λy U=>B5 st (by simpa[Fp,U]using hhi) (by have:=eh' (by simp[U]);simpa[EO,U]using this);have hlr:∀y,lo=al y->a.eval y=.int kl l:=λy U=>B5 st (by simpa[Fp,U]using hlo) (by simpa[EO,U]using el);have e3:lo=br->l=0:=λe=>by subst e;simp[EO]at el;exact el.2.symm
  have hb:(Instr.sliceBounds J m cap (lo.map a.eval) (hi.map a.eval) br).run P w=.ok (l.toNat,h.toNat,cap) w:=by
   unfold Instr.sliceBounds;have e4:l<=(h.toNat:Int):=by omega
   have e5:(h:Int)<=cap:=by omega
   have e7:(0:Int)<=h:=by omega
   cases hi with
   |none=>
    have:=eh rfl;subst this;cases lo with
    |none=>have:=e3 rfl;subst this;simp
    |some z=>simp[hlr z rfl,Ca h0 h1]
   |some y=>
    cases lo with
    |none=>have:=e3 rfl;subst this;simp[hhr y rfl,Ca e7 e5]
    |some z=>simp[hhr y rfl,Ca e7 e5,hlr z rfl,Ca h0 e4]
  let s:=if cap=l.toNat then off else off+l.toNat * sz;let F:=G.uj (Z S) (G.Cf r) (cap - l.toNat,s);have hlr':l.toNat<=h.toNat/\h.toNat<=m:=by omega
  have C:F.Cf (Z S)=G.Cf r:=by simp[F,Gh.uj]
  have hcp:F.cap (Z S)=(cap - l.toNat,s):=by simp[F,Gh.uj]
  have hvi:F.BJ (Z S)=none:=by simp[F,Gh.uj]
  have W:∀k,k≠Z S->F.Cf k=G.Cf k/\F.cap k=G.cap k/\F.BJ k=G.BJ k:=λk A=>by simp[F,Gh.uj,A]
  have KS:∀k,k<Z S->k≠r->(S.set r .dead++[.row J sz ((els.take h.toNat).drop l.toNat)])[k]?=S[k]?:=λk A hkr=>by
   rw[i5 (by simpa using A),sn (ru hkr)]
  have X:(S.set r .dead++[.row J sz ((els.take h.toNat).drop l.toNat)])[r]?=al .dead:=by
   rw[i5 (by simpa using zV)];simp[zV]
  have new:(S.set r .dead++[.row J sz ((els.take h.toNat).drop l.toNat)])[Z S]?=al (.row J sz ((els.take h.toNat).drop l.toNat)):=by simp
  have L:BH G S w F (S.set r .dead++[.row J sz ((els.take h.toNat).drop l.toNat)]) w:=by
   refine⟨λ_ h=>h,λ_ _=>rfl,by simp,λk A n' zK=>?_,λk A M=>?_⟩
   .by_cases e:k=r
    .subst e;simp only[lenOf,X]at zK;cases zK
    .obtain⟨a1,a2,a3⟩:=W k (by omega);exact⟨n',by simpa only[lenOf,KS k A e]using zK,ci _,λ_=>⟨a1,a2,a3,.inl (by simp[C0,KS k A e])⟩⟩
   .by_cases e:k=r
    .subst e;simp only[Bn,X]at M;cases M
    .exact⟨by simpa only[Bn,KS k A e]using M,(W k (by omega)).1⟩
  have g:∀k x,(S.set r .dead++[.row J sz ((els.take h.toNat).drop l.toNat)])[k]?=al x->Bb F k x=J->(k≠r/\k<Z S/\S[k]?=al x/\Bb G k x=J)\/k=Z S:=λk x B hw=>by
   have zA:=Ai B;simp at zA;by_cases Q:k=Z S
   .exact .inr Q
   .left;by_cases e:k=r
    .subst e;rw[X]at B;cases B;simp[Bb]at hw
    .rw[KS k (by omega) e]at B;refine⟨e,by omega,B,?_⟩;rw[<-Wh (W k Q).2.2 x];exact hw
  have Y:HG G S (G.Cf r):=⟨r,_,hr,by simp[Bb,H],rfl⟩;have own:∀k,HG F (S.set r .dead++[.row J sz ((els.take h.toNat).drop l.toNat)]) k->HG G S k:=by
   rintro k ⟨i,x,q1,q2,q3⟩;rcases g i x q1 q2 with⟨_,zs,p1,p2⟩|e
   .exact⟨i,x,p1,p2,by rw[q3,(W i (by omega)).1]⟩
   .subst e;rw[q3,C];exact Y
  refine⟨.slice (if cap=l.toNat then al ⟨G.Cf r,off,br⟩else(al (⟨G.Cf r,off,br⟩:Addr)).map (·.add (l.toNat * sz))) (h.toNat - l.toNat) (cap - l.toNat),F,w,?_,?_,⟨R.HU.later L,λk x B=>?_,λi j x y B U ox oy N=>?_,λk A=>R.nI k (own k A),R.Kf,λk A=>R.Ik k (own k A)⟩,⟨ci _,λ_ h=>h,λ_ _ _=>rfl,λk A=>.inl (own k A),λk A=>.inl A,rfl,rfl⟩,L⟩
  .subst zg;simp[execOp,ho,Instr.sliceAt,zF,hd,Instr.slice,hb,Ba he]
  .refine .row _ _ _ rfl (by simp) λm' M=>?_;have e1:m'=h.toNat - l.toNat:=by
    simp only[lenOf,new,i9]at M;rw[<-M];simp;omega
   subst e1;refine⟨by omega,λ_=>?_⟩;simp[Gh.BP,hvi,C,hcp];have Q:h.toNat - l.toNat=(h - l).toNat:=by omega
   rw[Q];simp[s];split<;>simp[Addr.add]
  .by_cases Q:k=Z S
   .subst Q;rw[new]at B;cases B;simp only[OK,hvi,C,hcp];refine⟨c,T0,g1,?_,by simp;omega,by simp;omega,λi hi=>?_⟩
    .simp[s];split
     .next e=>rw[e,ad2,Nat.zero_mul];have:=oq (Nat.le_add_right off (cap * sz)) g2;omega
     .have:l.toNat * sz+(cap - l.toNat) * sz=cap * sz:=by rw[<-sw];congr 1;omega
      omega
    .have ze:i<h.toNat - l.toNat:=by simp at hi;omega
     obtain⟨u,u1,u2,u3,u4⟩:=g5 (l.toNat+i) (by omega);refine⟨u,?_,u2,u3,λj hj=>?_⟩
     .have:((els.take h.toNat).drop l.toNat)[i]=els[l.toNat+i]:=by simp
      rw[this];exact u1.later L
     .have:s+(i * sz+j)=off+((l.toNat+i) * sz+j):=by
       simp[s];rw[a9 (by omega),sw];omega
      rw[this];exact u4 j hj
   .have zA:=Ai B;simp at zA;by_cases e:k=r
    .subst e;rw[X]at B;cases B;trivial
    .rw[KS k (by omega) e]at B;obtain⟨a1,a2,a3⟩:=W k Q;exact(R.DX k x B).later L (λ_=>rfl) a1 a2 a3
  .rcases g i x B ox with⟨ir,il,p1,p2⟩|e1
   .rcases g j y U oy with⟨jr,jl,p3,p4⟩|Q
    .rw[(W i (by omega)).1,(W j (by omega)).1]at N;exact R.inj i j x y p1 p3 p2 p4 N
    .subst Q;rw[(W i (by omega)).1,C]at N;exact absurd (R.inj i r x _ p1 hr p2 (by simp[Bb,H]) N) ir
   .rcases g j y U oy with⟨jr,jl,p3,p4⟩|Q
    .subst e1;rw[(W j (by omega)).1,C]at N;exact absurd (R.inj j r y _ p3 hr p4 (by simp[Bb,H]) N.symm) jr
    .omega
def vG(P:Program)(T:TypeId)(x:Operand)(lo hi:Option Operand)(r m sz:Nat)(els:List V)(l h:Int)(tm:Tm)(S:Sg):Prop:=
 need (ev tm x)/\strip (ev tm x)=.row r m/\S[r]?=al (.row J sz els)/\Z els=m/\(match BB P T with|some E=>DH P E=al sz|none=>False)/\Fp tm lo/\(∃kl,EO tm lo=.d (.int kl l))/\Fp tm hi/\(match hi with|none=>h=m|some _=>∃kh,EO tm hi=.d (.int kh h))/\0<=l/\l<=h/\h<=m
theorem AY.KZ{rest:List Oper}{T:TypeId}{x:Operand}{lo hi:Option Operand}(r m sz:Nat)(els:List V)(l h:Int)(k:o.op=.slice T x lo hi br)
  (R:o.guard=br/\A6 n o.dst/\vG P T x lo hi r m sz els l h tm S)
  (q:AY P n b ops rest (put tm o.dst (.row (Z S) (h - l).toNat)) (S.set r .dead++[.row J sz ((els.take h.toNat).drop l.toNat)]) K):AY P n b ops (o::rest) tm S K:=by
 obtain⟨s,u,w,z,A,B,i,C,⟨kl,F⟩,G,g,H,L,M⟩:=R;split at i
 .rename_i E j;obtain⟨t,N,Q⟩:=A8 j;obtain⟨e,f1,f2,_⟩:=CB i;cases hi with
  |none=>exact AY.Zb ⟨s,u⟩ (OC (kh:=.i64) k w z A B N Q f1 f2 C F G (λ_=>g) (λh=>absurd rfl h) H L M) q
  |some y=>
   obtain⟨kh,g⟩:=g;exact AY.Zb ⟨s,u⟩ (OC k w z A B N Q f1 f2 C F G (λh=>by cases h) (λ_=>g) H L M) q
 .exact i.elim
def Aa(P:Program)(n:Nat)(ops:Array Oper)(o:Oper)(tm:Tm)(v:V)(S':Sg):Prop:=EX P n ops o tm S'/\Dm P ops o tm S'=v/\oS P o tm S'=S'
theorem xG{B:List (Nat×(Sg->Prop))}{i:Nat}{rest:List (Nat×Bool×Oper)}(h1:EX P n ops o tm S/\oS P o tm S=S)
  (h:Ad P n b ops ((i,Aa P n ops o tm (Dm P ops o tm S))::B) rest (put tm o.dst (Dm P ops o tm S)) S K):Ad P n b ops B ((i,J,o)::rest) tm S K:=
 Ad.uW _ ⟨h1.1,rfl,h1.2⟩ (λ_ h=>h) h
def Ag(tm:Tm)(c:Call)(f:FuncId)(ds:List D)(S':Sg):Prop:=F1 S' tm c f ds
theorem Bs{B:List (Nat×(Sg->Prop))}{i:Nat}{rest:List (Nat×Bool×Oper)}{c:Call}{f:FuncId}{ds:List D}{d:D}(h:Pure P f ds d)(g:o.op=.call c)
  (j:o.guard=br/\A6 n o.dst/\A9 tm c/\F1 S tm c f ds) (k:Ad P n b ops ((i,Ag tm c f ds)::B) rest (put tm o.dst (.d d)) S K):Ad P n b ops B ((i,J,o)::rest) tm S K:=by
 obtain⟨m,q,s,t⟩:=j;refine vb _ t (λhi S' hS=>?_) k;obtain⟨args,u,w⟩:=GG (show F1 S' tm c f ds from hS);exact Pi hi g m q u s (h.call w)
theorem AJ.te(t:Nat){d:D}(h:BC S (tm t)=al d):AJ P n b tm S (ER tm t (.d d)) S:=λG w a st hb=>by
 refine⟨G,⟨st.size,λk=>?_,st.rel⟩,aep _ _ _,aeu hb⟩;unfold ER;by_cases e:k=t
 .subst e;rw[b8 rfl];exact .pq ((st.tm k).BC st.rel h)
 .rw[a9 e];exact st.tm k
end
attribute [simp] vG
section
variable {P:Program} {n b:Nat} {o:Oper} {tm tm':Tm} {S S':Sg} {v:V} {ops:Array Oper} {K:Tm->Sg->Prop}
theorem AJ.ud(r:Nat){es es':List (D×V)}(t:S[r]?=al (.map es))(hl:Z es'=Z es)(N:∀i (h:i<Z es) (h':i<Z es'),es'[i].1=es[i].1/\RL S es[i].2 es'[i].2):
  AJ P n b tm S tm (S.set r (.map es')):=λG w a st hb=>by
 have R:=st.rel;have Q:=Ai t;have Dj:(S.set r (.map es'))[r]?=al (.map es'):=by simp[Q]
 have u:∀g,g≠r->(S.set r (.map es'))[g]?=S[g]?:=λg h=>by simp[sn (ru h)]
 have el:∀g,lenOf (S.set r (.map es')) g=lenOf S g:=λg=>by
  by_cases e:g=r
  .subst e;simp[lenOf,Dj,t]
  .simp[lenOf,u g e]
 have F:∀g,C0 (S.set r (.map es')) g=C0 S g:=λg=>by
  by_cases e:g=r
  .subst e;simp[C0,Dj,t]
  .simp[C0,u g e]
 have em:∀g,Bn (S.set r (.map es')) g=Bn S g:=λg=>by
  by_cases e:g=r
  .subst e;simp[Bn,Dj,t]
  .simp only[Bn,u g e]
 have L:BH G S w G (S.set r (.map es')) w:=
  ⟨λ_ h=>h,λ_ _=>rfl,by simp,λg _ T U=>⟨T,by rw[<-el];exact U,ci _,λ_=>⟨rfl,rfl,rfl,.inl (F g)⟩⟩,λg _ W=>⟨by rw[<-em];exact W,rfl⟩⟩
 have own:∀g x,(S.set r (.map es'))[g]?=al x->∃B,S[g]?=al B/\Bb G g B=Bb G g x:=λg x C=>by
  by_cases e:g=r
  .subst e;rw[Dj]at C;cases C;exact⟨_,t,rfl⟩
  .rw[u g e]at C;exact⟨x,C,rfl⟩
 have j:∀k,HG G (S.set r (.map es')) k->HG G S k:=by
  rintro k ⟨g,x,h1,H,X⟩;obtain⟨B,z,E⟩:=own g x h1;exact⟨g,B,z,by rw[E];exact H,X⟩
 refine⟨G,⟨st.size,st.tm.later L,⟨R.HU.later L,λg x m=>?_,λr1 r2 Y x2 h1 H o1 o2 he=>?_,λk q=>R.nI k (j k q),R.Kf,λk q=>R.Ik k (j k q)⟩⟩,⟨ci _,λ_ h=>h,λ_ _ _=>rfl,λk q=>.inl (j k q),λk q=>.inl q,rfl,rfl⟩,L.late hb⟩
 .by_cases e:g=r
  .subst e;rw[Dj]at m;cases m;have M:=R.DX g _ t;simp[OK]at M⊢;obtain⟨A,s,z,E,g3,g4⟩:=M;refine⟨A,s,z,by omega,by omega,λi hi=>?_⟩;obtain⟨e,f1,f2,f3,f4⟩:=g4 i (by omega);obtain⟨q1,q2⟩:=N i (by omega) hi;exact⟨e,f1,by rw[q1];exact f2,(Pg R q2 f3).later L,f4⟩
  .rw[u g e]at m;exact(R.DX g x m).later L (λ_=>rfl) rfl rfl rfl
 .obtain⟨y1,z,p1⟩:=own r1 Y h1;obtain⟨y2,E,p2⟩:=own r2 x2 H;exact R.inj r1 r2 y1 y2 z E (by rw[p1];exact o1) (by rw[p2];exact o2) he
theorem AJ.Xq:∀(l:List (Nat×List D)) {S:Sg},(l.map (·.1)).Nodup->(∀p∈l,∃j sz,S[p.1]?=al (.row j sz (p.2.map .d)))->∃S',AJ P n b tm S tm S'/\Z S'=Z S/\(∀p∈l,S'[p.1]?=al (.BQ p.2))/\∀i,i∉l.map (·.1)->S'[i]?=S[i]?
 |[],S,_,_=>⟨S,ap,rfl,by simp,λ_ _=>rfl⟩
 |p::l,S,k,h=>by
  rw[ii,acv]at k;obtain⟨j,sz,h0⟩:=h p (by simp);have s:∀i,i≠p.1->(S.set p.1 (.BQ p.2))[i]?=S[i]?:=λi hi=>sn (ru hi);obtain⟨S',u,w,z,t⟩:=AJ.Xq l (S:=S.set p.1 (.BQ p.2)) k.2 (λq g=>by
   obtain⟨j,sz,m⟩:=h q (by simp[g]);exact⟨j,sz,by rw[s q.1 (λe=>k.1 (e▸fd.2 ⟨q,g,rfl⟩))];exact m⟩)
  refine⟨S',(fc p.1 h0 (by simp)).trans u,by simpa using w,λq g=>?_,λi hi=>?_⟩
  .rcases ge.1 g with rfl|g
   .rw[t _ k.1];simp[Ai h0]
   .exact z q g
  .simp only[ii,ge,In]at hi;rw[t i hi.2,s i hi.1]
end
section
variable {P:Program} {n b:Nat} {o:Oper} {tm tm':Tm} {S S0 S0' S':Sg} {v:V} {ops:Array Oper} {K:Tm->Sg->Prop}
theorem AY.Ih{rest:List Oper}{c:Call}{f:FuncId}{g:List V}{k:V->Sg->Prop}(h:BL P f g S0 k)(i:List Nat)(q:o.op=.call c)
  (s:o.guard=br/\A6 n o.dst/\A9 tm c/\Cm tm c f g i/\FB S S0 i/\g.all (AP (Z i))=J) (m:∀v S0',k v S0'->Z i<=Z S0')
  (t:∀v S0',k v S0'->AY P n b ops rest (put tm o.dst (BU (FP (nameOf i) (Z i) (Z S)) v)) (Dd S S0' i) K):AY P n b ops (o::rest) tm S K:=by
 obtain⟨u,w,z,j,A,B⟩:=s;unfold Cm at j;split at j
 .rename_i L args C;obtain⟨rfl,rfl⟩:=j;exact AY.Px q u w C z (h.Ee i A m B) λv S' ⟨E,S0',F,G,H⟩=>by subst G;subst H;exact t E S0' F
 .exact j.elim
end
abbrev adf:=@Nat.lt_irrefl
abbrev adM:=@Array.toList_filter
abbrev acK:=@List.eq_nil_of_length_eq_zero
section
variable {P:Program} {n b:Nat} {o:Oper} {tm tm':Tm} {S S0 S0' S':Sg} {v:V} {ops:Array Oper} {Q:Exit->Tm->Sg->Prop}
def GW(P:Program)(n b:Nat)(ops:Array Oper)(l:List Oper)(tm:Tm)(S:Sg)(r _:Nat)(K:Nat->Nat->Tm->Sg->Prop):Prop:=
 ∀i,(∀j,l[j]?=ops[i+j]?)->∀G w a Q,St P n G S w a tm->b<=Z S->(∀m g q S' tm' k h,Iy P n b G S w a.defers m g q S' tm'->rW q S' g r k h #[]->w.heap.size<=h->K k h tm' S'->Q .normal m g)->wpOps P ops Q (List.range' i (Z l)) a w
theorem GW.step{rest:List Oper}{r t:Nat}{K:Nat->Nat->Tm->Sg->Prop}(B:∀i,ops[i]?=al o->Step P n b ops i tm S tm' S')(h:GW P n b ops rest tm' S' r t K):GW P n b ops (o::rest) tm S r t K:=λq A G w a Q st hb C=>by
 have h0:ops[q]?=al o:=by simpa using(A 0).symm
 simp[abW];rw[ac0];refine B q h0 G w a _ Q st hb λE F H g=>?_;refine h (q+1) (λj=>by have:=A (j+1);simp at this;rw[this];congr 1;omega) H F E Q g.st g.late.len λL M N R s k T m u z U=>?_;exact C L M N R s k T ⟨m.st,m.ds.trans g.ds,g.tr.trans m.tr,g.late.trans m.late⟩ u (oq g.tr.size z) U
theorem GW.op{rest:List Oper}{r t:Nat}{K:Nat->Nat->Tm->Sg->Prop}(h1:EX P n ops o tm S)(g:GW P n b ops rest (put tm o.dst (Dm P ops o tm S)) (oS P o tm S) r t K):GW P n b ops (o::rest) tm S r t K:=
 GW.step (λ_ hi=>Step.Eh hi h1) g
theorem GW.Ei{rest:List Oper}{r t:Nat}{K:Nat->Nat->Tm->Sg->Prop}{c:Call}{f:FuncId}{g:List V}(h:AH P f g S0 v S0')(i:List Nat)(k:o.op=.call c)
  (m:o.guard=br/\A6 n o.dst/\A9 tm c/\Cm tm c f g i/\FB S S0 i/\Z i<=Z S0'/\g.all (AP (Z i))=J)
  (q:GW P n b ops rest (put tm o.dst (BU (FP (nameOf i) (Z i) (Z S)) v)) (Dd S S0' i) r t K):GW P n b ops (o::rest) tm S r t K:=by
 obtain⟨s,u,w,j,z,A,B⟩:=m;unfold Cm at j;split at j
 .rename_i E args C;obtain⟨rfl,rfl⟩:=j;exact GW.step (λ_ hi=>aeq hi u s (IQ k C w (h.Ee i z A B))) q
 .exact j.elim
theorem GW.range{r t:Nat}{es:List (D×V)}{K:Nat->Nat->Tm->Sg->Prop}{T:TypeId}{x:Operand}(j:o.op=.range T x)
  (k:o.guard=br/\o.dst=al t/\t<n/\need (ev tm x)/\strip (ev tm x)=.map r/\S[r]?=al (.map es)/\(LA P T).isSome=J)
  (h:∀B,K (Z es) B (ER tm t (.d (.raw (.pointer (al ⟨B,0,br⟩))))) S):GW P n b ops [o] tm S r t K:=λM N G w a Q st hb R=>by
 obtain⟨U,C,m,W,X,E,Y⟩:=k;have h0:ops[M]?=al o:=by simpa using(N 0).symm
 simp only[gr,rc,abW,List.range'_zero];rw[ac0];unfold wpOp;simp only[h0,Region.wanted,U,kw];left;have h1:=(BY st x).strip W;rw[X]at h1;have q:a.eval x=.map (al (G.Cf r)):=by cases h1 with|map _ _ _ _ h=>exact h (by simp[Bn,E])
 have F:=st.rel.DX r _ E;simp only[OK]at F;obtain⟨H,g,q1,q2,qk,q3⟩:=F;obtain⟨p,k⟩:=ol.1 Y;obtain⟨ti,e1,e2⟩:=Ke k;obtain⟨d,s,i⟩:=An e1 w;have u:d=.map p.1 p.2:=by rw[e2]at i;cases d<;>simp[tk]at i⊢;exact i
 subst u;have z:=adm (P:=P) q1;have zc:(execOp a.eval o).run P w=.ok (.value (.pointer (al ⟨w.heap.size,0,br⟩))) (Bj w (.mapIter (al (G.Cf r)) g #[] g)):=by
  simp[execOp,j,Instr.range,s,q,z];rfl
 unfold Oper.wp;rw[zc];simp only[Oper.upon];obtain⟨r1,r2,L⟩:=st.rel.sR (.mapIter (al (G.Cf r)) g #[] g);have A:St P n G S (Bj w (.mapIter (al (G.Cf r)) g #[] g)) (a.put o.dst (.pointer (al ⟨w.heap.size,0,br⟩))) (put tm o.dst (.d (.raw (.pointer (al ⟨w.heap.size,0,br⟩))))):=
  st.put (by rw[C];exact m) (.d _ _ (.raw _)) r1 L
 simp only[wpOps];refine R _ _ G S _ (Z es) w.heap.size ⟨A,Cv,r2,L.late hb⟩ ⟨?_,λj=>?_,λhi=>?_⟩ (ci _) (by rw[C];exact h _)
 .rw[EK,qk]
 .exact adf _ (st.rel.Ik _ j)
 .exact adf _ (st.rel.Kf _ hi)
theorem GW.Px{r t:Nat}{K:Nat->Nat->Tm->Sg->Prop}{rest:List Oper}{c:Call}{f:FuncId}{args:List V}{R:V->Sg->Prop}(E:o.op=.call c)(F:o.guard=br)(H:A6 n o.dst)(L:callee tm c=al (f,args))(hn:A9 tm c)
  (h:BL P f args S R) (M:∀v S',R v S'->GW P n b ops rest (put tm o.dst v) S' r t K):GW P n b ops (o::rest) tm S r t K:=λk B G w a Q st hb N=>by
 have h0:ops[k]?=al o:=by simpa using(B 0).symm
 simp only[gr,abW];rw[ac0];unfold wpOp;simp only[h0,Region.wanted,F,kw];left;have key:∀(next:Act->World->Prop),(∀cv g i v S',R v S'->CV i S' g v cv->Rel P i S' g->Tr G S w i S' g->BH G S w i S' g->next (a.put o.dst cv) g)->o.wp P a w next Q:=λnext m=>QC E L hn h st m
 refine key _ λcv g i v S' T U W C s=>?_;refine M v S' T (k+1) (λj=>by have:=B (j+1);simp only[y3]at this;rw[this];congr 1;omega) i g _ Q (st.put H U W s) (s.late hb).len λX Y G2 S2 u k2 it q z A hK=>N X Y G2 S2 u k2 it ⟨q.st,q.ds.trans Cv,C.trans q.tr,(s.late hb).trans q.late⟩ z (oq C.size A) hK
theorem GW.Ih{rest:List Oper}{r t:Nat}{K:Nat->Nat->Tm->Sg->Prop}{c:Call}{f:FuncId}{g:List V}{k:V->Sg->Prop}(h:BL P f g S0 k)(i:List Nat)(q:o.op=.call c)
  (s:o.guard=br/\A6 n o.dst/\A9 tm c/\Cm tm c f g i/\FB S S0 i/\g.all (AP (Z i))=J) (m:∀v S0',k v S0'->Z i<=Z S0')
  (u:∀v S0',k v S0'->GW P n b ops rest (put tm o.dst (BU (FP (nameOf i) (Z i) (Z S)) v)) (Dd S S0' i) r t K):GW P n b ops (o::rest) tm S r t K:=by
 obtain⟨w,z,A,j,B,C⟩:=s;unfold Cm at j;split at j
 .rename_i M args E;obtain⟨rfl,rfl⟩:=j;exact GW.Px q w z E A (h.Ee i B m C) λv S' ⟨F,S0',G,H,L⟩=>by subst H;subst L;exact u F S0' G
 .exact j.elim
theorem AW.Zn{i0 id0 id1 i1 i2 tk:Nat}{T en:Array Oper}{body:Code}(r t:Nat){m A:Oper}(hbr:b<=r+1)
  (hnx:T.toList.head? =al m/\m.op=.next (.tmp t) am/\m.guard=br/\A6 n m.dst) (zX:en.toList.head? =al A/\A.op=.entry (.tmp t)/\A.guard=br/\A6 n A.dst)
  (hreg:GW P n b ops ops.toList tm S r t λk u C S1=>∃(q:List (D×V)) (Inv:Nat->List Nat->Tm->Sg->Prop),Z q=k/\Inv u [] C S1/\(∀u g tm S,Inv u g tm S->S[r]?=al (.map q)/\tm t=.d (.raw (.pointer (al ⟨u,0,br⟩))))/\(∀u g tm S i (hi:i<Z q),Inv u g tm S->i∉g->AY P n (r+1) T (T.toList.drop 1) (put tm m.dst (.CA [.d (.bool J),.d q[i].1,q[i].2])) S λC S1=>S1=S/\C tk=.d (.bool J)/\C t=.d (.raw (.pointer (al ⟨u,0,br⟩)))/\AY P n (r+1) en (en.toList.drop 1) (put C A.dst (.CA [.d q[i].1,q[i].2])) S λtm2 S2=>
     AW P n (r+1) body (Bh id1 (C8 (λtm3 S3=>∃U S4,AJ P n (r+1) tm3 S3 U S4/\Inv u (g++[i]) U S4) (Bh id0 Q))) tm2 S2)/\(∀u g tm S,Inv u g tm S->(∀i,i<Z q->i∈g)->AY P n (r+1) T (T.toList.drop 1) (put tm m.dst (.CA [.d (.bool am)])) S λC S1=>C tk=.d (.bool am)/\Q .normal C S1)):
  AW P n b (.seq (.region i0 ops am) (.block id0 (.loop (.seq (.region i1 T am) (.seq (.cond (.tmp tk) .skip (.exit id0)) (.block id1 (.seq (.region i2 en am) body))))))) Q tm S:=by
 intro G w a st hb;obtain⟨K,hnx2,hnx3,hnx4⟩:=hnx;obtain⟨L,hen2,hen3,hen4⟩:=zX;have hnl:T.toList=m::T.toList.drop 1:=by
  cases h:T.toList with
  |nil=>rw[h]at K;simp at K
  |cons x xs=>rw[h]at K;simp only[List.head?_cons,i9]at K;subst K;rfl
 have hel:en.toList=A::en.toList.drop 1:=by
  cases h:en.toList with
  |nil=>rw[h]at L;simp at L
  |cons x xs=>rw[h]at L;simp only[List.head?_cons,i9]at L;subst L;rfl
 have W:∀j,(m::T.toList.drop 1)[j]?=T[j]?:=λj=>by rw[<-hnl,aci]
 have heget:∀j,(A::en.toList.drop 1)[j]?=en[j]?:=λj=>by rw[<-hel,aci]
 refine wp_seq (wp_region ?_);have hr0:=hreg 0 (λj=>by simp) G w a (Exit.then ((Code.block id0 (.loop (.seq (.region i1 T am) (.seq (.cond (.tmp tk) .skip (.exit id0)) (.block id1 (.seq (.region i2 en am) body)))))).wp P (VU P n b Q G S w a.defers)) (VU P n b Q G S w a.defers)) st hb ?_
 .rw[acE];simpa using hr0
 intro a1 w1 G1 S1 C k u zY hit1 hfresh ⟨q,Inv,hek,hI1,hInv,hround,hend⟩;subst hek;refine wp_block ?_;refine wp_loop (I:=λa' M=>∃N S' tm' g,Iy P n b G S w a.defers a' M N S' tm'/\rW N S' M r (Z q) u g.toArray/\Inv u g tm' S'/\g.Nodup/\∀i∈g,i<Z q)
  (μ:=λ_ M=>match M.heap[u]? with|some (.mapIter _ _ seen _)=>Z q - seen.size|_=>0) ⟨G1,S1,C,[],zY,hit1,hI1,ac4,λi h=>by simp at h⟩ ?_
 rintro a' M ⟨N,S',tm',g,E,Y,hI,zG,y7⟩;obtain⟨hS,ht⟩:=hInv u g tm' S' hI;have hitl:=GK Y.heap;have zV:=Ai hS;have zi:=E.st.rel.DX r _ hS;simp only[OK]at zi;obtain⟨s,clock,q1,q2,qk,q3⟩:=zi;have hborn:∀i (h:i<s.size),s[i].born=i:=λi h=>by
  obtain⟨e,e1,_,_,e4,_⟩:=q3 i (by omega);rw[nu h]at e1;cases e1;exact e4
 have za:∀x∈s.toList,∃i,i<Z q/\x.born=i/\s[i]?=al x:=λx F=>by
  obtain⟨i,hi,rfl⟩:=oi.1 F;have ze:i<s.size:=by simpa using hi
  exact⟨i,by omega,by simpa using hborn i ze,by rw[nu ze];simp⟩
 have hev:a'.eval (.tmp t)=.pointer (al ⟨u,0,br⟩):=by
  have:=E.st.tm t;rw[ht]at this;simp only[Act.eval];generalize a'.tmps.getD t undef=X at this;cases this with|d _ _ h=>cases h;rfl
 have zI:T[0]?=al m:=by have:=W 0;simpa using this.symm
 have he0:en[0]?=al A:=by have:=heget 0;simpa using this.symm
 refine wp_seq (wp_region ?_);rw[acE];have zg:T.size=Z (T.toList.drop 1)+1:=by have:=mn Z hnl;simpa using this
 rw[zg,abW,ac0];unfold wpOp;simp only[zI,Region.wanted,hnx3,kw];left;unfold Oper.wp;rcases run_next_at (P:=P) M m.type u (N.Cf r) (Z q) (Z q) g.toArray s clock Y.heap q1 (λx F=>by obtain⟨i,h1,h2,_⟩:=za x F;omega) (ci _)with⟨hz,zc⟩|⟨e,he,w2,zN,zc⟩
 .
  have zZ:(execOp a'.eval m).run P M=.ok (.value (.tuple #[.bool am])) M:=by
   simp only[execOp,hnx2,hev,l6,zc,lh,tp]
  rw[zZ];simp only[Oper.upon];have st2:St P n N S' M (a'.put m.dst (.tuple #[.bool am])) (put tm' m.dst (.CA [.d (.bool am)])):=
   E.st.put hnx4 (.CA _ _ rfl (λi h=>by
    have:i=0:=by simp at h;omega
    subst this;exact .d _ _ (.bool _))) E.st.rel (aev _ _ _)
  have hdone:∀i,i<Z q->i∈g:=λi hi=>by
   by_cases hm:i∈g
   .exact hm
   .exfalso;have hie:i<s.size:=by omega
    have:s[i]∈(leftOf s g.toArray).toList:=by
     simp only[leftOf,adM,tg];refine⟨by simp,?_⟩;rw[hborn i hie];simpa using hm
    have h0:(leftOf s g.toArray).toList=[]:=by
     apply acK;simpa using hz
    rw[h0]at this;simp at this
  refine hend u g tm' S' hI hdone 1 (λj=>by have:=W (j+1);simp only[y3]at this;rw[this];congr 1;omega) N M _ _ st2 (by omega) λa3 w3 hh=>?_;obtain⟨G3,S3,tm3,hc3,hk,hQ⟩:=hh;refine wp_seq (wp_cond_false ?_ (wp_exit ?_))
  .have:=hc3.st.tm tk;rw[hk]at this;simp only[Act.eval];generalize a3.tmps.getD tk undef=X at this;cases this with|d _ _ h=>cases h;rfl
  .simp only[Exit.then,Exit.inBlock,kw];exact⟨G3,S3,tm3,⟨hc3.st,(hc3.ds.trans Cv).trans E.ds,E.tr.trans hc3.tr,E.late.trans (hc3.late.TD hbr)⟩,hQ⟩
 .
  obtain⟨i,hi,hbi,hei⟩:=za e (by simp only[leftOf,adM,tg]at he;exact he.1);have hiv:i∉g:=by
   simp only[leftOf,adM,tg]at he;have:=he.2;rw[hbi]at this;simpa using this
  have zZ:(execOp a'.eval m).run P M=.ok (.value (.tuple #[.bool J,e.key,e.val])) (setBlock w2 u (.mapIter (al (N.Cf r)) (Z q) (g.toArray.push e.born) clock)):=by
   simp only[execOp,hnx2,hev,l6,zc,lh,tp]
  rw[zZ];simp only[Oper.upon];generalize hw3:setBlock w2 u (.mapIter (al (N.Cf r)) (Z q) (g.toArray.push e.born) clock)=w3;have hw2h:w2.heap=M.heap:=by rcases zN with rfl|rfl<;>rfl
  have hw3s:w3.heap.size=M.heap.size:=by rw[<-hw3];simp[setBlock,hw2h]
  have hw3o:∀k,k≠u->w3.heap[k]?=M.heap[k]?:=λk hk=>by rw[<-hw3];simp only[setBlock,hw2h];rw[acd (ru hk)]
  have hw3i:w3.heap[u]?=al (.mapIter (al (N.Cf r)) (Z q) (g++[i]).toArray (Z q)):=by
   rw[<-hw3];simp[setBlock,hw2h,hitl,hbi,qk]
  have hw3os:w3.os=M.os/\w3.output=M.output:=by rw[<-hw3];rcases zN with rfl|rfl<;>exact⟨rfl,rfl⟩
  obtain⟨r1,r3⟩:=E.st.rel.hidden Y.own Y.iF hw3s hw3o;obtain⟨e',f1,f2,f3,f4,f5⟩:=q3 i hi;rw[hei]at f1;cases f1;have hce:Iy P n b G S w a.defers a' w3 N S' tm':=
   ⟨⟨E.st.size,E.st.tm.later r3,r1⟩,E.ds,⟨by rw[hw3s];exact E.tr.size,E.tr.I,λk hk zm=>by rw[hw3o k (by omega)];exact E.tr.EV k hk zm,E.tr.own,E.tr.im,hw3os.1.trans E.tr.os,hw3os.2.trans E.tr.out⟩,E.late⟩
  have hit3:rW N S' w3 r (Z q) u (g++[i]).toArray:=⟨hw3i,Y.own,Y.iF⟩;have st2:St P n N S' w3 (a'.put m.dst (.tuple #[.bool J,e.key,e.val])) (put tm' m.dst (.CA [.d (.bool J),.d q[i].1,q[i].2])):=
   hce.st.put hnx4 (.CA _ _ rfl (λj h=>by
    have h3:j<3:=by simpa using h
    match j,h3 with
    |0,_=>exact .d _ _ (.bool _)
    |1,_=>exact .pq (f2.mono r3.I r3.EV)
    |2,_=>exact f3.later r3)) r1 (aev _ _ _)
  refine hround u g tm' S' i hi hI hiv 1 (λj=>by have:=W (j+1);simp only[y3]at this;rw[this];congr 1;omega) N w3 _ _ st2 (by omega) λa4 w4 hh=>?_;obtain⟨G4,S4,U,H,hS4,hk4,ht4,hen'⟩:=hh;subst hS4;have hb4:G4.Cf r=N.Cf r:=(H.late.map r (by omega) (by simp[Bn,hS])).2;have hit4:=hit3.later H.tr hb4;refine wp_seq (wp_cond_true ?_ (wp_skip ?_))
  .have:=H.st.tm tk;rw[hk4]at this;simp only[Act.eval];generalize a4.tmps.getD tk undef=X at this;cases this with|d _ _ h=>cases h;rfl
  simp only[Exit.then];refine wp_block (wp_seq (wp_region ?_));rw[acE];have hsz2:en.size=Z (en.toList.drop 1)+1:=by have:=mn Z hel;simpa using this
  rw[hsz2,abW,ac0];unfold wpOp;simp only[he0,Region.wanted,hen3,kw];left;unfold Oper.wp;have hev4:a4.eval (.tmp t)=.pointer (al ⟨u,0,br⟩):=by
   have:=H.st.tm t;rw[ht4]at this;simp only[Act.eval];generalize a4.tmps.getD t undef=X at this;cases this with|d _ _ h=>cases h;rfl
  have hob4:=H.st.rel.DX r _ hS;simp only[OK]at hob4;obtain⟨B,clock4,p1,p2,pk,p3⟩:=hob4;obtain⟨e4,g1,g2,g3,g4,g5⟩:=p3 i hi;have hborn4:∀j (h:j<B.size),B[j].born=j:=λj h=>by
   obtain⟨x,x1,_,_,x4,_⟩:=p3 j (by omega);rw[nu h]at x1;cases x1;exact x4
  have hmap4:B.toList.map (·.born)=List.range B.size:=by
   apply abG
   .simp
   .intro j h1 h2;simp only[rg,abp,List.getElem_range];exact hborn4 j (by simpa using h1)
  have hih:=hit4.heap;have hpush:(g++[i]).toArray=g.toArray.push e4.born:=by rw[g4];simp
  rw[hpush]at hih;have hrun4:=run_entry_at (P:=P) w4 u (G4.Cf r) (Z q) g.toArray B clock4 e4 (by rw[pk];exact hih) p1 (by have:=adt g1;simpa using this) (by rw[hmap4];exact List.nodup_range);have hexec4:(execOp a4.eval A).run P w4=.ok (.value (.tuple #[e4.key,e4.val])) w4:=by
   simp only[execOp,hen2,hev4,l6,hrun4,lh,tp]
  rw[hexec4];simp only[Oper.upon];have st5:St P n G4 S4 w4 (a4.put A.dst (.tuple #[e4.key,e4.val])) (put U A.dst (.CA [.d q[i].1,q[i].2])):=
   H.st.put hen4 (.CA _ _ rfl (λj h=>by
    have h3:j<2:=by simpa using h
    match j,h3 with
    |0,_=>exact .pq g2
    |1,_=>exact g3)) H.st.rel (aev _ _ _)
  refine hen' 1 (λj=>by have:=heget (j+1);simp only[y3]at this;rw[this];congr 1;omega) G4 w4 _ _ st5 (by omega) λa6 w6 hh=>?_;obtain⟨G6,S6,tm6,hc6,hbody⟩:=hh;have hlen6:r+1<=Z S6:=hc6.late.len;refine adU (hbody G6 w6 a6 hc6.st hlen6) λex a7 w7 hl=>?_;obtain⟨G7,S7,R,hc7,z⟩:=hl;have d7:a7.defers=a.defers:=hc7.ds.trans (hc6.ds.trans (Cv.trans (H.ds.trans (Cv.trans E.ds))));have t7:Tr G4 S4 w4 G7 S7 w7:=hc6.tr.trans hc7.tr;have l7:Fb (r+1) G4 S4 G7 S7:=hc6.late.trans hc7.late;have full:Iy P n b G S w a.defers a7 w7 G7 S7 R:=⟨hc7.st,d7,(hce.tr.trans H.tr).trans t7,(E.late.trans (H.late.TD hbr)).trans (l7.TD hbr)⟩;have cont:(∃U S4,AJ P n (r+1) R S7 U S4/\Inv u (g++[i]) U S4)->(∃N S' tm' g,Iy P n b G S w a.defers a7 w7 N S' tm'/\rW N S' w7 r (Z q) u g.toArray/\Inv u g tm' S'/\g.Nodup/\∀i∈g,i<Z q)/\(match w7.heap[u]? with|some (.mapIter _ _ seen _)=>Z q - seen.size|_=>0)<(match M.heap[u]? with|some (.mapIter _ _ seen _)=>Z q - seen.size|_=>0):=by
   rintro⟨tm8,S8,g8,hI8⟩;obtain⟨G8,st8,t8,l8⟩:=g8 G7 w7 a7 hc7.st hc7.late.len;obtain⟨hS8,_⟩:=hInv _ _ _ _ hI8;have hb8:G8.Cf r=G4.Cf r:=((l7.trans l8).map r (by omega) (by simp[Bn,hS8])).2;have hit8:=hit4.later (t7.trans t8) hb8;refine⟨⟨G8,S8,tm8,g++[i],⟨st8,d7,full.tr.trans t8,full.late.trans (l8.TD hbr)⟩,hit8,hI8,?_,?_⟩,?_⟩
   .rw[L2];exact⟨zG,by simp,λx F y hy e=>by simp only[eN]at hy;subst e;subst hy;exact hiv F⟩
   .intro x F;rcases gc.1 F with F|F
    .exact y7 x F
    .simp only[eN]at F;subst F;exact hi
   .rw[hit8.heap,Y.heap];have h1:Z g<Z q:=by
     have h2:=JR id (l:=g++[i]) (n:=Z q) (by
      rw[L2];exact⟨zG,by simp,λx F y hy e=>by simp only[eN]at hy;subst e;subst hy;exact hiv F⟩) (λx F=>by
       rcases gc.1 F with F|F
       .exact y7 x F
       .simp only[eN]at F;subst F;exact hi) (λx _ y _ e=>e)
     simp at h2;omega
    simp;omega
  cases ex with
  |normal=>
   simp only[Bh,C8]at z;simp only[Exit.then,Exit.inBlock];exact cont z
  |exit id'=>
   simp only[Bh]at z;simp only[Exit.then,Exit.inBlock];by_cases e1:id'=id1
   .simp only[e1,kw,C8]at z⊢;exact cont z
   .simp only[e1,li,C8,Bh]at z⊢;by_cases e0:id'=id0
    .simp only[e0,kw]at z⊢;exact⟨G7,S7,R,full,z⟩
    .simp only[e0,li]at z⊢;exact⟨G7,S7,R,full,z⟩
  |goto l=>exact⟨G7,S7,R,full,z⟩
  |ret=>exact⟨G7,S7,R,full,z⟩
  |panic c=>exact⟨G7,S7,R,full,z⟩
  |outgrown=>exact⟨G7,S7,R,full,z⟩
theorem AW.SD{i0 s z M N tk:Nat}{w C:Array Oper}{body:Code}(r t:Nat){j m:Oper}(E:b<=r+1)
  (F:w.toList.head? =al j/\j.op=.next (.tmp t) am/\j.guard=br/\A6 n j.dst) (R:C.toList.head? =al m/\m.op=.entry (.tmp t)/\m.guard=br/\A6 n m.dst)
  (A:∀K:Nat->Nat->Tm->Sg->Prop,(∀(q:List (D×V)) (Inv:Nat->List Nat->Tm->Sg->Prop) k g u,Inv k [] g u->((∀k h tm S,Inv k h tm S->S[r]?=al (.map q)/\tm t=.d (.raw (.pointer (al ⟨k,0,br⟩))))/\(∀k h tm S i (hi:i<Z q),Inv k h tm S->i∉h->AY P n (r+1) w (w.toList.drop 1) (put tm j.dst (.CA [.d (.bool J),.d q[i].1,q[i].2])) S λg u=>u=S/\g tk=.d (.bool J)/\g t=.d (.raw (.pointer (al ⟨k,0,br⟩)))/\AY P n (r+1) C (C.toList.drop 1) (put g m.dst (.CA [.d q[i].1,q[i].2])) S λG T=>
     AW P n (r+1) body (Bh z (C8 (λH U=>∃B L,AJ P n (r+1) H U B L/\Inv k (h++[i]) B L) (Bh s Q))) G T)/\(∀k h tm S,Inv k h tm S->(∀i,i<Z q->i∈h)->AY P n (r+1) w (w.toList.drop 1) (put tm j.dst (.CA [.d (.bool am)])) S λg u=>g tk=.d (.bool am)/\Q .normal g u))->K (Z q) k g u)->GW P n b ops ops.toList tm S r t K):
  AW P n b (.seq (.region i0 ops am) (.block s (.loop (.seq (.region M w am) (.seq (.cond (.tmp tk) .skip (.exit s)) (.block z (.seq (.region N C am) body))))))) Q tm S:=
 AW.Zn r t E F R (A _ λq Inv _ _ _ h1 W=>⟨q,Inv,rfl,h1,W⟩)
end
end Go.Koi
