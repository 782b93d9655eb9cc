/- Part 15 of the proof that the law ChangeValid returns true for every input. -/
import Derived.Test.YtlgjmkfbkhfakaaGreatDoorK07
import Derived.Test.YtlgjmkfbkhfakaaGreatDoorK13
set_option maxHeartbeats 64000000
set_option maxRecDepth 100000
namespace Go.Koi
structure Ah where
 var:Int
 low:Int
 high:Int
 deriving DecidableEq
structure AN where
 nodes:List Ah
 root:Int
 deriving DecidableEq
structure Symbol where
 token:Bool
 index:Int
 deriving DecidableEq
structure D2 where
 kind:Int
 a:Int
 b:Int
 deriving DecidableEq
structure BM where
 kind:Int
 lo:Int
 hi:Int
 a:Int
 b:Int
 deriving DecidableEq
structure Scope where
 opens:Bool
 declares:Int
 kind:Int
 EA:Int
 allowed:Int
 deriving DecidableEq
structure Token where
 name:ByteArray
 cls:Int
 literal:ByteArray
 pattern:List BM
 Cr:ByteArray
 cond:AN
 deriving DecidableEq
structure AT where
 name:ByteArray
 left:Int
 right:List Symbol
 cond:AN
 bracket:Bool
 Di:Int
 layout:List D2
 scope:Scope
 deriving DecidableEq
structure Level where
 AD:List Int
 assoc:Int
 cond:AN
 deriving DecidableEq
structure Filter where
 kind:Int
 parent:Int
 at_:Int
 child:Int
 left:Int
 token:Int
 tokens:List Int
 cond:AN
 deriving DecidableEq
structure AF where
 conds:List ByteArray
 fam:AN
 Ak:List Token
 BC:List ByteArray
 AD:List AT
 start:Int
 levels:List Level
 AM:List Filter
 deriving DecidableEq
structure Cw where
 hole:Int
 prod:Int
 token:Int
 text:ByteArray
 deriving DecidableEq
structure Rewrite where
 prod:Int
 at_:Int
 child:Int
 BL:List Cw
 deriving DecidableEq
structure AAC where
 kind:Int
 number:Int
 at_:Int
 to:Int
 name:ByteArray
 value:Bool
 cond:AN
 levels:List Level
 AM:List Filter
 token:Token
 prod:AT
 BL:List Cw
 deriving DecidableEq
inductive DT where
 |leaf (b:Bool)
 |node (v:Int) (lo hi:DT)
 deriving DecidableEq
namespace DT
def level:DT→Int|leaf _=>64|node v _ _=>v
def size:DT→Nat|leaf _=>0|node _ l h=>l.size+h.size+1
def sem:DT→(Int→Bool)→Bool|leaf b,_=>b|node v l h,c=>if c v then h.sem c else l.sem c
def Good:DT→Prop|leaf _=>True|node v l h=>0≤v∧v≤63∧l≠h∧v<l.level∧v<h.level∧l.Good∧h.Good
def lo(v:Int):DT→DT|leaf b=>leaf b|node w l h=>if w=v then l else node w l h
def hi(v:Int):DT→DT|leaf b=>leaf b|node w l h=>if w=v then h else node w l h
def mk(v:Int)(l h:DT):DT:=if l=h then l else node v l h
def EJ(c:Int→Bool)(v:Int)(b:Bool):Int→Bool:=fun w=>if w=v then b else c w
theorem Kb{t:DT}(h:t.Good):t.level≤64:=by
 cases t with
 |leaf=>exact Int.le_refl _
 |node v l r=>simp[Good]at h;simp[level];omega
theorem Ju{t:DT}(h:t.Good){v:Int}(hv:v<t.level)(c:Int→Bool)(b:Bool):t.sem (EJ c v b)=t.sem c:=by
 induction t with
 |leaf=>rfl
 |node w l r ihl ihr=>
  obtain⟨h0,h1,h2,h3,h4,h5,h6⟩:=h;simp only[level]at hv;have hw:EJ c v b w=c w:=by simp[EJ];omega
  simp only[sem,hw];rw[ihl h5 (by omega),ihr h6 (by omega)]
theorem IQ{t:DT}(h:t.Good)(v:Int):(t.lo v).Good:=by
 cases t with
 |leaf=>trivial
 |node w l r=>simp only[lo];split;exact h.2.2.2.2.2.1;exact h
theorem IC{t:DT}(h:t.Good)(v:Int):(t.hi v).Good:=by
 cases t with
 |leaf=>trivial
 |node w l r=>simp only[hi];split;exact h.2.2.2.2.2.2;exact h
theorem KQ{t:DT}(h:t.Good){v:Int}(hv:v≤t.level)(vv:v≤63):v<(t.lo v).level:=by
 cases t with
 |leaf=>simp[lo,level];omega
 |node w l r=>
  obtain⟨h0,h1,h2,h3,h4,h5,h6⟩:=h;simp only[level]at hv;simp only[lo];split
  ·omega
  ·simp only[level];omega
theorem Kq{t:DT}(h:t.Good){v:Int}(hv:v≤t.level)(vv:v≤63):v<(t.hi v).level:=by
 cases t with
 |leaf=>simp[hi,level];omega
 |node w l r=>
  obtain⟨h0,h1,h2,h3,h4,h5,h6⟩:=h;simp only[level]at hv;simp only[hi];split
  ·omega
  ·simp only[level];omega
theorem Pc{t:DT}(h:t.Good){v:Int}(hv:v≤t.level)(c:Int→Bool):(t.lo v).sem c=t.sem (EJ c v false):=by
 cases t with
 |leaf=>rfl
 |node w l r=>
  have hg:=h;obtain⟨h0,h1,h2,h3,h4,h5,h6⟩:=h;simp only[level]at hv;simp only[lo];split
  ·next e=>subst e;simp[sem,EJ];exact(Ju h5 h3 c false).symm
  ·exact(Ju hg (by simp only[level];omega) c false).symm
theorem Ov{t:DT}(h:t.Good){v:Int}(hv:v≤t.level)(c:Int→Bool):(t.hi v).sem c=t.sem (EJ c v true):=by
 cases t with
 |leaf=>rfl
 |node w l r=>
  have hg:=h;obtain⟨h0,h1,h2,h3,h4,h5,h6⟩:=h;simp only[level]at hv;simp only[hi];split
  ·next e=>subst e;simp[sem,EJ];exact(Ju h6 h4 c true).symm
  ·exact(Ju hg (by simp only[level];omega) c true).symm
theorem LS{t:DT}(v:Int)(c:Int→Bool):t.sem c=if c v then(t.hi v).sem c else(t.lo v).sem c:=by
 cases t with
 |leaf=>simp[sem,lo,hi]
 |node w l r=>
  by_cases e:w=v
  ·subst e;simp[lo,hi,sem]
  ·simp[lo,hi,e]
theorem aU(v:Int)(l h:DT)(c:Int→Bool):(mk v l h).sem c=if c v then h.sem c else l.sem c:=by
 unfold mk;split
 ·next e=>subst e;simp
 ·rfl
theorem dy{v:Int}{l h:DT}(h0:0≤v)(h1:v≤63)(hl:l.Good)(hh:h.Good)(ll:v<l.level)(lh:v<h.level):(mk v l h).Good:=by
 unfold mk;split
 ·exact hl
 ·next e=>exact⟨h0,h1,e,ll,lh,hl,hh⟩
theorem Tl{v:Int}{l h:DT}(ll:v<l.level):v≤(mk v l h).level:=by
 unfold mk;split
 ·omega
 ·exact Int.le_refl _
theorem Ik(t:DT)(v:Int):(t.lo v).size≤t.size:=by
 cases t with
 |leaf=>exact Nat.le_refl _
 |node w l r=>simp only[lo];split<;>simp[size];omega
theorem Ii(t:DT)(v:Int):(t.hi v).size≤t.size:=by
 cases t with
 |leaf=>exact Nat.le_refl _
 |node w l r=>simp only[hi];split<;>simp[size];omega
theorem FU{t:DT}{v:Int}(h:t.level=v)(hv:v≠64):(t.lo v).size<t.size:=by
 cases t with
 |leaf=>exact absurd h.symm hv
 |node w l r=>simp only[level]at h;simp[lo,h,size];omega
theorem FJ{t:DT}{v:Int}(h:t.level=v)(hv:v≠64):(t.hi v).size<t.size:=by
 cases t with
 |leaf=>exact absurd h.symm hv
 |node w l r=>simp only[level]at h;simp[hi,h,size];omega
theorem Cs{t:DT}(h:t.size=0):∃b,t=leaf b:=by
 cases t with
 |leaf b=>exact⟨b,rfl⟩
 |node=>simp[size]at h
theorem D4{t:DT}(hg:t.Good)(h:t.size≠0):0≤t.level∧t.level≤63:=by
 cases t with
 |leaf b=>exact absurd rfl h
 |node v l r=>exact⟨hg.1,hg.2.1⟩
theorem Ma{t:DT}{v:Int}(h:t.level≠v):t.lo v=t:=by
 cases t with
 |leaf=>rfl
 |node w l r=>simp only[level]at h;simp[lo,h]
theorem Mn{t:DT}{v:Int}(h:t.level≠v):t.hi v=t:=by
 cases t with
 |leaf=>rfl
 |node w l r=>simp only[level]at h;simp[hi,h]
theorem Ox(n:Nat):∀s t:DT,s.size+t.size≤n→s.Good→t.Good→(∀c,s.sem c=t.sem c)→s=t:=by
 induction n with
 |zero=>
  intro s t hn hs ht h;obtain⟨a,rfl⟩:=Cs (t:=s) (by omega);obtain⟨b,rfl⟩:=Cs (t:=t) (by omega);have:=h fun _=>false;simp only[sem]at this;rw[this]
 |succ n ih=>
  intro s t hn hs ht h;by_cases hz:s.size=0∧t.size=0
  ·obtain⟨a,rfl⟩:=Cs hz.1;obtain⟨b,rfl⟩:=Cs hz.2;have:=h fun _=>false;simp only[sem]at this;rw[this]
  have hv:∃v:Int,v=min s.level t.level∧v≤63∧(s.level=v∨t.level=v):=by
   refine⟨_,rfl,?_,by omega⟩;by_cases h1:s.size=0
   ·have:=D4 ht (fun e=>hz ⟨h1,e⟩);omega
   ·have:=D4 hs h1;omega
  obtain⟨v,hv,vv,qL⟩:=hv;have vw:v≤s.level:=by omega
  have vx:v≤t.level:=by omega
  have lK:s.lo v=t.lo v:=by
   refine ih _ _ ?_ (IQ hs v) (IQ ht v) fun c=>by rw[Pc hs vw,Pc ht vx,h]
   have:=Ik s v;have:=Ik t v;rcases qL with e|e
   ·have:=FU e (by omega);omega
   ·have:=FU e (by omega);omega
  have kP:s.hi v=t.hi v:=by
   refine ih _ _ ?_ (IC hs v) (IC ht v) fun c=>by rw[Ov hs vw,Ov ht vx,h]
   have:=Ii s v;have:=Ii t v;rcases qL with e|e
   ·have:=FJ e (by omega);omega
   ·have:=FJ e (by omega);omega
  have key:∀x:DT,x.Good→x.level=v→∃l h,x=node v l h∧l≠h∧x.lo v=l∧x.hi v=h:=by
   intro x hx e;cases x with
   |leaf=>simp only[level]at e;omega
   |node w l r=>simp only[level]at e;subst e;exact⟨l,r,rfl,hx.2.2.1,by simp[lo],by simp[hi]⟩
  by_cases e1:s.level=v
  ·obtain⟨l,r,es,lx,el,er⟩:=key s hs e1;by_cases e2:t.level=v
   ·obtain⟨l',r',et,_,el',er'⟩:=key t ht e2;rw[es,et,←el,←er,←el',←er',lK,kP]
   ·rw[Ma e2]at lK;rw[Mn e2]at kP;exact absurd (by rw[←el,←er,lK,kP]) lx
  ·have e2:t.level=v:=by omega
   obtain⟨l',r',et,lx,el',er'⟩:=key t ht e2;rw[Ma e1]at lK;rw[Mn e1]at kP;exact absurd (by rw[←el',←er',←lK,←kP]) lx
theorem unique{s t:DT}(hs:s.Good)(ht:t.Good)(h:∀c,s.sem c=t.sem c):s=t:=Ox _ s t (Nat.le_refl _) hs ht h
end DT
open DT
def AAQ(N:List Ah):DT→Int→Prop
 |.leaf b,n=>n=if b then 1 else 0
 |.node v s t,n=>∃k:Nat,n=k+2∧∃lo hi,N[k]?=some ⟨v,lo,hi⟩∧AAQ N s lo∧AAQ N t hi
theorem AAQ.uniq{N:List Ah}:∀{s t:DT} {n:Int},AAQ N s n→AAQ N t n→s=t:=by
 intro s;induction s with
 |leaf a=>
  intro t n h1 h2;cases t with
  |leaf b=>simp only[AAQ]at h1 h2;cases a<;>cases b<;>simp_all
  |node v l r=>obtain⟨k,hk,_⟩:=h2;simp only[AAQ]at h1;split at h1<;>omega
 |node v l r ihl ihr=>
  intro t n h1 h2;cases t with
  |leaf b=>obtain⟨k,hk,_⟩:=h1;simp only[AAQ]at h2;split at h2<;>omega
  |node w l' r'=>
   obtain⟨k,hk,lo,hi,e,a,b⟩:=h1;obtain⟨k',jN,lo',gj,e',a',b'⟩:=h2;obtain rfl:k=k':=by omega
   rw[e]at e';simp only[Option.some.injEq,Ah.mk.injEq]at e';obtain⟨rfl,rfl,rfl⟩:=e';rw[ihl a a',ihr b b']
theorem AAQ.inj{N:List Ah}(hN:N.Nodup):∀{t:DT} {n m:Int},AAQ N t n→AAQ N t m→n=m:=by
 intro t;induction t with
 |leaf a=>intro n m h1 h2;simp only[AAQ]at h1 h2;rw[h1,h2]
 |node v l r ihl ihr=>
  intro n m h1 h2;obtain⟨k,hk,lo,hi,e,a,b⟩:=h1;obtain⟨k',jN,lo',gj,e',a',b'⟩:=h2;obtain rfl:=ihl a a';obtain rfl:=ihr b b';obtain⟨i1,h1⟩:=List.getElem?_eq_some_iff.1 e;obtain⟨i2,h2⟩:=List.getElem?_eq_some_iff.1 e';have:k=k':=(List.getElem_inj hN).1 (h1.trans h2.symm);omega
theorem AAQ.mono{N:List Ah}(M:List Ah):∀{t:DT} {n:Int},AAQ N t n→AAQ (N++M) t n:=by
 intro t;induction t with
 |leaf a=>intro n h;exact h
 |node v l r ihl ihr=>
  intro n h;obtain⟨k,hk,lo,hi,e,a,b⟩:=h;refine⟨k,hk,lo,hi,?_,ihl a,ihr b⟩;obtain⟨i1,h1⟩:=List.getElem?_eq_some_iff.1 e;rw[List.getElem?_append_left i1];exact e
theorem AAQ.range{N:List Ah}{t:DT}{n:Int}(h:AAQ N t n):0≤n∧n<N.length+2:=by
 cases t with
 |leaf b=>simp only[AAQ]at h;cases b<;>simp at h<;>omega
 |node v l r=>
  obtain⟨k,hk,lo,hi,e,a,b⟩:=h;obtain⟨i1,h1⟩:=List.getElem?_eq_some_iff.1 e;omega
theorem AAQ.Dy{N:List Ah}{t:DT}{n:Int}(h:AAQ N t n):n<2↔∃b,t=.leaf b:=by
 cases t with
 |leaf b=>simp only[AAQ]at h;cases b<;>simp at h<;>simp[h]
 |node v l r=>
  obtain⟨k,hk,lo,hi,e,a,b⟩:=h;constructor
  ·intro;omega
  ·rintro⟨b,hb⟩;exact absurd hb (by simp)
theorem AAQ.zero{N:List Ah}{t:DT}(h:AAQ N t 0):t=.leaf false:=h.uniq (by simp[AAQ])
theorem AAQ.one{N:List Ah}{t:DT}(h:AAQ N t 1):t=.leaf true:=h.uniq (by simp[AAQ])
structure J6(N:List Ah):Prop where
 nodup:N.Nodup
 all:∀k,k<N.length→∃t,t.Good∧AAQ N t (k+2)
theorem J6.nil:J6 []:=⟨List.nodup_nil,fun _ h=>absurd h (by simp)⟩
theorem J6.get{N:List Ah}(h:J6 N){n:Int}(h0:0≤n)(h1:n<N.length+2):∃t,t.Good∧AAQ N t n:=by
 by_cases e0:n=0
 ·subst e0;exact⟨.leaf false,trivial,by simp[AAQ]⟩
 by_cases e1:n=1
 ·subst e1;exact⟨.leaf true,trivial,by simp[AAQ]⟩
 have:=h.all (n - 2).toNat (by omega);rwa [show(((n - 2).toNat:Int)+2)=n by omega]at this
theorem J6.snoc{N:List Ah}(h:J6 N){v lo hi:Int}{s t:DT}(h0:0≤v)(h1:v≤63)(hs:s.Good)(ht:t.Good)(ls:v<s.level)(lt:v<t.level)
  (rs:AAQ N s lo) (rt:AAQ N t hi) (dI:lo≠hi) (lH:⟨v,lo,hi⟩∉N):J6 (N++[⟨v,lo,hi⟩])∧AAQ (N++[⟨v,lo,hi⟩]) (.node v s t) (N.length+2)∧(DT.node v s t).Good:=by
 have gn:s≠t:=fun e=>by subst e;exact dI (rs.inj h.nodup rt)
 have hr:AAQ (N++[⟨v,lo,hi⟩]) (.node v s t) (N.length+2):=⟨N.length,rfl,lo,hi,by simp,rs.mono _,rt.mono _⟩;have hg:(DT.node v s t).Good:=⟨h0,h1,gn,ls,lt,hs,ht⟩;refine⟨⟨?_,fun k hk=>?_⟩,hr,hg⟩
 ·rw[List.nodup_append];refine⟨h.nodup,by simp,?_⟩;intro a ha b hb e;simp only[List.mem_singleton]at hb;subst e;subst hb;exact lH ha
 ·simp only[List.length_append,List.length_cons,List.length_nil]at hk;by_cases e:k=N.length
  ·subst e;exact⟨_,hg,hr⟩
  ·obtain⟨u,hu,ru⟩:=h.all k (by omega);exact⟨u,hu,ru.mono _⟩
def emit:DT→List DT→List DT
 |.leaf _,L=>L
 |.node v l h,L=>if DT.node v l h∈L then L else emit h (emit l L)++[.node v l h]
def num(L:List DT):DT→Int
 |.leaf b=>if b then 1 else 0
 |t=>L.idxOf t+2
def P8(L:List DT):DT→Ah
 |.leaf _=>⟨0,0,0⟩
 |.node v l h=>⟨v,num L l,num L h⟩
def Ek(L:List DT)(t:DT):Prop:=(∃b,t=.leaf b)∨t∈L
def FN(L:List DT):Prop:=∀v l h,DT.node v l h∈L→Ek L l∧Ek L h
def Za(L:List DT)(t:DT):AN:=⟨L.map (P8 L),num L t⟩
def B2(t:DT):AN:=Za (emit t []) t
theorem Ek.mono{L:List DT}{t:DT}(h:Ek L t)(M:List DT):Ek (L++M) t:=by
 rcases h with h|h
 ·exact .inl h
 ·exact .inr (List.mem_append_left _ h)
theorem JV(t:DT):∀L,∃M,emit t L=L++M:=by
 induction t with
 |leaf b=>intro L;exact⟨[],by simp[emit]⟩
 |node v l h ihl ihh=>
  intro L;unfold emit;split
  ·exact⟨[],by simp⟩
  ·obtain⟨M1,e1⟩:=ihl L;obtain⟨M2,e2⟩:=ihh (emit l L);exact⟨M1++M2++[.node v l h],by rw[e2,e1];simp⟩
theorem Fh(t:DT)(L:List DT):Ek (emit t L) t:=by
 cases t with
 |leaf b=>exact .inl ⟨b,rfl⟩
 |node v l h=>
  unfold emit;split
  ·next h=>exact .inr h
  ·exact .inr (by simp)
theorem I1{L:List DT}{s:DT}(t:DT)(h:Ek L s):Ek (emit t L) s:=by
 obtain⟨M,e⟩:=JV t L;rw[e];exact h.mono M
theorem G9(t:DT):∀L,FN L→FN (emit t L):=by
 induction t with
 |leaf b=>intro L h;exact h
 |node v l h ihl ihh=>
  intro L hL;unfold emit;split
  ·exact hL
  ·have h1:=ihh _ (ihl L hL);intro w a b hm;rcases List.mem_append.1 hm with hm|hm
   ·have:=h1 w a b hm;exact⟨this.1.mono _,this.2.mono _⟩
   ·simp only[List.mem_singleton,DT.node.injEq]at hm;obtain⟨rfl,rfl,rfl⟩:=hm;exact⟨(I1 b (Fh a L)).mono _,(Fh b _).mono _⟩
theorem EV{L:List DT}{t:DT}(h:Ek L t)(M:List DT):num (L++M) t=num L t:=by
 cases t with
 |leaf b=>rfl
 |node v l r=>
  rcases h with⟨b,hb⟩|h
  ·exact absurd hb (by simp)
  ·simp only[num];rw[List.idxOf_append,if_pos h]
theorem Kd{L:List DT}(hL:FN L){t:DT}(h:t∈L)(M:List DT):P8 (L++M) t=P8 L t:=by
 cases t with
 |leaf b=>rfl
 |node v l r=>have:=hL v l r h;simp only[P8];rw[EV this.1,EV this.2]
theorem JC{L:List DT}{t:DT}(h:Ek L t):0≤num L t∧num L t<L.length+2:=by
 cases t with
 |leaf b=>simp only[num];cases b<;>simp<;>omega
 |node v l r=>
  rcases h with⟨b,hb⟩|h
  ·exact absurd hb (by simp)
  ·have:=List.idxOf_lt_length_of_mem h;simp only[num];omega
theorem LQ{L:List DT}(hL:FN L):∀{t:DT},Ek L t→AAQ (L.map (P8 L)) t (num L t):=by
 intro t;induction t with
 |leaf b=>intro _;simp[AAQ,num]
 |node v l r ihl ihr=>
  intro h;rcases h with⟨b,hb⟩|h
  ·exact absurd hb (by simp)
  ·have hi:=List.idxOf_lt_length_of_mem h;have:=hL v l r h;refine⟨L.idxOf (.node v l r),rfl,num L l,num L r,?_,ihl this.1,ihr this.2⟩;rw[List.getElem?_map,List.getElem?_eq_getElem hi,List.getElem_idxOf hi];rfl
theorem FN.nil:FN []:=fun _ _ _ h=>absurd h (by simp)
theorem FD(t:DT):AAQ (B2 t).nodes t (B2 t).root:=LQ (G9 t [] FN.nil) (Fh t [])
theorem Jt{s t:DT}(h:B2 s=B2 t):s=t:=(FD s).uniq (h▸FD t)
theorem Ed(b:Bool):B2 (.leaf b)=⟨[],if b then 1 else 0⟩:=rfl
open Go.Proofs
@[simp] def CS(x:Bool):D:=.bool x
@[simp] def AG(n:Int):D:=.int .i64 n
@[simp] def Ba(s:ByteArray):D:=.str s
@[simp] def Ci(l:List Int):D:=.sl (l.map AG)
@[simp] def CW(l:List ByteArray):D:=.sl (l.map Ba)
def AX(x:Ah):D:=.agg [AG x.var,AG x.low,AG x.high]
@[simp] theorem RJ(x:Ah):AAF (.d (AX x))=[.d (AG x.var),.d (AG x.low),.d (AG x.high)]:=rfl
@[simp] theorem RP(x:Ah):Ar (.d (AX x))=true:=rfl
@[simp] theorem Vv(x:Ah):AAW (.d (AX x))=false:=rfl
@[simp] theorem SS(x:Ah):AAL (AX x)=[AG x.var,AG x.low,AG x.high]:=rfl
@[simp] theorem WW(x:Ah):AAe.oneD (AX x)=true:=rfl
@[simp] theorem W6(x:Ah):WFD (AX x)=AAY [AG x.var,AG x.low,AG x.high]:=rfl
@[simp] theorem Tv(x y:Ah):AAT [D.int .i64 x.var,D.int .i64 x.low,D.int .i64 x.high] [D.int .i64 y.var,D.int .i64 y.low,D.int .i64 y.high]=decide (x=y):=by
 cases x;cases y;rw[Bool.eq_iff_iff];simp[AAT,deq]
@[simp] theorem TR(S:Sg)(x:Ah):AAr S (.d (AX x))=some [AG x.var,AG x.low,AG x.high]:=rfl
@[simp] def AV(l:List Ah):D:=.sl (l.map AX)
def AA(x:AN):D:=.agg [AV x.nodes,AG x.root]
@[simp] theorem Qf(x:AN):AAF (.d (AA x))=[.d (AV x.nodes),.d (AG x.root)]:=rfl
@[simp] theorem QS(x:AN):Ar (.d (AA x))=true:=rfl
@[simp] theorem TP(x:AN):AAW (.d (AA x))=false:=rfl
@[simp] theorem Q0(x:AN):AAL (AA x)=[AV x.nodes,AG x.root]:=rfl
@[simp] theorem S5(x:AN):AAe.oneD (AA x)=true:=rfl
@[simp] theorem Ww(x:AN):WFD (AA x)=AAY [AV x.nodes,AG x.root]:=rfl
@[simp] theorem SX(S:Sg)(x:AN):AAr S (.d (AA x))=some [AV x.nodes,AG x.root]:=rfl
def AL(x:Symbol):D:=.agg [CS x.token,AG x.index]
@[simp] theorem SV(x:Symbol):AAF (.d (AL x))=[.d (CS x.token),.d (AG x.index)]:=rfl
@[simp] theorem SQ(x:Symbol):Ar (.d (AL x))=true:=rfl
@[simp] theorem Vb(x:Symbol):AAW (.d (AL x))=false:=rfl
@[simp] theorem SJ(x:Symbol):AAL (AL x)=[CS x.token,AG x.index]:=rfl
@[simp] theorem Ug(x:Symbol):AAe.oneD (AL x)=true:=rfl
@[simp] theorem Xi(x:Symbol):WFD (AL x)=AAY [CS x.token,AG x.index]:=rfl
@[simp] theorem Ty(x y:Symbol):AAT [D.bool x.token,D.int .i64 x.index] [D.bool y.token,D.int .i64 y.index]=decide (x=y):=by
 cases x;cases y;rw[Bool.eq_iff_iff];simp[AAT,deq]
@[simp] theorem Sw(S:Sg)(x:Symbol):AAr S (.d (AL x))=some [CS x.token,AG x.index]:=rfl
@[simp] def As(l:List Symbol):D:=.sl (l.map AL)
def A0(x:D2):D:=.agg [AG x.kind,AG x.a,AG x.b]
@[simp] theorem RW(x:D2):AAF (.d (A0 x))=[.d (AG x.kind),.d (AG x.a),.d (AG x.b)]:=rfl
@[simp] theorem Rn(x:D2):Ar (.d (A0 x))=true:=rfl
@[simp] theorem Vx(x:D2):AAW (.d (A0 x))=false:=rfl
@[simp] theorem SO(x:D2):AAL (A0 x)=[AG x.kind,AG x.a,AG x.b]:=rfl
@[simp] theorem U5(x:D2):AAe.oneD (A0 x)=true:=rfl
@[simp] theorem X4(x:D2):WFD (A0 x)=AAY [AG x.kind,AG x.a,AG x.b]:=rfl
@[simp] theorem Vo(x y:D2):AAT [D.int .i64 x.kind,D.int .i64 x.a,D.int .i64 x.b] [D.int .i64 y.kind,D.int .i64 y.a,D.int .i64 y.b]=decide (x=y):=by
 cases x;cases y;rw[Bool.eq_iff_iff];simp[AAT,deq]
@[simp] theorem TB(S:Sg)(x:D2):AAr S (.d (A0 x))=some [AG x.kind,AG x.a,AG x.b]:=rfl
@[simp] def Bf(l:List D2):D:=.sl (l.map A0)
def AP(x:BM):D:=.agg [AG x.kind,AG x.lo,AG x.hi,AG x.a,AG x.b]
@[simp] theorem TA(x:BM):AAF (.d (AP x))=[.d (AG x.kind),.d (AG x.lo),.d (AG x.hi),.d (AG x.a),.d (AG x.b)]:=rfl
@[simp] theorem TD(x:BM):Ar (.d (AP x))=true:=rfl
@[simp] theorem WY(x:BM):AAW (.d (AP x))=false:=rfl
@[simp] theorem TE(x:BM):AAL (AP x)=[AG x.kind,AG x.lo,AG x.hi,AG x.a,AG x.b]:=rfl
@[simp] theorem Wn(x:BM):AAe.oneD (AP x)=true:=rfl
@[simp] theorem ZP(x:BM):WFD (AP x)=AAY [AG x.kind,AG x.lo,AG x.hi,AG x.a,AG x.b]:=rfl
@[simp] theorem Wr(x y:BM):AAT [D.int .i64 x.kind,D.int .i64 x.lo,D.int .i64 x.hi,D.int .i64 x.a,D.int .i64 x.b] [D.int .i64 y.kind,D.int .i64 y.lo,D.int .i64 y.hi,D.int .i64 y.a,D.int .i64 y.b]=decide (x=y):=by
 cases x;cases y;rw[Bool.eq_iff_iff];simp[AAT,deq]
@[simp] theorem U1(S:Sg)(x:BM):AAr S (.d (AP x))=some [AG x.kind,AG x.lo,AG x.hi,AG x.a,AG x.b]:=rfl
@[simp] def Ax(l:List BM):D:=.sl (l.map AP)
def Db(x:Scope):D:=.agg [CS x.opens,AG x.declares,AG x.kind,AG x.EA,AG x.allowed]
@[simp] theorem TS(x:Scope):AAF (.d (Db x))=[.d (CS x.opens),.d (AG x.declares),.d (AG x.kind),.d (AG x.EA),.d (AG x.allowed)]:=rfl
@[simp] theorem Su(x:Scope):Ar (.d (Db x))=true:=rfl
@[simp] theorem Wl(x:Scope):AAW (.d (Db x))=false:=rfl
@[simp] theorem TQ(x:Scope):AAL (Db x)=[CS x.opens,AG x.declares,AG x.kind,AG x.EA,AG x.allowed]:=rfl
@[simp] theorem Wb(x:Scope):AAe.oneD (Db x)=true:=rfl
@[simp] theorem ZA(x:Scope):WFD (Db x)=AAY [CS x.opens,AG x.declares,AG x.kind,AG x.EA,AG x.allowed]:=rfl
@[simp] theorem LI(x y:Scope):AAT [D.bool x.opens,D.int .i64 x.declares,D.int .i64 x.kind,D.int .i64 x.EA,D.int .i64 x.allowed] [D.bool y.opens,D.int .i64 y.declares,D.int .i64 y.kind,D.int .i64 y.EA,D.int .i64 y.allowed]=decide (x=y):=by
 cases x;cases y;rw[Bool.eq_iff_iff];simp[AAT,deq]
@[simp] theorem Vc(S:Sg)(x:Scope):AAr S (.d (Db x))=some [CS x.opens,AG x.declares,AG x.kind,AG x.EA,AG x.allowed]:=rfl
def Aa(x:Token):D:=.agg [Ba x.name,AG x.cls,Ba x.literal,Ax x.pattern,Ba x.Cr,AV x.cond.nodes,AG x.cond.root]
@[simp] theorem TX(x:Token):AAF (.d (Aa x))=[.d (Ba x.name),.d (AG x.cls),.d (Ba x.literal),.d (Ax x.pattern),.d (Ba x.Cr),.d (AV x.cond.nodes),.d (AG x.cond.root)]:=rfl
@[simp] theorem TG(x:Token):Ar (.d (Aa x))=true:=rfl
@[simp] theorem Wj(x:Token):AAW (.d (Aa x))=false:=rfl
@[simp] theorem Ss(x:Token):AAL (Aa x)=[Ba x.name,AG x.cls,Ba x.literal,Ax x.pattern,Ba x.Cr,AV x.cond.nodes,AG x.cond.root]:=rfl
@[simp] theorem Wq(x:Token):AAe.oneD (Aa x)=true:=rfl
@[simp] theorem Ys(x:Token):WFD (Aa x)=AAY [Ba x.name,AG x.cls,Ba x.literal,Ax x.pattern,Ba x.Cr,AV x.cond.nodes,AG x.cond.root]:=rfl
@[simp] theorem VH(S:Sg)(x:Token):AAr S (.d (Aa x))=some [Ba x.name,AG x.cls,Ba x.literal,Ax x.pattern,Ba x.Cr,AV x.cond.nodes,AG x.cond.root]:=rfl
@[simp] def Bs(l:List Token):D:=.sl (l.map Aa)
def AH(x:AT):D:=.agg [Ba x.name,AG x.left,As x.right,AV x.cond.nodes,AG x.cond.root,CS x.bracket,AG x.Di,Bf x.layout,CS x.scope.opens,AG x.scope.declares,AG x.scope.kind,AG x.scope.EA,AG x.scope.allowed]
@[simp] theorem T8(x:AT):AAF (.d (AH x))=[.d (Ba x.name),.d (AG x.left),.d (As x.right),.d (AV x.cond.nodes),.d (AG x.cond.root),.d (CS x.bracket),.d (AG x.Di),.d (Bf x.layout),.d (CS x.scope.opens),.d (AG x.scope.declares),.d (AG x.scope.kind),.d (AG x.scope.EA),.d (AG x.scope.allowed)]:=rfl
@[simp] theorem WV(x:AT):Ar (.d (AH x))=true:=rfl
@[simp] theorem YW(x:AT):AAW (.d (AH x))=false:=rfl
@[simp] theorem VS(x:AT):AAL (AH x)=[Ba x.name,AG x.left,As x.right,AV x.cond.nodes,AG x.cond.root,CS x.bracket,AG x.Di,Bf x.layout,CS x.scope.opens,AG x.scope.declares,AG x.scope.kind,AG x.scope.EA,AG x.scope.allowed]:=rfl
@[simp] theorem X2(x:AT):AAe.oneD (AH x)=true:=rfl
@[simp] theorem Z1(x:AT):WFD (AH x)=AAY [Ba x.name,AG x.left,As x.right,AV x.cond.nodes,AG x.cond.root,CS x.bracket,AG x.Di,Bf x.layout,CS x.scope.opens,AG x.scope.declares,AG x.scope.kind,AG x.scope.EA,AG x.scope.allowed]:=rfl
@[simp] theorem Wd(S:Sg)(x:AT):AAr S (.d (AH x))=some [Ba x.name,AG x.left,As x.right,AV x.cond.nodes,AG x.cond.root,CS x.bracket,AG x.Di,Bf x.layout,CS x.scope.opens,AG x.scope.declares,AG x.scope.kind,AG x.scope.EA,AG x.scope.allowed]:=rfl
@[simp] def Bb(l:List AT):D:=.sl (l.map AH)
def Ac(x:Level):D:=.agg [Ci x.AD,AG x.assoc,AV x.cond.nodes,AG x.cond.root]
@[simp] theorem Sv(x:Level):AAF (.d (Ac x))=[.d (Ci x.AD),.d (AG x.assoc),.d (AV x.cond.nodes),.d (AG x.cond.root)]:=rfl
@[simp] theorem Sr(x:Level):Ar (.d (Ac x))=true:=rfl
@[simp] theorem WZ(x:Level):AAW (.d (Ac x))=false:=rfl
@[simp] theorem So(x:Level):AAL (Ac x)=[Ci x.AD,AG x.assoc,AV x.cond.nodes,AG x.cond.root]:=rfl
@[simp] theorem Wp(x:Level):AAe.oneD (Ac x)=true:=rfl
@[simp] theorem Y6(x:Level):WFD (Ac x)=AAY [Ci x.AD,AG x.assoc,AV x.cond.nodes,AG x.cond.root]:=rfl
@[simp] theorem Uy(S:Sg)(x:Level):AAr S (.d (Ac x))=some [Ci x.AD,AG x.assoc,AV x.cond.nodes,AG x.cond.root]:=rfl
@[simp] def BI(l:List Level):D:=.sl (l.map Ac)
def AK(x:Filter):D:=.agg [AG x.kind,AG x.parent,AG x.at_,AG x.child,AG x.left,AG x.token,Ci x.tokens,AV x.cond.nodes,AG x.cond.root]
@[simp] theorem Rc(x:Filter):AAF (.d (AK x))=[.d (AG x.kind),.d (AG x.parent),.d (AG x.at_),.d (AG x.child),.d (AG x.left),.d (AG x.token),.d (Ci x.tokens),.d (AV x.cond.nodes),.d (AG x.cond.root)]:=rfl
@[simp] theorem RQ(x:Filter):Ar (.d (AK x))=true:=rfl
@[simp] theorem WJ(x:Filter):AAW (.d (AK x))=false:=rfl
@[simp] theorem Sj(x:Filter):AAL (AK x)=[AG x.kind,AG x.parent,AG x.at_,AG x.child,AG x.left,AG x.token,Ci x.tokens,AV x.cond.nodes,AG x.cond.root]:=rfl
@[simp] theorem UQ(x:Filter):AAe.oneD (AK x)=true:=rfl
@[simp] theorem YQ(x:Filter):WFD (AK x)=AAY [AG x.kind,AG x.parent,AG x.at_,AG x.child,AG x.left,AG x.token,Ci x.tokens,AV x.cond.nodes,AG x.cond.root]:=rfl
@[simp] theorem TF(S:Sg)(x:Filter):AAr S (.d (AK x))=some [AG x.kind,AG x.parent,AG x.at_,AG x.child,AG x.left,AG x.token,Ci x.tokens,AV x.cond.nodes,AG x.cond.root]:=rfl
@[simp] def A8(l:List Filter):D:=.sl (l.map AK)
def AB(x:AF):D:=.agg [CW x.conds,AV x.fam.nodes,AG x.fam.root,Bs x.Ak,CW x.BC,Bb x.AD,AG x.start,BI x.levels,A8 x.AM]
@[simp] theorem Qh(x:AF):AAF (.d (AB x))=[.d (CW x.conds),.d (AV x.fam.nodes),.d (AG x.fam.root),.d (Bs x.Ak),.d (CW x.BC),.d (Bb x.AD),.d (AG x.start),.d (BI x.levels),.d (A8 x.AM)]:=rfl
@[simp] theorem Qy(x:AF):Ar (.d (AB x))=true:=rfl
@[simp] theorem TH(x:AF):AAW (.d (AB x))=false:=rfl
@[simp] theorem QN(x:AF):AAL (AB x)=[CW x.conds,AV x.fam.nodes,AG x.fam.root,Bs x.Ak,CW x.BC,Bb x.AD,AG x.start,BI x.levels,A8 x.AM]:=rfl
@[simp] theorem Sz(x:AF):AAe.oneD (AB x)=true:=rfl
@[simp] theorem Wu(x:AF):WFD (AB x)=AAY [CW x.conds,AV x.fam.nodes,AG x.fam.root,Bs x.Ak,CW x.BC,Bb x.AD,AG x.start,BI x.levels,A8 x.AM]:=rfl
@[simp] theorem SN(S:Sg)(x:AF):AAr S (.d (AB x))=some [CW x.conds,AV x.fam.nodes,AG x.fam.root,Bs x.Ak,CW x.BC,Bb x.AD,AG x.start,BI x.levels,A8 x.AM]:=rfl
def A1(x:Cw):D:=.agg [AG x.hole,AG x.prod,AG x.token,Ba x.text]
@[simp] theorem TV(x:Cw):AAF (.d (A1 x))=[.d (AG x.hole),.d (AG x.prod),.d (AG x.token),.d (Ba x.text)]:=rfl
@[simp] theorem TM(x:Cw):Ar (.d (A1 x))=true:=rfl
@[simp] theorem Wo(x:Cw):AAW (.d (A1 x))=false:=rfl
@[simp] theorem Sx(x:Cw):AAL (A1 x)=[AG x.hole,AG x.prod,AG x.token,Ba x.text]:=rfl
@[simp] theorem Wi(x:Cw):AAe.oneD (A1 x)=true:=rfl
@[simp] theorem ZF(x:Cw):WFD (A1 x)=AAY [AG x.hole,AG x.prod,AG x.token,Ba x.text]:=rfl
@[simp] theorem Wy(x y:Cw):AAT [D.int .i64 x.hole,D.int .i64 x.prod,D.int .i64 x.token,D.str x.text] [D.int .i64 y.hole,D.int .i64 y.prod,D.int .i64 y.token,D.str y.text]=decide (x=y):=by
 cases x;cases y;rw[Bool.eq_iff_iff];simp[AAT,deq]
@[simp] theorem VZ(S:Sg)(x:Cw):AAr S (.d (A1 x))=some [AG x.hole,AG x.prod,AG x.token,Ba x.text]:=rfl
@[simp] def Bm(l:List Cw):D:=.sl (l.map A1)
def Ab(x:Rewrite):D:=.agg [AG x.prod,AG x.at_,AG x.child,Bm x.BL]
@[simp] theorem QM(x:Rewrite):AAF (.d (Ab x))=[.d (AG x.prod),.d (AG x.at_),.d (AG x.child),.d (Bm x.BL)]:=rfl
@[simp] theorem QT(x:Rewrite):Ar (.d (Ab x))=true:=rfl
@[simp] theorem TC(x:Rewrite):AAW (.d (Ab x))=false:=rfl
@[simp] theorem Qg(x:Rewrite):AAL (Ab x)=[AG x.prod,AG x.at_,AG x.child,Bm x.BL]:=rfl
@[simp] theorem TL(x:Rewrite):AAe.oneD (Ab x)=true:=rfl
@[simp] theorem Wm(x:Rewrite):WFD (Ab x)=AAY [AG x.prod,AG x.at_,AG x.child,Bm x.BL]:=rfl
@[simp] theorem Q6(S:Sg)(x:Rewrite):AAr S (.d (Ab x))=some [AG x.prod,AG x.at_,AG x.child,Bm x.BL]:=rfl
@[simp] def An(l:List Rewrite):D:=.sl (l.map Ab)
def AO(x:AAC):D:=.agg [AG x.kind,AG x.number,AG x.at_,AG x.to,Ba x.name,CS x.value,AV x.cond.nodes,AG x.cond.root,BI x.levels,A8 x.AM,Ba x.token.name,AG x.token.cls,Ba x.token.literal,Ax x.token.pattern,Ba x.token.Cr,AV x.token.cond.nodes,AG x.token.cond.root,Ba x.prod.name,AG x.prod.left,As x.prod.right,AV x.prod.cond.nodes,AG x.prod.cond.root,CS x.prod.bracket,AG x.prod.Di,Bf x.prod.layout,CS x.prod.scope.opens,AG x.prod.scope.declares,AG x.prod.scope.kind,AG x.prod.scope.EA,AG x.prod.scope.allowed,Bm x.BL]
@[simp] theorem R9(x:AAC):AAF (.d (AO x))=[.d (AG x.kind),.d (AG x.number),.d (AG x.at_),.d (AG x.to),.d (Ba x.name),.d (CS x.value),.d (AV x.cond.nodes),.d (AG x.cond.root),.d (BI x.levels),.d (A8 x.AM),.d (Ba x.token.name),.d (AG x.token.cls),.d (Ba x.token.literal),.d (Ax x.token.pattern),.d (Ba x.token.Cr),.d (AV x.token.cond.nodes),.d (AG x.token.cond.root),.d (Ba x.prod.name),.d (AG x.prod.left),.d (As x.prod.right),.d (AV x.prod.cond.nodes),.d (AG x.prod.cond.root),.d (CS x.prod.bracket),.d (AG x.prod.Di),.d (Bf x.prod.layout),.d (CS x.prod.scope.opens),.d (AG x.prod.scope.declares),.d (AG x.prod.scope.kind),.d (AG x.prod.scope.EA),.d (AG x.prod.scope.allowed),.d (Bm x.BL)]:=rfl
@[simp] theorem RG(x:AAC):Ar (.d (AO x))=true:=rfl
@[simp] theorem VI(x:AAC):AAW (.d (AO x))=false:=rfl
@[simp] theorem Q3(x:AAC):AAL (AO x)=[AG x.kind,AG x.number,AG x.at_,AG x.to,Ba x.name,CS x.value,AV x.cond.nodes,AG x.cond.root,BI x.levels,A8 x.AM,Ba x.token.name,AG x.token.cls,Ba x.token.literal,Ax x.token.pattern,Ba x.token.Cr,AV x.token.cond.nodes,AG x.token.cond.root,Ba x.prod.name,AG x.prod.left,As x.prod.right,AV x.prod.cond.nodes,AG x.prod.cond.root,CS x.prod.bracket,AG x.prod.Di,Bf x.prod.layout,CS x.prod.scope.opens,AG x.prod.scope.declares,AG x.prod.scope.kind,AG x.prod.scope.EA,AG x.prod.scope.allowed,Bm x.BL]:=rfl
@[simp] theorem T7(x:AAC):AAe.oneD (AO x)=true:=rfl
@[simp] theorem YH(x:AAC):WFD (AO x)=AAY [AG x.kind,AG x.number,AG x.at_,AG x.to,Ba x.name,CS x.value,AV x.cond.nodes,AG x.cond.root,BI x.levels,A8 x.AM,Ba x.token.name,AG x.token.cls,Ba x.token.literal,Ax x.token.pattern,Ba x.token.Cr,AV x.token.cond.nodes,AG x.token.cond.root,Ba x.prod.name,AG x.prod.left,As x.prod.right,AV x.prod.cond.nodes,AG x.prod.cond.root,CS x.prod.bracket,AG x.prod.Di,Bf x.prod.layout,CS x.prod.scope.opens,AG x.prod.scope.declares,AG x.prod.scope.kind,AG x.prod.scope.EA,AG x.prod.scope.allowed,Bm x.BL]:=rfl
@[simp] theorem TW(S:Sg)(x:AAC):AAr S (.d (AO x))=some [AG x.kind,AG x.number,AG x.at_,AG x.to,Ba x.name,CS x.value,AV x.cond.nodes,AG x.cond.root,BI x.levels,A8 x.AM,Ba x.token.name,AG x.token.cls,Ba x.token.literal,Ax x.token.pattern,Ba x.token.Cr,AV x.token.cond.nodes,AG x.token.cond.root,Ba x.prod.name,AG x.prod.left,As x.prod.right,AV x.prod.cond.nodes,AG x.prod.cond.root,CS x.prod.bracket,AG x.prod.Di,Bf x.prod.layout,CS x.prod.scope.opens,AG x.prod.scope.declares,AG x.prod.scope.kind,AG x.prod.scope.EA,AG x.prod.scope.allowed,Bm x.BL]:=rfl
theorem xN:(∀x:Ah,AX x=.agg [AG x.var,AG x.low,AG x.high])∧(∀x:AN,AA x=.agg [AV x.nodes,AG x.root])∧(∀x:Symbol,AL x=.agg [CS x.token,AG x.index])∧(∀x:D2,A0 x=.agg [AG x.kind,AG x.a,AG x.b])∧(∀x:BM,AP x=.agg [AG x.kind,AG x.lo,AG x.hi,AG x.a,AG x.b])∧(∀x:Scope,Db x=.agg [CS x.opens,AG x.declares,AG x.kind,AG x.EA,AG x.allowed])∧(∀x:Token,Aa x=.agg [Ba x.name,AG x.cls,Ba x.literal,Ax x.pattern,Ba x.Cr,AV x.cond.nodes,AG x.cond.root])∧(∀x:AT,AH x=.agg [Ba x.name,AG x.left,As x.right,AV x.cond.nodes,AG x.cond.root,CS x.bracket,AG x.Di,Bf x.layout,CS x.scope.opens,AG x.scope.declares,AG x.scope.kind,AG x.scope.EA,AG x.scope.allowed])∧(∀x:Level,Ac x=.agg [Ci x.AD,AG x.assoc,AV x.cond.nodes,AG x.cond.root])∧(∀x:Filter,AK x=.agg [AG x.kind,AG x.parent,AG x.at_,AG x.child,AG x.left,AG x.token,Ci x.tokens,AV x.cond.nodes,AG x.cond.root])∧(∀x:AF,AB x=.agg [CW x.conds,AV x.fam.nodes,AG x.fam.root,Bs x.Ak,CW x.BC,Bb x.AD,AG x.start,BI x.levels,A8 x.AM])∧(∀x:Cw,A1 x=.agg [AG x.hole,AG x.prod,AG x.token,Ba x.text])∧(∀x:Rewrite,Ab x=.agg [AG x.prod,AG x.at_,AG x.child,Bm x.BL])∧(∀x:AAC,AO x=.agg [AG x.kind,AG x.number,AG x.at_,AG x.to,Ba x.name,CS x.value,AV x.cond.nodes,AG x.cond.root,BI x.levels,A8 x.AM,Ba x.token.name,AG x.token.cls,Ba x.token.literal,Ax x.token.pattern,Ba x.token.Cr,AV x.token.cond.nodes,AG x.token.cond.root,Ba x.prod.name,AG x.prod.left,As x.prod.right,AV x.prod.cond.nodes,AG x.prod.cond.root,CS x.prod.bracket,AG x.prod.Di,Bf x.prod.layout,CS x.prod.scope.opens,AG x.prod.scope.declares,AG x.prod.scope.kind,AG x.prod.scope.EA,AG x.prod.scope.allowed,Bm x.BL]):=
 ⟨fun _=>rfl,fun _=>rfl,fun _=>rfl,fun _=>rfl,fun _=>rfl,fun _=>rfl,fun _=>rfl,fun _=>rfl,fun _=>rfl,fun _=>rfl,fun _=>rfl,fun _=>rfl,fun _=>rfl,fun _=>rfl⟩
open Go.Proofs Tryz
theorem Bl{α:Type}{l:List α}{i:Nat}(h:i<l.length):l.take (i+1)=l.take i++[l[i]]:=by rw[List.take_succ_eq_append_getElem h]
theorem MN(a c:List Ah):Pure prog 36 [.sl (a.map AX),.sl (c.map AX)] (.bool (decide (a=c))):=by
 refine Pure.AI func36 (by kernel_rfl) rfl (by simp) fun wf=>?_;have a1:a.length≤maxLen:=by have:=wf.1;simp only[WFD]at this;simpa using this.1
 rw[ntmps36];refine xW fun K hK=>?_;simp;apply hK;refine xS (xW fun K hK=>?_);simp;apply hK;refine AU ?_;simp;refine⟨fun dI=>?_,fun heq=>?_⟩
 ·refine xW fun K hK=>?_;simp;apply hK;refine Ag ⟨_,_,AJ.refl,?_⟩;(try simp);intro e;rw[e]at dI;exact dI rfl
 ·have heq:a.length=c.length:=by omega
  refine xK ?_;refine xS (xW fun K hK=>?_);simp;apply hK;refine Bw ?_;refine DC a.length (fun i tm S=>tm 0=.d (.sl (a.map AX))∧tm 1=.d (.sl (c.map AX))∧tm 13=.d (.int .i64 i)∧tm 12=.d (.int .i64 a.length)∧S=[]∧a.take i=c.take i) (Nat.zero_le _) (by simp) ?_;rintro i tm S hi ⟨t0,t1,t13,t12,rfl,hq⟩;refine xW fun K hK=>?_;simp[t13,t12];apply hK;refine xC ?_;simp;refine⟨fun cx=>?_,fun hO=>?_⟩
  ·have nH:i<c.length:=by omega
   refine xK ?_;refine xB ?_;refine xW fun K hK=>?_;simp[t13];apply hK;refine xD [0,2,4,6,8,10,12,14,16] (by kernel_rfl) fun K hK=>?_;simp;refine xA 0 ?_;simp[t0,t1,cx,nH];refine xM (hK _ _ ?_);refine AU ?_;simp;refine⟨fun dI=>?_,fun he=>?_⟩
   ·refine xW fun K hK=>?_;simp;apply hK;refine Ag ⟨_,_,AJ.refl,?_⟩;(try simp);intro e;subst e;simp at dI
   ·refine CC ?_;refine xV fun K hK=>?_;simp[t13];apply hK;refine⟨cx,_,_,AJ.refl,?_⟩;simp[t0,t1,t12,AQ cx a1];rw[Bl cx,Bl nH,hq,he]
  ·have rB:i=a.length:=by omega
   subst rB;have rC:a=c:=by rw[List.take_length,heq,List.take_length]at hq;exact hq
   refine Cu ?_;refine xW fun K hK=>?_;simp;apply hK;refine Ag ⟨_,_,AJ.refl,?_⟩;(try simp);exact rC
theorem ID(a c:List Symbol):Pure prog 34 [.sl (a.map AL),.sl (c.map AL)] (.bool (decide (a=c))):=by
 refine Pure.AI func34 (by kernel_rfl) rfl (by simp) fun wf=>?_;have a1:a.length≤maxLen:=by have:=wf.1;simp only[WFD]at this;simpa using this.1
 rw[ntmps34];refine xW fun K hK=>?_;simp;apply hK;refine xS (xW fun K hK=>?_);simp;apply hK;refine AU ?_;simp;refine⟨fun dI=>?_,fun heq=>?_⟩
 ·refine xW fun K hK=>?_;simp;apply hK;refine Ag ⟨_,_,AJ.refl,?_⟩;(try simp);intro e;rw[e]at dI;exact dI rfl
 ·have heq:a.length=c.length:=by omega
  refine xK ?_;refine xS (xW fun K hK=>?_);simp;apply hK;refine Bw ?_;refine DC a.length (fun i tm S=>tm 0=.d (.sl (a.map AL))∧tm 1=.d (.sl (c.map AL))∧tm 13=.d (.int .i64 i)∧tm 12=.d (.int .i64 a.length)∧S=[]∧a.take i=c.take i) (Nat.zero_le _) (by simp) ?_;rintro i tm S hi ⟨t0,t1,t13,t12,rfl,hq⟩;refine xW fun K hK=>?_;simp[t13,t12];apply hK;refine xC ?_;simp;refine⟨fun cx=>?_,fun hO=>?_⟩
  ·have nH:i<c.length:=by omega
   refine xK ?_;refine xB ?_;refine xW fun K hK=>?_;simp[t13];apply hK;refine xD [0,2,4,6,8,10,12,14,16] (by kernel_rfl) fun K hK=>?_;simp;refine xA 0 ?_;simp[t0,t1,cx,nH];refine xM (hK _ _ ?_);refine AU ?_;simp;refine⟨fun dI=>?_,fun he=>?_⟩
   ·refine xW fun K hK=>?_;simp;apply hK;refine Ag ⟨_,_,AJ.refl,?_⟩;(try simp);intro e;subst e;simp at dI
   ·refine CC ?_;refine xV fun K hK=>?_;simp[t13];apply hK;refine⟨cx,_,_,AJ.refl,?_⟩;simp[t0,t1,t12,AQ cx a1];rw[Bl cx,Bl nH,hq,he]
  ·have rB:i=a.length:=by omega
   subst rB;have rC:a=c:=by rw[List.take_length,heq,List.take_length]at hq;exact hq
   refine Cu ?_;refine xW fun K hK=>?_;simp;apply hK;refine Ag ⟨_,_,AJ.refl,?_⟩;(try simp);exact rC
theorem E0(a c:AN):Pure prog 10 [AA a,AA c] (.bool (decide (a=c))):=by
 refine Pure.AI func10 (by kernel_rfl) rfl (by simp) fun wf=>?_;rw[ntmps10];refine xW fun K hK=>?_;simp;apply hK;(repeat refine xS ?_);refine BX fun K hK=>?_;refine xJ ?_;simp;refine AS.CE (g:=a.root==c.root) (ds:=[AV a.nodes,AV c.nodes]) rfl rfl (by simp) (fun _=>MN _ _) (by simp) ?_;simp;refine xJ ?_;simp;refine Aj (hK _ _ ?_);(try simp only[xQ,reduceIte]);refine Ag ⟨_,_,AJ.refl,?_⟩;(try simp);cases a;cases c;rw[Bool.eq_iff_iff];simp[and_comm]
theorem Fb(x:Bool):Pure prog 113 [.bool x] (AA ⟨[],if x then 1 else 0⟩):=by
 refine Pure.AI func113 (by kernel_rfl) rfl (by simp) fun wf=>?_;rw[ntmps113];refine xW fun K hK=>?_;simp;apply hK;refine xS (xW fun K hK=>?_);simp;apply hK;refine AU ?_;simp;refine⟨fun hx=>?_,fun hx=>?_⟩
 ·refine xW fun K hK=>?_;simp;apply hK;refine Ag ⟨_,_,AJ.refl,?_⟩;(try simp);simp[hx,AA]
 ·refine xK ?_;refine xW fun K hK=>?_;simp;apply hK;refine Ag ⟨_,_,AJ.refl,?_⟩;(try simp);simp[hx,AA]
def AN.level(d:AN)(e:Int):Int:=if e<2 then 64 else match d.nodes[(e - 2).toNat]? with|some x=>x.var|none=>0
theorem Fv(d:AN)(e:Int)(he:e<2+d.nodes.length):Pure prog 125 [AA d,AG e] (AG (d.level e)):=by
 refine Pure.AI func125 (by kernel_rfl) rfl (by simp) fun wf=>?_;simp[AAY,DM,WFD]at wf;rw[ntmps125];refine xW fun K hK=>?_;simp;apply hK;refine xS (xW fun K hK=>?_);simp;apply hK;refine AU ?_;simp;refine⟨fun hx=>?_,fun hx=>?_⟩
 ·refine xW fun K hK=>?_;simp;apply hK;refine Ag ⟨_,_,AJ.refl,?_⟩;(try simp);simp[AN.level,hx]
 ·have h2:IntKind.i64.wrap (e - 2)=e - 2:=wrap_i64 (by omega) (by omega);have h3:(e - 2).toNat<d.nodes.length:=by omega
  have h4:e - 2<(d.nodes.length:Int):=by omega
  have h5:¬e<2:=by omega
  refine xK ?_;refine xW fun K hK=>?_;simp[h2,h3,h4,hx];apply hK;refine Ag ⟨_,_,AJ.refl,?_⟩;(try simp);simp[AN.level,h5,h3]
end Go.Koi
