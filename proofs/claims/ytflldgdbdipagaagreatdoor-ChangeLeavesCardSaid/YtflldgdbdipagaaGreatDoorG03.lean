/-
  Part 4 of the proof that the law ChangeLeaves returns true for every input.
-/
import Derived.Test.YtflldgdbdipagaaGreatDoorG02
import Derived.Maps.Keyed
import Derived.DeepKeys4
import Derived.Laws.StructEq
import Derived.Laws.Cover3
set_option maxHeartbeats 64000000
set_option maxRecDepth 100000
open List renaming length->Z,getD->lg
open Bool renaming true->J,false->am
open Option renaming some->al,none->br
open Go renaming Program->cP,TypeId->c9,FuncId->go
open Go.IntKind renaming wrap->bv
namespace Go.Koi
inductive CK where
 |bool|int (q:IntKind)|str
 deriving DecidableEq
inductive KK where
 |one (c:CK)|cells (cs:List CK)
def B3:CK->D->Bool
 |.bool,.bool _=>J
 |.int q,.int g _=>q==g
 |.str,.str _=>J
 |_,_=>am
def Bx:List CK->List D->Bool
 |[],[]=>J
 |c::g,d::ds=>B3 c d&&Bx g ds
 |_,_=>am
def B1:KK->D->Bool
 |.one c,d=>B3 c d
 |.cells g,.agg ds=>Bx g ds
 |_,_=>am
def Fi:D->Value
 |.bool b=>.bool b
 |.int k n=>.int k n
 |.str s=>.string s
 |_=>undef
def Q1:D->Value
 |.agg ds=>.agg (ds.map Fi).toArray
 |d=>Fi d
def Jk:D->Lit
 |.bool b=>.bool b
 |.int k n=>.int k n
 |.str s=>.string s.data.toList
 |_=>.bool am
theorem Qb{c:CK}{I:Nat->Prop}{w:World}{d:D}{v:Value}(g:B3 c d=J)(h:CD I w d v):v=Fi d:=by
 cases h<;>first|rfl|(cases c<;>simp[B3]at g)
theorem Ls:∀{g:List CK} {ds:List D},Bx g ds=J->Z g=Z ds/\∀i (h:i<Z g) (m:i<Z ds),B3 g[i] ds[i]=J
 |[],[],_=>⟨rfl,λi h=>by simp at h⟩
 |[],_::_,h=>by simp[Bx]at h
 |_::_,[],h=>by simp[Bx]at h
 |c::g,d::ds,h=>by
  simp[Bx]at h;obtain⟨h1,j⟩:=Ls h.2;refine⟨by simp[h1],λi hi k=>?_⟩;cases i with
  |zero=>exact h.1
  |succ i=>simpa using j i (by simpa using hi) (by simpa using k)
theorem JK{kk:KK}{I:Nat->Prop}{w:World}{d:D}{v:Value}(g:B1 kk d=J)(h:CD I w d v):v=Q1 d:=by
 cases kk with
 |one c=>
  have:=Qb g h;rw[this];cases d<;>first|rfl|(cases c<;>simp[B1,B3]at g)
 |cells m=>
  cases h with
  |agg ds o j h q=>
   obtain⟨h1,k⟩:=Ls g;simp[Q1,Value.agg.injEq];apply Array.ext (by simp[j]);intro i s t;have hi:i<Z ds:=by omega
   simpa using Qb (k i (by omega) hi) (h i hi)
  |_=>simp[B1]at g
theorem SH{c:CK}{a b:D}(ha:B3 c a=J)(hb:B3 c b=J):DY a b=J↔Fi a=Fi b:=by
 cases c<;>cases a<;>simp[B3]at ha<;>cases b<;>simp[B3]at hb
 .simp[DY,Fi]
 .subst ha;subst hb;simp[DY,Fi]
 .simp[DY,Fi]
theorem Zy{c:CK}{a b:D}(ha:B3 c a=J)(hb:B3 c b=J):Jk a=Jk b↔Fi a=Fi b:=by
 cases c<;>cases a<;>simp[B3]at ha<;>cases b<;>simp[B3]at hb
 .simp[Jk,Fi]
 .subst ha;subst hb;simp[Jk,Fi]
 .rename_i x y;simp only[Jk,Fi,Lit.string.injEq,Value.string.injEq];constructor
  .intro h;cases x;cases y;simp only[ByteArray.mk.injEq];exact ad4 h
  .rintro rfl;rfl
abbrev ab0:=@List.cons.injEq
theorem Li:∀{i:List CK} {as g:List D},Bx i as=J->Bx i g=J->(CS as g=J↔as.map Fi=g.map Fi)
 |[],[],[],_,_=>by simp[CS]
 |[],_::_,_,h,_=>by simp[Bx]at h
 |[],[],_::_,_,h=>by simp[Bx]at h
 |_::_,[],_,h,_=>by simp[Bx]at h
 |_::_,_::_,[],_,h=>by simp[Bx]at h
 |c::i,a::as,b::g,ha,hb=>by
  simp[Bx]at ha hb;simp[CS];rw[SH ha.1 hb.1,Li ha.2 hb.2]
theorem Lr:∀{i:List CK} {as g:List D},Bx i as=J->Bx i g=J->(as.map Jk=g.map Jk↔as.map Fi=g.map Fi)
 |[],[],[],_,_=>by simp
 |[],_::_,_,h,_=>by simp[Bx]at h
 |[],[],_::_,_,h=>by simp[Bx]at h
 |_::_,[],_,h,_=>by simp[Bx]at h
 |_::_,_::_,[],_,h=>by simp[Bx]at h
 |c::i,a::as,b::g,ha,hb=>by
  simp[Bx]at ha hb;simp;rw[Zy ha.1 hb.1,Lr ha.2 hb.2]
theorem ZV{kk:KK}{a b:D}(ha:B1 kk a=J)(hb:B1 kk b=J):DY a b=J↔Q1 a=Q1 b:=by
 cases kk with
 |one c=>
  have e:∀{x:D},B1 (.one c) x=J->Q1 x=Fi x:=λ{x} h=>by cases x<;>first|rfl|(cases c<;>simp[B1,B3]at h)
  rw[e ha,e hb];exact SH ha hb
 |cells g=>
  cases a<;>simp[B1]at ha;cases b<;>simp[B1]at hb;simp only[DY,Q1,Value.agg.injEq];rw[Li ha hb];exact⟨λh=>by rw[h],λh=>by simpa using h⟩
structure JY(P:cP)(K:c9)(kk:KK):Prop where
 keyed:Maps.Keyed P K
 lit:∀{kd I w v},B1 kk kd=J->CD I w kd v->∃l,keyOf P K v=al l
theorem T5{P:cP}{K:c9}{q:IntKind}(h:P.underlying K=al (.int q)):JY P K (.one (.int q)):=
 ⟨Maps.int_keyed h,λ{kd I w v} g i=>by
  cases i<;>simp[B1,B3]at g;subst g;rename_i n j;exact⟨_,Maps.keyOf_int_mk h (by rw[WU];exact j)⟩⟩
theorem VN{P:cP}{K:c9}(h:P.underlying K=al .string):JY P K (.one .str):=
 ⟨Maps.string_keyed h,λ{kd I w v} g i=>by
  cases i<;>simp[B1,B3]at g;rename_i s j;exact⟨.string s.data.toList,by simp[keyOf,h,mapKey,j]⟩⟩
def basic(P:cP)(t:c9):Option CK:=
 match P.underlying t with
 |some .bool=>al .bool
 |some (.int q)=>al (.int q)
 |some .string=>al .str
 |_=>none
def lD(P:cP):Nat->List Field->Option (List CK)
 |_,[]=>al []
 |k,f::g=>if f.offset=k/\P.cellsOf f.type=1/\(f.name != "_")=J then
   (match basic P f.type,lD P (k+1) g with|some c,al h=>al (c::h)|_,_=>none)else none
def Ty(P:cP)(t:c9):Option (List CK):=
 if P.keyType t&&P.keyTypeAt 2 t&&P.tiled 2 t&&!P.eqGuardType P.depth t&&decide (0<P.types.size)then
  match P.underlying t with
  |some (.struct g)=>if P.cellsOf t=g.size then lD P 0 g.toList else none
  |some (.array n e)=>if P.cellsOf t=n/\P.cellsOf e=1 then(basic P e).map λc=>List.replicate n c else none
  |_=>none
 else none
theorem QG{P:cP}{t:c9}{c:CK}(hb:basic P t=al c){I:Nat->Prop}{w:World}{d:D}{v:Value}(g:B3 c d=J)(h:CD I w d v)(m:Nat):P.keyLits (m+1) t [v]=al [Jk d]:=by
 unfold basic at hb;unfold Program.keyLits;cases h with
 |bool b=>split at hb<;>cases hb<;>simp[B3]at g;rename_i i;simp[i,Jk]
 |int k n j=>split at hb<;>cases hb<;>simp[B3]at g;rename_i i;subst g;simp[i,Jk,WU,j]
 |str s o=>split at hb<;>cases hb<;>simp[B3]at g;rename_i i;simp[i,Jk,o]
 |_=>split at hb<;>cases hb<;>simp[B3]at g
abbrev GE:=@List.drop_eq_getElem_cons
abbrev acS:=@Nat.add_comm
theorem Un{P:cP}{I:Nat->Prop}{w:World}{m:Nat}(j:List Value):∀(q:List Field) (k:Nat) (g:List CK) (ds:List D),lD P k q=al g->Bx g ds=J->k+Z q=Z j->(∀i (h:i<Z ds) (H:k+i<Z j),CD I w ds[i] j[k+i])->(q.mapM λf=>P.keyLits (m+1) f.type ((j.drop f.offset).take (P.cellsOf f.type)))=al (ds.map λd=>[Jk d])
 |[],k,g,ds,h,o,_,_=>by
  simp only[lD,i9]at h;subst h;cases ds with
  |nil=>rfl
  |cons d ds=>simp[Bx]at o
 |f::q,k,g,ds,h,o,A,v=>by
  simp only[lD]at h;split at h
  .rename_i B;obtain⟨h1,C,K⟩:=B;split at h
   .rename_i c s hb t;cases h;cases ds with
    |nil=>simp[Bx]at o
    |cons d ds=>
     simp only[Bx,b9]at o;simp only[gr]at A;have E:k<Z j:=by omega
     have F:(j.drop f.offset).take (P.cellsOf f.type)=[j[k]]:=by
      rw[h1,C,GE E];rfl
     have u:=v 0 (by simp) (by omega);have z:=QG hb o.1 u m;have G:=Un (m:=m) j q (k+1) s ds t o.2 (by omega) (λi hi L=>by
      have:=v (i+1) (by simpa using hi) (by omega);simpa[q7,acS 1 i]using this)
     simp at z;simp[F,z,G]
   .cases h
  .cases h
abbrev ac7:=@List.replicate_succ
theorem Qi{n:Nat}{c:CK}:∀{ds:List D},Bx (List.replicate n c) ds=J->Z ds=n/\∀d∈ds,B3 c d=true:=by
 induction n with
 |zero=>intro ds h;cases ds<;>simp[Bx]at h⊢
 |succ n i=>
  intro ds h;cases ds with
  |nil=>simp[ac7,Bx]at h
  |cons d ds=>
   simp[ac7,Bx]at h;obtain⟨h1,j⟩:=i h.2;refine⟨by simp[h1],λx g=>?_⟩;cases g with
   |head=>exact h.1
   |tail _ g=>exact j x g
theorem OL{α β:Type}(f:α->β)(l:List α):(l.map λd=>[f d]).flatten=l.map f:=by
 induction l with
 |nil=>rfl
 |cons a l g=>simp[g]
theorem mapM_some{α β:Type}(f:α->Option β)(g:α->β)(l:List α)(h:∀a∈l,f a=al (g a)):l.mapM f=al (l.map g):=by
 induction l with
 |nil=>rfl
 |cons a l i=>simp[h a (by simp),i λb hb=>h b (by simp[hb])]
abbrev rx:=@Bool.not_eq_true'
abbrev cF:=@List.getElem_mem
theorem Ts{P:cP}{t:c9}{j:List CK}(h:Ty P t=al j):P.keyTypeAt 2 t=J/\P.tiled 2 t=J/\P.eqGuardType P.depth t=am/\(match P.underlying t with|some (.array _ _)|some (.struct _)=>J|_=>am)=J/\∀{I:Nat->Prop} {w:World} {ds:List D} {v:Value},Bx j ds=J->CD I w (.agg ds) v->keyOf P t v=al (.string (keyBytes (ds.map Jk))):=by
 unfold Ty at h;split at h
 .rename_i T;simp only[b9,rx]at T;obtain⟨⟨⟨⟨h1,W⟩,X⟩,Y⟩,h5⟩:=T;have U:0<P.types.size:=by simpa using h5
  refine⟨W,X,Y,?_⟩;split at h
  .rename_i o A;refine⟨by rw[A],λ{I w ds v} E q=>?_⟩;split at h
   .rename_i F;cases q with
    |agg ds z hs q ho=>
     have G:∀(k:Nat) (o:List Field) (j:List CK),lD P k o=al j->Z j=Z o:=by
      intro k o;induction o generalizing k with
      |nil=>intro j h;simp[lD]at h;subst h;rfl
      |cons f o L=>
       intro j h;simp only[lD]at h;split at h
       .split at h
        .rename_i c M hb s;cases h;simp[L _ _ s]
        .cases h
       .cases h
     have H:=G 0 o.toList j h;have hl2:=(Ls E).1;have B:∀(k:Nat) (o:List Field) (j:List CK),lD P k o=al j->∀f∈o,(f.name != "_")=true:=by
      intro k o;induction o generalizing k with
      |nil=>intro j _ f K;cases K
      |cons f o L=>
       intro j h g E;simp only[lD]at h;split at h
       .rename_i K;split at h
        .rename_i c M hb s;cases E with
         |head=>exact K.2.2
         |tail _ E=>exact L _ _ s g E
        .cases h
       .cases h
     have e:=Un (m:=P.types.size - 1) (I:=I) (w:=w) z.toList o.toList 0 j ds h E (by simp at H⊢;omega) (λi hi ze=>by simpa using q i hi);have Mh:P.types.size - 1+1=P.types.size:=by omega
     rw[Mh]at e;have C:(Value.agg z).cells=z:=rfl;have s:Z z.toList=P.cellsOf t:=by rw[F];simp at H⊢;omega
     unfold keyOf;have u:(Value.agg z).formed P t=true:=by simp[Value.formed,A,F];simp at H;omega
     simp only[A,h1,u,Bool.and_true,kw,C];unfold Program.keyLits;simp only[A,s];have N:o.all (λf=>f.name != "_")=true:=by
      rw[Array.all_eq_true'];intro f K;exact B 0 o.toList j h f (by simpa using K)
     rw[b8 ⟨trivial,N⟩,e];simp[OL]
   .cases h
  .rename_i n e A;refine⟨by rw[A],λ{I w ds v} E q=>?_⟩;split at h
   .rename_i F;obtain⟨F,Q⟩:=F;simp only[WP]at h;obtain⟨c,hb,rfl⟩:=h;obtain⟨H,za⟩:=Qi E;cases q with
    |agg ds z hs q ho=>
     have Mh:∃m,P.types.size=m+1:=⟨P.types.size - 1,by omega⟩;obtain⟨m,hm⟩:=Mh;have s:Z z.toList=P.cellsOf t:=by rw[F];simp;omega
     have u:(Value.agg z).formed P t=true:=by simp[Value.formed,A,F];omega
     unfold keyOf;simp only[A,h1,u,Bool.and_true,kw,Value.cells];unfold Program.keyLits;simp only[A,s,kw];have e:=mapM_some (λi=>P.keyLits P.types.size e ((z.toList.drop (i * P.cellsOf e)).take (P.cellsOf e))) (λi=>[Jk (ds.getD i (.bool am))]) (List.range n) (λi hi=>by
      have hi:i<n:=by simpa using hi
      have R:i<Z z.toList:=by simp;omega
      rw[Q,Nat.mul_one,GE R,hm];have S:ds.getD i (.bool am)=ds[i]'(by omega):=by simp[List.getD,show i<Z ds by omega]
      rw[S];exact QG hb (za _ (cF _)) (by simpa using q i (by omega)) m)
     rw[e];have:(List.range n).map (λi=>Jk (ds.getD i (.bool am)))=ds.map Jk:=by
      apply abG (by simp[H]);intro i g1 g2;have:i<Z ds:=by simpa using g2
      simp[List.getD,this]
     simp only[acF,OL,this]
   .cases h
  .cases h
 .cases h
theorem Qu{P:cP}{K:c9}{g:List CK}(h:Ty P K=al g):JY P K (.cells g):=by
 obtain⟨h1,j,s,k,o⟩:=Ts h;refine⟨Maps.Keyed.of_law (deep_law (m:=2) (by decide) h1 j k),λ{kd I w v} i q=>?_⟩;cases kd<;>simp[B1]at i;exact⟨_,o i q⟩
theorem TV{P:cP}{T:c9}{g:List CK}(h:Ty P T=al g){I:Nat->Prop}{w:World}{as i:List D}{u v:Value}(ha:Bx g as=J)(hb:Bx g i=J)
  (s:CD I w (.agg as) u) (t:CD I w (.agg i) v):(Op.equal T u v).run P w=.ok (CS as i) w:=by
 obtain⟨h1,A,E,z,k⟩:=Ts h;obtain⟨r,B,o⟩:=run_equal_deep w (m:=2) (by decide) h1 z (k ha s) (k hb t);rw[B];congr 1;have C:keyOf P T u=keyOf P T v->as.map Jk=i.map Jk:=λe=>by
  have j:=k ha s;have F:=k hb t;obtain⟨G,H,K,L,M⟩:=keyOf_top z j;have q:u=v:=keyOf_inj_deep A z j (by rw[<-e];exact j);have k1:u=Q1 (.agg as):=JK (kk:=.cells g) ha s;have k2:v=Q1 (.agg i):=JK (kk:=.cells g) hb t;rw[k1,k2]at q;have:as.map Fi=i.map Fi:=by simpa[Q1]using q
  exact(Lr ha hb).2 this
 have:(r=J↔CS as i=J):=by
  rw[o,Li ha hb,<-Lr ha hb];constructor
  .intro e;exact C (by rw[k ha s,k hb t,e])
  .intro e;rw[e]
 cases r<;>cases N:CS as i<;>simp_all
abbrev adv:=@List.find?_eq_some_iff_getElem
abbrev pu:=@List.mem_of_getElem?
abbrev ac2:=@Array.getElem?_eq_some_iff
abbrev adS:=@List.find?_eq_none
abbrev adm:=@MapKept.run_getObj_map
abbrev adn:=@Array.getElem?_push_lt
section
variable {P:cP} {n:Nat} {o:Oper} {tm:Tm} {S S':Sg} {v:V}
def Cq(es:List (D×V))(k:D):Option V:=(es.find? λp=>DY p.1 k).map (·.2)
def Ej(es:List (D×V))(k:D)(x:V):List (D×V):=
 if(Cq es k).isSome then es.map λp=>if DY p.1 k then(p.1,x)else p else es++[(k,x)]
theorem W6{T:c9}(g:o.op=.makeMap T none):CP P n o tm S (.map (Z S)) (S++[.map []]):=.val λG w a st=>by
 obtain⟨r1,r2,h⟩:=st.rel.add 0 (.map []) (.map #[] 0) (λL=>by
  simp only[OK];exact⟨#[],0,by simpa[Gh.at]using EK,rfl,rfl,λi hi=>by simp at hi⟩)
 refine⟨.map (al w.heap.size),_,_,?_,?_,r1,r2,h⟩
 .simp[execOp,g,Instr.makeMap];rfl
 .exact .map _ _ rfl (by simp) λ_=>by simp[Gh.at]
theorem YC{G:Gh}{w:World}(R:Rel P G S w){K:c9}{kk:KK}(F:JY P K kk){r:Nat}{es:List (D×V)}(hr:S[r]?=al (.map es))(zw:∀p∈es,B1 kk p.1=J)
  {kd:D} {u:Value} (hk:CD G.I w kd u) (hg:B1 kk kd=J):
  ∃g q,w.heap[G.Cf r]?=al (.map g q)/\g.size=Z es/\(∀m em,(Instr.checkKey em 10000 K u).run P m=.ok () m)/\(∀m,(Instr.keyThatStays u u).run P m=.ok u m)/\((Cq es kd=none/\(∀e∈g.toList,e.key≠u)/\∀m,(Instr.findKey K u g.toList).run P m=.ok none m)\/∃j e,∃hj:j<Z es,g[j]?=al e/\e.key=u/\Cq es kd=al es[j].2/\CV G S w es[j].2 e.val/\(∀m,(Instr.findKey K u g.toList).run P m=.ok (al (j,e.val)) m)/\∀i (h:i<Z es),DY es[i].1 kd=J↔i=j):=by
 have zi:=R.DX r _ hr;simp[OK]at zi;obtain⟨g,q,h1,U,_,h3⟩:=zi;obtain⟨l,W⟩:=F.lit hg hk;have hkv:=JK hg hk;have X:∀i (h:i<Z es),∃e,g[i]?=al e/\e.key=Q1 es[i].1/\B1 kk es[i].1=J/\CV G S w es[i].2 e.val/\(∃l,keyOf P K e.key=al l)/\∀j f,j<i->g[j]?=al f->f.key≠e.key:=λi hi=>by
  obtain⟨e,z,L,Y,e4,e5⟩:=h3 i hi;have B:=zw _ (cF hi);exact⟨e,z,JK B L,B,Y,F.lit B L,λj f hj H=>(e5 j f hj H).2⟩
 have A:∀e∈g.toList,∃l,keyOf P K e.key=al l:=λe M=>by
  obtain⟨i,hi,rfl⟩:=oi.1 M;have ze:i<Z es:=by rw[<-U];simpa using hi
  obtain⟨e,z,_,_,_,e5,_⟩:=X i ze;have:g.toList[i]=e:=by
   rw[nu (by omega)]at z;simpa using z
  rw[this];exact e5
 refine⟨g,q,h1,U,λm em=>F.keyed.check m em W,λm=>F.keyed.stays m W,?_⟩;have t:∀i (h:i<Z es) e,g[i]?=al e->(DY es[i].1 kd=J↔e.key=u):=λi hi e M=>by
  obtain⟨e',z,L,Y,_⟩:=X i hi;rw[M]at z;cases z;rw[ZV Y hg,<-L,<-hkv]
 by_cases C:∃j,∃hj:j<Z es,DY es[j].1 kd=J
 .obtain⟨j,hj,N⟩:=C;obtain⟨e,z,L,Y,e4,e5,e6⟩:=X j hj;have k:e.key=u:=(t j hj e z).1 N;have s:∀i (h:i<Z es),DY es[i].1 kd=J↔i=j:=λi hi=>by
   constructor
   .intro hi2;obtain⟨f,f1,f2,f3,f4,f5,f6⟩:=X i hi;have Q:f.key=u:=(t i hi f f1).1 hi2;rcases Nat.lt_trichotomy i j with h|h|h
    .exact absurd (Q.trans k.symm) (e6 i f h f1)
    .exact h
    .exact absurd (k.trans Q.symm) (f6 j e h z)
   .rintro rfl;exact N
  have E:Cq es kd=al es[j].2:=by
   unfold Cq;have:es.find? (λp=>DY p.1 kd)=al es[j]:=by
    rw[adv];refine⟨N,j,hj,rfl,λi hi=>?_⟩;have:=s i (by omega);simp;cases hx:DY es[i].1 kd with
    |false=>rfl
    |true=>have:=this.1 hx;omega
   rw[this];rfl
  refine .inr ⟨j,e,hj,z,k,E,e4,λm=>?_,s⟩;rcases F.keyed.find m W g.toList A with⟨_,T⟩|⟨i,f,g1,T,g3⟩
  .exact absurd k (T e (pu (by simpa using z)))
  .have H:g[i]?=al f:=by simpa using T
   have hi:i<Z es:=by rw[<-U];exact(ac2.1 H).1
   have:i=j:=(s i hi).1 ((t i hi f H).2 g3);subst this;rw[z]at H;cases H;exact g1
 .have zm:∀e∈g.toList,e.key≠u:=λe M k=>by
   obtain⟨i,hi,rfl⟩:=oi.1 M;have ze:i<Z es:=by rw[<-U];simpa using hi
   exact C ⟨i,ze,(t i ze _ (by rw[nu (by omega)];simp)).2 k⟩
  refine .inl ⟨?_,zm,λm=>?_⟩
  .unfold Cq;have:es.find? (λp=>DY p.1 kd)=none:=by
    rw[adS];intro p hp N;obtain⟨i,hi,rfl⟩:=oi.1 hp;exact C ⟨i,hi,N⟩
   rw[this];rfl
  .rcases F.keyed.find m W g.toList A with⟨g1,_⟩|⟨i,f,g1,T,g3⟩
   .exact g1
   .exact absurd g3 (zm f (pu T))
def UB(es:List (D×V))(k:D)(z:V)(ok:Bool):V:=
 if ok then .CA [(Cq es k).getD z,.d (.bool (Cq es k).isSome)]else(Cq es k).getD z
theorem Zv{T K E:c9}{x y:Operand}{ok:Bool}{r:Nat}{es:List (D×V)}{kd:D}{kk:KK}{t e:TI}{z:Value}(B:o.op=.lookup T x y ok)(R:ti P T=al t)(U:t.kind=.map K E)
  (W:ti P E=al e) (X:e.zero=al z) (F:JY P K kk) (Y:need (ev tm x)) (ex:strip (ev tm x)=.map r) (C:S[r]?=al (.map es)) (zw:∀p∈es,B1 kk p.1=J)
  (hy:need (ev tm y)) (ey:BC S (strip (ev tm y))=al kd) (hg:B1 kk kd=J):CP P n o tm S (UB es kd (Og z) ok) S:=.pure λG w a st=>by
 have h1:=(BY st x).strip Y;rw[ex]at h1;have h2:=((BY st y).strip hy).BC st.rel ey;have g:a.eval x=.map (al (G.Cf r)):=by cases h1 with|map _ _ _ _ h=>exact h (by simp[Bn,C])
 obtain⟨d,H,m⟩:=An R w;have q:d=.map K E:=by rw[U]at m;cases d<;>simp[tk]at m⊢;exact m
 subst q;obtain⟨L,s,f1,f2,f3,f4,f5⟩:=YC st.rel F C zw h2 hg;have u:=ED W w X;have k:=adm (P:=P) f1;rcases f5 with⟨M,g2,A⟩|⟨j,N,hj,M,g2,A,Q,g5,g6⟩
 .refine⟨if ok then .tuple #[z,.bool am]else z,?_,?_⟩
  .cases ok<;>simp[execOp,B,Instr.lookup,H,g,k,f3,A,u]
  .unfold UB;rw[M];cases ok
   .exact Ia _ _ _ _
   .refine .CA _ _ rfl λi hi=>?_;match i,hi with
    |0,_=>exact Ia _ _ _ _
    |1,_=>exact .d _ _ (.bool _)
 .refine⟨if ok then .tuple #[N.val,.bool J]else N.val,?_,?_⟩
  .cases ok<;>simp[execOp,B,Instr.lookup,H,g,k,f3,g5]
  .unfold UB;rw[A];cases ok
   .exact Q
   .refine .CA _ _ rfl λi hi=>?_;match i,hi with
    |0,_=>exact Q
    |1,_=>exact .d _ _ (.bool _)
theorem ML{T K E:c9}{x y z:Operand}{r:Nat}{es:List (D×V)}{kd:D}{kk:KK}{t:TI}(ho:o.op=.mapUpdate T x y z\/o.op=.insert T x y z)(hT:ti P T=al t)(A:t.kind=.map K E)
  (F:JY P K kk) (hx:need (ev tm x)) (ex:strip (ev tm x)=.map r) (N:S[r]?=al (.map es)) (zw:∀p∈es,B1 kk p.1=J)
  (hy:need (ev tm y)) (ey:BC S (strip (ev tm y))=al kd) (hg:B1 kk kd=J) (hz:need (ev tm z)):CP P n o tm S .any (S.set r (.map (Ej es kd (strip (ev tm z))))):=.skip λG w a st=>by
 have h1:=(BY st x).strip hx;rw[ex]at h1;have h2:=((BY st y).strip hy).BC st.rel ey;have h3:=(BY st z).strip hz;have Y:a.eval x=.map (al (G.Cf r)):=by cases h1 with|map _ _ _ _ h=>exact h (by simp[Bn,N])
 obtain⟨d,hd,B⟩:=An hT w;have hdE:d=.map K E:=by rw[A]at B;cases d<;>simp[tk]at B⊢;exact B
 subst hdE;have zi:=st.rel.DX r _ N;simp only[OK]at zi;obtain⟨ents0,clock0,q1,q2,qk,q3⟩:=zi;obtain⟨g,m,f1,f2,f3,f4,f5⟩:=YC st.rel F N zw h2 hg;rw[f1]at q1;simp only[i9,Obj.map.injEq]at q1;obtain⟨rfl,rfl⟩:=q1;have hgo:=adm (P:=P) f1;have hso:=λo'=>MapKept.run_setObj_map (P:=P) o' f1;have zV:=Ai N;have Dj:∀o':O,(S.set r o')[r]?=al o':=λo'=>by simp[zV]
 have zZ:(execOp a.eval o).run P w=((Instr.mapUpdate T (a.eval x) (a.eval y) (a.eval z)).run P w).andThen λ_ w'=>.ok .skip w':=by
  rcases ho with ho|ho<;>simp[execOp,ho]
 rcases f5 with⟨g1,X,g3⟩|⟨j,e',hj,g1,X,g3,g4,g5,g6⟩
 .have u:Ej es kd (strip (ev tm z))=es++[(kd,strip (ev tm z))]:=by simp[Ej,g1]
  rw[u];obtain⟨r1,r2,r3⟩:=st.rel.update (o':=.map (es++[(kd,strip (ev tm z))])) (H:=.map (g.push {key:=a.eval y,val:=a.eval z,born:=m}) (m+1)) N rfl rfl
   (λn' zK=>by simp[lenOf,Dj]at zK) (λ_=>by simp[Bn,N]) (λL=>by
    simp only[OK];refine⟨_,_,Gk (GK f1),by simp[f2],by simp[qk],λi hi=>?_⟩;by_cases s:i<Z es
    .obtain⟨e,Q,e2,e3,e4,e5⟩:=q3 i s;refine⟨e,by rw[adn (by omega),<-Q,nu (by omega)],?_,?_,e4,λj f hj q=>e5 j f hj ?_⟩
     .rw[up s];exact e2.mono L.I L.EV
     .rw[up s];exact e3.later L
     .rw[adn (by omega)]at q;rw[<-q,nu (by omega)]
    .have hie:i=Z es:=by simp at hi;omega
     subst hie;refine⟨⟨a.eval y,a.eval z,m⟩,by rw[<-f2];simp,?_,?_,qk,λj f hj q=>?_⟩
     .simpa using h2.mono L.I L.EV
     .simpa using h3.later L
     .rw[adn (by omega)]at q;simp only[i9]at q;obtain⟨e,Q,e2,e3,e4,e5⟩:=q3 j (by omega);rw[nu (by omega)]at Q;simp only[i9]at Q;have hfe:f=e:=by rw[<-q,<-Q]
      subst hfe;exact⟨by simp only;omega,X f (by rw[<-q];simp)⟩)
  refine⟨G,_,?_,r1,r2,r3⟩;rw[zZ];simp[Instr.mapUpdate,hd,Y,hgo,f3,g3,hso];rfl
 .have u:Ej es kd (strip (ev tm z))=es.map λp=>if DY p.1 kd then(p.1,strip (ev tm z))else p:=by simp[Ej,g3]
  rw[u];have hjs:j<g.size:=by omega
  have hej:g[j]=e':=by rw[nu hjs]at g1;simpa using g1
  obtain⟨r1,r2,r3⟩:=st.rel.update (o':=.map (es.map λp=>if DY p.1 kd then(p.1,strip (ev tm z))else p)) (H:=.map (g.modify j λe=>{e with key:=a.eval y,val:=a.eval z}) m) N rfl rfl
   (λn' zK=>by simp[lenOf,Dj]at zK) (λ_=>by simp[Bn,N]) (λL=>by
    simp only[OK];refine⟨_,_,Gk (GK f1),by simp[f2],by simpa using qk,λi hi=>?_⟩;have s:i<Z es:=by simpa using hi
    obtain⟨e,Q,e2,e3,e4,e5⟩:=q3 i s;have zy:∀k (h:k<g.size),(g.modify j λe=>{e with key:=a.eval y,val:=a.eval z})[k]?=al (if j=k then {g[k]with key:=a.eval y,val:=a.eval z}else g[k]):=λk A=>by
     rw[Array.getElem?_modify,nu A];by_cases C:j=k<;>simp[C]
    have M:g[i]'(by omega)=e:=by rw[nu (by omega)]at Q;simpa using Q
    have R:∀k f,k<i->(g.modify j λe=>{e with key:=a.eval y,val:=a.eval z})[k]?=al f->∃U,g[k]?=al U/\f.born=U.born/\f.key=U.key:=λk f A q=>by
     have hks:k<g.size:=by omega
     rw[zy k hks]at q;simp only[i9]at q;refine⟨g[k],nu hks,?_⟩;by_cases C:j=k
     .subst C;simp only[kw]at q;rw[<-q];exact⟨rfl,by rw[hej];exact X.symm⟩
     .rw[a9 C]at q;rw[<-q];exact⟨rfl,rfl⟩
    by_cases W:j=i
    .subst W;have B:DY es[j].1 kd=true:=(g6 j hj).2 rfl;have hee:e=e':=by rw[<-M,hej]
     subst hee;refine⟨_,(zy j hjs).trans (by rw[b8 rfl]),?_,?_,?_,λk f A q=>?_⟩
     .simp only[rg,B,kw];have h0:=e2.mono L.I L.EV;rw[X]at h0;exact h0
     .simp only[rg,B,kw];exact h3.later L
     .simp only[M];exact e4
     .obtain⟨U,k1,k2,k3⟩:=R k f A q;obtain⟨b1,b2⟩:=e5 k U A k1;simp only[M];rw[k2,k3];exact⟨b1,by rw[<-X];exact b2⟩
    .have B:DY es[i].1 kd=false:=by
      cases hx:DY es[i].1 kd with
      |false=>rfl
      |true=>exact absurd ((g6 i s).1 hx).symm W
     refine⟨e,by rw[zy i (by omega),a9 W,M],?_,?_,e4,λk f A q=>?_⟩
     .simp only[rg,B,su,li];exact e2.mono L.I L.EV
     .simp only[rg,B,su,li];exact e3.later L
     .obtain⟨U,k1,k2,k3⟩:=R k f A q;rw[k2,k3];exact e5 k U A k1)
  refine⟨G,_,?_,r1,r2,r3⟩;rw[zZ];have hkey:(g[j]?.map (·.key)).getD (a.eval y)=a.eval y:=by simp[g1,X]
  have hkts:=f4 w;simp only[Instr.mapUpdate,l6,hd,Y,hgo,f3,g5,lh,hkey,hkts,hso];rfl
theorem PG{neg:Bool}{T U:c9}{x y:Operand}{as h:List D}{g:List CK}(s:o.op=.binOp (if neg then .neq else .eql) T x y U)(m:Ty P T=al g)(t:need (ev tm x))(u:need (ev tm y))
  (z:BC S (strip (ev tm x))=al (.agg as)) (A:BC S (strip (ev tm y))=al (.agg h)) (ha:Bx g as=J) (hb:Bx g h=J):
  CP P n o tm S (.d (.bool (CS as h !=neg))) S:=.pure λG w a st=>by
 have h1:=((BY st x).strip t).BC st.rel z;have i:=((BY st y).strip u).BC st.rel A;have j:=TV m ha hb h1 i;obtain⟨_,_,B,_,_⟩:=Ts m;refine⟨.bool (CS as h !=neg),?_,.d _ _ (.bool _)⟩;generalize C:a.eval x=X at h1 j;generalize E:a.eval y=Y at i j;cases h1 with
 |agg _ H K L q=>
  cases i with
  |agg _ M F N k=>
   cases neg<;>simp[execOp,s,C,E,run_eqGuard_agg,B,binOp,j]
end
section
variable {P:cP} {n:Nat} {o:Oper} {tm:Tm} {S S':Sg} {v:V}
theorem Ou{T E:c9}{x y:Operand}{len:Nat}{k:IntKind}{i:Int}{t e:TI}(N:o.op=.indexAddr T x y)(Q:need (ev tm x))(R:need (ev tm y))(U:ti P T=al t)(g:t.kind=.array len E)
  (W:ti P E=al e) (Y:strip (ev tm y)=.d (.int k i)) (h0:0<=i) (h1:i<len) (q:Gn S (strip (ev tm x))):CP P n o tm S (ux (i.toNat * e.size) (strip (ev tm x))) S:=.pure λG w a st=>by
 have s:=(BY st x).strip Q;have hi:=B5 st R Y;generalize strip (ev tm x)=X at *;obtain⟨d,hd,A⟩:=An U w;have B:d=.array len E:=by rw[g]at A;cases d<;>simp[tk]at A⊢;exact A
 subst B;have L:∀b k,a.eval x=.pointer (al ⟨b,k,none⟩)->(execOp a.eval o).run P w=.ok (.value (.pointer (al ⟨b,k+i.toNat * e.size,none⟩))) w:=λb k g=>by
  simp[execOp,N,g,hi,Instr.indexAt,asIntOf,hd,Instr.sureAddr,Gm];rw[b8 ⟨h0,h1⟩];simp[Ba W]
 unfold Gn at q;split at q
 .rename_i r m i' j;split at q
  .rename_i wr sz els C;obtain⟨hm,hi⟩:=q;have u:=s.Kk C hm;obtain⟨b,k,g⟩:=Qm st.rel C hi;rw[g]at u;refine⟨_,L _ _ u,?_⟩;cases s with
   |ptr _ _ _ _ _ s h3 h4=>
    refine .ptr _ _ _ _ _ rfl h3 λm' F=>⟨(h4 m' F).1,λe H z=>?_⟩;have:H=sz:=by simpa[C0,C]using z.symm
    subst this;rw[<-q7,g];simp[q7]
  .exact q.elim
 .rename_i M;generalize hX:a.eval x=X at s;cases s with
  |DW M b k vs hI h=>
   refine⟨_,L _ _ hX,?_⟩;refine .DW _ _ _ (λj=>vs (i.toNat * e.size+j)) hI λj hj=>?_;have K:i.toNat * e.size+j<Z M:=by simp at hj;omega
   have:=h (i.toNat * e.size+j) K;simpa[q7]using this
 .exact q.elim
theorem nil_eq{neg:Bool}{T E U:c9}{x:Operand}{xs:List D}{t:TI}(s:o.op=.binOp (if neg then .neq else .eql) T x (.const (.slice none 0 0)) U)(u:ti P T=al t)(z:t.kind=.slice E)
  (A:need (ev tm x)) (g:strip (ev tm x)=.d (.sl xs)\/strip (ev tm x)=.full xs) {G:Gh} {w:World} {a:Act} (st:St P n G S w a tm):
  ∃b:Bool,(xs≠[]->b=am)/\(execOp a.eval o).run P w=.ok (.value (.bool (b !=neg))) w:=by
 have h1:=(BY st x).strip A;have j:∃b len cap,a.eval x=.slice b len cap/\(xs≠[]->b.isNone=am):=by
  have key:∀v,CD G.I w (.sl xs) v->∃b len cap,v=.slice b len cap/\(xs≠[]->b.isNone=am):=λv h=>by
   cases h with
   |nil b c=>exact⟨b,0,c,rfl,λh=>absurd rfl h⟩
   |sl sz xs b off cap K L M q h1 N=>exact⟨_,_,_,rfl,λ_=>rfl⟩
  generalize a.eval x=X at h1;rcases g with g|g<;>rw[g]at h1
  .cases h1 with|d _ _ h=>exact key _ h
  .cases h1 with|full _ b h=>exact key _ h
 obtain⟨b,len,cap,B,C⟩:=j;obtain⟨i,d,Q,F,_,_,_,k⟩:=Ja u;have m:d=.slice E:=by rw[z]at k;cases d<;>simp[tk]at k⊢;exact k
 subst m;have H:=run_equal_slice_nil w T E b len cap F;have q:a.eval (.const (.slice none 0 0))=.slice none 0 0:=rfl;refine⟨b.isNone,C,?_⟩;cases neg<;>simp[execOp,s,B,q,eqGuard,binOp,H]
end
def ER(tm:Tm)(d:Nat)(v:V):Tm:=λk=>if k=d then v else tm k
@[simp] theorem v8(tm:Tm)(d:Nat)(v:V):ER tm d v d=v:=by simp[ER]
@[simp] theorem wz(tm:Tm)(d k:Nat)(v:V)(h:k≠d):ER tm d v k=tm k:=by simp[ER,h]
def put(tm:Tm)(d:Option Tmp)(v:V):Tm:=
 match d with
 |some d=>ER tm d v
 |none=>tm
def Er(l:List V):Tm:=λk=>l.getD k .any
@[simp] theorem uQ(v:V)(l:List V):Er (v::l) 0=v:=rfl
@[simp] theorem uJ(v:V)(l:List V)(k:Nat):Er (v::l) (k+1)=Er l k:=rfl
@[simp] theorem vt(k:Nat):Er [] k=.any:=rfl
def A6(n:Nat)(d:Option Tmp):Prop:=match d with|some d=>d<n|none=>True
theorem qN.put{G:Gh}{S:Sg}{w:World}{n:Nat}{a:Act}{tm:Tm}{d:Option Tmp}{v:V}{cv:Value}(h:qN G S w a.tmps tm)(hn:a.tmps.size=n)(g:A6 n d)(i:CV G S w v cv):
  qN G S w (a.put d cv).tmps (put tm d v):=by
 cases d with
 |none=>exact h
 |some d=>
  intro k;simp only[Koi.put,Koi.ER,Act.put];have j:d<a.tmps.size:=EQ g (ad3 hn.symm);by_cases e:k=d
  .subst e;simp only[kw];rw[wn,acQ j];exact i
  .rw[a9 e,wn,acd (ru e),<-wn];exact h k
theorem jV{a:Act}{d:Option Tmp}{cv:Value}:(a.put d cv).tmps.size=a.tmps.size:=by cases d<;>simp[Act.put]
theorem Cv{a:Act}{d:Option Tmp}{cv:Value}:(a.put d cv).defers=a.defers:=by cases d<;>rfl
theorem St.put{P:cP}{n:Nat}{G:Gh}{S:Sg}{w:World}{a:Act}{tm:Tm}(st:St P n G S w a tm){d:Option Tmp}(h:A6 n d){v:V}{cv:Value}{g:Gh}{S':Sg}{w':World}
  (i:CV g S' w' v cv) (R:Rel P g S' w') (L:BH G S w g S' w'):St P n g S' w' (a.put d cv) (put tm d v):=
 ⟨by rw[jV];exact st.size,(st.tm.later L).put st.size h i,R⟩
def CN(ops:Array Oper)(tm:Tm)(j:Nat)(h:Bool):Option Bool:=
 match (ops[j]?).bind (·.dst)with
 |some d=>match tm d with
  |.d (.bool b)=>al (b==h)
  |.opt g (.d (.bool b))=>al (g&&(b==h))
  |_=>br
 |none=>br
abbrev adA:=@Option.bind_some
abbrev abZ:=@Bool.false_and
theorem R9{P:cP}{n:Nat}{G:Gh}{S:Sg}{w:World}{a:Act}{tm:Tm}(st:St P n G S w a tm){ops:Array Oper}{o:Oper}{j:Nat}{i g:Bool}(t:o.guard=al (j,i))
  (h:CN ops tm j i=al g):Region.wanted o (yielded ops a.tmps)=g:=by
 unfold CN at h;unfold Region.wanted yielded;rw[t];simp[];cases s:(ops[j]?).bind (·.dst)with
 |none=>rw[s]at h;cases h
 |some d=>
  rw[s]at h;simp at h⊢;have k:=st.tm d;have key:∀v:Value,a.tmps.getD d undef=v->v≠undef->a.tmps[d]?=al v:=λv q u=>by
   rw[wn]at q;cases m:a.tmps[d]? with
   |none=>rw[m]at q;exact absurd q.symm u
   |some x=>rw[m]at q;simpa using q
  split at h
  .rename_i b hb;rw[hb]at k;have:=k.bool;rw[key _ this (by simp[undef])];simp at h;subst h;cases b<;>cases i<;>rfl
  .rename_i z b hb;rw[hb]at k;simp at h;subst h;generalize m:a.tmps.getD d undef=X at k;cases k with
   |opt _ _ _ h1 A=>
    cases z with
    |true=>
     have:=(h1 rfl).bool;subst this;rw[key _ m (by simp[undef])];cases b<;>cases i<;>rfl
    |false=>
     have:=A rfl;subst this;simp only[abZ];rw[wn]at m;cases B:a.tmps[d]? with
     |none=>rfl
     |some y=>rw[B]at m;simp at m;subst m;rfl
  .cases h
def wR(op:Op):Bool:=
 match op with
 |.box ..|.alloc _|.store ..|.makeSlice ..|.makeMap ..|.mapUpdate ..|.insert ..=>am
 |.call c=>match c.callee with|.builtin .append=>am|.builtin _=>J|_=>am
 |_=>J
def Of(P:cP)(T:c9):Option (Nat×c9):=match ti P T with|some t=>(match t.kind with|.array n e=>al (n,e)|_=>br)|none=>br
def LA(P:cP)(T:c9):Option (c9×c9):=match ti P T with|some t=>(match t.kind with|.map k e=>al (k,e)|_=>br)|none=>br
def Qq(P:cP)(T:c9):Option KK:=
 match P.underlying T with
 |some (.int q)=>al (.one (.int q))
 |some .string=>al (.one .str)
 |_=>(Ty P T).map .cells
theorem RZ{P:cP}{T:c9}{p:Nat×c9}(h:Of P T=al p):∃t,ti P T=al t/\t.kind=.array p.1 p.2:=by
 unfold Of at h;split at h
 .rename_i t g;split at h
  .rename_i n e i;cases h;exact⟨t,g,i⟩
  .cases h
 .cases h
theorem Ke{P:cP}{T:c9}{p:c9×c9}(h:LA P T=al p):∃t,ti P T=al t/\t.kind=.map p.1 p.2:=by
 unfold LA at h;split at h
 .rename_i t g;split at h
  .rename_i n e i;cases h;exact⟨t,g,i⟩
  .cases h
 .cases h
theorem QU{P:cP}{T:c9}{kk:KK}(h:Qq P T=al kk):JY P T kk:=by
 unfold Qq at h;split at h
 .rename_i q g;cases h;exact T5 g
 .rename_i g;cases h;exact VN g
 .simp at h;obtain⟨c,h1,rfl⟩:=h;exact Qu h1
def Fv(c:Call):Operand:=(c.args.toList.drop 1).headD (.const undef)
def PS(c:Call):Operand:=(c.args.toList.drop 2).headD (.const undef)
def jO(c:Call):c9:=(c.argTypes.toList.drop 1).headD 0
def Dp(S:Sg)(x:V):Option (List D):=match BC S x with|some (.agg ds)=>al ds|_=>br
def Tj(x y:V):Bool:=Ap x&&Ap y
def mapOf(S:Sg)(x:V):Option (List (D×V)):=match x with|.map r=>(match S[r]? with|some (.map g)=>al g|_=>br)|_=>br
def jb(x:V):Nat:=match x with|.map r=>r|_=>0
def BW(kk:KK):List (D×V)->Prop
 |[]=>True
 |p::g=>B1 kk p.1=J/\BW kk g
theorem HP{kk:KK}:∀{i:List (D×V)},BW kk i->∀p∈i,B1 kk p.1=J
 |q::j,h,p,g=>by
  cases g with
  |head=>exact h.1
  |tail _ g=>exact HP h.2 p g
theorem OP{kk:KK}:∀{g:List (D×V)},(∀p∈g,B1 kk p.1=J)->BW kk g
 |[],_=>trivial
 |q::j,h=>⟨h q (by simp),OP λp i=>h p (by simp[i])⟩
def rz(max:Bool)(x y:V):V:=
 match x,y with
 |.d (.int k i),.d (.int _ j)=>.d (.int k (if max then(if j>i then j else i)else(if j<i then j else i)))
 |_,_=>.any
def ma(x y:V):Prop:=
 match x,y with
 |.d (.int k _),.d (.int g _)=>k=g
 |_,_=>False
def rF(P:cP)(T:c9)(x:V)(l h:Int)(_ i:Option Operand):Prop:=
 match x with
 |.d (.str s)=>Nu P T=J/\i=br/\0<=l/\l<=h/\h<=s.size
 |.d (.sl g)|.full g=>0<=l/\l<=h/\h<=Z g/\(match BB P T with
  |some E=>(match DH P E with|some s=>l.toNat=0\/l.toNat=h.toNat\/(Z (BE (g.getD l.toNat (.bool am)))=s/\CR.oneD (g.getD l.toNat (.bool am))=J)|none=>False)
  |none=>False)
 |_=>False
def q8(tm:Tm)(x:V)(hi:Option Operand):Int:=
 match hi with
 |some y=>Hl (strip (ev tm y))
 |none=>match x with
  |.d (.str s)=>s.size
  |.d (.sl g)=>Z g
  |.full g=>Z g
  |_=>0
def GJ(P:cP)(op:Op)(tm:Tm)(S:Sg):V:=
 match op with
 |.binOp b T x y U=>if Tj (strip (ev tm x)) (strip (ev tm y))then
   (match Dp S (strip (ev tm x)),Dp S (strip (ev tm y))with
   |some as,al g=>(match b with|.eql=>.d (.bool (CS as g))|.neq=>.d (.bool (!CS as g))|_=>.any)
   |_,_=>.any)
  else Hz P (.binOp b T x y U) tm S
 |.slice _ x lo hi h=>u5 (strip (ev tm x)) (Hl (EO tm lo)).toNat (q8 tm (strip (ev tm x)) hi).toNat h.isSome
 |.index _ x y=>match strip (ev tm x)with
  |.d (.str s)=>.d (.int .u8 (s.get! (Hl (strip (ev tm y))).toNat).toNat)
  |_=>.any
 |.indexAddr T x y=>match Of P T with
  |some p=>ux ((Hl (strip (ev tm y))).toNat * (DH P p.2).getD 0) (strip (ev tm x))
  |none=>Hz P (.indexAddr T x y) tm S
 |.lookup T x y ok=>match LA P T,mapOf S (strip (ev tm x)),BC S (strip (ev tm y))with
  |some p,al i,al k=>UB i k ((Gg P p.2).getD .any) ok
  |_,_,_=>.any
 |.call c=>match c.callee with
  |.builtin .min=>if c.args.size=2 then rz am (strip (ev tm (EL c))) (strip (ev tm (Fv c)))
    else rz am (rz am (strip (ev tm (EL c))) (strip (ev tm (Fv c)))) (strip (ev tm (PS c)))
  |.builtin .max=>if c.args.size=2 then rz J (strip (ev tm (EL c))) (strip (ev tm (Fv c)))
    else rz J (rz J (strip (ev tm (EL c))) (strip (ev tm (Fv c)))) (strip (ev tm (PS c)))
  |.builtin .cap=>rE (strip (ev tm (EL c)))
  |_=>Hz P (.call c) tm S
 |op=>Hz P op tm S
def GS(P:cP)(op:Op)(tm:Tm)(S:Sg):Prop:=
 match op with
 |.binOp b T x y U=>if Tj (strip (ev tm x)) (strip (ev tm y))then
   need (ev tm x)/\need (ev tm y)/\(match Dp S (strip (ev tm x)),Dp S (strip (ev tm y)),Ty P T with
   |some as,al j,al g=>Bx g as=J/\Bx g j=J/\(match b with|.eql|.neq=>True|_=>False)
   |_,_,_=>False)
  else Hm P (.binOp b T x y U) tm S
 |.slice T x lo hi h=>need (ev tm x)/\Fp tm lo/\Fp tm hi/\Fp tm h/\Hy (EO tm lo)/\(match hi with|some _=>Hy (EO tm hi)|none=>True)/\(match h with|some _=>hi.isSome=J/\EO tm h=EO tm hi|none=>True)/\rF P T (strip (ev tm x)) (Hl (EO tm lo)) (q8 tm (strip (ev tm x)) hi) hi h
 |.index T x y=>need (ev tm x)/\need (ev tm y)/\Hy (strip (ev tm y))/\Nu P T=J/\(match strip (ev tm x)with
  |.d (.str s)=>0<=Hl (strip (ev tm y))/\Hl (strip (ev tm y))<s.size
  |_=>False)
 |.indexAddr T x y=>match Of P T with
  |some p=>need (ev tm x)/\need (ev tm y)/\Hy (strip (ev tm y))/\0<=Hl (strip (ev tm y))/\Hl (strip (ev tm y))<p.1/\(DH P p.2).isSome=J/\Gn S (strip (ev tm x))
  |none=>Hm P (.indexAddr T x y) tm S
 |.lookup T x y _=>need (ev tm x)/\need (ev tm y)/\(match LA P T,mapOf S (strip (ev tm x)),BC S (strip (ev tm y))with
  |some p,al m,al k=>(Gg P p.2).isSome=J/\(match Qq P p.1 with|some i=>BW i m/\B1 i k=J|none=>False)
  |_,_,_=>False)
 |.call c=>match c.callee with
  |.builtin .min=>if c.args.size=2 then c.args=#[EL c,Fv c]/\need (ev tm (EL c))/\need (ev tm (Fv c))/\ma (strip (ev tm (EL c))) (strip (ev tm (Fv c)))
    else c.args=#[EL c,Fv c,PS c]/\need (ev tm (EL c))/\need (ev tm (Fv c))/\need (ev tm (PS c))/\ma (strip (ev tm (EL c))) (strip (ev tm (Fv c)))/\ma (strip (ev tm (EL c))) (strip (ev tm (PS c)))
  |.builtin .max=>if c.args.size=2 then c.args=#[EL c,Fv c]/\need (ev tm (EL c))/\need (ev tm (Fv c))/\ma (strip (ev tm (EL c))) (strip (ev tm (Fv c)))
    else c.args=#[EL c,Fv c,PS c]/\need (ev tm (EL c))/\need (ev tm (Fv c))/\need (ev tm (PS c))/\ma (strip (ev tm (EL c))) (strip (ev tm (Fv c)))/\ma (strip (ev tm (EL c))) (strip (ev tm (PS c)))
  |.builtin .cap=>c.args=#[EL c]/\c.argTypes=#[OT c]/\need (ev tm (EL c))/\(BB P (OT c)).isSome=J/\(match strip (ev tm (EL c))with|.full _=>True|_=>False)
  |_=>Hm P (.call c) tm S
 |op=>Hm P op tm S
def tH(P:cP)(g xT:c9)(S:Sg)(x y:V):Prop:=
 match BB P g with
 |some E=>(BB P xT).isSome=J/\(match DH P E,Gg P E,Jr P E with
  |some s,al z,al b=>Z (Aj z)=s/\(Ap z||Bu z)=J/\b<=65536/\(match Ic S y with|some h=>V0 S s x h|none=>False)
  |_,_,_=>False)
 |none=>False
def LN(P:cP)(g:c9):Nat:=((BB P g).bind λE=>DH P E).getD 0
def BV(P:cP)(op:Op)(tm:Tm)(S:Sg):Prop:=
 match op with
 |.box _ x=>need (ev tm x)/\(Ap (strip (ev tm x))||Bu (strip (ev tm x)))=J
 |.alloc T=>match Gg P T with|some z=>(Ap z||Bu z)=J|none=>False
 |.store T x y=>need (ev tm x)/\need (ev tm y)/\(match DH P T with
   |some s=>JI S (strip (ev tm x)) (λm _ i j sz g=>m=J/\j+s<=sz/\(Ap (g.getD i .any)||!Ap (strip (ev tm y)))=J)/\(Ap (strip (ev tm y))||Bu (strip (ev tm y)))=J/\Z (Aj (strip (ev tm y)))=s
   |none=>False)
 |.makeSlice T x y=>need (ev tm x)/\need (ev tm y)/\Hy (strip (ev tm x))/\Hy (strip (ev tm y))/\Hl (strip (ev tm x))=Hl (strip (ev tm y))/\0<=Hl (strip (ev tm x))/\Hl (strip (ev tm x))<=1073741824/\(match BB P T with
   |some E=>(match DH P E,Gg P E,Jr P E with|some s,al z,al b=>Z (Aj z)=s/\(Ap z||Bu z)=J/\b<=65536|_,_,_=>False)
   |none=>False)
 |.makeMap _ r=>r=br
 |.mapUpdate T x y z|.insert T x y z=>need (ev tm x)/\need (ev tm y)/\need (ev tm z)/\(match LA P T,mapOf S (strip (ev tm x)),BC S (strip (ev tm y))with
  |some p,al o,al k=>(match Qq P p.1 with|some h=>BW h o/\B1 h k=J|none=>False)
  |_,_,_=>False)
 |.call c=>match c.callee with
  |.builtin .append=>c.args=#[EL c,Fv c]/\c.argTypes=#[OT c,jO c]/\need (ev tm (EL c))/\need (ev tm (Fv c))/\tH P (OT c) (jO c) S (strip (ev tm (EL c))) (strip (ev tm (Fv c)))
  |_=>GS P (.call c) tm S
 |op=>GS P op tm S
def BX(P:cP)(op:Op)(tm:Tm)(S:Sg):V:=
 match op with
 |.box ..=>.ptr (Z S) 1 0 0
 |.alloc _=>.ptr (Z S) 1 0 0
 |.store ..=>.any
 |.makeSlice _ x _=>.row (Z S) (Hl (strip (ev tm x))).toNat
 |.makeMap ..=>.map (Z S)
 |.mapUpdate ..=>.any
 |.insert ..=>.any
 |.call c=>match c.callee with
  |.builtin .append=>U2 S (strip (ev tm (EL c))) ((Ic S (strip (ev tm (Fv c)))).getD [])
  |_=>GJ P (.call c) tm S
 |op=>GJ P op tm S
def C5(P:cP)(op:Op)(tm:Tm)(S:Sg):Sg:=
 match op with
 |.box _ x=>gV S (strip (ev tm x))
 |.alloc T=>match Gg P T with|some z=>gV S z|none=>S
 |.store _ x y=>mV S (strip (ev tm x)) (strip (ev tm y))
 |.makeSlice T x _=>S++[.row J (LN P T) (List.replicate (Hl (strip (ev tm x))).toNat ((((BB P T).bind λE=>Gg P E)).getD .any))]
 |.makeMap ..=>S++[.map []]
 |.mapUpdate _ x y z=>S.set (jb (strip (ev tm x))) (.map (Ej ((mapOf S (strip (ev tm x))).getD []) ((BC S (strip (ev tm y))).getD (.bool am)) (strip (ev tm z))))
 |.insert _ x y z=>S.set (jb (strip (ev tm x))) (.map (Ej ((mapOf S (strip (ev tm x))).getD []) ((BC S (strip (ev tm y))).getD (.bool am)) (strip (ev tm z))))
 |.call c=>match c.callee with
  |.builtin .append=>If S (LN P (OT c)) (strip (ev tm (EL c))) ((Ic S (strip (ev tm (Fv c)))).getD [])
  |_=>S
 |_=>S
abbrev abU:=@Array.getElem_append_left
abbrev acx:=@Array.getElem_append_right
abbrev adL:=@beq_eq_false_iff_ne
abbrev abW:=@List.range'_succ
abbrev ac0:=@wpOps_cons
abbrev acE:=@List.range_eq_range'
section
variable {P:cP} {n b:Nat} {o:Oper} {tm:Tm} {S S':Sg} {v:V} {ops:Array Oper} {K:Tm->Sg->Prop}
theorem HY{x:V}(h:Hy x):∃k,x=.d (.int k (Hl x)):=by
 unfold Hy at h;split at h
 .exact⟨_,rfl⟩
 .exact h.elim
theorem Jv{T:c9}{b:Nat}(h:Jr P T=al b):∃t,ti P T=al t/\t.bytes=b:=by
 simpa[Jr,WP]using h
theorem rT(h:GS P o.op tm S):CP P n o tm S (GJ P o.op tm S) S:=by
 generalize H:o.op=op at h;have hv:Hm P op tm S->CP P n o tm S (Hz P op tm S) S:=λh=>by subst H;exact sN h
 cases op<;>try exact hv h
 case binOp b T x y U=>
  simp[GS]at h;simp[GJ];split at h
  .rename_i hb;rw[b8 hb];obtain⟨h1,A,g⟩:=h;split at g
   .rename_i as bs cks ha hb M;rw[ha,hb];have ga:BC S (strip (ev tm x))=al (.agg as):=by unfold Dp at ha;split at ha<;>simp_all
    have gb:BC S (strip (ev tm y))=al (.agg bs):=by unfold Dp at hb;split at hb<;>simp_all
    obtain⟨g,m,F⟩:=g;cases b<;>simp only at F⊢
    .have:=PG (neg:=false) (n:=n) (by simpa using H) M h1 A ga gb g m;simpa using this
    .have:=PG (neg:=true) (n:=n) (by simpa using H) M h1 A ga gb g m;simpa using this
   .exact g.elim
  .rename_i hb;rw[a9 hb];exact hv h
 case slice T x lo hi mx=>
  simp[GS]at h;simp[GJ];obtain⟨h1,A,g,m,F,R,h7,Q⟩:=h;obtain⟨kl,hl⟩:=HY F;generalize hL:Hl (EO tm lo)=L at *;generalize hH:q8 tm (strip (ev tm x)) hi=N at *;have eh':hi≠br->∃kh,EO tm hi=.d (.int kh N):=λY=>by
   cases hi with
   |none=>exact absurd rfl Y
   |some y=>
    obtain⟨kh,hh⟩:=HY R;refine⟨kh,?_⟩;rw[hh,<-hH];rfl
  obtain⟨kh,eh⟩:∃kh,hi≠br->EO tm hi=.d (.int kh N):=by
   by_cases Y:hi=br
   .exact⟨.i64,λh=>absurd Y h⟩
   .obtain⟨kh,h⟩:=eh' Y;exact⟨kh,λ_=>h⟩
  have em:mx≠br->hi≠br/\EO tm mx=.d (.int kh N):=λY=>by
   cases mx with
   |none=>exact absurd rfl Y
   |some q=>
    obtain⟨g1,g2⟩:=h7;have:hi≠none:=by intro e;subst e;simp at g1
    exact⟨this,by rw[g2,eh this]⟩
  have fin:∀G:List D,(strip (ev tm x)=.d (.sl G)\/strip (ev tm x)=.full G)->(hi=br->N=Z G)->(0<=L/\L<=N/\N<=Z G/\(match BB P T with
    |some E=>(match DH P E with|some s=>L.toNat=0\/L.toNat=N.toNat\/(Z (BE (G.getD L.toNat (.bool am)))=s/\CR.oneD (G.getD L.toNat (.bool am))=J)|none=>False)
    |none=>False))->CP P n o tm S (if mx.isSome then .full ((G.take N.toNat).drop L.toNat)else .d (.sl ((G.take N.toNat).drop L.toNat))) S:=λG ex hlen Q=>by
   obtain⟨g0,g1,g2,W⟩:=Q;split at W
   .rename_i E hE;split at W
    .rename_i s hs;obtain⟨t,w,B⟩:=A8 hE;obtain⟨e,f1,f2,_⟩:=CB hs;subst f2;exact XA H h1 ex w B f1 A hl g hlen eh m em g0 g1 g2 W
    .exact W.elim
   .exact W.elim
  unfold rF at Q;split at Q
  .rename_i s C;rw[C];obtain⟨g1,rfl,g2,W,g4⟩:=Q;exact U4 H h1 C (KN g1) A hl g (λe=>by subst e;rw[<-hH,C];rfl) eh g2 W g4
  .rename_i G C;rw[C];exact fin G (.inl C) (λe=>by subst e;rw[<-hH,C];rfl) Q
  .rename_i G C;rw[C];exact fin G (.inr C) (λe=>by subst e;rw[<-hH,C];rfl) Q
  .exact Q.elim
 case index T x y=>
  simp[GS]at h;simp[GJ];obtain⟨h1,A,g,m,F⟩:=h;split at F
  .rename_i s C;obtain⟨k,hk⟩:=HY g;obtain⟨t,w,B⟩:=KN m;exact iA H h1 A C hk w B F.1 F.2
  .exact F.elim
 case indexAddr T x y=>
  simp[GS]at h;simp[GJ];split at h
  .rename_i p hp;obtain⟨h1,A,g,m,F,R,h7⟩:=h;obtain⟨t,w,B⟩:=RZ hp;obtain⟨s,hs⟩:=ol.1 R;obtain⟨e,f1,f2,_⟩:=CB hs;obtain⟨k,hk⟩:=HY g;rw[hs];subst f2;exact Ou H h1 A w B f1 hk m F h7
  .exact hv h
 case lookup T x y ok=>
  simp[GS]at h;simp[GJ];obtain⟨h1,A,g⟩:=h;split at g
  .rename_i p es k hp he hk;obtain⟨g,m⟩:=g;split at m
   .rename_i kk hkk;obtain⟨t,w,B⟩:=Ke hp;obtain⟨z,hz⟩:=ol.1 g;obtain⟨t',u,f1,f2,f3⟩:=Em hz;rw[hz];subst f3;unfold mapOf at he;split at he
    .rename_i r C;split at he
     .rename_i es' hr;cases he;exact Zv H w B f1 f2 (QU hkk) h1 C hr (HP m.1) A hk m.2
     .cases he
    .cases he
   .exact m.elim
  .exact g.elim
 case call c=>
  simp[GS]at h;simp[GJ];have mm:∀{x y:V},ma x y->∃k i j,x=.d (.int k i)/\y=.d (.int k j):=λ{x y} h=>by
   unfold ma at h;split at h
   .subst h;exact⟨_,_,_,rfl,rfl⟩
   .exact h.elim
  split at h
  .rename_i M;split at h
   .rename_i X;rw[b8 X];obtain⟨h1,A,g,m⟩:=h;obtain⟨k,i,j,w,B⟩:=mm m;rw[w,B];exact lu H M h1 A g w B
   .rename_i X;rw[a9 X];obtain⟨h1,A,g,m,F,R⟩:=h;obtain⟨k,i,j,w,B⟩:=mm F;obtain⟨k',i',l,e3,e4⟩:=mm R;rw[w]at e3;cases e3;rw[w,B,e4];exact ni H M h1 A g m w B e4
  .rename_i M;split at h
   .rename_i X;rw[b8 X];obtain⟨h1,A,g,m⟩:=h;obtain⟨k,i,j,w,B⟩:=mm m;rw[w,B];exact oc H M h1 A g w B
   .rename_i X;rw[a9 X];obtain⟨h1,A,g,m,F,R⟩:=h;obtain⟨k,i,j,w,B⟩:=mm F;obtain⟨k',i',l,e3,e4⟩:=mm R;rw[w]at e3;cases e3;rw[w,B,e4];exact oF H M h1 A g m w B e4
  .rename_i M;obtain⟨h1,A,g,m,F⟩:=h;split at F
   .rename_i G C;rw[C];obtain⟨E,hE⟩:=ol.1 m;obtain⟨t,w,B⟩:=A8 hE;exact WV H M h1 A g C w B
   .exact F.elim
  .exact hv h
theorem Mr(h:BV P o.op tm S):CP P n o tm S (BX P o.op tm S) (C5 P o.op tm S):=by
 generalize q:o.op=op at h;have hv:GS P op tm S->CP P n o tm S (GJ P op tm S) S:=λh=>by subst q;exact rT h
 cases op<;>try exact hv h
 case box T x=>exact qv q h.1 h.2
 case alloc T=>
  simp only[BV]at h;simp only[BX,C5];split at h
  .rename_i z G;obtain⟨t,u,w,A,e3⟩:=Em G;subst e3;exact kD q w A h
  .exact h.elim
 case store T x y=>
  simp only[BV]at h;simp only[BX,C5];obtain⟨h1,B,j⟩:=h;split at j
  .rename_i s C;obtain⟨t,w,A,_⟩:=CB C;subst A;obtain⟨j,g,m⟩:=j;exact eB q h1 B w j g m
  .exact j.elim
 case makeSlice T x y=>
  simp only[BV]at h;simp only[BX,C5,LN];obtain⟨h1,B,j,g,m,R,h7,H⟩:=h;split at H
  .rename_i E L;split at H
   .rename_i s z b C G hb;obtain⟨g1,U,g3⟩:=H;obtain⟨t,w,A⟩:=A8 L;obtain⟨e,f1,f2,_⟩:=CB C;obtain⟨W,u,k1,k2,k3⟩:=Em G;rw[f1]at k1;cases k1;obtain⟨W,l1,l2⟩:=Jv hb;rw[f1]at l1;cases l1;obtain⟨kx,ex⟩:=HY j;obtain⟨ky,ey⟩:=HY g;subst k3;obtain⟨c1,_⟩:=(Ia {I:=λ_=>False,Cf:=λ_=>0,cap:=λ_=>(0,0),BJ:=λ_=>br} ([]:Sg) (default:World) u).cells (by simpa using U);rw[L];simp only[adA,C,G,K2];subst f2;have hm:Hl (strip (ev tm x))=((Hl (strip (ev tm x))).toNat:Int):=by omega
    exact Tn q h1 B (by rw[<-hm];exact ex) (by rw[<-hm,m];exact ey) w A f1 k2 (by omega) U (by omega) (by omega)
   .exact H.elim
  .exact H.elim
 case makeMap T r=>
  simp[BV]at h;subst h;exact W6 q
 case mapUpdate T x y z=>
  simp[BV]at h;simp[BX,C5];obtain⟨h1,B,j,g⟩:=h;split at g
  .rename_i p es k X i M;split at g
   .rename_i kk F;obtain⟨t,w,A⟩:=Ke X;rw[i,M];unfold mapOf at i;split at i
    .rename_i r N;split at i
     .rename_i Y hr;cases i;rw[N];exact ML (.inl q) w A (QU F) h1 N hr (HP g.1) B M g.2 j
     .cases i
    .cases i
   .exact g.elim
  .exact g.elim
 case insert T x y z=>
  simp[BV]at h;simp[BX,C5];obtain⟨h1,B,j,g⟩:=h;split at g
  .rename_i p es k X i M;split at g
   .rename_i kk F;obtain⟨t,w,A⟩:=Ke X;rw[i,M];unfold mapOf at i;split at i
    .rename_i r N;split at i
     .rename_i Y hr;cases i;rw[N];exact ML (.inr q) w A (QU F) h1 N hr (HP g.1) B M g.2 j
     .cases i
    .cases i
   .exact g.elim
  .exact g.elim
 case call c=>
  simp[BV]at h;simp[BX,C5];split at h
  .rename_i hc;obtain⟨h1,B,j,g,m⟩:=h;unfold tH at m;split at m
   .rename_i E L;obtain⟨m,R⟩:=m;split at R
    .rename_i s z b C G hb;obtain⟨g1,U,g3,g4⟩:=R;split at g4
     .rename_i ys Q;obtain⟨e,f1,f2,_⟩:=CB C;obtain⟨W,u,k1,k2,k3⟩:=Em G;rw[f1]at k1;cases k1;obtain⟨W,l1,l2⟩:=Jv hb;rw[f1]at l1;cases l1;subst k3;obtain⟨c1,_⟩:=(Ia {I:=λ_=>False,Cf:=λ_=>0,cap:=λ_=>(0,0),BJ:=λ_=>br} ([]:Sg) (default:World) u).cells (by simpa using U);rw[Q];simp[LN,L,C];subst f2;exact aR q hc h1 B j g L m f1 k2 (by omega) (by omega) Q g4
     .exact g4.elim
    .exact R.elim
   .exact m.elim
  .exact hv h
def EX(P:cP)(n:Nat)(ops:Array Oper)(o:Oper)(tm:Tm)(S:Sg):Prop:=
 A6 n o.dst/\match o.guard with
 |none=>BV P o.op tm S
 |some (j,h)=>match CN ops tm j h with
  |some g=>wR o.op=J/\(g=J->BV P o.op tm S)
  |none=>False
def Dm(P:cP)(ops:Array Oper)(o:Oper)(tm:Tm)(S:Sg):V:=
 match o.guard with
 |none=>BX P o.op tm S
 |some (j,h)=>match CN ops tm j h with
  |some g=>H0 g (BX P o.op tm S)
  |none=>.any
def oS(P:cP)(o:Oper)(tm:Tm)(S:Sg):Sg:=
 match o.guard with
 |none=>C5 P o.op tm S
 |some _=>S
def Step(P:cP)(n b:Nat)(ops:Array Oper)(i:Nat)(tm:Tm)(S:Sg)(g:Tm)(S':Sg):Prop:=
 ∀G w a (h:Act->World->Prop) Q,St P n G S w a tm->b<=Z S->(∀j k m,Iy P n b G S w a.defers j k m S' g->h j k)->wpOp P ops Q i h a w
theorem Step.KI{i:Nat}(hi:ops[i]?=al o)(j:A6 n o.dst)(m:o.guard=br)(h:CP P n o tm S v S'):Step P n b ops i tm S (put tm o.dst v) S':=λG w a q Q st hb k=>by
 unfold wpOp;simp[hi,Region.wanted,m];exact .inl (h G w a q Q st λcv z s h1 t u g=>k _ _ s ⟨st.put j h1 t g,Cv,u,g.late hb⟩)
abbrev aeq:=@Step.KI
theorem Step.GV{i j:Nat}{m g:Bool}(hi:ops[i]?=al o)(q:A6 n o.dst)(t:o.guard=al (j,m))(u:CN ops tm j m=al g)
  (h:g=J->CP P n o tm S v S):Step P n b ops i tm S (put tm o.dst (H0 g v)) S:=λG w a z Q st hb k=>by
 unfold wpOp;simp[hi,R9 st t u];cases g with
 |true=>
  simp;exact .inl (h rfl G w a z Q st λcv E A h1 B C s=>k _ _ A ⟨st.put q (CV.H0 (λ_=>h1) (λe=>by cases e)) B s,Cv,C,s.late hb⟩)
 |false=>
  simp;exact k _ _ G ⟨st.put q (CV.H0 (λe=>by cases e) (λ_=>rfl)) st.rel (aev _ _ _),Cv,aep _ _ _,aeu hb⟩
theorem vy{op:Op}(h:wR op=J):C5 P op tm S=S:=by
 unfold C5;cases op<;>simp[wR]at h<;>try rfl
 rename_i c;simp[];split
 .rename_i g;simp[g]at h
 .rfl
theorem Step.Eh{i:Nat}(hi:ops[i]?=al o)(h:EX P n ops o tm S):Step P n b ops i tm S (put tm o.dst (Dm P ops o tm S)) (oS P o tm S):=by
 obtain⟨m,h⟩:=h;cases k:o.guard with
 |none=>
  simp[k]at h;simp[Dm,oS,k];exact aeq hi m k (Mr h)
 |some s=>
  obtain⟨j,q⟩:=s;simp[k]at h;simp[Dm,oS,k];split at h
  .rename_i g t;exact Step.GV hi m k t λe=>by have:=Mr (n:=n) (h.2 e);rwa [vy h.1]at this
  .exact h.elim
def S5(P:cP)(f:go):Bool:=
 match P.funcs[f]? with
 |some fn=>!(fn.name== "runtime.NumGoroutine")&&fn.body.isSome
 |none=>am
def AH(P:cP)(f:go)(args:List V)(S:Sg)(v:V)(S':Sg):Prop:=
 S5 P f=J/\∀G w (g:Array Value),Rel P G S w->g.size=Z args->(∀i (h:i<Z args) (m:i<g.size),CV G S w args[i] g[i])->Calls P f g w λe j=>∃cv k,e=.returned cv/\CV k S' j v cv/\Rel P k S' j/\Tr G S w k S' j/\BH G S w k S' j
def callee(tm:Tm)(c:Call):Option (go×List V):=
 match c.callee with
 |.value f=>match strip (ev tm f)with
  |.fn (.func k) first g=>al (k,first++c.args.toList.map (λx=>strip (ev tm x))++g)
  |_=>br
 |_=>br
def QF(tm:Tm):List Operand->Prop
 |[]=>True
 |x::g=>need (ev tm x)/\QF tm g
theorem NO{tm:Tm}:∀{g:List Operand},QF tm g->∀x∈g,need (ev tm x)
 |x::g,h,y,i=>by
  cases i with
  |head=>exact h.1
  |tail _ i=>exact NO h.2 y i
def A9(tm:Tm)(c:Call):Prop:=
 (match c.callee with|.value f=>need (ev tm f)|_=>False)/\QF tm c.args.toList
def BL(P:cP)(f:go)(args:List V)(S:Sg)(R:V->Sg->Prop):Prop:=
 S5 P f=J/\∀G w (g:Array Value),Rel P G S w->g.size=Z args->(∀i (h:i<Z args) (m:i<g.size),CV G S w args[i] g[i])->Calls P f g w λe j=>∃cv k v S',R v S'/\e=.returned cv/\CV k S' j v cv/\Rel P k S' j/\Tr G S w k S' j/\BH G S w k S' j
theorem AH.pz{f:go}{args:List V}(h:AH P f args S v S'):BL P f args S λu T=>u=v/\T=S':=
 ⟨h.1,λG w g R i ha=>(h.2 G w g R i ha).mono λ_ _ ⟨cv,j,h1,k,m,q,s⟩=>⟨cv,j,v,S',⟨rfl,rfl⟩,h1,k,m,q,s⟩⟩
theorem BL.mono{f:go}{args:List V}{R i:V->Sg->Prop}(h:BL P f args S R)(j:∀v S',R v S'->i v S'):BL P f args S i:=
 ⟨h.1,λG w g r k ha=>(h.2 G w g r k ha).mono λ_ _ ⟨cv,m,v,S',h0,h1⟩=>⟨cv,m,v,S',j _ _ h0,h1⟩⟩
theorem BL.Yz{f:go}{args:List V}(h:BL P f args S λu T=>u=v/\T=S'):AH P f args S v S':=
 ⟨h.1,λG w g R j ha=>(h.2 G w g R j ha).mono λ_ _ ⟨cv,k,_,_,⟨m,i⟩,h1,q,s,t,z⟩=>⟨cv,k,h1,m▸i▸q,i▸s,i▸t,i▸z⟩⟩
theorem QC{c:Call}{f:go}{args:List V}{R:V->Sg->Prop}(M:o.op=.call c)(j:callee tm c=al (f,args))(hn:A9 tm c)(h:BL P f args S R){G:Gh}{w:World}{a:Act}{next:Act->World->Prop}{Q:Exit->Act->World->Prop}(st:St P n G S w a tm)
  (s:∀cv k m v S',R v S'->CV m S' k v cv->Rel P m S' k->Tr G S w m S' k->BH G S w m S' k->next (a.put o.dst cv) k):o.wp P a w next Q:=by
 obtain⟨q,h⟩:=h;unfold callee at j;obtain⟨t,A⟩:=hn;cases g:c.callee with
 |value x=>
  simp only[g]at j t;have B:=(BY st x).strip t;split at j
  .rename_i N first E C
   simp only[i9,acY]at j;obtain⟨z,F⟩:=j;subst z;subst F;rw[C]at B;generalize T:a.eval x=X at B;cases B with
   |fn _ _ _ H L h1 U W Y=>
    unfold S5 at q;have zd:=h G w (H++c.args.map a.eval++L) st.rel (by simp[h1,U]) (λi hi ze=>by
     by_cases z:i<first.length
     .rw[up (by simp;omega),up z];rw[abU (by simp;omega),abU (by omega)];exact W i z
     .by_cases F:i<first.length+c.args.size
      .rw[up (by simp;omega),R2 (by omega)];rw[abU (by simp;omega),acx (by omega)];simp[Array.getElem_map,h1];exact(BY st _).strip (NO A _ (by simp))
      .simp at hi;rw[R2 (by simp;omega)];rw[acx (by simp;omega)];simp[Array.size_map,h1];exact Y _ (by omega))
    unfold Oper.wp;have zc:(execOp a.eval o).run P w=.ok (.enter N (H++c.args.map a.eval++L)) w:=by
     split at q
     .rename_i fn u;simp[ne_eq]at q;obtain⟨b,hb⟩:=ol.1 q.2;simp[execOp,M,resolve,g,T,Deferred.ofValue,invoke,callFunc,u,q.1,hb]
     .cases q
    rw[zc];simp only[Oper.upon];exact zd.mono λe k ⟨cv,m,v,S',hr,he,g1,g2,g3,g4⟩=>by subst he;exact s cv k m v S' hr g1 g2 g3 g4
  .cases j
 |invoke=>simp[g]at j
 |builtin=>simp[g]at j
theorem IQ{c:Call}{f:go}{args:List V}(i:o.op=.call c)(j:callee tm c=al (f,args))(hn:A9 tm c)(h:AH P f args S v S'):
  CP P n o tm S v S':=by
 intro G w a next Q st g
 exact QC i j hn h.pz st λcv k m _ _ ⟨q,s⟩=>by subst q s;exact g cv k m
def AY(P:cP)(n b:Nat)(ops:Array Oper)(l:List Oper)(tm:Tm)(S:Sg)(K:Tm->Sg->Prop):Prop:=
 ∀k,(∀j,l[j]?=ops[k+j]?)->∀G w a Q,St P n G S w a tm->b<=Z S->(∀h i,(∃m S' g,Iy P n b G S w a.defers h i m S' g/\K g S')->Q .normal h i)->wpOps P ops Q (List.range' k (Z l)) a w
theorem CO(h:K tm S):AY P n b ops [] tm S K:=λk _ G w a Q st hb g=>by
 simp[List.range'_zero,wpOps];exact g a w ⟨G,S,tm,.refl st hb,h⟩
theorem AY.step{rest:List Oper}{g:Tm}(u:∀i,ops[i]?=al o->Step P n b ops i tm S g S')(h:AY P n b ops rest g S' K):AY P n b ops (o::rest) tm S K:=λk t G w a Q st hb z=>by
 have h0:ops[k]?=al o:=by simpa using(t 0).symm
 simp[abW];rw[ac0];refine u k h0 G w a _ Q st hb λA B C m=>?_;refine h (k+1) (λj=>by have:=t (j+1);simp at this;rw[this];congr 1;omega) C B A Q m.st m.late.len λE F H=>?_;obtain⟨L,M,s,q,N⟩:=H;exact z E F ⟨L,M,s,⟨q.st,q.ds.trans m.ds,m.tr.trans q.tr,m.late.trans q.late⟩,N⟩
abbrev aer:=@AY.step
theorem Cg{rest:List Oper}(h1:EX P n ops o tm S)(g:AY P n b ops rest (put tm o.dst (Dm P ops o tm S)) (oS P o tm S) K):AY P n b ops (o::rest) tm S K:=
 aer (λ_ hi=>Step.Eh hi h1) g
theorem AY.call{rest:List Oper}{c:Call}{f:go}{args:List V}(g:o.op=.call c)(i:o.guard=br)(j:A6 n o.dst)(k:callee tm c=al (f,args))(hn:A9 tm c)
  (h:AH P f args S v S') (m:AY P n b ops rest (put tm o.dst v) S' K):AY P n b ops (o::rest) tm S K:=
 aer (λ_ hi=>aeq hi j i (IQ g k hn h)) m
abbrev ms:=@AY.call
theorem AY.Mo{rest:List Oper}{c:Call}{f:go}{args:List V}{j:Nat}{i g:Bool}(k:o.op=.call c)(m:o.guard=al (j,i))(q:A6 n o.dst)
  (s:CN ops tm j i=al g) (h:g=J->callee tm c=al (f,args)/\A9 tm c/\AH P f args S v S) (t:AY P n b ops rest (put tm o.dst (H0 g v)) S K):AY P n b ops (o::rest) tm S K:=
 aer (λ_ hi=>Step.GV hi q m s λe=>by obtain⟨h1,u,w⟩:=h e;exact IQ k h1 u w) t
theorem AW.region{id:Nat}{Q:Exit->Tm->Sg->Prop}(h:AY P n b ops ops.toList tm S (Q .normal)):AW P n b (.region id ops am) Q tm S:=λG w a st hb=>by
 apply wp_region;have:=h 0 (λj=>by simp) G w a (VU P n b Q G S w a.defers) st hb (λi k g=>g);rw[acE];simpa using this
def J0(P:cP)(tm:Tm)(S:Sg):List ResultVar->Prop
 |[]=>True
 |.tmp _::g=>J0 P tm S g
 |.cell a T::g=>need (tm a)/\(DH P T).isSome=J/\OH (Nn P T) ((DH P T).getD 0) S (strip (tm a))/\J0 P tm S g
def Hw(P:cP)(tm:Tm)(S:Sg):List ResultVar->List V
 |[]=>[]
 |.tmp t::g=>tm t::Hw P tm S g
 |.cell a T::g=>LP (Nn P T) ((DH P T).getD 0) S (strip (tm a))::Hw P tm S g
def YQ:List V->V
 |[v]=>v
 |g=>.CA g
def pack:List Value->Value
 |[v]=>v
 |g=>.tuple g.toArray
def Mg(P:cP)(tm:Tm)(S:Sg)(g:List ResultVar):V:=YQ (Hw P tm S g)
end
section
variable {P:Program} {n:Nat} {o:Oper} {tm:Tm} {S S':Sg} {v:V} {ops:Array Oper} {K:Tm->Sg->Prop}
theorem XI{G:Gh}{w:World}{a:Act}(st:St P n G S w a tm){T:TypeId}{p:V}{q:Value}(B:CV G S w p q)(h1:(DH P T).isSome=J)(h:OH (Nn P T) ((DH P T).getD 0) S p):
  ∃cv ad,q=.pointer (some ad)/\(loadVar T ad).run P w=.ok cv w/\CV G S w (LP (Nn P T) ((DH P T).getD 0) S p) cv:=by
 obtain⟨s,N⟩:=ol.1 h1;obtain⟨t,L,e2,e3⟩:=CB N;let o':Oper:={dst:=none,op:=.load T (.const q),type:=0,pos:= "",after:=#[],guard:=none};have hcv:∀(Q:Tm),ev Q (.const q)=Og q:=λ_=>rfl;obtain⟨R,g⟩:=h;have ha:t.agg=J\/t.size=1:=by
  rw[N,e3]at R;simp at R;subst e2;simpa using R
 rw[N,e3]at *;simp at g⊢;subst e2;cases U:p with
 |ptr r m i j=>
  rw[U]at g B;simp only[JI]at g;split at g
  .rename_i wr sz z W;obtain⟨hm,hi,C,M,hj⟩:=g;have E:z.getD i .any=z[i]:=by simp[lg,hi]
   rw[E]at C M;have C:Ap z[i]=J\/Bu z[i]=true:=by simpa using C
   obtain⟨u,b,k,g1,g2,g3,g4,g5⟩:=YJ st.rel W hi C M;have F:=B.Kk W hm;rw[g4 j]at F;refine⟨_,_,F,F4 L g2 hj ha g5,?_⟩;simp only[LP,ZT,W,E];exact P5 g1 C (by omega) ha
  .exact g.elim
 |DW A=>
  rw[U]at g B;generalize hX:q=X at B;cases B with
  |DW A b off vs hI h=>
   let u:Array Value:=((List.range (Z A)).map vs).toArray;have M:(Value.agg u).cells.size=Z A:=by simp[Value.cells,u]
   refine⟨if t.agg then .agg (u.extract 0 (0+t.size))else u.getD 0 undef,_,rfl,?_,?_⟩
   .rw[show(⟨b,off,none⟩:Addr)=⟨b,off+0,none⟩from rfl];exact F4 (u:=.agg u) (j:=0) L M (by omega) ha (λj hj=>by rw[(h j hj).1];simp[Value.cells,hj,u])
   .simp[LP];unfold Vo;cases H:t.agg with
    |true=>
     simp;refine .d _ _ (.agg _ _ (by simp[u];try omega) (λi hi=>?_) (λi hi=>?_))
     .have ze:i<t.size:=by simp at hi;try omega
      simpa[u]using(h i (by omega)).2.1
     .have ze:i<t.size:=by simp[u]at hi;try omega
      simpa[u]using(h i (by omega)).2.2
    |false=>
     have h1:t.size=1:=by simpa[H]using ha
     simp only[su,li];have Y:0<Z A:=by omega
     have L:A.getD 0 (.bool false)=A[0]:=by simp[lg,Y]
     rw[L];have:=(h 0 Y).2.1;refine .d _ _ ?_;simpa[u,wn,Y]using this
 |_=>rw[U]at g;exact g.elim
def QA(ts:Array Value):ResultVar->Sem Value
 |.tmp t=>pure (ts.getD t undef)
 |.cell b t=>do loadVar t (<-asAddr (ts.getD b undef))
theorem Xe(fn:Func)(ts:Array Value):results fn ts=(do let g<-fn.results.mapM (QA ts);pure (if h:g.size=1 then g[0]else .tuple g)):=by
 unfold results;congr
theorem Pf{G:Gh}{w:World}{a:Act}(st:St P n G S w a tm)(j:List ResultVar):J0 P tm S j->∃g:List Value,(j.mapM (QA a.tmps)).run P w=.ok g w/\Z g=Z (Hw P tm S j)/\∀i (h:i<Z g) (L:i<Z (Hw P tm S j)),CV G S w (Hw P tm S j)[i] g[i]:=by
 induction j with
 |nil=>intro _;exact⟨[],by simp,rfl,λi h=>by simp at h⟩
 |cons r j s=>
  intro h;cases r with
  |tmp t=>
   simp only[J0]at h;obtain⟨g,h1,k,m⟩:=s h;refine⟨a.tmps.getD t undef::g,?_,by simp[Hw,k],λi hi q=>?_⟩
   .simp only[adr,QA,l6,tp,lh,h1]
   .cases i with
    |zero=>simpa[Hw]using st.tm t
    |succ i=>simpa[Hw]using m i (by simpa using hi) (by simpa[Hw]using q)
  |cell b T=>
   simp only[J0]at h;obtain⟨u,z,A,B⟩:=h;obtain⟨g,h1,k,m⟩:=s B;obtain⟨cv,ad,C,E,F⟩:=XI st ((st.tm b).strip u) z A;refine⟨cv::g,?_,by simp[Hw,k],λi hi q=>?_⟩
   .have H:(asAddr (a.tmps.getD b undef)).run P w=.ok ad w:=by rw[C];rfl
    simp only[adr,QA,l6,H,tp,lh,E,h1]
   .cases i with
    |zero=>simpa[Hw]using F
    |succ i=>simpa[Hw]using m i (by simpa using hi) (by simpa[Hw]using q)
def dy(P:Program)(n b:Nat)(j:List ResultVar)(R:V->Sg->Prop):Exit->Tm->Sg->Prop
 |.normal,tm,S|.ret,tm,S=>∃g h,AJ P n b tm S g h/\J0 P g h j/\∀G w a,St P n G h w a g->b<=Z h->∃i v S',(∀cv,CV G h w (Mg P g h j) cv->CV i S' w v cv)/\Rel P i S' w/\Tr G h w i S' w/\Fb b G h i S'/\R v S'
 |_,_,_=>False
theorem IN{fn:Func}{a:Act}{w:World}{vs:List Value}(h:(fn.results.toList.mapM (QA a.tmps)).run P w=.ok vs w):
  (results fn a.tmps).run P w=.ok (pack vs) w:=by
 rw[Xe,Array.mapM_eq_mapM_toList];simp[Sem.run_map,h];match vs with
 |[]=>simp[pack]
 |[v]=>simp[pack]
 |v::u::vs=>simp[pack]
theorem Fb.later{G:Gh}{w:World}{g:Gh}{w':World}(R:Rel P G S w)(t:Tr G S w g S' w')(l:Fb (Z S) G S g S'):BH G S w g S' w':=
 ⟨t.I,λb hb=>t.EV b (R.Kf b hb) (λh=>R.nI b h hb),l.len,l.row,l.map⟩
theorem BL.intro{f:FuncId}{fn:Func}{c:Code}{args:List V}{R:V->Sg->Prop}(X:P.funcs[f]?=some fn)(zS:(fn.name== "runtime.NumGoroutine")=false)(hb:fn.body=some c)(hn:Z args<=fn.ntmps)
  (h:AW P fn.ntmps (Z S) c (dy P fn.ntmps (Z S) fn.results.toList R) (Er args) S):BL P f args S R:=by
 refine⟨by simp[S5,X,zS,hb],λG w j Y zg zd=>?_⟩;refine calls_of_wp X hb ?_;have st:St P fn.ntmps G S w {tmps:=j++Array.replicate (fn.ntmps - j.size) undef,defers:=[]} (Er args):=by
  refine⟨by simp;omega,λk=>?_,Y⟩;unfold Er;by_cases hk:k<Z args
  .have Q:args.getD k .any=args[k]:=by simp[lg,hk]
   have e2:(j++Array.replicate (fn.ntmps - j.size) undef).getD k undef=j[k]'(by omega):=by
    rw[wn,ab9 (by omega)];simp[show k<j.size by omega]
   simp only[Q,e2];exact zd k hk (by omega)
  .have Q:args.getD k .any=.any:=by simp[lg,ut (show Z args<=k by omega)]
   rw[Q];exact .any _
 refine adU (h G w _ st (ci _)) λex L u hl=>?_;obtain⟨q,S0,T,F,z⟩:=hl;have fin:(∃s t,AJ P fn.ntmps (Z S) T S0 s t/\J0 P s t fn.results.toList/\∀G w a,St P fn.ntmps G t w a s->Z S<=Z t->∃q M m,(∀cv,CV G t w (Mg P s t fn.results.toList) cv->CV q m w M cv)/\Rel P q m w/\Tr G t w q m w/\Fb (Z S) G t q m/\R M m)->L.defers=[]/\∃x,(results fn L.tmps).run P u=.ok x u/\∃cv q v S',R v S'/\Ending.returned x=.returned cv/\CV q S' u v cv/\Rel P q S' u/\Tr G S w q S' u/\BH G S w q S' u:=by
  intro z;obtain⟨s,t,g,h1,h2⟩:=z;refine⟨F.ds,?_⟩;obtain⟨U,H,t1,l1⟩:=g q u L F.st F.late.len;obtain⟨A,v1,B,N⟩:=Pf H fn.results.toList h1;obtain⟨G2,M,m,g1,g2,g3,g4,g5⟩:=h2 U u L H l1.len;have C:∀(A:List Value) (E:List V),Z A=Z E->(∀i (h:i<Z A) (h':i<Z E),CV U t u E[i] A[i])->CV U t u (YQ E) (pack A):=λA E B N=>by
   match A,E with
   |[],[]=>exact .CA _ _ rfl (λi h=>by simp at h)
   |[x],[y]=>exact N 0 (by simp) (by simp)
   |x::x'::xs,y::y'::ys=>
    refine .CA _ _ (by simpa using B) (λi h=>?_);have:=N i (by omega) h;simpa using this
   |[],_::_=>simp at B
   |_::_,[]=>simp at B
   |[_],_::_::_=>simp at B
   |_::_::_,[_]=>simp at B
  have W:=C A _ B N;have tr:=(F.tr.trans t1).trans g3;have la:=(F.late.trans l1).trans g4;exact⟨_,IN v1,_,G2,M,m,g5,rfl,g1 _ W,g2,tr,la.later Y tr⟩
 cases ex with
 |normal=>exact fin z
 |ret=>exact fin z
 |exit=>exact z.elim
 |goto=>exact z.elim
 |panic=>exact z.elim
 |outgrown=>exact z.elim
theorem AH.intro{f:FuncId}{fn:Func}{c:Code}{args:List V}(i:P.funcs[f]?=some fn)(j:(fn.name== "runtime.NumGoroutine")=false)(hb:fn.body=some c)(hn:Z args<=fn.ntmps)
  (h:AW P fn.ntmps (Z S) c (dy P fn.ntmps (Z S) fn.results.toList λk g=>k=v/\g=S') (Er args) S):AH P f args S v S':=
 BL.Yz (BL.intro i j hb hn h)
def Pure(P:Program)(f:FuncId)(ds:List D)(d:D):Prop:=AH P f (ds.map .d) [] (.d d) []
theorem Rel.nil{G:Gh}{w:World}(R:Rel P G S w):Rel P G [] w:=
 ⟨R.HU,λr o h=>by simp at h,λr g o i h=>by simp at h,λb ⟨r,o,h,_⟩=>by simp at h,R.Kf,λb ⟨r,o,h,_⟩=>by simp at h⟩
theorem CV.pq{G:Gh}{w:World}{d:D}{v:Value}(h:CD G.I w d v):CV G S w (.d d) v:=.d _ _ h
theorem Pure.call{f:FuncId}{ds:List D}{d:D}{args:List V}(h:Pure P f ds d)(ha:args.map (BC S)=ds.map some):AH P f args S (.d d) S:=by
 refine⟨h.1,λG w j R A B=>?_⟩;have k:Z args=Z ds:=by have:=mn Z ha;simpa using this
 refine(h.2 G w j R.nil (by simpa[k]using A) (λi hi C=>?_)).mono ?_
 .have q:i<Z ds:=by simpa using hi
  have e:BC S args[i]=some ds[i]:=by
   have:=mn (·[i]?) ha;simpa[q,show i<Z args by omega]using this
  simp;exact .pq ((B i (by omega) C).BC R e)
 .rintro e m ⟨cv,u,E,h1,F,g,Q⟩;have s:CD u.I m d cv:=by cases h1 with|d _ _ h=>exact h
  let t:Gh:={G with I:=u.I};have L:BH G S w t S m:=⟨g.I,λb hb=>g.EV b (R.Kf b hb) (λ⟨r,o,h,_⟩=>by simp at h),ci _,λr _ n h=>⟨n,h,ci _,λ_=>⟨rfl,rfl,rfl,.inl rfl⟩⟩,λr _ h=>⟨h,rfl⟩⟩;have EV:∀b,b<w.heap.size->m.heap[b]?=w.heap[b]?:=λb hb=>g.EV b hb (λ⟨r,o,h,_⟩=>by simp at h);have H:Rel P t S m:=by
   refine⟨R.HU.later L,λr o z=>(R.DX r o z).later L (λM=>EV _ (R.Ik _ ⟨r,o,z,M,rfl⟩)) rfl rfl rfl,R.inj,λb hb N=>?_,λb hb=>F.Kf b hb,λb hb=>EQ (R.Ik b hb) g.size⟩;rcases g.im b N with h|⟨r,o,h,_⟩|h
   .exact R.nI b hb h
   .simp at h
   .have:=R.Ik b hb;omega
  refine⟨cv,t,E,.pq s,H,⟨g.size,g.I,λb hb _=>EV b hb,λb hb=>.inl hb,λb hb=>?_,g.os,g.out⟩,L⟩;rcases g.im b hb with h|⟨r,o,h,_⟩|h
  .exact .inl h
  .simp at h
  .exact .inr (.inr h)
def nM(P:Program)(n:Nat)(i:List ResultVar)(d:D):Exit->Tm->Sg->Prop
 |.normal,tm,S|.ret,tm,S=>∃g h,AJ P n 0 tm S g h/\J0 P g h i/\BC h (Mg P g h i)=some d
 |_,_,_=>False
theorem Pure.intro{f:FuncId}{fn:Func}{c:Code}{ds:List D}{d:D}(s:P.funcs[f]?=some fn)(t:(fn.name== "runtime.NumGoroutine")=false)(hb:fn.body=some c)(hn:Z ds<=fn.ntmps)
  (h:AW P fn.ntmps 0 c (nM P fn.ntmps fn.results.toList d) (Er (ds.map .d)) []):Pure P f ds d:=by
 refine AH.intro s t hb (by simpa using hn) (h.mono λu tm S k=>?_);have key:(∃i j,AJ P fn.ntmps 0 tm S i j/\J0 P i j fn.results.toList/\BC j (Mg P i j fn.results.toList)=some d)->∃i j,AJ P fn.ntmps 0 tm S i j/\J0 P i j fn.results.toList/\∀G w a,St P fn.ntmps G j w a i->0<=Z j->∃m v S',(∀cv,CV G j w (Mg P i j fn.results.toList) cv->CV m S' w v cv)/\Rel P m S' w/\Tr G j w m S' w/\Fb 0 G j m S'/\v=.d d/\S'=[]:=by
  rintro⟨i,j,g,h1,z⟩;refine⟨i,j,g,h1,λG w a st _=>⟨G,.d d,[],λcv q=>.pq (q.BC st.rel z),st.rel.nil,?_,⟨ed _,λr A=>by omega,λr A=>by omega⟩,rfl,rfl⟩⟩;exact⟨ci _,λ_ h=>h,λ_ _ _=>rfl,λb ⟨r,o,h,_⟩=>by simp at h,λb hb=>.inl hb,rfl,rfl⟩
 cases u with
 |normal=>exact key k
 |ret=>exact key k
 |exit=>exact k.elim
 |goto=>exact k.elim
 |panic=>exact k.elim
 |outgrown=>exact k.elim
end
mutual
def Da:D->Prop
 |.bool _=>True
 |.int k n=>IX k n=J
 |.str s=>s.size<=maxLen
 |.sl g=>Z g<=maxLen/\Bq g
 |.agg h=>Bq h
 |.CA i=>Bq i
 |.raw _=>True
def Bq:List D->Prop
 |[]=>True
 |x::g=>Da x/\Bq g
end
theorem VI(xs:List D):Bq xs↔∀x∈xs,Da x:=by
 induction xs with
 |nil=>simp[Bq]
 |cons x xs g=>simp[Bq,g]
theorem Dh{α:Type}(f:α->D)(xs:List α):Bq (xs.map f)↔∀x∈xs,Da (f x):=by
 rw[VI];simp
theorem MS{xs:List D}(h:∀i (h:i<Z xs),Da xs[i]):Bq xs:=(VI xs).2 λx g=>by
 obtain⟨i,hi,rfl⟩:=oi.1 g;exact h i hi
theorem CD.wf{I:Nat->Prop}{w:World}{d:D}{v:Value}(h:CD I w d v):Da d:=by
 induction h with
 |bool=>trivial
 |int k n h=>exact h
 |str s h=>exact h
 |nil=>exact⟨by simp[maxLen],trivial⟩
 |sl sz o b off cap i q j t h1 u g=>exact⟨j,MS g⟩
 |agg ds i m h z g=>exact MS g
 |CA ds i m h g=>exact MS g
 |raw=>trivial
abbrev ab1:=@List.getElem?_take
abbrev x0:=@Bool.true_and
abbrev cR:=@decide_eq_true_eq
section
variable {P:Program} {n b:Nat} {o:Oper} {tm:Tm} {S S':Sg} {v:V} {ops:Array Oper} {K:Tm->Sg->Prop} {Q:Exit->Tm->Sg->Prop}
theorem AW.assume{p:Prop}{c:Code}(g:∀G w a,St P n G S w a tm->p)(h:p->AW P n b c Q tm S):AW P n b c Q tm S:=
 λG w a st hb=>h (g G w a st) G w a st hb
theorem AY.assume{p:Prop}{l:List Oper}(g:∀G w a,St P n G S w a tm->p)(h:p->AY P n b ops l tm S K):AY P n b ops l tm S K:=
 λk i G w a Q st hb j=>h (g G w a st) k i G w a Q st hb j
theorem bO{ds:List D}{G:Gh}{w:World}{a:Act}(st:St P n G S w a (Er (ds.map .d))):Bq ds:=MS λi hi=>by
 have:=st.tm i;have e:Er (ds.map .d) i=.d ds[i]:=by simp[Er,lg,hi]
 rw[e]at this;cases this with|d _ _ h=>exact h.wf
theorem Pure.Ae{f:FuncId}{fn:Func}{c:Code}{ds:List D}{d:D}(g:P.funcs[f]?=some fn)(i:(fn.name== "runtime.NumGoroutine")=false)(hb:fn.body=some c)(hn:Z ds<=fn.ntmps)
  (h:Bq ds->AW P fn.ntmps 0 c (nM P fn.ntmps fn.results.toList d) (Er (ds.map .d)) []):Pure P f ds d:=
 Pure.intro g i hb hn (AW.assume (λ_ _ _ st=>bO st) h)
abbrev ip:=@Pure.Ae
theorem AQ{c:Operand}{x y:Code}(h:match ev tm c with|.d (.bool t)=>(t=J->AW P n b x Q tm S)/\(t=false->AW P n b y Q tm S)|_=>False):AW P n b (.cond c x y) Q tm S:=by
 split at h
 .rename_i t g;exact qr g h.1 h.2
 .exact h.elim
theorem Gb{id:Nat}{y:Code}(h:∀K:Tm->Sg->Prop,(∀tm S,AW P n b y Q tm S->K tm S)->AY P n b ops ops.toList tm S K):AW P n b (.seq (.region id ops false) y) Q tm S:=
 xS (AW.region (h _ λ_ _ h=>h))
mutual
def AP(k:Nat):V->Bool
 |.row r _=>decide (r<k)
 |.ptr r _ _ _=>decide (r<k)
 |.map r=>decide (r<k)
 |.fn _ as g=>Au k as&&Au k g
 |.agg h=>Au k h
 |.CA i=>Au k i
 |.opt _ v=>AP k v
 |_=>J
def Au(k:Nat):List V->Bool
 |[]=>J
 |x::g=>AP k x&&Au k g
end
def Ao(k:Nat):O->Bool
 |.row _ _ g=>Au k g
 |.map h=>h.all λe=>AP k e.2
 |_=>J
theorem DZ{k:Nat}{xs:List V}(h:Au k xs=J):∀i (hi:i<Z xs),AP k xs[i]=true:=by
 induction xs with
 |nil=>intro i hi;simp at hi
 |cons x xs g=>
  simp[Au]at h;intro i hi;cases i with
  |zero=>exact h.1
  |succ i=>simpa using g h.2 i (by simpa using hi)
@[simp] theorem qI{α:Type}(k:Nat)(f:α->D)(xs:List α):Au k (xs.map λx=>V.d (f x))=true:=by
 induction xs with
 |nil=>rfl
 |cons x xs g=>simp[Au,AP,g]
@[simp] theorem ly(k:Nat)(xs:List D):Au k (xs.map V.d)=true:=by
 induction xs with
 |nil=>rfl
 |cons x xs g=>simp[Au,AP,g]
theorem CV.take{G:Gh}{w:World}{k:Nat}{x:V}{v:Value}(h:CV G S w x v)(hb:AP k x=J)(E:k<=Z S):CV G (S.take k) w x v:=by
 have m:∀r,r<k->(S.take k)[r]?=S[r]?:=λr A=>by simp[A]
 have W:Z (S.take k)=k:=by simp[E]
 induction h with
 |any v=>exact .any v
 |d d v h=>exact .d d v h
 |full B a h=>exact .full B a h
 |row r n v s A h=>
  have q:r<k:=by simpa[AP]using hb
  exact .row r n v s (by omega) (by simpa only[lenOf,m r q]using h)
 |ptr r n i j v s A h=>
  have q:r<k:=by simpa[AP]using hb
  exact .ptr r n i j v s (by omega) (by simpa only[lenOf,C0,m r q]using h)
 |DW t b off u F h=>exact .DW t b off u F h
 |map r v s A h=>
  have q:r<k:=by simpa[AP]using hb
  exact .map r v s (by omega) (by simpa only[Bn,m r q]using h)
 |fn f as H B L h1 M X Y N R=>
  simp[AP]at hb;exact .fn f as H B L h1 M (λi hi=>N i hi (DZ hb.1 i hi)) (λi hi=>R i hi (DZ hb.2 i hi))
 |agg t u C h s z=>exact .agg t u C (λi hi=>z i hi (DZ hb i hi)) s
 |CA t u C h z=>exact .CA t u C (λi hi=>z i hi (DZ hb i hi))
 |opt g x v h T z=>exact .opt g x v (λU=>z U (by simpa[AP]using hb)) T
def clean(k:Nat)(tm:Tm):Tm:=λt=>if AP k (tm t)then tm t else .any
theorem AJ.drop(k:Nat)(hb:b<=k)(C:k<=Z S)(X:(S.take k).all (Ao k)=J):AJ P n b tm S (clean k tm) (S.take k):=λG w a st _=>by
 have B:∀r o,(S.take k)[r]?=some o->S[r]?=some o/\r<k:=λr o h=>by
  have h1:=Ai h;have s:r<k:=by simp at h1;omega
  exact⟨by simpa[ab1,s]using h,s⟩
 have g:∀x,HG G (S.take k) x->HG G S x:=λx ⟨r,o,h1,s,Y⟩=>⟨r,o,(B r o h1).1,s,Y⟩;have hL:Fb b G S G (S.take k):=by
  refine⟨by simp;omega,λr hr n' zK=>⟨n',?_,ci _,λ_=>⟨rfl,rfl,rfl,.inl ?_⟩⟩,λr hr hm=>⟨?_,rfl⟩⟩
  .simpa[lenOf,ab1,show r<k by omega]using zK
  .simp[C0,show r<k by omega]
  .simpa[Bn,ab1,show r<k by omega]using hm
 refine⟨G,⟨st.size,λt=>?_,⟨st.rel.HU,λr o h=>?_,λr N o R h h'=>st.rel.inj r N o R (B r o h).1 (B N R h').1,λx m=>st.rel.nI x (g x m),st.rel.Kf,λx m=>st.rel.Ik x (g x m)⟩⟩,⟨ci _,λ_ h=>h,λ_ _ _=>rfl,λx m=>.inl (g x m),λx m=>.inl m,rfl,rfl⟩,hL⟩
 .unfold clean;split
  .rename_i E;exact(st.tm t).take E C
  .exact .any _
 .obtain⟨h1,s⟩:=B r o h;have z:Ao k o=true:=de.1 X o (pu h);have j:=st.rel.DX r o h1;cases o with
  |row wr sz els=>
   simp only[OK]at j⊢;cases U:G.BJ r with
   |none=>
    simp only[U]at j⊢;obtain⟨c,T,F,H,L,g4,g5⟩:=j;refine⟨c,T,F,H,L,g4,λi hi=>?_⟩;obtain⟨u,u1,u2,u3,u4⟩:=g5 i hi;exact⟨u,u1.take (DZ z i hi) C,u2,u3,u4⟩
   |some a=>
    simp[U]at j⊢;exact j
  |BQ xs=>exact j
  |map W=>
   simp[OK]at j⊢;obtain⟨A,q,F,H,gk,L⟩:=j;refine⟨A,q,F,H,gk,λi hi=>?_⟩;obtain⟨e,e1,e2,e3,e4,e5⟩:=L i hi;have M:AP k W[i].2=true:=de.1 z W[i] (by simp);exact⟨e,e1,e2,e3.take M C,e4,e5⟩
  |dead=>trivial
theorem AJ.DS(k:Nat)(h:b<=k/\k<=Z S/\(S.take k).all (Ao k)=J):AJ P n b tm S (clean k tm) (S.take k):=AJ.drop k h.1 h.2.1 h.2.2
abbrev ne:=@AJ.DS
theorem FH{c:Code}(N:Nat)(Inv:Nat->Tm->Sg->Prop){i0:Nat}(q:i0<=N)(h0:Inv i0 tm S)
  (w:∀i tm S,i<=N->Inv i tm S->AW P n b c (C8 (λj S'=>i<N/\∃h k,AJ P n b j S' h k/\Inv (i+1) h k) Q) tm S):AW P n b (.loop c) Q tm S:=by
 refine aew (λm tm S=>∃i,i<=N/\m=N - i/\Inv i tm S) ⟨_,tm,S,ap,i0,q,rfl,h0⟩ ?_;rintro m tm S ⟨i,hi,rfl,z⟩;refine(w i tm S hi z).mono λA j S' u=>?_;cases A with
 |normal=>
  obtain⟨C,s,B,g,t⟩:=u;exact⟨N - (i+1),s,B,by omega,g,i+1,by omega,rfl,t⟩
 |_=>exact u
theorem wrap_i64{x:Int}(h1:-9223372036854775808<=x)(k:x<=9223372036854775807):bv .i64 x=x:=by
 unfold IntKind.wrap;have g:IntKind.i64.bits=64:=rfl;have h:IntKind.i64.signed=true:=rfl;simp only[g,h,x0,cR];have i:(2:Int) ^ 64=18446744073709551616:=by decide
 have j:(2:Int) ^ (64 - 1)=9223372036854775808:=by decide
 rw[i,j];split<;>omega
theorem AL{i n:Nat}(h:i<n)(hn:n<=maxLen):bv .i64 ((i:Int)+1)=((i+1:Nat):Int):=by
 unfold maxLen at hn;rw[wrap_i64 (by omega) (by omega)];simp
end
@[simp] theorem sV(vs:List V):Aj (.agg vs)=vs:=rfl
@[simp] theorem po(ds:List D):Aj (.d (.agg ds))=ds.map .d:=rfl
@[simp] theorem qD(x:Bool):Aj (.d (.bool x))=[.d (.bool x)]:=rfl
@[simp] theorem tP(k:IntKind)(x:Int):Aj (.d (.int k x))=[.d (.int k x)]:=rfl
@[simp] theorem rD(x:ByteArray):Aj (.d (.str x))=[.d (.str x)]:=rfl
@[simp] theorem ta(x:List D):Aj (.d (.sl x))=[.d (.sl x)]:=rfl
@[simp] theorem rZ(x:Value):Aj (.d (.raw x))=[.d (.raw x)]:=rfl
@[simp] theorem pS(x:List D):Aj (.full x)=[.full x]:=rfl
@[simp] theorem rH(r m:Nat):Aj (.row r m)=[.row r m]:=rfl
@[simp] theorem qy(r m i j:Nat):Aj (.ptr r m i j)=[.ptr r m i j]:=rfl
@[simp] theorem qK(x:List D):Aj (.DW x)=[.DW x]:=rfl
@[simp] theorem rU(r:Nat):Aj (.map r)=[.map r]:=rfl
@[simp] theorem uN(f:Fn)(a b:List V):Aj (.fn f a b)=[.fn f a b]:=rfl
@[simp] theorem tM(vs:List V):Ap (.agg vs)=true:=rfl
@[simp] theorem pa(ds:List D):Ap (.d (.agg ds))=true:=rfl
@[simp] theorem qH(x:Bool):Ap (.d (.bool x))=false:=rfl
@[simp] theorem qV(k:IntKind)(x:Int):Ap (.d (.int k x))=false:=rfl
@[simp] theorem sq(x:ByteArray):Ap (.d (.str x))=false:=rfl
@[simp] theorem uL(x:List D):Ap (.d (.sl x))=false:=rfl
@[simp] theorem qZ(x:Value):Ap (.d (.raw x))=false:=rfl
@[simp] theorem qC(x:List D):Ap (.full x)=false:=rfl
@[simp] theorem qg(r m:Nat):Ap (.row r m)=false:=rfl
@[simp] theorem qP(r m i j:Nat):Ap (.ptr r m i j)=false:=rfl
@[simp] theorem px(x:List D):Ap (.DW x)=false:=rfl
@[simp] theorem tQ(r:Nat):Ap (.map r)=false:=rfl
@[simp] theorem uT(f:Fn)(a b:List V):Ap (.fn f a b)=false:=rfl
@[simp] theorem vV(vs:List V):Bu (.agg vs)=false:=rfl
@[simp] theorem uD(ds:List D):Bu (.d (.agg ds))=false:=rfl
@[simp] theorem tZ(x:Bool):Bu (.d (.bool x))=true:=rfl
@[simp] theorem vw(k:IntKind)(x:Int):Bu (.d (.int k x))=true:=rfl
@[simp] theorem ur(x:ByteArray):Bu (.d (.str x))=true:=rfl
@[simp] theorem wN(x:List D):Bu (.d (.sl x))=true:=rfl
@[simp] theorem ue(x:Value):Bu (.d (.raw x))=one x:=rfl
@[simp] theorem tW(x:List D):Bu (.full x)=true:=rfl
@[simp] theorem v7(r m:Nat):Bu (.row r m)=true:=rfl
@[simp] theorem vK(r m i j:Nat):Bu (.ptr r m i j)=true:=rfl
@[simp] theorem uK(x:List D):Bu (.DW x)=true:=rfl
@[simp] theorem wA(r:Nat):Bu (.map r)=true:=rfl
@[simp] theorem wM(f:Fn)(a b:List V):Bu (.fn f a b)=true:=rfl
@[simp] theorem rb(ds:List D):BE (.agg ds)=ds:=rfl
@[simp] theorem pX(x:Bool):BE (.bool x)=[.bool x]:=rfl
@[simp] theorem qX(k:IntKind)(x:Int):BE (.int k x)=[.int k x]:=rfl
@[simp] theorem s7(x:ByteArray):BE (.str x)=[.str x]:=rfl
@[simp] theorem tz(x:List D):BE (.sl x)=[.sl x]:=rfl
@[simp] theorem vX(ds:List D):CR.oneD (.agg ds)=true:=rfl
@[simp] theorem uO(x:Bool):CR.oneD (.bool x)=true:=rfl
@[simp] theorem ui(k:IntKind)(x:Int):CR.oneD (.int k x)=true:=rfl
@[simp] theorem u9(x:ByteArray):CR.oneD (.str x)=true:=rfl
@[simp] theorem wO(x:List D):CR.oneD (.sl x)=true:=rfl
@[simp] theorem getD_map{α β:Type}(f:α->β)(xs:List α)(i:Nat)(d:β)(h:i<Z xs):(xs.map f)[i]?.getD d=f xs[i]:=by simp[h]
attribute [simp] EX Dm oS A6 BV BX C5 Hm Hz ev need strip put Og Zs wR CN H0 vl sG arith KJ vu rL dY ff LP OH QB Vo JI ZT jj ux Gn vn CR Hl Hy vE sC eL rE rJ p7 Cj JM EL OT qM eF Xg O2 gV mV Sd BC CZ Ed LS LK J3 FR R1 Kz callee A9 QF J0 Hw YQ Mg lenOf C0 Bn one C8 Bh AP Au Ao GJ GS Tj Dp mapOf jb rz ma rF q8 EO Fp Fv PS jO tH LN Ic If U2 V0 u5 UB B1 B3 Bx BW IX MM
end Go.Koi
