/-
  Part 4 of the proof that the law ChangeFoldInline returns true for every input.
-/
import Derived.Test.YtgdfmldabcofeaaGreatDoorK02
import Derived.Maps.Keyed
import Derived.DeepKeys4
import Derived.Laws.StructEq
import Derived.Laws.Cover3
set_option maxHeartbeats 64000000
set_option maxRecDepth 100000
namespace Go.Koi
open Go renaming Program->b8,TypeId->ce,ResultVar->aeL,Value->bn
inductive CK where
 |bool|int (q:IntKind)|str
 deriving DecidableEq
inductive KK where
 |one (c:CK)|cells (cs:List CK)
def CN:CK->D->Bool
 |.bool,.bool _=>true
 |.int q,.int g _=>q==g
 |.str,.str _=>true
 |_,_=>false
def B2:List CK->List D->Bool
 |[],[]=>true
 |c::g,d::ds=>CN c d&&B2 g ds
 |_,_=>false
def B7:KK->D->Bool
 |.one c,d=>CN c d
 |.cells g,.agg ds=>B2 g ds
 |_,_=>false
def FT:D->Value
 |.bool b=>.bool b
 |.int k n=>.int k n
 |.str s=>.string s
 |_=>undef
def QU:D->Value
 |.agg ds=>.agg (ds.map FT).toArray
 |d=>FT d
def JV:D->Lit
 |.bool b=>.bool b
 |.int k n=>.int k n
 |.str s=>.string s.data.toList
 |_=>.bool false
theorem O3{c:CK}{I:Nat->Prop}{w:World}{d:D}{v:Value}(g:CN c d=true)(h:CD I w d v):v=FT d:=by
 cases h<;>first|rfl|(cases c<;>simp[CN]at g)
theorem LS:∀{g:List CK} {ds:List D},B2 g ds=true->g.length=ds.length/\∀i (h:i<g.length) (m:i<ds.length),CN g[i] ds[i]=true
 |[],[],_=>⟨rfl,λi h=>by simp at h⟩
 |[],_::_,h=>by simp[B2]at h
 |_::_,[],h=>by simp[B2]at h
 |c::g,d::ds,h=>by
  simp[B2]at h;obtain⟨h1,j⟩:=LS h.2;refine⟨by simp[h1],λi hi k=>?_⟩;cases i with
  |zero=>exact h.1
  |succ i=>simpa using j i (by simpa using hi) (by simpa using k)
theorem JC{kk:KK}{I:Nat->Prop}{w:World}{d:D}{v:Value}(g:B7 kk d=true)(h:CD I w d v):v=QU d:=by
 cases kk with
 |one c=>
  have:=O3 g h;rw[this];cases d<;>first|rfl|(cases c<;>simp[B7,CN]at g)
 |cells m=>
  cases h with
  |agg ds o j h q=>
   obtain⟨h1,k⟩:=LS g;simp[QU,Value.agg.injEq];apply Array.ext (by simp[j]);intro i s t;have hi:i<ds.length:=by omega
   simpa using O3 (k i (by omega) hi) (h i hi)
  |_=>simp[B7]at g
theorem Ql{c:CK}{a b:D}(ha:CN c a=true)(hb:CN c b=true):De a b=true↔FT a=FT b:=by
 cases c<;>cases a<;>simp[CN]at ha<;>cases b<;>simp[CN]at hb
 .simp[De,FT]
 .subst ha;subst hb;simp[De,FT]
 .simp[De,FT]
theorem Yq{c:CK}{a b:D}(ha:CN c a=true)(hb:CN c b=true):JV a=JV b↔FT a=FT b:=by
 cases c<;>cases a<;>simp[CN]at ha<;>cases b<;>simp[CN]at hb
 .simp[JV,FT]
 .subst ha;subst hb;simp[JV,FT]
 .rename_i x y;simp only[JV,FT,Lit.string.injEq,Value.string.injEq];constructor
  .intro h;cases x;cases y;simp only[ByteArray.mk.injEq];exact ad5 h
  .rintro rfl;rfl
abbrev xr:=@List.cons.injEq
theorem LD:∀{i:List CK} {as g:List D},B2 i as=true->B2 i g=true->(Cg as g=true↔as.map FT=g.map FT)
 |[],[],[],_,_=>by simp[Cg]
 |[],_::_,_,h,_=>by simp[B2]at h
 |[],[],_::_,_,h=>by simp[B2]at h
 |_::_,[],_,h,_=>by simp[B2]at h
 |_::_,_::_,[],_,h=>by simp[B2]at h
 |c::i,a::as,b::g,ha,hb=>by
  simp[B2]at ha hb;simp[Cg];rw[Ql ha.1 hb.1,LD ha.2 hb.2]
theorem K7:∀{i:List CK} {as g:List D},B2 i as=true->B2 i g=true->(as.map JV=g.map JV↔as.map FT=g.map FT)
 |[],[],[],_,_=>by simp
 |[],_::_,_,h,_=>by simp[B2]at h
 |[],[],_::_,_,h=>by simp[B2]at h
 |_::_,[],_,h,_=>by simp[B2]at h
 |_::_,_::_,[],_,h=>by simp[B2]at h
 |c::i,a::as,b::g,ha,hb=>by
  simp[B2]at ha hb;simp;rw[Yq ha.1 hb.1,K7 ha.2 hb.2]
theorem X3{kk:KK}{a b:D}(ha:B7 kk a=true)(hb:B7 kk b=true):De a b=true↔QU a=QU b:=by
 cases kk with
 |one c=>
  have e:∀{x:D},B7 (.one c) x=true->QU x=FT x:=λ{x} h=>by cases x<;>first|rfl|(cases c<;>simp[B7,CN]at h)
  rw[e ha,e hb];exact Ql ha hb
 |cells g=>
  cases a<;>simp[B7]at ha;cases b<;>simp[B7]at hb;simp only[De,QU,Value.agg.injEq];rw[LD ha hb];exact⟨λh=>by rw[h],λh=>by simpa using h⟩
structure I0(P:b8)(K:ce)(kk:KK):Prop where
 keyed:Maps.Keyed P K
 lit:∀{kd I w v},B7 kk kd=true->CD I w kd v->∃l,keyOf P K v=some l
theorem TR{P:b8}{K:ce}{q:IntKind}(h:P.underlying K=some (.int q)):I0 P K (.one (.int q)):=
 ⟨Maps.int_keyed h,λ{kd I w v} g i=>by
  cases i<;>simp[B7,CN]at g;subst g;rename_i n j;exact⟨_,Maps.keyOf_int_mk h (by rw[U8];exact j)⟩⟩
theorem UX{P:b8}{K:ce}(h:P.underlying K=some .string):I0 P K (.one .str):=
 ⟨Maps.string_keyed h,λ{kd I w v} g i=>by
  cases i<;>simp[B7,CN]at g;rename_i s j;exact⟨.string s.data.toList,by simp[keyOf,h,mapKey,j]⟩⟩
def basic(P:b8)(t:ce):Option CK:=
 match P.underlying t with
 |some .bool=>some .bool
 |some (.int q)=>some (.int q)
 |some .string=>some .str
 |_=>none
def jQ(P:b8):Nat->List Field->Option (List CK)
 |_,[]=>some []
 |k,f::g=>if f.offset=k/\P.cellsOf f.type=1/\(f.name != "_")=true then
   (match basic P f.type,jQ P (k+1) g with|some c,some h=>some (c::h)|_,_=>none)else none
def Sy(P:b8)(t:ce):Option (List CK):=
 if P.keyType t&&P.keyTypeAt 2 t&&P.tiled 2 t&&!P.eqGuardType P.depth t&&decide (0<P.types.size)then
  match P.underlying t with
  |some (.struct g)=>if P.cellsOf t=g.size then jQ P 0 g.toList else none
  |some (.array n e)=>if P.cellsOf t=n/\P.cellsOf e=1 then(basic P e).map λc=>List.replicate n c else none
  |_=>none
 else none
theorem Og{P:b8}{t:ce}{c:CK}(hb:basic P t=some c){I:Nat->Prop}{w:World}{d:D}{v:Value}(g:CN c d=true)(h:CD I w d v)(m:Nat):P.keyLits (m+1) t [v]=some [JV d]:=by
 unfold basic at hb;unfold Program.keyLits;cases h with
 |bool b=>split at hb<;>cases hb<;>simp[CN]at g;rename_i i;simp[i,JV]
 |int k n j=>split at hb<;>cases hb<;>simp[CN]at g;rename_i i;subst g;simp[i,JV,U8,j]
 |str s o=>split at hb<;>cases hb<;>simp[CN]at g;rename_i i;simp[i,JV,o]
 |_=>split at hb<;>cases hb<;>simp[CN]at g
abbrev sw:=@List.drop_eq_getElem_cons
abbrev adS:=@Nat.add_comm
theorem UC{P:b8}{I:Nat->Prop}{w:World}{m:Nat}(j:List Value):∀(q:List Field) (k:Nat) (g:List CK) (ds:List D),jQ P k q=some g->B2 g ds=true->k+q.length=j.length->(∀i (h:i<ds.length) (H:k+i<j.length),CD I w ds[i] j[k+i])->(q.mapM λf=>P.keyLits (m+1) f.type ((j.drop f.offset).take (P.cellsOf f.type)))=some (ds.map λd=>[JV d])
 |[],k,g,ds,h,o,_,_=>by
  simp only[jQ,fd]at h;subst h;cases ds with
  |nil=>rfl
  |cons d ds=>simp[B2]at o
 |f::q,k,g,ds,h,o,v,t=>by
  simp only[jQ]at h;split at h
  .rename_i z;obtain⟨h1,A,J⟩:=z;split at h
   .rename_i c s hb B;cases h;cases ds with
    |nil=>simp[B2]at o
    |cons d ds=>
     simp only[B2,bi]at o;simp only[ea]at v;have C:k<j.length:=by omega
     have E:(j.drop f.offset).take (P.cellsOf f.type)=[j[k]]:=by
      rw[h1,A,sw C];rfl
     have F:=t 0 (by simp) (by omega);have u:=Og hb o.1 F m;have G:=UC (m:=m) j q (k+1) s ds B o.2 (by omega) (λi hi K=>by
      have:=t (i+1) (by simpa using hi) (by omega);simpa[nl,adS 1 i]using this)
     simp at u;simp[E,u,G]
   .cases h
  .cases h
abbrev adb:=@List.replicate_succ
theorem Pa{n:Nat}{c:CK}:∀{ds:List D},B2 (List.replicate n c) ds=true->ds.length=n/\∀d∈ds,CN c d=true:=by
 induction n with
 |zero=>intro ds h;cases ds<;>simp[B2]at h⊢
 |succ n i=>
  intro ds h;cases ds with
  |nil=>simp[adb,B2]at h
  |cons d ds=>
   simp[adb,B2]at h;obtain⟨h1,j⟩:=i h.2;refine⟨by simp[h1],λx g=>?_⟩;cases g with
   |head=>exact h.1
   |tail _ g=>exact j x g
theorem Nt{α β:Type}(f:α->β)(l:List α):(l.map λd=>[f d]).flatten=l.map f:=by
 induction l with
 |nil=>rfl
 |cons a l g=>simp[g]
theorem mapM_some{α β:Type}(f:α->Option β)(g:α->β)(l:List α)(h:∀a∈l,f a=some (g a)):l.mapM f=some (l.map g):=by
 induction l with
 |nil=>rfl
 |cons a l i=>simp[h a (by simp),i λb hb=>h b (by simp[hb])]
abbrev mp:=@Bool.not_eq_true'
abbrev ad0:=@Bool.and_true
abbrev b9:=@List.getElem_mem
theorem R5{P:b8}{t:ce}{j:List CK}(h:Sy P t=some j):P.keyTypeAt 2 t=true/\P.tiled 2 t=true/\P.eqGuardType P.depth t=false/\(match P.underlying t with|some (.array _ _)|some (.struct _)=>true|_=>false)=true/\∀{I:Nat->Prop} {w:World} {ds:List D} {v:Value},B2 j ds=true->CD I w (.agg ds) v->keyOf P t v=some (.string (keyBytes (ds.map JV))):=by
 unfold Sy at h;split at h
 .rename_i N;simp only[bi,mp]at N;obtain⟨⟨⟨⟨h1,Q⟩,R⟩,S⟩,T⟩:=N;have wK:0<P.types.size:=by simpa using T
  refine⟨Q,R,S,?_⟩;split at h
  .rename_i o u;refine⟨by rw[u],λ{I w ds v} B C=>?_⟩;split at h
   .rename_i E;cases C with
    |agg ds s U C W=>
     have G:∀(k:Nat) (o:List Field) (j:List CK),jQ P k o=some j->j.length=o.length:=by
      intro k o;induction o generalizing k with
      |nil=>intro j h;simp[jQ]at h;subst h;rfl
      |cons f o K=>
       intro j h;simp only[jQ]at h;split at h
       .split at h
        .rename_i c L hb F;cases h;simp[K _ _ F]
        .cases h
       .cases h
     have H:=G 0 o.toList j h;have wZ:=(LS B).1;have z:∀(k:Nat) (o:List Field) (j:List CK),jQ P k o=some j->∀f∈o,(f.name != "_")=true:=by
      intro k o;induction o generalizing k with
      |nil=>intro j _ f J;cases J
      |cons f o K=>
       intro j h g B;simp only[jQ]at h;split at h
       .rename_i J;split at h
        .rename_i c L hb F;cases B with
         |head=>exact J.2.2
         |tail _ B=>exact K _ _ F g B
        .cases h
       .cases h
     have e:=UC (m:=P.types.size - 1) (I:=I) (w:=w) s.toList o.toList 0 j ds h B (by simp at H⊢;omega) (λi hi vo=>by simpa using C i hi);have L4:P.types.size - 1+1=P.types.size:=by omega
     rw[L4]at e;have A:(Value.agg s).cells=s:=rfl;have F:s.toList.length=P.cellsOf t:=by rw[E];simp at H⊢;omega
     unfold keyOf;have q:(Value.agg s).formed P t=true:=by simp[Value.formed,u,E];simp at H;omega
     simp only[u,h1,q,ad0,er,A];unfold Program.keyLits;simp only[u,F];have X:o.all (λf=>f.name != "_")=true:=by
      rw[Array.all_eq_true'];intro f J;exact z 0 o.toList j h f (by simpa using J)
     rw[ap ⟨trivial,X⟩,e];simp[Nt]
   .cases h
  .rename_i n e u;refine⟨by rw[u],λ{I w ds v} B C=>?_⟩;split at h
   .rename_i E;obtain⟨E,M⟩:=E;simp only[wL]at h;obtain⟨c,hb,rfl⟩:=h;obtain⟨H,Y⟩:=Pa B;cases C with
    |agg ds s U C W=>
     have L4:∃m,P.types.size=m+1:=⟨P.types.size - 1,by omega⟩;obtain⟨m,Z⟩:=L4;have F:s.toList.length=P.cellsOf t:=by rw[E];simp;omega
     have q:(Value.agg s).formed P t=true:=by simp[Value.formed,u,E];omega
     unfold keyOf;simp only[u,h1,q,ad0,er,Value.cells];unfold Program.keyLits;simp only[u,F,er];have e:=mapM_some (λi=>P.keyLits P.types.size e ((s.toList.drop (i * P.cellsOf e)).take (P.cellsOf e))) (λi=>[JV (ds.getD i (.bool false))]) (List.range n) (λi hi=>by
      have hi:i<n:=by simpa using hi
      have yi:i<s.toList.length:=by simp;omega
      rw[M,Nat.mul_one,sw yi,Z];have xy:ds.getD i (.bool false)=ds[i]'(by omega):=by simp[List.getD,show i<ds.length by omega]
      rw[xy];exact Og hb (Y _ (b9 _)) (by simpa using C i (by omega)) m)
     rw[e];have:(List.range n).map (λi=>JV (ds.getD i (.bool false)))=ds.map JV:=by
      apply un (by simp[H]);intro i g1 g2;have:i<ds.length:=by simpa using g2
      simp[List.getD,this]
     simp only[acK,Nt,this]
   .cases h
  .cases h
 .cases h
theorem QZ{P:b8}{K:ce}{g:List CK}(h:Sy P K=some g):I0 P K (.cells g):=by
 obtain⟨h1,j,s,k,o⟩:=R5 h;refine⟨Maps.Keyed.of_law (deep_law (m:=2) (by decide) h1 j k),λ{kd I w v} i q=>?_⟩;cases kd<;>simp[B7]at i;exact⟨_,o i q⟩
theorem Si{P:b8}{T:ce}{g:List CK}(h:Sy P T=some g){I:Nat->Prop}{w:World}{as i:List D}{u v:Value}(ha:B2 g as=true)(hb:B2 g i=true)
  (q:CD I w (.agg as) u) (s:CD I w (.agg i) v):(Op.equal T u v).run P w=.ok (Cg as i) w:=by
 obtain⟨h1,A,E,t,j⟩:=R5 h;obtain⟨r,B,k⟩:=run_equal_deep w (m:=2) (by decide) h1 t (j ha q) (j hb s);rw[B];congr 1;have C:keyOf P T u=keyOf P T v->as.map JV=i.map JV:=λe=>by
  have z:=j ha q;have F:=j hb s;obtain⟨G,H,J,K,L⟩:=keyOf_top t z;have o:u=v:=keyOf_inj_deep A t z (by rw[<-e];exact z);have k1:u=QU (.agg as):=JC (kk:=.cells g) ha q;have k2:v=QU (.agg i):=JC (kk:=.cells g) hb s;rw[k1,k2]at o;have:as.map FT=i.map FT:=by simpa[QU]using o
  exact(K7 ha hb).2 this
 have:(r=true↔Cg as i=true):=by
  rw[k,LD ha hb,<-K7 ha hb];constructor
  .intro e;exact C (by rw[j ha q,j hb s,e])
  .intro e;rw[e]
 cases r<;>cases M:Cg as i<;>simp_all
abbrev ads:=@List.find?_eq_some_iff_getElem
abbrev lw:=@List.mem_of_getElem?
abbrev ac9:=@Array.getElem?_eq_some_iff
abbrev acW:=@MapKept.run_getObj_map
abbrev adm:=@Array.getElem?_push_lt
section
variable {P:b8} {n:Nat} {o:Oper} {tm:Tm} {S S':Sg} {v:V}
def DF(es:List (D×V))(k:D):Option V:=(es.find? λp=>De p.1 k).map (·.2)
def Ek(es:List (D×V))(k:D)(x:V):List (D×V):=
 if(DF es k).isSome then es.map λp=>if De p.1 k then(p.1,x)else p else es++[(k,x)]
theorem Vz{T:ce}(g:o.op=.makeMap T none):Cf P n o tm S (.map S.length) (S++[.map []]):=.val λG w a st=>by
 obtain⟨r1,r2,h⟩:=st.rel.add 0 (.map []) (.map #[] 0) (λL=>by
  simp only[OK];exact⟨#[],0,by simpa[Gh.at]using D2,rfl,rfl,λi hi=>by simp at hi⟩)
 refine⟨.map (some w.heap.size),_,_,?_,?_,r1,r2,h⟩
 .simp[execOp,g,Instr.makeMap];rfl
 .exact .map _ _ rfl (by simp) λ_=>by simp[Gh.at]
theorem Xg{G:Gh}{w:World}(R:Rel P G S w){K:ce}{kk:KK}(F:I0 P K kk){r:Nat}{es:List (D×V)}(hr:S[r]?=some (.map es))(vQ:∀p∈es,B7 kk p.1=true)
  {kd:D} {s:Value} (hk:CD G.I w kd s) (hg:B7 kk kd=true):
  ∃g m,w.heap[G.B3 r]?=some (.map g m)/\g.size=es.length/\(∀k em,(Instr.checkKey em 10000 K s).run P k=.ok () k)/\(∀k,(Instr.keyThatStays s s).run P k=.ok s k)/\((DF es kd=none/\(∀e∈g.toList,e.key≠s)/\∀k,(Instr.findKey K s g.toList).run P k=.ok none k)\/∃j e,∃hj:j<es.length,g[j]?=some e/\e.key=s/\DF es kd=some es[j].2/\CV G S w es[j].2 e.val/\(∀k,(Instr.findKey K s g.toList).run P k=.ok (some (j,e.val)) k)/\∀i (h:i<es.length),De es[i].1 kd=true↔i=j):=by
 have vp:=R.DG r _ hr;simp[OK]at vp;obtain⟨g,m,h1,Q,_,h3⟩:=vp;obtain⟨l,T⟩:=F.lit hg hk;have hkv:=JC hg hk;have U:∀i (h:i<es.length),∃e,g[i]?=some e/\e.key=QU es[i].1/\B7 kk es[i].1=true/\CV G S w es[i].2 e.val/\(∃l,keyOf P K e.key=some l)/\∀j f,j<i->g[j]?=some f->f.key≠e.key:=λi hi=>by
  obtain⟨e,t,H,W,e4,X⟩:=h3 i hi;have z:=vQ _ (b9 hi);exact⟨e,t,JC z H,z,W,F.lit z H,λj f hj C=>(X j f hj C).2⟩
 have u:∀e∈g.toList,∃l,keyOf P K e.key=some l:=λe J=>by
  obtain⟨i,hi,rfl⟩:=jp.1 J;have Y:i<es.length:=by rw[<-Q];simpa using hi
  obtain⟨e,t,_,_,_,X,_⟩:=U i Y;have:g.toList[i]=e:=by
   rw[i9 (by omega)]at t;simpa using t
  rw[this];exact X
 refine⟨g,m,h1,Q,λk em=>F.keyed.check k em T,λk=>F.keyed.stays k T,?_⟩;have q:∀i (h:i<es.length) e,g[i]?=some e->(De es[i].1 kd=true↔e.key=s):=λi hi e J=>by
  obtain⟨e',t,H,W,_⟩:=U i hi;rw[J]at t;cases t;rw[X3 W hg,<-H,<-hkv]
 by_cases A:∃j,∃hj:j<es.length,De es[j].1 kd=true
 .obtain⟨j,hj,L⟩:=A;obtain⟨e,t,H,W,e4,X,e6⟩:=U j hj;have E:e.key=s:=(q j hj e t).1 L;have y8:∀i (h:i<es.length),De es[i].1 kd=true↔i=j:=λi hi=>by
   constructor
   .intro yi;obtain⟨f,f1,f2,f3,f4,f5,f6⟩:=U i hi;have M:f.key=s:=(q i hi f f1).1 yi;rcases Nat.lt_trichotomy i j with h|h|h
    .exact absurd (M.trans E.symm) (e6 i f h f1)
    .exact h
    .exact absurd (E.trans M.symm) (f6 j e h t)
   .rintro rfl;exact L
  have B:DF es kd=some es[j].2:=by
   unfold DF;have:es.find? (λp=>De p.1 kd)=some es[j]:=by
    rw[ads];refine⟨L,j,hj,rfl,λi hi=>?_⟩;have:=y8 i (by omega);simp;cases hx:De es[i].1 kd with
    |false=>rfl
    |true=>have:=this.1 hx;omega
   rw[this];rfl
  refine .inr ⟨j,e,hj,t,E,B,e4,λk=>?_,y8⟩;rcases F.keyed.find k T g.toList u with⟨_,N⟩|⟨i,f,Z,N,g3⟩
  .exact absurd E (N e (lw (by simpa using t)))
  .have C:g[i]?=some f:=by simpa using N
   have hi:i<es.length:=by rw[<-Q];exact(ac9.1 C).1
   have:i=j:=(y8 i hi).1 ((q i hi f C).2 g3);subst this;rw[t]at C;cases C;exact Z
 .have vt:∀e∈g.toList,e.key≠s:=λe J E=>by
   obtain⟨i,hi,rfl⟩:=jp.1 J;have Y:i<es.length:=by rw[<-Q];simpa using hi
   exact A ⟨i,Y,(q i Y _ (by rw[i9 (by omega)];simp)).2 E⟩
  refine .inl ⟨?_,vt,λk=>?_⟩
  .unfold DF;have:es.find? (λp=>De p.1 kd)=none:=by
    rw[List.find?_eq_none];intro p hp L;obtain⟨i,hi,rfl⟩:=jp.1 hp;exact A ⟨i,hi,L⟩
   rw[this];rfl
  .rcases F.keyed.find k T g.toList u with⟨Z,_⟩|⟨i,f,Z,N,g3⟩
   .exact Z
   .exact absurd g3 (vt f (lw N))
def Uk(es:List (D×V))(k:D)(z:V)(ok:Bool):V:=
 if ok then .Cb [(DF es k).getD z,.d (.bool (DF es k).isSome)]else(DF es k).getD z
theorem Yl{T K E:ce}{x y:Operand}{ok:Bool}{r:Nat}{es:List (D×V)}{kd:D}{kk:KK}{t e:TI}{z:Value}(B:o.op=.lookup T x y ok)(Q:ti P T=some t)(R:t.kind=.map K E)
  (U:ti P E=some e) (W:e.zero=some z) (F:I0 P K kk) (X:need (ev tm x)) (Y:strip (ev tm x)=.map r) (C:S[r]?=some (.map es)) (Z:∀p∈es,B7 kk p.1=true)
  (hy:need (ev tm y)) (ey:Ba S (strip (ev tm y))=some kd) (hg:B7 kk kd=true):Cf P n o tm S (Uk es kd (OC z) ok) S:=.pure λG w a st=>by
 have h1:=(BV st x).strip X;rw[Y]at h1;have h2:=((BV st y).strip hy).Ba st.rel ey;have g:a.eval x=.map (some (G.B3 r)):=by cases h1 with|map _ _ _ _ h=>exact h (by simp[Bb,C])
 obtain⟨d,H,m⟩:=An Q w;have q:d=.map K E:=by rw[R]at m;cases d<;>simp[tk]at m⊢;exact m
 subst q;obtain⟨J,s,f1,f2,f3,f4,f5⟩:=Xg st.rel F C Z h2 hg;have u:=EH U w W;have k:=acW (P:=P) f1;rcases f5 with⟨L,g2,A⟩|⟨j,M,hj,L,g2,A,N,g5,g6⟩
 .refine⟨if ok then .tuple #[z,.bool false]else z,?_,?_⟩
  .cases ok<;>simp[execOp,B,Instr.lookup,H,g,k,f3,A,u]
  .unfold Uk;rw[L];cases ok
   .exact IJ _ _ _ _
   .refine .Cb _ _ rfl λi hi=>?_;match i,hi with
    |0,_=>exact IJ _ _ _ _
    |1,_=>exact .d _ _ (.bool _)
 .refine⟨if ok then .tuple #[M.val,.bool true]else M.val,?_,?_⟩
  .cases ok<;>simp[execOp,B,Instr.lookup,H,g,k,f3,g5]
  .unfold Uk;rw[A];cases ok
   .exact N
   .refine .Cb _ _ rfl λi hi=>?_;match i,hi with
    |0,_=>exact N
    |1,_=>exact .d _ _ (.bool _)
theorem MJ{T K E:ce}{x y z:Operand}{r:Nat}{es:List (D×V)}{kd:D}{kk:KK}{t:TI}(ho:o.op=.mapUpdate T x y z\/o.op=.insert T x y z)(hT:ti P T=some t)(s:t.kind=.map K E)
  (F:I0 P K kk) (hx:need (ev tm x)) (ex:strip (ev tm x)=.map r) (C:S[r]?=some (.map es)) (vQ:∀p∈es,B7 kk p.1=true)
  (hy:need (ev tm y)) (ey:Ba S (strip (ev tm y))=some kd) (hg:B7 kk kd=true) (hz:need (ev tm z)):Cf P n o tm S .any (S.set r (.map (Ek es kd (strip (ev tm z))))):=.skip λG w a st=>by
 have h1:=(BV st x).strip hx;rw[ex]at h1;have h2:=((BV st y).strip hy).Ba st.rel ey;have h3:=(BV st z).strip hz;have W:a.eval x=.map (some (G.B3 r)):=by cases h1 with|map _ _ _ _ h=>exact h (by simp[Bb,C])
 obtain⟨d,hd,u⟩:=An hT w;have hdE:d=.map K E:=by rw[s]at u;cases d<;>simp[tk]at u⊢;exact u
 subst hdE;have vp:=st.rel.DG r _ C;simp only[OK]at vp;obtain⟨ents0,clock0,q1,q2,qk,q3⟩:=vp;obtain⟨g,m,f1,f2,f3,f4,f5⟩:=Xg st.rel F C vQ h2 hg;rw[f1]at q1;simp only[fd,Obj.map.injEq]at q1;obtain⟨rfl,rfl⟩:=q1;have X:=acW (P:=P) f1;have Y:=λo'=>MapKept.run_setObj_map (P:=P) o' f1;have wi:=AZ C;have Df:∀o':O,(S.set r o')[r]?=some o':=λo'=>by simp[wi]
 have wj:(execOp a.eval o).run P w=((Instr.mapUpdate T (a.eval x) (a.eval y) (a.eval z)).run P w).andThen λ_ w'=>.ok .skip w':=by
  rcases ho with ho|ho<;>simp[execOp,ho]
 rcases f5 with⟨Z,R,g3⟩|⟨j,e',hj,Z,R,g3,g4,g5,g6⟩
 .have wY:Ek es kd (strip (ev tm z))=es++[(kd,strip (ev tm z))]:=by simp[Ek,Z]
  rw[wY];obtain⟨r1,r2,r3⟩:=st.rel.update (o':=.map (es++[(kd,strip (ev tm z))])) (H:=.map (g.push {key:=a.eval y,val:=a.eval z,born:=m}) (m+1)) C rfl rfl
   (λn' wg=>by simp[lenOf,Df]at wg) (λ_=>by simp[Bb,C]) (λL=>by
    simp only[OK];refine⟨_,_,GP (FG f1),by simp[f2],by simp[qk],λi hi=>?_⟩;by_cases U:i<es.length
    .obtain⟨e,J,e2,e3,e4,e5⟩:=q3 i U;refine⟨e,by rw[adm (by omega),<-J,i9 (by omega)],?_,?_,e4,λj f hj q=>e5 j f hj ?_⟩
     .rw[lg U];exact e2.mono L.I L.Dz
     .rw[lg U];exact e3.later L
     .rw[adm (by omega)]at q;rw[<-q,i9 (by omega)]
    .have hie:i=es.length:=by simp at hi;omega
     subst hie;refine⟨⟨a.eval y,a.eval z,m⟩,by rw[<-f2];simp,?_,?_,qk,λj f hj q=>?_⟩
     .simpa using h2.mono L.I L.Dz
     .simpa using h3.later L
     .rw[adm (by omega)]at q;simp only[fd]at q;obtain⟨e,J,e2,e3,e4,e5⟩:=q3 j (by omega);rw[i9 (by omega)]at J;simp only[fd]at J;have hfe:f=e:=by rw[<-q,<-J]
      subst hfe;exact⟨by simp only;omega,R f (by rw[<-q];simp)⟩)
  refine⟨G,_,?_,r1,r2,r3⟩;rw[wj];simp[Instr.mapUpdate,hd,W,X,f3,g3,Y];rfl
 .have wY:Ek es kd (strip (ev tm z))=es.map λp=>if De p.1 kd then(p.1,strip (ev tm z))else p:=by simp[Ek,g3]
  rw[wY];have hjs:j<g.size:=by omega
  have hej:g[j]=e':=by rw[i9 hjs]at Z;simpa using Z
  obtain⟨r1,r2,r3⟩:=st.rel.update (o':=.map (es.map λp=>if De p.1 kd then(p.1,strip (ev tm z))else p)) (H:=.map (g.modify j λe=>{e with key:=a.eval y,val:=a.eval z}) m) C rfl rfl
   (λn' wg=>by simp[lenOf,Df]at wg) (λ_=>by simp[Bb,C]) (λL=>by
    simp only[OK];refine⟨_,_,GP (FG f1),by simp[f2],by simpa using qk,λi hi=>?_⟩;have U:i<es.length:=by simpa using hi
    obtain⟨e,J,e2,e3,e4,e5⟩:=q3 i U;have vN:∀k (h:k<g.size),(g.modify j λe=>{e with key:=a.eval y,val:=a.eval z})[k]?=some (if j=k then {g[k]with key:=a.eval y,val:=a.eval z}else g[k]):=λk s=>by
     rw[Array.getElem?_modify,i9 s];by_cases A:j=k<;>simp[A]
    have B:g[i]'(by omega)=e:=by rw[i9 (by omega)]at J;simpa using J
    have M:∀k f,k<i->(g.modify j λe=>{e with key:=a.eval y,val:=a.eval z})[k]?=some f->∃N,g[k]?=some N/\f.born=N.born/\f.key=N.key:=λk f s q=>by
     have hks:k<g.size:=by omega
     rw[vN k hks]at q;simp only[fd]at q;refine⟨g[k],i9 hks,?_⟩;by_cases A:j=k
     .subst A;simp only[er]at q;rw[<-q];exact⟨rfl,by rw[hej];exact R.symm⟩
     .rw[ao A]at q;rw[<-q];exact⟨rfl,rfl⟩
    by_cases Q:j=i
    .subst Q;have u:De es[j].1 kd=true:=(g6 j hj).2 rfl;have hee:e=e':=by rw[<-B,hej]
     subst hee;refine⟨_,(vN j hjs).trans (by rw[ap rfl]),?_,?_,?_,λk f s q=>?_⟩
     .simp only[kt,u,er];have h0:=e2.mono L.I L.Dz;rw[R]at h0;exact h0
     .simp only[kt,u,er];exact h3.later L
     .simp only[B];exact e4
     .obtain⟨N,k1,k2,k3⟩:=M k f s q;obtain⟨b1,b2⟩:=e5 k N s k1;simp only[B];rw[k2,k3];exact⟨b1,by rw[<-R];exact b2⟩
    .have u:De es[i].1 kd=false:=by
      cases hx:De es[i].1 kd with
      |false=>rfl
      |true=>exact absurd ((g6 i U).1 hx).symm Q
     refine⟨e,by rw[vN i (by omega),ao Q,B],?_,?_,e4,λk f s q=>?_⟩
     .simp only[kt,u,lh,fc];exact e2.mono L.I L.Dz
     .simp only[kt,u,lh,fc];exact e3.later L
     .obtain⟨N,k1,k2,k3⟩:=M k f s q;rw[k2,k3];exact e5 k N s k1)
  refine⟨G,_,?_,r1,r2,r3⟩;rw[wj];have xq:(g[j]?.map (·.key)).getD (a.eval y)=a.eval y:=by simp[Z,R]
  have hkts:=f4 w;simp only[Instr.mapUpdate,gI,hd,W,X,f3,g5,ge,xq,hkts,Y];rfl
theorem PH{neg:Bool}{T U:ce}{x y:Operand}{as h:List D}{g:List CK}(q:o.op=.binOp (if neg then .neq else .eql) T x y U)(m:Sy P T=some g)(s:need (ev tm x))(t:need (ev tm y))
  (u:Ba S (strip (ev tm x))=some (.agg as)) (z:Ba S (strip (ev tm y))=some (.agg h)) (ha:B2 g as=true) (hb:B2 g h=true):
  Cf P n o tm S (.d (.bool (Cg as h !=neg))) S:=.pure λG w a st=>by
 have h1:=((BV st x).strip s).Ba st.rel u;have i:=((BV st y).strip t).Ba st.rel z;have j:=Si m ha hb h1 i;obtain⟨_,_,A,_,_⟩:=R5 m;refine⟨.bool (Cg as h !=neg),?_,.d _ _ (.bool _)⟩;generalize B:a.eval x=X at h1 j;generalize C:a.eval y=Y at i j;cases h1 with
 |agg _ E F H J=>
  cases i with
  |agg _ K L M k=>
   cases neg<;>simp[execOp,q,B,C,run_eqGuard_agg,A,binOp,j]
end
section
variable {P:b8} {n:Nat} {o:Oper} {tm:Tm} {S S':Sg} {v:V}
theorem OH{T E:ce}{x y:Operand}{len:Nat}{k:IntKind}{i:Int}{t e:TI}(K:o.op=.indexAddr T x y)(L:need (ev tm x))(M:need (ev tm y))(N:ti P T=some t)(g:t.kind=.array len E)
  (Q:ti P E=some e) (R:strip (ev tm y)=.d (.int k i)) (h0:0<=i) (h1:i<len) (q:GU S (strip (ev tm x))):Cf P n o tm S (sD (i.toNat * e.size) (strip (ev tm x))) S:=.pure λG w a st=>by
 have s:=(BV st x).strip L;have hi:=CE st M R;generalize strip (ev tm x)=X at *;obtain⟨d,U,z⟩:=An N w;have A:d=.array len E:=by rw[g]at z;cases d<;>simp[tk]at z⊢;exact z
 subst A;have F:∀b k,a.eval x=.pointer (some ⟨b,k,none⟩)->(execOp a.eval o).run P w=.ok (.value (.pointer (some ⟨b,k+i.toNat * e.size,none⟩))) w:=λb k g=>by
  simp[execOp,K,g,hi,Instr.indexAt,asIntOf,U,Instr.sureAddr,Gf];rw[ap ⟨h0,h1⟩];simp[Bi Q]
 unfold GU at q;split at q
 .rename_i r m i' j;split at q
  .rename_i wr sz W B;obtain⟨Y,hi⟩:=q;have H:=s.Ka B Y;obtain⟨b,k,g⟩:=Ph st.rel B hi;rw[g]at H;refine⟨_,F _ _ H,?_⟩;cases s with
   |ptr _ _ _ _ _ s Z h4=>
    refine .ptr _ _ _ _ _ rfl Z λm' wO=>⟨(h4 m' wO).1,λe C u=>?_⟩;have:C=sz:=by simpa[C0,B]using u.symm
    subst this;rw[<-nl,g];simp[nl]
  .exact q.elim
 .rename_i J;generalize hX:a.eval x=X at s;cases s with
  |DX J b k vs hI h=>
   refine⟨_,F _ _ hX,?_⟩;refine .DX _ _ _ (λj=>vs (i.toNat * e.size+j)) hI λj hj=>?_;have xe:i.toNat * e.size+j<J.length:=by simp at hj;omega
   have:=h (i.toNat * e.size+j) xe;simpa[nl]using this
 .exact q.elim
theorem nil_eq{neg:Bool}{T E U:ce}{x:Operand}{xs:List D}{t:TI}(q:o.op=.binOp (if neg then .neq else .eql) T x (.const (.slice none 0 0)) U)(s:ti P T=some t)(u:t.kind=.slice E)
  (z:need (ev tm x)) (g:strip (ev tm x)=.d (.sl xs)\/strip (ev tm x)=.full xs) {G:Gh} {w:World} {a:Act} (st:St P n G S w a tm):
  ∃b:Bool,(xs≠[]->b=false)/\(execOp a.eval o).run P w=.ok (.value (.bool (b !=neg))) w:=by
 have h1:=(BV st x).strip z;have A:∃b len cap,a.eval x=.slice b len cap/\(xs≠[]->b.isNone=false):=by
  have key:∀v,CD G.I w (.sl xs) v->∃b len cap,v=.slice b len cap/\(xs≠[]->b.isNone=false):=λv h=>by
   cases h with
   |nil b c=>exact⟨b,0,c,rfl,λh=>absurd rfl h⟩
   |sl sz xs b off cap J K L m h1 M=>exact⟨_,_,_,rfl,λ_=>rfl⟩
  generalize a.eval x=X at h1;rcases g with g|g<;>rw[g]at h1
  .cases h1 with|d _ _ h=>exact key _ h
  .cases h1 with|full _ b h=>exact key _ h
 obtain⟨b,len,cap,B,C⟩:=A;obtain⟨i,d,N,F,_,_,_,j⟩:=I4 s;have k:d=.slice E:=by rw[u]at j;cases d<;>simp[tk]at j⊢;exact j
 subst k;have H:=run_equal_slice_nil w T E b len cap F;have m:a.eval (.const (.slice none 0 0))=.slice none 0 0:=rfl;refine⟨b.isNone,C,?_⟩;cases neg<;>simp[execOp,q,B,m,eqGuard,binOp,H]
end
def FP(tm:Tm)(d:Nat)(v:V):Tm:=λk=>if k=d then v else tm k
@[simp] theorem sO(tm:Tm)(d:Nat)(v:V):FP tm d v d=v:=by simp[FP]
@[simp] theorem tR(tm:Tm)(d k:Nat)(v:V)(h:k≠d):FP tm d v k=tm k:=by simp[FP,h]
def put(tm:Tm)(d:Option Tmp)(v:V):Tm:=
 match d with
 |some d=>FP tm d v
 |none=>tm
def E3(l:List V):Tm:=λk=>l.getD k .any
@[simp] theorem qh(v:V)(l:List V):E3 (v::l) 0=v:=rfl
@[simp] theorem qX(v:V)(l:List V)(k:Nat):E3 (v::l) (k+1)=E3 l k:=rfl
@[simp] theorem sN(k:Nat):E3 [] k=.any:=rfl
def BA(n:Nat)(d:Option Tmp):Prop:=match d with|some d=>d<n|none=>True
theorem pV.put{G:Gh}{S:Sg}{w:World}{n:Nat}{a:Act}{tm:Tm}{d:Option Tmp}{v:V}{cv:bn}(h:pV G S w a.tmps tm)(hn:a.tmps.size=n)(g:BA n d)(i:CV G S w v cv):
  pV G S w (a.put d cv).tmps (put tm d v):=by
 cases d with
 |none=>exact h
 |some d=>
  intro k;simp only[Koi.put,Koi.FP,Act.put];have j:d<a.tmps.size:=tv g (ad3 hn.symm);by_cases e:k=d
  .subst e;simp only[er];rw[pi,ac0 j];exact i
  .rw[ao e,pi,abV (le e),<-pi];exact h k
theorem ca{a:Act}{d:Option Tmp}{cv:bn}:(a.put d cv).tmps.size=a.tmps.size:=by cases d<;>simp[Act.put]
theorem B8{a:Act}{d:Option Tmp}{cv:bn}:(a.put d cv).defers=a.defers:=by cases d<;>rfl
theorem St.put{P:b8}{n:Nat}{G:Gh}{S:Sg}{w:World}{a:Act}{tm:Tm}(st:St P n G S w a tm){d:Option Tmp}(h:BA n d){v:V}{cv:bn}{g:Gh}{S':Sg}{w':World}
  (i:CV g S' w' v cv) (R:Rel P g S' w') (L:BL G S w g S' w'):St P n g S' w' (a.put d cv) (put tm d v):=
 ⟨by rw[ca];exact st.size,(st.tm.later L).put st.size h i,R⟩
def CW(ops:Array Oper)(tm:Tm)(j:Nat)(h:Bool):Option Bool:=
 match (ops[j]?).bind (·.dst)with
 |some d=>match tm d with
  |.d (.bool b)=>some (b==h)
  |.opt g (.d (.bool b))=>some (g&&(b==h))
  |_=>none
 |none=>none
abbrev adx:=@Option.bind_some
abbrev yB:=@Bool.false_and
theorem RM{P:b8}{n:Nat}{G:Gh}{S:Sg}{w:World}{a:Act}{tm:Tm}(st:St P n G S w a tm){ops:Array Oper}{o:Oper}{j:Nat}{i g:Bool}(t:o.guard=some (j,i))
  (h:CW ops tm j i=some g):Region.wanted o (yielded ops a.tmps)=g:=by
 unfold CW at h;unfold Region.wanted yielded;rw[t];simp[];cases s:(ops[j]?).bind (·.dst)with
 |none=>rw[s]at h;cases h
 |some d=>
  rw[s]at h;simp at h⊢;have m:=st.tm d;have key:∀v:bn,a.tmps.getD d undef=v->v≠undef->a.tmps[d]?=some v:=λv q u=>by
   rw[pi]at q;cases k:a.tmps[d]? with
   |none=>rw[k]at q;exact absurd q.symm u
   |some x=>rw[k]at q;simpa using q
  split at h
  .rename_i b hb;rw[hb]at m;have:=m.bool;rw[key _ this (by simp[undef])];simp at h;subst h;cases b<;>cases i<;>rfl
  .rename_i z b hb;rw[hb]at m;simp at h;subst h;generalize k:a.tmps.getD d undef=X at m;cases m with
   |opt _ _ _ h1 A=>
    cases z with
    |true=>
     have:=(h1 rfl).bool;subst this;rw[key _ k (by simp[undef])];cases b<;>cases i<;>rfl
    |false=>
     have:=A rfl;subst this;simp only[yB];rw[pi]at k;cases B:a.tmps[d]? with
     |none=>rfl
     |some y=>rw[B]at k;simp at k;subst k;rfl
  .cases h
def tM(op:Op):Bool:=
 match op with
 |.box ..|.alloc _|.store ..|.makeSlice ..|.makeMap ..|.mapUpdate ..|.insert ..=>false
 |.call c=>match c.callee with|.builtin .append=>false|.builtin _=>true|_=>false
 |_=>true
def EX(P:b8)(T:ce):Option (Nat×ce):=match ti P T with|some t=>(match t.kind with|.array n e=>some (n,e)|_=>none)|none=>none
def Jj(P:b8)(T:ce):Option (ce×ce):=match ti P T with|some t=>(match t.kind with|.map k e=>some (k,e)|_=>none)|none=>none
def QM(P:b8)(T:ce):Option KK:=
 match P.underlying T with
 |some (.int q)=>some (.one (.int q))
 |some .string=>some (.one .str)
 |_=>(Sy P T).map .cells
theorem Qm{P:b8}{T:ce}{p:Nat×ce}(h:EX P T=some p):∃t,ti P T=some t/\t.kind=.array p.1 p.2:=by
 unfold EX at h;split at h
 .rename_i t g;split at h
  .rename_i n e i;cases h;exact⟨t,g,i⟩
  .cases h
 .cases h
theorem IV{P:b8}{T:ce}{p:ce×ce}(h:Jj P T=some p):∃t,ti P T=some t/\t.kind=.map p.1 p.2:=by
 unfold Jj at h;split at h
 .rename_i t g;split at h
  .rename_i n e i;cases h;exact⟨t,g,i⟩
  .cases h
 .cases h
theorem O0{P:b8}{T:ce}{kk:KK}(h:QM P T=some kk):I0 P T kk:=by
 unfold QM at h;split at h
 .rename_i q g;cases h;exact TR g
 .rename_i g;cases h;exact UX g
 .simp at h;obtain⟨c,h1,rfl⟩:=h;exact QZ h1
def Fg(c:Call):Operand:=(c.args.toList.drop 1).headD (.const undef)
def Pn(c:Call):Operand:=(c.args.toList.drop 2).headD (.const undef)
def cT(c:Call):ce:=(c.argTypes.toList.drop 1).headD 0
def Dm(S:Sg)(x:V):Option (List D):=match Ba S x with|some (.agg ds)=>some ds|_=>none
def Sq(x y:V):Bool:=At x&&At y
def mapOf(S:Sg)(x:V):Option (List (D×V)):=match x with|.map r=>(match S[r]? with|some (.map g)=>some g|_=>none)|_=>none
def dF(x:V):Nat:=match x with|.map r=>r|_=>0
def Bj(kk:KK):List (D×V)->Prop
 |[]=>True
 |p::g=>B7 kk p.1=true/\Bj kk g
theorem HB{kk:KK}:∀{i:List (D×V)},Bj kk i->∀p∈i,B7 kk p.1=true
 |q::j,h,p,g=>by
  cases g with
  |head=>exact h.1
  |tail _ g=>exact HB h.2 p g
theorem Nu{kk:KK}:∀{g:List (D×V)},(∀p∈g,B7 kk p.1=true)->Bj kk g
 |[],_=>trivial
 |q::j,h=>⟨h q (by simp),Nu λp i=>h p (by simp[i])⟩
def oM(max:Bool)(x y:V):V:=
 match x,y with
 |.d (.int k i),.d (.int _ j)=>.d (.int k (if max then(if j>i then j else i)else(if j<i then j else i)))
 |_,_=>.any
def mY(x y:V):Prop:=
 match x,y with
 |.d (.int k _),.d (.int g _)=>k=g
 |_,_=>False
def nf(P:b8)(T:ce)(x:V)(l h:Int)(_ i:Option Operand):Prop:=
 match x with
 |.d (.str s)=>My P T=true/\i=none/\0<=l/\l<=h/\h<=s.size
 |.d (.sl g)|.full g=>0<=l/\l<=h/\h<=g.length/\(match As P T with
  |some E=>(match Aq P E with|some s=>l.toNat=0\/l.toNat=h.toNat\/((BN (g.getD l.toNat (.bool false))).length=s/\CZ.oneD (g.getD l.toNat (.bool false))=true)|none=>False)
  |none=>False)
 |_=>False
def oK(tm:Tm)(x:V)(hi:Option Operand):Int:=
 match hi with
 |some y=>HS (strip (ev tm y))
 |none=>match x with
  |.d (.str s)=>s.size
  |.d (.sl g)=>g.length
  |.full g=>g.length
  |_=>0
def F0(P:b8)(op:Op)(tm:Tm)(S:Sg):V:=
 match op with
 |.binOp b T x y U=>if Sq (strip (ev tm x)) (strip (ev tm y))then
   (match Dm S (strip (ev tm x)),Dm S (strip (ev tm y))with
   |some as,some g=>(match b with|.eql=>.d (.bool (Cg as g))|.neq=>.d (.bool (!Cg as g))|_=>.any)
   |_,_=>.any)
  else HO P (.binOp b T x y U) tm S
 |.slice _ x lo hi h=>sm (strip (ev tm x)) (HS (EN tm lo)).toNat (oK tm (strip (ev tm x)) hi).toNat h.isSome
 |.index _ x y=>match strip (ev tm x)with
  |.d (.str s)=>.d (.int .u8 (s.get! (HS (strip (ev tm y))).toNat).toNat)
  |_=>.any
 |.indexAddr T x y=>match EX P T with
  |some p=>sD ((HS (strip (ev tm y))).toNat * (Aq P p.2).getD 0) (strip (ev tm x))
  |none=>HO P (.indexAddr T x y) tm S
 |.lookup T x y ok=>match Jj P T,mapOf S (strip (ev tm x)),Ba S (strip (ev tm y))with
  |some p,some i,some k=>Uk i k ((Ax P p.2).getD .any) ok
  |_,_,_=>.any
 |.call c=>match c.callee with
  |.builtin .min=>if c.args.size=2 then oM false (strip (ev tm (ES c))) (strip (ev tm (Fg c)))
    else oM false (oM false (strip (ev tm (ES c))) (strip (ev tm (Fg c)))) (strip (ev tm (Pn c)))
  |.builtin .max=>if c.args.size=2 then oM true (strip (ev tm (ES c))) (strip (ev tm (Fg c)))
    else oM true (oM true (strip (ev tm (ES c))) (strip (ev tm (Fg c)))) (strip (ev tm (Pn c)))
  |.builtin .cap=>oZ (strip (ev tm (ES c)))
  |_=>HO P (.call c) tm S
 |op=>HO P op tm S
def GA(P:b8)(op:Op)(tm:Tm)(S:Sg):Prop:=
 match op with
 |.binOp b T x y U=>if Sq (strip (ev tm x)) (strip (ev tm y))then
   need (ev tm x)/\need (ev tm y)/\(match Dm S (strip (ev tm x)),Dm S (strip (ev tm y)),Sy P T with
   |some as,some j,some g=>B2 g as=true/\B2 g j=true/\(match b with|.eql|.neq=>True|_=>False)
   |_,_,_=>False)
  else Hi P (.binOp b T x y U) tm S
 |.slice T x lo hi h=>need (ev tm x)/\Fa tm lo/\Fa tm hi/\Fa tm h/\HX (EN tm lo)/\(match hi with|some _=>HX (EN tm hi)|none=>True)/\(match h with|some _=>hi.isSome=true/\EN tm h=EN tm hi|none=>True)/\nf P T (strip (ev tm x)) (HS (EN tm lo)) (oK tm (strip (ev tm x)) hi) hi h
 |.index T x y=>need (ev tm x)/\need (ev tm y)/\HX (strip (ev tm y))/\My P T=true/\(match strip (ev tm x)with
  |.d (.str s)=>0<=HS (strip (ev tm y))/\HS (strip (ev tm y))<s.size
  |_=>False)
 |.indexAddr T x y=>match EX P T with
  |some p=>need (ev tm x)/\need (ev tm y)/\HX (strip (ev tm y))/\0<=HS (strip (ev tm y))/\HS (strip (ev tm y))<p.1/\(Aq P p.2).isSome=true/\GU S (strip (ev tm x))
  |none=>Hi P (.indexAddr T x y) tm S
 |.lookup T x y _=>need (ev tm x)/\need (ev tm y)/\(match Jj P T,mapOf S (strip (ev tm x)),Ba S (strip (ev tm y))with
  |some p,some m,some k=>(Ax P p.2).isSome=true/\(match QM P p.1 with|some i=>Bj i m/\B7 i k=true|none=>False)
  |_,_,_=>False)
 |.call c=>match c.callee with
  |.builtin .min=>if c.args.size=2 then c.args=#[ES c,Fg c]/\need (ev tm (ES c))/\need (ev tm (Fg c))/\mY (strip (ev tm (ES c))) (strip (ev tm (Fg c)))
    else c.args=#[ES c,Fg c,Pn c]/\need (ev tm (ES c))/\need (ev tm (Fg c))/\need (ev tm (Pn c))/\mY (strip (ev tm (ES c))) (strip (ev tm (Fg c)))/\mY (strip (ev tm (ES c))) (strip (ev tm (Pn c)))
  |.builtin .max=>if c.args.size=2 then c.args=#[ES c,Fg c]/\need (ev tm (ES c))/\need (ev tm (Fg c))/\mY (strip (ev tm (ES c))) (strip (ev tm (Fg c)))
    else c.args=#[ES c,Fg c,Pn c]/\need (ev tm (ES c))/\need (ev tm (Fg c))/\need (ev tm (Pn c))/\mY (strip (ev tm (ES c))) (strip (ev tm (Fg c)))/\mY (strip (ev tm (ES c))) (strip (ev tm (Pn c)))
  |.builtin .cap=>c.args=#[ES c]/\c.argTypes=#[N5 c]/\need (ev tm (ES c))/\(As P (N5 c)).isSome=true/\(match strip (ev tm (ES c))with|.full _=>True|_=>False)
  |_=>Hi P (.call c) tm S
 |op=>Hi P op tm S
def qH(P:b8)(g xT:ce)(S:Sg)(x y:V):Prop:=
 match As P g with
 |some E=>(As P xT).isSome=true/\(match Aq P E,Ax P E,Am P E with
  |some s,some z,some b=>(Ai z).length=s/\(At z||Bw z)=true/\b<=65536/\(match IC S y with|some h=>VF S s x h|none=>False)
  |_,_,_=>False)
 |none=>False
def Kp(P:b8)(g:ce):Nat:=((As P g).bind λE=>Aq P E).getD 0
def Bd(P:b8)(op:Op)(tm:Tm)(S:Sg):Prop:=
 match op with
 |.box _ x=>need (ev tm x)/\(At (strip (ev tm x))||Bw (strip (ev tm x)))=true
 |.alloc T=>match Ax P T with|some z=>(At z||Bw z)=true|none=>False
 |.store T x y=>need (ev tm x)/\need (ev tm y)/\(match Aq P T with
   |some s=>JA S (strip (ev tm x)) (λm _ i j sz g=>m=true/\j+s<=sz/\(At (g.getD i .any)||!At (strip (ev tm y)))=true)/\(At (strip (ev tm y))||Bw (strip (ev tm y)))=true/\(Ai (strip (ev tm y))).length=s
   |none=>False)
 |.makeSlice T x y=>need (ev tm x)/\need (ev tm y)/\HX (strip (ev tm x))/\HX (strip (ev tm y))/\HS (strip (ev tm x))=HS (strip (ev tm y))/\0<=HS (strip (ev tm x))/\HS (strip (ev tm x))<=1073741824/\(match As P T with
   |some E=>(match Aq P E,Ax P E,Am P E with|some s,some z,some b=>(Ai z).length=s/\(At z||Bw z)=true/\b<=65536|_,_,_=>False)
   |none=>False)
 |.makeMap _ r=>r=none
 |.mapUpdate T x y z|.insert T x y z=>need (ev tm x)/\need (ev tm y)/\need (ev tm z)/\(match Jj P T,mapOf S (strip (ev tm x)),Ba S (strip (ev tm y))with
  |some p,some o,some k=>(match QM P p.1 with|some h=>Bj h o/\B7 h k=true|none=>False)
  |_,_,_=>False)
 |.call c=>match c.callee with
  |.builtin .append=>c.args=#[ES c,Fg c]/\c.argTypes=#[N5 c,cT c]/\need (ev tm (ES c))/\need (ev tm (Fg c))/\qH P (N5 c) (cT c) S (strip (ev tm (ES c))) (strip (ev tm (Fg c)))
  |_=>GA P (.call c) tm S
 |op=>GA P op tm S
def Bh(P:b8)(op:Op)(tm:Tm)(S:Sg):V:=
 match op with
 |.box ..=>.ptr S.length 1 0 0
 |.alloc _=>.ptr S.length 1 0 0
 |.store ..=>.any
 |.makeSlice _ x _=>.row S.length (HS (strip (ev tm x))).toNat
 |.makeMap ..=>.map S.length
 |.mapUpdate ..=>.any
 |.insert ..=>.any
 |.call c=>match c.callee with
  |.builtin .append=>Uq S (strip (ev tm (ES c))) ((IC S (strip (ev tm (Fg c)))).getD [])
  |_=>F0 P (.call c) tm S
 |op=>F0 P op tm S
def DC(P:b8)(op:Op)(tm:Tm)(S:Sg):Sg:=
 match op with
 |.box _ x=>fj S (strip (ev tm x))
 |.alloc T=>match Ax P T with|some z=>fj S z|none=>S
 |.store _ x y=>mT S (strip (ev tm x)) (strip (ev tm y))
 |.makeSlice T x _=>S++[.row true (Kp P T) (List.replicate (HS (strip (ev tm x))).toNat ((((As P T).bind λE=>Ax P E)).getD .any))]
 |.makeMap ..=>S++[.map []]
 |.mapUpdate _ x y z=>S.set (dF (strip (ev tm x))) (.map (Ek ((mapOf S (strip (ev tm x))).getD []) ((Ba S (strip (ev tm y))).getD (.bool false)) (strip (ev tm z))))
 |.insert _ x y z=>S.set (dF (strip (ev tm x))) (.map (Ek ((mapOf S (strip (ev tm x))).getD []) ((Ba S (strip (ev tm y))).getD (.bool false)) (strip (ev tm z))))
 |.call c=>match c.callee with
  |.builtin .append=>II S (Kp P (N5 c)) (strip (ev tm (ES c))) ((IC S (strip (ev tm (Fg c)))).getD [])
  |_=>S
 |_=>S
abbrev ww:=@Array.getElem_append_left
abbrev Hh:=@Array.getElem_append_right
abbrev adn:=@Array.getElem_map
abbrev adV:=@Array.size_map
abbrev acO:=@beq_eq_false_iff_ne
abbrev xj:=@List.range'_succ
abbrev vj:=@wpOps_cons
abbrev R3:=@wp_region
abbrev In:=@List.range_eq_range'
section
variable {P:b8} {n b:Nat} {o:Oper} {tm:Tm} {S S':Sg} {v:V} {ops:Array Oper} {K:Tm->Sg->Prop}
theorem HK{x:V}(h:HX x):∃k,x=.d (.int k (HS x)):=by
 unfold HX at h;split at h
 .exact⟨_,rfl⟩
 .exact h.elim
theorem Jp{T:ce}{b:Nat}(h:Am P T=some b):∃t,ti P T=some t/\t.bytes=b:=by
 simpa[Am,wL]using h
theorem pM(h:GA P o.op tm S):Cf P n o tm S (F0 P o.op tm S) S:=by
 generalize H:o.op=op at h;have hv:Hi P op tm S->Cf P n o tm S (HO P op tm S) S:=λh=>by subst H;exact pv h
 cases op<;>try exact hv h
 case binOp b T x y U=>
  simp[GA]at h;simp[F0];split at h
  .rename_i hb;rw[ap hb];obtain⟨h1,A,g⟩:=h;split at g
   .rename_i as bs cks ha hb J;rw[ha,hb];have ga:Ba S (strip (ev tm x))=some (.agg as):=by unfold Dm at ha;split at ha<;>simp_all
    have gb:Ba S (strip (ev tm y))=some (.agg bs):=by unfold Dm at hb;split at hb<;>simp_all
    obtain⟨g,m,F⟩:=g;cases b<;>simp only at F⊢
    .have:=PH (neg:=false) (n:=n) (by simpa using H) J h1 A ga gb g m;simpa using this
    .have:=PH (neg:=true) (n:=n) (by simpa using H) J h1 A ga gb g m;simpa using this
   .exact g.elim
  .rename_i hb;rw[ao hb];exact hv h
 case slice T x lo hi mx=>
  simp[GA]at h;simp[F0];obtain⟨h1,A,g,m,F,R,h7,Q⟩:=h;obtain⟨kl,hl⟩:=HK F;generalize hL:HS (EN tm lo)=L at *;generalize hH:oK tm (strip (ev tm x)) hi=M at *;have eh':hi≠none->∃N,EN tm hi=.d (.int N M):=λY=>by
   cases hi with
   |none=>exact absurd rfl Y
   |some y=>
    obtain⟨N,hh⟩:=HK R;refine⟨N,?_⟩;rw[hh,<-hH];rfl
  obtain⟨N,eh⟩:∃N,hi≠none->EN tm hi=.d (.int N M):=by
   by_cases Y:hi=none
   .exact⟨.i64,λh=>absurd Y h⟩
   .obtain⟨N,h⟩:=eh' Y;exact⟨N,λ_=>h⟩
  have em:mx≠none->hi≠none/\EN tm mx=.d (.int N M):=λY=>by
   cases mx with
   |none=>exact absurd rfl Y
   |some q=>
    obtain⟨g1,g2⟩:=h7;have:hi≠none:=by intro e;subst e;simp at g1
    exact⟨this,by rw[g2,eh this]⟩
  have fin:∀G:List D,(strip (ev tm x)=.d (.sl G)\/strip (ev tm x)=.full G)->(hi=none->M=G.length)->(0<=L/\L<=M/\M<=G.length/\(match As P T with
    |some E=>(match Aq P E with|some s=>L.toNat=0\/L.toNat=M.toNat\/((BN (G.getD L.toNat (.bool false))).length=s/\CZ.oneD (G.getD L.toNat (.bool false))=true)|none=>False)
    |none=>False))->Cf P n o tm S (if mx.isSome then .full ((G.take M.toNat).drop L.toNat)else .d (.sl ((G.take M.toNat).drop L.toNat))) S:=λG ex hlen Q=>by
   obtain⟨g0,g1,g2,W⟩:=Q;split at W
   .rename_i E hE;split at W
    .rename_i s hs;obtain⟨t,w,B⟩:=BJ hE;obtain⟨e,f1,f2,_⟩:=CM hs;subst f2;exact U9 H h1 ex w B f1 A hl g hlen eh m em g0 g1 g2 W
    .exact W.elim
   .exact W.elim
  unfold nf at Q;split at Q
  .rename_i s C;rw[C];obtain⟨g1,rfl,g2,W,g4⟩:=Q;exact UJ H h1 C (Jz g1) A hl g (λe=>by subst e;rw[<-hH,C];rfl) eh g2 W g4
  .rename_i G C;rw[C];exact fin G (.inl C) (λe=>by subst e;rw[<-hH,C];rfl) Q
  .rename_i G C;rw[C];exact fin G (.inr C) (λe=>by subst e;rw[<-hH,C];rfl) Q
  .exact Q.elim
 case index T x y=>
  simp[GA]at h;simp[F0];obtain⟨h1,A,g,m,F⟩:=h;split at F
  .rename_i s C;obtain⟨k,hk⟩:=HK g;obtain⟨t,w,B⟩:=Jz m;exact eE H h1 A C hk w B F.1 F.2
  .exact F.elim
 case indexAddr T x y=>
  simp[GA]at h;simp[F0];split at h
  .rename_i p hp;obtain⟨h1,A,g,m,F,R,h7⟩:=h;obtain⟨t,w,B⟩:=Qm hp;obtain⟨s,hs⟩:=jw.1 R;obtain⟨e,f1,f2,_⟩:=CM hs;obtain⟨k,hk⟩:=HK g;rw[hs];subst f2;exact OH H h1 A w B f1 hk m F h7
  .exact hv h
 case lookup T x y ok=>
  simp[GA]at h;simp[F0];obtain⟨h1,A,g⟩:=h;split at g
  .rename_i p es k hp Z hk;obtain⟨g,m⟩:=g;split at m
   .rename_i kk hkk;obtain⟨t,w,B⟩:=IV hp;obtain⟨z,hz⟩:=jw.1 g;obtain⟨t',u,f1,f2,f3⟩:=Eo hz;rw[hz];subst f3;unfold mapOf at Z;split at Z
    .rename_i r C;split at Z
     .rename_i es' hr;cases Z;exact Yl H w B f1 f2 (O0 hkk) h1 C hr (HB m.1) A hk m.2
     .cases Z
    .cases Z
   .exact m.elim
  .exact g.elim
 case call c=>
  simp[GA]at h;simp[F0];have mm:∀{x y:V},mY x y->∃k i j,x=.d (.int k i)/\y=.d (.int k j):=λ{x y} h=>by
   unfold mY at h;split at h
   .subst h;exact⟨_,_,_,rfl,rfl⟩
   .exact h.elim
  split at h
  .rename_i J;split at h
   .rename_i X;rw[ap X];obtain⟨h1,A,g,m⟩:=h;obtain⟨k,i,j,w,B⟩:=mm m;rw[w,B];exact jy H J h1 A g w B
   .rename_i X;rw[ao X];obtain⟨h1,A,g,m,F,R⟩:=h;obtain⟨k,i,j,w,B⟩:=mm F;obtain⟨k',i',l,e3,e4⟩:=mm R;rw[w]at e3;cases e3;rw[w,B,e4];exact kI H J h1 A g m w B e4
  .rename_i J;split at h
   .rename_i X;rw[ap X];obtain⟨h1,A,g,m⟩:=h;obtain⟨k,i,j,w,B⟩:=mm m;rw[w,B];exact lp H J h1 A g w B
   .rename_i X;rw[ao X];obtain⟨h1,A,g,m,F,R⟩:=h;obtain⟨k,i,j,w,B⟩:=mm F;obtain⟨k',i',l,e3,e4⟩:=mm R;rw[w]at e3;cases e3;rw[w,B,e4];exact kY H J h1 A g m w B e4
  .rename_i J;obtain⟨h1,A,g,m,F⟩:=h;split at F
   .rename_i G C;rw[C];obtain⟨E,hE⟩:=jw.1 m;obtain⟨t,w,B⟩:=BJ hE;exact VY H J h1 A g C w B
   .exact F.elim
  .exact hv h
theorem Lk(h:Bd P o.op tm S):Cf P n o tm S (Bh P o.op tm S) (DC P o.op tm S):=by
 generalize q:o.op=op at h;have hv:GA P op tm S->Cf P n o tm S (F0 P op tm S) S:=λh=>by subst q;exact pM h
 cases op<;>try exact hv h
 case box T x=>exact oI q h.1 h.2
 case alloc T=>
  simp only[Bd]at h;simp only[Bh,DC];split at h
  .rename_i z G;obtain⟨t,u,w,A,e3⟩:=Eo G;subst e3;exact dM q w A h
  .exact h.elim
 case store T x y=>
  simp only[Bd]at h;simp only[Bh,DC];obtain⟨h1,B,j⟩:=h;split at j
  .rename_i s C;obtain⟨t,w,A,_⟩:=CM C;subst A;obtain⟨j,g,m⟩:=j;exact dp q h1 B w j g m
  .exact j.elim
 case makeSlice T x y=>
  simp only[Bd]at h;simp only[Bh,DC,Kp];obtain⟨h1,B,j,g,m,Q,h7,H⟩:=h;split at H
  .rename_i E J;split at H
   .rename_i s z b C G hb;obtain⟨g1,R,g3⟩:=H;obtain⟨t,w,A⟩:=BJ J;obtain⟨e,f1,f2,_⟩:=CM C;obtain⟨U,u,k1,k2,k3⟩:=Eo G;rw[f1]at k1;cases k1;obtain⟨U,l1,l2⟩:=Jp hb;rw[f1]at l1;cases l1;obtain⟨kx,ex⟩:=HK j;obtain⟨ky,ey⟩:=HK g;subst k3;obtain⟨c1,_⟩:=(IJ {I:=λ_=>False,B3:=λ_=>0,cap:=λ_=>(0,0),BB:=λ_=>none} ([]:Sg) (default:World) u).cells (by simpa using R);rw[J];simp only[adx,C,G,ut];subst f2;have hm:HS (strip (ev tm x))=((HS (strip (ev tm x))).toNat:Int):=by omega
    exact Su q h1 B (by rw[<-hm];exact ex) (by rw[<-hm,m];exact ey) w A f1 k2 (by omega) R (by omega) (by omega)
   .exact H.elim
  .exact H.elim
 case makeMap T r=>
  simp[Bd]at h;subst h;exact Vz q
 case mapUpdate T x y z=>
  simp[Bd]at h;simp[Bh,DC];obtain⟨h1,B,j,g⟩:=h;split at g
  .rename_i p es k W i L;split at g
   .rename_i kk F;obtain⟨t,w,A⟩:=IV W;rw[i,L];unfold mapOf at i;split at i
    .rename_i r M;split at i
     .rename_i X Y;cases i;rw[M];exact MJ (.inl q) w A (O0 F) h1 M Y (HB g.1) B L g.2 j
     .cases i
    .cases i
   .exact g.elim
  .exact g.elim
 case insert T x y z=>
  simp[Bd]at h;simp[Bh,DC];obtain⟨h1,B,j,g⟩:=h;split at g
  .rename_i p es k W i L;split at g
   .rename_i kk F;obtain⟨t,w,A⟩:=IV W;rw[i,L];unfold mapOf at i;split at i
    .rename_i r M;split at i
     .rename_i X Y;cases i;rw[M];exact MJ (.inr q) w A (O0 F) h1 M Y (HB g.1) B L g.2 j
     .cases i
    .cases i
   .exact g.elim
  .exact g.elim
 case call c=>
  simp[Bd]at h;simp[Bh,DC];split at h
  .rename_i hc;obtain⟨h1,B,j,g,m⟩:=h;unfold qH at m;split at m
   .rename_i E J;obtain⟨m,Q⟩:=m;split at Q
    .rename_i s z b C G hb;obtain⟨g1,R,g3,Z⟩:=Q;split at Z
     .rename_i ys N;obtain⟨e,f1,f2,_⟩:=CM C;obtain⟨U,u,k1,k2,k3⟩:=Eo G;rw[f1]at k1;cases k1;obtain⟨U,l1,l2⟩:=Jp hb;rw[f1]at l1;cases l1;subst k3;obtain⟨c1,_⟩:=(IJ {I:=λ_=>False,B3:=λ_=>0,cap:=λ_=>(0,0),BB:=λ_=>none} ([]:Sg) (default:World) u).cells (by simpa using R);rw[N];simp[Kp,J,C];subst f2;exact YE q hc h1 B j g J m f1 k2 (by omega) (by omega) N Z
     .exact Z.elim
    .exact Q.elim
   .exact m.elim
  .exact hv h
def EE(P:b8)(n:Nat)(ops:Array Oper)(o:Oper)(tm:Tm)(S:Sg):Prop:=
 BA n o.dst/\match o.guard with
 |none=>Bd P o.op tm S
 |some (j,h)=>match CW ops tm j h with
  |some g=>tM o.op=true/\(g=true->Bd P o.op tm S)
  |none=>False
def Dc(P:b8)(ops:Array Oper)(o:Oper)(tm:Tm)(S:Sg):V:=
 match o.guard with
 |none=>Bh P o.op tm S
 |some (j,h)=>match CW ops tm j h with
  |some g=>HP g (Bh P o.op tm S)
  |none=>.any
def oS(P:b8)(o:Oper)(tm:Tm)(S:Sg):Sg:=
 match o.guard with
 |none=>DC P o.op tm S
 |some _=>S
def Step(P:b8)(n b:Nat)(ops:Array Oper)(i:Nat)(tm:Tm)(S:Sg)(g:Tm)(S':Sg):Prop:=
 ∀G w a (h:Act->World->Prop) Q,St P n G S w a tm->b<=S.length->(∀j k m,Gu P n b G S w a.defers j k m S' g->h j k)->wpOp P ops Q i h a w
theorem Step.Kz{i:Nat}(hi:ops[i]?=some o)(j:BA n o.dst)(m:o.guard=none)(h:Cf P n o tm S v S'):Step P n b ops i tm S (put tm o.dst v) S':=λG w a q Q st hb k=>by
 unfold wpOp;simp[hi,Region.wanted,m];exact .inl (h G w a q Q st λcv z s h1 t u g=>k _ _ s ⟨st.put j h1 t g,B8,u,g.late hb⟩)
abbrev AC:=@Step.Kz
theorem Step.Fw{i j:Nat}{m g:Bool}(hi:ops[i]?=some o)(q:BA n o.dst)(t:o.guard=some (j,m))(u:CW ops tm j m=some g)
  (h:g=true->Cf P n o tm S v S):Step P n b ops i tm S (put tm o.dst (HP g v)) S:=λG w a z Q st hb k=>by
 unfold wpOp;simp[hi,RM st t u];cases g with
 |true=>
  simp;exact .inl (h rfl G w a z Q st λcv E A h1 B C s=>k _ _ A ⟨st.put q (CV.HP (λ_=>h1) (λe=>by cases e)) B s,B8,C,s.late hb⟩)
 |false=>
  simp;exact k _ _ G ⟨st.put q (CV.HP (λe=>by cases e) (λ_=>rfl)) st.rel (z0 _ _ _),B8,yL _ _ _,GT hb⟩
theorem rM{op:Op}(h:tM op=true):DC P op tm S=S:=by
 unfold DC;cases op<;>simp[tM]at h<;>try rfl
 rename_i c;simp[];split
 .rename_i g;simp[g]at h
 .rfl
theorem Step.D7{i:Nat}(hi:ops[i]?=some o)(h:EE P n ops o tm S):Step P n b ops i tm S (put tm o.dst (Dc P ops o tm S)) (oS P o tm S):=by
 obtain⟨m,h⟩:=h;cases k:o.guard with
 |none=>
  simp[k]at h;simp[Dc,oS,k];exact AC hi m k (Lk h)
 |some s=>
  obtain⟨j,q⟩:=s;simp[k]at h;simp[Dc,oS,k];split at h
  .rename_i g t;exact Step.Fw hi m k t λe=>by have:=Lk (n:=n) (h.2 e);rwa [rM h.1]at this
  .exact h.elim
def OO(P:b8)(f:FuncId):Bool:=
 match P.funcs[f]? with
 |some fn=>!(fn.name== "runtime.NumGoroutine")&&fn.body.isSome
 |none=>false
def AG(P:b8)(f:FuncId)(args:List V)(S:Sg)(v:V)(S':Sg):Prop:=
 OO P f=true/\∀G w (g:Array bn),Rel P G S w->g.size=args.length->(∀i (h:i<args.length) (m:i<g.size),CV G S w args[i] g[i])->Calls P f g w λe j=>∃cv k,e=.returned cv/\CV k S' j v cv/\Rel P k S' j/\Tr G S w k S' j/\BL G S w k S' j
def callee(tm:Tm)(c:Call):Option (FuncId×List V):=
 match c.callee with
 |.value f=>match strip (ev tm f)with
  |.fn (.func k) first g=>some (k,first++c.args.toList.map (λx=>strip (ev tm x))++g)
  |_=>none
 |_=>none
def QA(tm:Tm):List Operand->Prop
 |[]=>True
 |x::g=>need (ev tm x)/\QA tm g
theorem IP{tm:Tm}:∀{g:List Operand},QA tm g->∀x∈g,need (ev tm x)
 |x::g,h,y,i=>by
  cases i with
  |head=>exact h.1
  |tail _ i=>exact IP h.2 y i
def BE(tm:Tm)(c:Call):Prop:=
 (match c.callee with|.value f=>need (ev tm f)|_=>False)/\QA tm c.args.toList
theorem HH{c:Call}{f:FuncId}{args:List V}(F:o.op=.call c)(g:callee tm c=some (f,args))(hn:BE tm c)(h:AG P f args S v S'):
  Cf P n o tm S v S':=by
 intro G w a next Q st k
 obtain⟨j,h⟩:=h;unfold callee at g;obtain⟨z,H⟩:=hn;cases q:c.callee with
 |value x=>
  simp only[q]at g z;have t:=(BV st x).strip z;split at g
  .rename_i J first A u
   simp only[fd,GE]at g;obtain⟨s,B⟩:=g;subst s;subst B;rw[u]at t;generalize L:a.eval x=X at t;cases t with
   |fn _ _ _ C E h1 M N R=>
    unfold OO at j;have T:=h G w (C++c.args.map a.eval++E) st.rel (by simp[h1,M]) (λi hi vo=>by
     by_cases s:i<first.length
     .rw[lg (by simp;omega),lg s];rw[ww (by simp;omega),ww (by omega)];exact N i s
     .by_cases B:i<first.length+c.args.size
      .rw[lg (by simp;omega),rg (by omega)];rw[ww (by simp;omega),Hh (by omega)];simp[h1];exact(BV st _).strip (IP H _ (by simp))
      .simp at hi;rw[rg (by simp;omega)];rw[Hh (by simp;omega)];simp[h1];exact R _ (by omega))
    unfold Oper.wp;have U:(execOp a.eval o).run P w=.ok (.enter J (C++c.args.map a.eval++E)) w:=by
     split at j
     .rename_i fn m;simp[ne_eq]at j;obtain⟨b,hb⟩:=jw.1 j.2;simp[execOp,F,resolve,q,L,Deferred.ofValue,invoke,callFunc,m,j.1,hb]
     .cases j
    rw[U];simp only[Oper.upon];exact T.mono λe W ⟨cv,Y,Z,g1,g2,g3,g4⟩=>by subst Z;exact k cv W Y g1 g2 g3 g4
  .cases g
 |invoke=>simp[q]at g
 |builtin=>simp[q]at g
def AV(P:b8)(n b:Nat)(ops:Array Oper)(l:List Oper)(tm:Tm)(S:Sg)(K:Tm->Sg->Prop):Prop:=
 ∀k,(∀j,l[j]?=ops[k+j]?)->∀G w a Q,St P n G S w a tm->b<=S.length->(∀h i,(∃m S' g,Gu P n b G S w a.defers h i m S' g/\K g S')->Q .normal h i)->wpOps P ops Q (List.range' k l.length) a w
theorem B6(h:K tm S):AV P n b ops [] tm S K:=λk _ G w a Q st hb g=>by
 simp[List.range'_zero,wpOps];exact g a w ⟨G,S,tm,.refl st hb,h⟩
theorem AV.step{rest:List Oper}{g:Tm}(hs:∀i,ops[i]?=some o->Step P n b ops i tm S g S')(h:AV P n b ops rest g S' K):AV P n b ops (o::rest) tm S K:=λk t G w a Q st hb u=>by
 have h0:ops[k]?=some o:=by simpa using(t 0).symm
 simp[xj];rw[vj];refine hs k h0 G w a _ Q st hb λz A B m=>?_;refine h (k+1) (λj=>by have:=t (j+1);simp at this;rw[this];congr 1;omega) B A z Q m.st m.late.len λC E F=>?_;obtain⟨H,J,s,q,L⟩:=F;exact u C E ⟨H,J,s,⟨q.st,q.ds.trans m.ds,m.tr.trans q.tr,m.late.trans q.late⟩,L⟩
abbrev Do:=@AV.step
theorem Cd{rest:List Oper}(h1:EE P n ops o tm S)(g:AV P n b ops rest (put tm o.dst (Dc P ops o tm S)) (oS P o tm S) K):AV P n b ops (o::rest) tm S K:=
 Do (λ_ hi=>Step.D7 hi h1) g
theorem AV.call{rest:List Oper}{c:Call}{f:FuncId}{args:List V}(g:o.op=.call c)(i:o.guard=none)(j:BA n o.dst)(k:callee tm c=some (f,args))(hn:BE tm c)
  (h:AG P f args S v S') (m:AV P n b ops rest (put tm o.dst v) S' K):AV P n b ops (o::rest) tm S K:=
 Do (λ_ hi=>AC hi j i (HH g k hn h)) m
abbrev gl:=@AV.call
theorem AV.Li{rest:List Oper}{c:Call}{f:FuncId}{args:List V}{j:Nat}{i g:Bool}(k:o.op=.call c)(m:o.guard=some (j,i))(q:BA n o.dst)
  (s:CW ops tm j i=some g) (h:g=true->callee tm c=some (f,args)/\BE tm c/\AG P f args S v S) (t:AV P n b ops rest (put tm o.dst (HP g v)) S K):AV P n b ops (o::rest) tm S K:=
 Do (λ_ hi=>Step.Fw hi q m s λe=>by obtain⟨h1,u,w⟩:=h e;exact HH k h1 u w) t
theorem AW.region{id:Nat}{Q:Exit->Tm->Sg->Prop}(h:AV P n b ops ops.toList tm S (Q .normal)):AW P n b (.region id ops false) Q tm S:=λG w a st hb=>by
 apply R3;have:=h 0 (λj=>by simp) G w a (Qa P n b Q G S w a.defers) st hb (λi k g=>g);rw[In];simpa using this
def J6(P:b8)(tm:Tm)(S:Sg):List aeL->Prop
 |[]=>True
 |.tmp _::g=>J6 P tm S g
 |.cell a T::g=>need (tm a)/\(Aq P T).isSome=true/\Nl (BI P T) ((Aq P T).getD 0) S (strip (tm a))/\J6 P tm S g
def HU(P:b8)(tm:Tm)(S:Sg):List aeL->List V
 |[]=>[]
 |.tmp t::g=>tm t::HU P tm S g
 |.cell a T::g=>Kt (BI P T) ((Aq P T).getD 0) S (strip (tm a))::HU P tm S g
def TO:List V->V
 |[v]=>v
 |g=>.Cb g
def pack:List bn->bn
 |[v]=>v
 |g=>.tuple g.toArray
def Lc(P:b8)(tm:Tm)(S:Sg)(g:List aeL):V:=TO (HU P tm S g)
end
section
variable {P:b8} {n:Nat} {o:Oper} {tm:Tm} {S S':Sg} {v:V} {ops:Array Oper} {K:Tm->Sg->Prop}
theorem Vh{G:Gh}{w:World}{a:Act}(st:St P n G S w a tm){T:ce}{p:V}{q:bn}(B:CV G S w p q)(h1:(Aq P T).isSome=true)(h:Nl (BI P T) ((Aq P T).getD 0) S p):
  ∃cv ad,q=.pointer (some ad)/\(loadVar T ad).run P w=.ok cv w/\CV G S w (Kt (BI P T) ((Aq P T).getD 0) S p) cv:=by
 obtain⟨s,H⟩:=jw.1 h1;obtain⟨t,E,R,U⟩:=CM H;let o':Oper:={dst:=none,op:=.load T (.const q),type:=0,pos:= "",after:=#[],guard:=none};have wG:∀(J:Tm),ev J (.const q)=OC q:=λ_=>rfl;obtain⟨L,g⟩:=h;have ha:t.agg=true\/t.size=1:=by
  rw[H,U]at L;simp at L;subst R;simpa using L
 rw[H,U]at *;simp at g⊢;subst R;cases M:p with
 |ptr r m i j=>
  rw[M]at g B;simp only[JA]at g;split at g
  .rename_i wr sz z N;obtain⟨Z,hi,C,F,hj⟩:=g;have W:z.getD i .any=z[i]:=by simp[List.getD,hi]
   rw[W]at C F;have C:At z[i]=true\/Bw z[i]=true:=by simpa using C
   obtain⟨u,b,k,g1,g2,g3,g4,g5⟩:=XL st.rel N hi C F;have Y:=B.Ka N Z;rw[g4 j]at Y;refine⟨_,_,Y,Fo E g2 hj ha g5,?_⟩;simp only[Kt,YQ,N,W];exact PQ g1 C (by omega) ha
  .exact g.elim
 |DX A=>
  rw[M]at g B;generalize hX:q=X at B;cases B with
  |DX A b off vs hI h=>
   let u:Array bn:=((List.range A.length).map vs).toArray;have F:(Value.agg u).cells.size=A.length:=by simp[Value.cells,u]
   refine⟨if t.agg then .agg (u.extract 0 (0+t.size))else u.getD 0 undef,_,rfl,?_,?_⟩
   .rw[show(⟨b,off,none⟩:Addr)=⟨b,off+0,none⟩from rfl];exact Fo (u:=.agg u) (j:=0) E F (by omega) ha (λj hj=>by rw[(h j hj).1];simp[Value.cells,hj,u])
   .simp[Kt];unfold TB;cases x6:t.agg with
    |true=>
     simp;refine .d _ _ (.agg _ _ (by simp[u];try omega) (λi hi=>?_) (λi hi=>?_))
     .have vo:i<t.size:=by simp at hi;try omega
      simpa[u]using(h i (by omega)).2.1
     .have vo:i<t.size:=by simp[u]at hi;try omega
      simpa[u]using(h i (by omega)).2.2
    |false=>
     have h1:t.size=1:=by simpa[x6]using ha
     simp only[lh,fc];have Q:0<A.length:=by omega
     have E:A.getD 0 (.bool false)=A[0]:=by simp[List.getD,Q]
     rw[E];have:=(h 0 Q).2.1;refine .d _ _ ?_;simpa[u,pi,Q]using this
 |_=>rw[M]at g;exact g.elim
def Pc(ts:Array bn):aeL->Sem bn
 |.tmp t=>pure (ts.getD t undef)
 |.cell b t=>do loadVar t (<-asAddr (ts.getD b undef))
theorem WB(fn:Func)(ts:Array bn):results fn ts=(do let g<-fn.results.mapM (Pc ts);pure (if h:g.size=1 then g[0]else .tuple g)):=by
 unfold results;congr
theorem LX{G:Gh}{w:World}{a:Act}(st:St P n G S w a tm)(j:List aeL):J6 P tm S j->∃g:List bn,(j.mapM (Pc a.tmps)).run P w=.ok g w/\g.length=(HU P tm S j).length/\∀i (h:i<g.length) (J:i<(HU P tm S j).length),CV G S w (HU P tm S j)[i] g[i]:=by
 induction j with
 |nil=>intro _;exact⟨[],by simp,rfl,λi h=>by simp at h⟩
 |cons r j s=>
  intro h;cases r with
  |tmp t=>
   simp only[J6]at h;obtain⟨g,h1,k,m⟩:=s h;refine⟨a.tmps.getD t undef::g,?_,by simp[HU,k],λi hi q=>?_⟩
   .simp only[adp,Pc,gI,l6,ge,h1]
   .cases i with
    |zero=>simpa[HU]using st.tm t
    |succ i=>simpa[HU]using m i (by simpa using hi) (by simpa[HU]using q)
  |cell b T=>
   simp only[J6]at h;obtain⟨u,z,A,B⟩:=h;obtain⟨g,h1,k,m⟩:=s B;obtain⟨cv,ad,C,E,F⟩:=Vh st ((st.tm b).strip u) z A;refine⟨cv::g,?_,by simp[HU,k],λi hi q=>?_⟩
   .have H:(asAddr (a.tmps.getD b undef)).run P w=.ok ad w:=by rw[C];rfl
    simp only[adp,Pc,gI,H,l6,ge,E,h1]
   .cases i with
    |zero=>simpa[HU]using F
    |succ i=>simpa[HU]using m i (by simpa using hi) (by simpa[HU]using q)
def e9(P:b8)(n b:Nat)(j:List aeL)(R:V->Sg->Prop):Exit->Tm->Sg->Prop
 |.normal,tm,S|.ret,tm,S=>∃g h,AJ P n b tm S g h/\J6 P g h j/\∀G w a,St P n G h w a g->b<=h.length->∃i v S',(∀cv,CV G h w (Lc P g h j) cv->CV i S' w v cv)/\Rel P i S' w/\Tr G h w i S' w/\E7 b G h i S'/\R v S'
 |_,_,_=>False
theorem Ga{fn:Func}{a:Act}{w:World}{vs:List bn}(h:(fn.results.toList.mapM (Pc a.tmps)).run P w=.ok vs w):
  (results fn a.tmps).run P w=.ok (pack vs) w:=by
 rw[WB,Array.mapM_eq_mapM_toList];simp[Sem.run_map,h];match vs with
 |[]=>simp[pack]
 |[v]=>simp[pack]
 |v::u::vs=>simp[pack]
theorem E7.later{G:Gh}{w:World}{g:Gh}{w':World}(R:Rel P G S w)(t:Tr G S w g S' w')(l:E7 S.length G S g S'):BL G S w g S' w':=
 ⟨t.I,λb hb=>t.Dz b (R.JY b hb) (λh=>R.nI b h hb),l.len,l.row,l.map⟩
theorem AG.intro{f:FuncId}{fn:Func}{c:Code}{args:List V}(T:P.funcs[f]?=some fn)(W:(fn.name== "runtime.NumGoroutine")=false)(hb:fn.body=some c)(hn:args.length<=fn.ntmps)
  (h:AW P fn.ntmps S.length c (e9 P fn.ntmps S.length fn.results.toList λE m=>E=v/\m=S') (E3 args) S):AG P f args S v S':=by
 refine⟨by simp[OO,T,W,hb],λG w j R vr X=>?_⟩;refine calls_of_wp T hb ?_;have st:St P fn.ntmps G S w {tmps:=j++Array.replicate (fn.ntmps - j.size) undef,defers:=[]} (E3 args):=by
  refine⟨by simp;omega,λk=>?_,R⟩;unfold E3;by_cases U:k<args.length
  .have M:args.getD k .any=args[k]:=by simp[List.getD,U]
   have Y:(j++Array.replicate (fn.ntmps - j.size) undef).getD k undef=j[k]'(by omega):=by
    rw[pi,abX (by omega)];simp[show k<j.size by omega]
   simp only[M,Y];exact X k U (by omega)
  .have M:args.getD k .any=.any:=by simp[List.getD,np (show args.length<=k by omega)]
   rw[M];exact .any _
 refine vX (h G w _ st (br _)) λZ J u hl=>?_;obtain⟨q,S0,N,F,z⟩:=hl;have fin:(∃s t,AJ P fn.ntmps S.length N S0 s t/\J6 P s t fn.results.toList/\∀G w a,St P fn.ntmps G t w a s->S.length<=t.length->∃q E m,(∀cv,CV G t w (Lc P s t fn.results.toList) cv->CV q m w E cv)/\Rel P q m w/\Tr G t w q m w/\E7 S.length G t q m/\E=v/\m=S')->J.defers=[]/\∃x,(results fn J.tmps).run P u=.ok x u/\∃cv q,Ending.returned x=.returned cv/\CV q S' u v cv/\Rel P q S' u/\Tr G S w q S' u/\BL G S w q S' u:=by
  intro z;obtain⟨s,t,g,h1,h2⟩:=z;refine⟨F.ds,?_⟩;obtain⟨Q,H,t1,l1⟩:=g q u J F.st F.late.len;obtain⟨A,v1,B,L⟩:=LX H fn.results.toList h1;obtain⟨G2,E,m,g1,g2,g3,g4,rfl,rfl⟩:=h2 Q u J H l1.len;have zx:∀(A:List bn) (C:List V),A.length=C.length->(∀i (h:i<A.length) (h':i<C.length),CV Q t u C[i] A[i])->CV Q t u (TO C) (pack A):=λA C B L=>by
   match A,C with
   |[],[]=>exact .Cb _ _ rfl (λi h=>by simp at h)
   |[x],[y]=>exact L 0 (by simp) (by simp)
   |x::x'::xs,y::y'::ys=>
    refine .Cb _ _ (by simpa using B) (λi h=>?_);have:=L i (by omega) h;simpa using this
   |[],_::_=>simp at B
   |_::_,[]=>simp at B
   |[_],_::_::_=>simp at B
   |_::_::_,[_]=>simp at B
  have wG:=zx A _ B L;have tr:=(F.tr.trans t1).trans g3;have la:=(F.late.trans l1).trans g4;exact⟨_,Ga v1,_,G2,rfl,g1 _ wG,g2,tr,la.later R tr⟩
 cases Z with
 |normal=>exact fin z
 |ret=>exact fin z
 |exit=>exact z.elim
 |goto=>exact z.elim
 |panic=>exact z.elim
 |outgrown=>exact z.elim
def Pure(P:b8)(f:FuncId)(ds:List D)(d:D):Prop:=AG P f (ds.map .d) [] (.d d) []
theorem Rel.nil{G:Gh}{w:World}(R:Rel P G S w):Rel P G [] w:=
 ⟨R.GQ,λr o h=>by simp at h,λr g o i h=>by simp at h,λb ⟨r,o,h,_⟩=>by simp at h,R.JY,λb ⟨r,o,h,_⟩=>by simp at h⟩
theorem CV.jO{G:Gh}{w:World}{d:D}{v:bn}(h:CD G.I w d v):CV G S w (.d d) v:=.d _ _ h
theorem Pure.call{f:FuncId}{ds:List D}{d:D}{args:List V}(h:Pure P f ds d)(ha:args.map (Ba S)=ds.map some):AG P f args S (.d d) S:=by
 refine⟨h.1,λG w j R z A=>?_⟩;have k:args.length=ds.length:=by have:=i6 List.length ha;simpa using this
 refine(h.2 G w j R.nil (by simpa[k]using z) (λi hi B=>?_)).mono ?_
 .have q:i<ds.length:=by simpa using hi
  have e:Ba S args[i]=some ds[i]:=by
   have:=i6 (·[i]?) ha;simpa[q,show i<args.length by omega]using this
  simp;exact .jO ((A i (by omega) B).Ba R e)
 .rintro e m ⟨cv,t,C,h1,E,g,N⟩;have F:CD t.I m d cv:=by cases h1 with|d _ _ h=>exact h
  let s:Gh:={G with I:=t.I};have L:BL G S w s S m:=⟨g.I,λb hb=>g.Dz b (R.JY b hb) (λ⟨r,o,h,_⟩=>by simp at h),br _,λr _ n h=>⟨n,h,br _,λ_=>⟨rfl,rfl,rfl,.inl rfl⟩⟩,λr _ h=>⟨h,rfl⟩⟩;have Dz:∀b,b<w.heap.size->m.heap[b]?=w.heap[b]?:=λb hb=>g.Dz b hb (λ⟨r,o,h,_⟩=>by simp at h);have H:Rel P s S m:=by
   refine⟨R.GQ.later L,λr o u=>(R.DG r o u).later L (λJ=>Dz _ (R.HL _ ⟨r,o,u,J,rfl⟩)) rfl rfl rfl,R.inj,λb hb M=>?_,λb hb=>E.JY b hb,λb hb=>tv (R.HL b hb) g.size⟩;rcases g.im b M with h|⟨r,o,h,_⟩|h
   .exact R.nI b hb h
   .simp at h
   .have:=R.HL b hb;omega
  refine⟨cv,s,C,.jO F,H,⟨g.size,g.I,λb hb _=>Dz b hb,λb hb=>.inl hb,λb hb=>?_,g.os,g.out⟩,L⟩;rcases g.im b hb with h|⟨r,o,h,_⟩|h
  .exact .inl h
  .simp at h
  .exact .inr (.inr h)
def sM(P:b8)(n:Nat)(i:List aeL)(d:D):Exit->Tm->Sg->Prop
 |.normal,tm,S|.ret,tm,S=>∃g h,AJ P n 0 tm S g h/\J6 P g h i/\Ba h (Lc P g h i)=some d
 |_,_,_=>False
theorem Pure.intro{f:FuncId}{fn:Func}{c:Code}{ds:List D}{d:D}(q:P.funcs[f]?=some fn)(s:(fn.name== "runtime.NumGoroutine")=false)(hb:fn.body=some c)(hn:ds.length<=fn.ntmps)
  (h:AW P fn.ntmps 0 c (sM P fn.ntmps fn.results.toList d) (E3 (ds.map .d)) []):Pure P f ds d:=by
 refine AG.intro q s hb (by simpa using hn) (h.mono λt tm S k=>?_);have key:(∃i j,AJ P fn.ntmps 0 tm S i j/\J6 P i j fn.results.toList/\Ba j (Lc P i j fn.results.toList)=some d)->∃i j,AJ P fn.ntmps 0 tm S i j/\J6 P i j fn.results.toList/\∀G w a,St P fn.ntmps G j w a i->0<=j.length->∃m v S',(∀cv,CV G j w (Lc P i j fn.results.toList) cv->CV m S' w v cv)/\Rel P m S' w/\Tr G j w m S' w/\E7 0 G j m S'/\v=.d d/\S'=[]:=by
  rintro⟨i,j,g,h1,u⟩;refine⟨i,j,g,h1,λG w a st _=>⟨G,.d d,[],λcv z=>.jO (z.Ba st.rel u),st.rel.nil,?_,⟨cq _,λr A=>by omega,λr A=>by omega⟩,rfl,rfl⟩⟩;exact⟨br _,λ_ h=>h,λ_ _ _=>rfl,λb ⟨r,o,h,_⟩=>by simp at h,λb hb=>.inl hb,rfl,rfl⟩
 cases t with
 |normal=>exact key k
 |ret=>exact key k
 |exit=>exact k.elim
 |goto=>exact k.elim
 |panic=>exact k.elim
 |outgrown=>exact k.elim
end
mutual
def DZ:D->Prop
 |.bool _=>True
 |.int k n=>IL k n=true
 |.str s=>s.size<=maxLen
 |.sl g=>g.length<=maxLen/\Bs g
 |.agg h=>Bs h
 |.Cb i=>Bs i
 |.raw _=>True
def Bs:List D->Prop
 |[]=>True
 |x::g=>DZ x/\Bs g
end
theorem T4(xs:List D):Bs xs↔∀x∈xs,DZ x:=by
 induction xs with
 |nil=>simp[Bs]
 |cons x xs g=>simp[Bs,g]
theorem Di{α:Type}(f:α->D)(xs:List α):Bs (xs.map f)↔∀x∈xs,DZ (f x):=by
 rw[T4];simp
theorem Le{xs:List D}(h:∀i (h:i<xs.length),DZ xs[i]):Bs xs:=(T4 xs).2 λx g=>by
 obtain⟨i,hi,rfl⟩:=jp.1 g;exact h i hi
theorem CD.wf{I:Nat->Prop}{w:World}{d:D}{v:Value}(h:CD I w d v):DZ d:=by
 induction h with
 |bool=>trivial
 |int k n h=>exact h
 |str s h=>exact h
 |nil=>exact⟨by simp[maxLen],trivial⟩
 |sl sz o b off cap i q j t h1 u g=>exact⟨j,Le g⟩
 |agg ds i m h z g=>exact Le g
 |Cb ds i m h g=>exact Le g
 |raw=>trivial
abbrev K1:=@List.getElem?_take
abbrev q6:=@Bool.true_and
abbrev cF:=@decide_eq_true_eq
section
variable {P:Program} {n b:Nat} {o:Oper} {tm:Tm} {S S':Sg} {v:V} {ops:Array Oper} {K:Tm->Sg->Prop} {Q:Exit->Tm->Sg->Prop}
theorem AW.assume{p:Prop}{c:Code}(g:∀G w a,St P n G S w a tm->p)(h:p->AW P n b c Q tm S):AW P n b c Q tm S:=
 λG w a st hb=>h (g G w a st) G w a st hb
theorem AV.assume{p:Prop}{l:List Oper}(g:∀G w a,St P n G S w a tm->p)(h:p->AV P n b ops l tm S K):AV P n b ops l tm S K:=
 λk i G w a Q st hb j=>h (g G w a st) k i G w a Q st hb j
theorem Zj{ds:List D}{G:Gh}{w:World}{a:Act}(st:St P n G S w a (E3 (ds.map .d))):Bs ds:=Le λi hi=>by
 have:=st.tm i;have e:E3 (ds.map .d) i=.d ds[i]:=by simp[E3,List.getD,hi]
 rw[e]at this;cases this with|d _ _ h=>exact h.wf
theorem Pure.AK{f:FuncId}{fn:Func}{c:Code}{ds:List D}{d:D}(g:P.funcs[f]?=some fn)(i:(fn.name== "runtime.NumGoroutine")=false)(hb:fn.body=some c)(hn:ds.length<=fn.ntmps)
  (h:Bs ds->AW P fn.ntmps 0 c (sM P fn.ntmps fn.results.toList d) (E3 (ds.map .d)) []):Pure P f ds d:=
 Pure.intro g i hb hn (AW.assume (λ_ _ _ st=>Zj st) h)
abbrev eJ:=@Pure.AK
theorem AR{c:Operand}{x y:Code}(h:match ev tm c with|.d (.bool t)=>(t=true->AW P n b x Q tm S)/\(t=false->AW P n b y Q tm S)|_=>False):AW P n b (.cond c x y) Q tm S:=by
 split at h
 .rename_i t g;exact k6 g h.1 h.2
 .exact h.elim
theorem FX{id:Nat}{y:Code}(h:∀K:Tm->Sg->Prop,(∀tm S,AW P n b y Q tm S->K tm S)->AV P n b ops ops.toList tm S K):AW P n b (.seq (.region id ops false) y) Q tm S:=
 xS (AW.region (h _ λ_ _ h=>h))
mutual
def AP(k:Nat):V->Bool
 |.row r _=>decide (r<k)
 |.ptr r _ _ _=>decide (r<k)
 |.map r=>decide (r<k)
 |.fn _ as g=>Aw k as&&Aw k g
 |.agg h=>Aw k h
 |.Cb i=>Aw k i
 |.opt _ v=>AP k v
 |_=>true
def Aw(k:Nat):List V->Bool
 |[]=>true
 |x::g=>AP k x&&Aw k g
end
def Ar(k:Nat):O->Bool
 |.row _ _ g=>Aw k g
 |.map h=>h.all λe=>AP k e.2
 |_=>true
theorem Dd{k:Nat}{xs:List V}(h:Aw k xs=true):∀i (hi:i<xs.length),AP k xs[i]=true:=by
 induction xs with
 |nil=>intro i hi;simp at hi
 |cons x xs g=>
  simp[Aw]at h;intro i hi;cases i with
  |zero=>exact h.1
  |succ i=>simpa using g h.2 i (by simpa using hi)
@[simp] theorem nZ{α:Type}(k:Nat)(f:α->D)(xs:List α):Aw k (xs.map λx=>V.d (f x))=true:=by
 induction xs with
 |nil=>rfl
 |cons x xs g=>simp[Aw,AP,g]
@[simp] theorem lI(k:Nat)(xs:List D):Aw k (xs.map V.d)=true:=by
 induction xs with
 |nil=>rfl
 |cons x xs g=>simp[Aw,AP,g]
theorem CV.take{G:Gh}{w:World}{k:Nat}{x:V}{v:Value}(h:CV G S w x v)(hb:AP k x=true)(E:k<=S.length):CV G (S.take k) w x v:=by
 have m:∀r,r<k->(S.take k)[r]?=S[r]?:=λr A=>by simp[A]
 have U:(S.take k).length=k:=by simp[E]
 induction h with
 |any v=>exact .any v
 |d d v h=>exact .d d v h
 |full B a h=>exact .full B a h
 |row r n v q A h=>
  have s:r<k:=by simpa[AP]using hb
  exact .row r n v q (by omega) (by simpa only[lenOf,m r s]using h)
 |ptr r n i j v q A h=>
  have s:r<k:=by simpa[AP]using hb
  exact .ptr r n i j v q (by omega) (by simpa only[lenOf,C0,m r s]using h)
 |DX t b off u F h=>exact .DX t b off u F h
 |map r v q A h=>
  have s:r<k:=by simpa[AP]using hb
  exact .map r v q (by omega) (by simpa only[Bb,m r s]using h)
 |fn f as H B J h1 L W X M N=>
  simp[AP]at hb;exact .fn f as H B J h1 L (λi hi=>M i hi (Dd hb.1 i hi)) (λi hi=>N i hi (Dd hb.2 i hi))
 |agg t u C h q z=>exact .agg t u C (λi hi=>z i hi (Dd hb i hi)) q
 |Cb t u C h z=>exact .Cb t u C (λi hi=>z i hi (Dd hb i hi))
 |opt g x v h R z=>exact .opt g x v (λT=>z T (by simpa[AP]using hb)) R
def clean(k:Nat)(tm:Tm):Tm:=λt=>if AP k (tm t)then tm t else .any
theorem AJ.drop(k:Nat)(hb:b<=k)(B:k<=S.length)(U:(S.take k).all (Ar k)=true):AJ P n b tm S (clean k tm) (S.take k):=λG w a st _=>by
 have A:∀r o,(S.take k)[r]?=some o->S[r]?=some o/\r<k:=λr o h=>by
  have h1:=AZ h;have q:r<k:=by simp at h1;omega
  exact⟨by simpa[K1,q]using h,q⟩
 have C:∀x,Fy G (S.take k) x->Fy G S x:=λx ⟨r,o,h1,q,W⟩=>⟨r,o,(A r o h1).1,q,W⟩;have X:E7 b G S G (S.take k):=by
  refine⟨by simp;omega,λr Y Z wg=>⟨Z,?_,br _,λ_=>⟨rfl,rfl,rfl,.inl ?_⟩⟩,λr Y hm=>⟨?_,rfl⟩⟩
  .simpa[lenOf,K1,show r<k by omega]using wg
  .simp[C0,show r<k by omega]
  .simpa[Bb,K1,show r<k by omega]using hm
 refine⟨G,⟨st.size,λt=>?_,⟨st.rel.GQ,λr o h=>?_,λr L o M h h'=>st.rel.inj r L o M (A r o h).1 (A L M h').1,λx j=>st.rel.nI x (C x j),st.rel.JY,λx j=>st.rel.HL x (C x j)⟩⟩,⟨br _,λ_ h=>h,λ_ _ _=>rfl,λx j=>.inl (C x j),λx j=>.inl j,rfl,rfl⟩,X⟩
 .unfold clean;split
  .rename_i zY;exact(st.tm t).take zY B
  .exact .any _
 .obtain⟨h1,q⟩:=A r o h;have s:Ar k o=true:=cl.1 U o (lw h);have g:=st.rel.DG r o h1;cases o with
  |row wr sz els=>
   simp only[OK]at g⊢;cases N:G.BB r with
   |none=>
    simp only[N]at g⊢;obtain⟨c,T,E,F,H,g4,g5⟩:=g;refine⟨c,T,E,F,H,g4,λi hi=>?_⟩;obtain⟨u,u1,u2,u3,u4⟩:=g5 i hi;exact⟨u,u1.take (Dd s i hi) B,u2,u3,u4⟩
   |some a=>
    simp[N]at g⊢;exact g
  |BY xs=>exact g
  |map R=>
   simp[OK]at g⊢;obtain⟨z,m,E,F,gk,H⟩:=g;refine⟨z,m,E,F,gk,λi hi=>?_⟩;obtain⟨e,e1,e2,e3,e4,e5⟩:=H i hi;have J:AP k R[i].2=true:=cl.1 s R[i] (by simp);exact⟨e,e1,e2,e3.take J B,e4,e5⟩
  |dead=>trivial
abbrev ip:=@AJ.drop
theorem DV{c:Code}(N:Nat)(Inv:Nat->Tm->Sg->Prop){i0:Nat}(q:i0<=N)(h0:Inv i0 tm S)
  (w:∀i tm S,i<=N->Inv i tm S->AW P n b c (C4 (λj S'=>i<N/\∃h k,AJ P n b j S' h k/\Inv (i+1) h k) Q) tm S):AW P n b (.loop c) Q tm S:=by
 refine aeA (λm tm S=>∃i,i<=N/\m=N - i/\Inv i tm S) ⟨_,tm,S,am,i0,q,rfl,h0⟩ ?_;rintro m tm S ⟨i,hi,rfl,z⟩;refine(w i tm S hi z).mono λA j S' u=>?_;cases A with
 |normal=>
  obtain⟨C,s,B,g,t⟩:=u;exact⟨N - (i+1),s,B,by omega,g,i+1,by omega,rfl,t⟩
 |_=>exact u
theorem wrap_i64{x:Int}(h1:-9223372036854775808<=x)(k:x<=9223372036854775807):IntKind.i64.wrap x=x:=by
 unfold IntKind.wrap;have g:IntKind.i64.bits=64:=rfl;have h:IntKind.i64.signed=true:=rfl;simp only[g,h,q6,cF];have i:(2:Int) ^ 64=18446744073709551616:=by decide
 have j:(2:Int) ^ (64 - 1)=9223372036854775808:=by decide
 rw[i,j];split<;>omega
theorem AL{i n:Nat}(h:i<n)(hn:n<=maxLen):IntKind.i64.wrap ((i:Int)+1)=((i+1:Nat):Int):=by
 unfold maxLen at hn;rw[wrap_i64 (by omega) (by omega)];simp
end
@[simp] theorem qO(vs:List V):Ai (.agg vs)=vs:=rfl
@[simp] theorem mg(ds:List D):Ai (.d (.agg ds))=ds.map .d:=rfl
@[simp] theorem nK(x:Bool):Ai (.d (.bool x))=[.d (.bool x)]:=rfl
@[simp] theorem pU(k:IntKind)(x:Int):Ai (.d (.int k x))=[.d (.int k x)]:=rfl
@[simp] theorem pG(x:ByteArray):Ai (.d (.str x))=[.d (.str x)]:=rfl
@[simp] theorem qR(x:List D):Ai (.d (.sl x))=[.d (.sl x)]:=rfl
@[simp] theorem pY(x:Value):Ai (.d (.raw x))=[.d (.raw x)]:=rfl
@[simp] theorem m8(x:List D):Ai (.full x)=[.full x]:=rfl
@[simp] theorem oL(r m:Nat):Ai (.row r m)=[.row r m]:=rfl
@[simp] theorem qD(r m i j:Nat):Ai (.ptr r m i j)=[.ptr r m i j]:=rfl
@[simp] theorem nS(x:List D):Ai (.DX x)=[.DX x]:=rfl
@[simp] theorem pJ(r:Nat):Ai (.map r)=[.map r]:=rfl
@[simp] theorem qx(f:Fn)(a b:List V):Ai (.fn f a b)=[.fn f a b]:=rfl
@[simp] theorem oo(vs:List V):At (.agg vs)=true:=rfl
@[simp] theorem nR(ds:List D):At (.d (.agg ds))=true:=rfl
@[simp] theorem mf(x:Bool):At (.d (.bool x))=false:=rfl
@[simp] theorem o9(k:IntKind)(x:Int):At (.d (.int k x))=false:=rfl
@[simp] theorem nj(x:ByteArray):At (.d (.str x))=false:=rfl
@[simp] theorem qi(x:List D):At (.d (.sl x))=false:=rfl
@[simp] theorem ot(x:Value):At (.d (.raw x))=false:=rfl
@[simp] theorem m0(x:List D):At (.full x)=false:=rfl
@[simp] theorem oA(r m:Nat):At (.row r m)=false:=rfl
@[simp] theorem pC(r m i j:Nat):At (.ptr r m i j)=false:=rfl
@[simp] theorem nL(x:List D):At (.DX x)=false:=rfl
@[simp] theorem ob(r:Nat):At (.map r)=false:=rfl
@[simp] theorem qv(f:Fn)(a b:List V):At (.fn f a b)=false:=rfl
@[simp] theorem sG(vs:List V):Bw (.agg vs)=false:=rfl
@[simp] theorem q9(ds:List D):Bw (.d (.agg ds))=false:=rfl
@[simp] theorem qo(x:Bool):Bw (.d (.bool x))=true:=rfl
@[simp] theorem sj(k:IntKind)(x:Int):Bw (.d (.int k x))=true:=rfl
@[simp] theorem rz(x:ByteArray):Bw (.d (.str x))=true:=rfl
@[simp] theorem tG(x:List D):Bw (.d (.sl x))=true:=rfl
@[simp] theorem rp(x:Value):Bw (.d (.raw x))=one x:=rfl
@[simp] theorem rF(x:List D):Bw (.full x)=true:=rfl
@[simp] theorem rj(r m:Nat):Bw (.row r m)=true:=rfl
@[simp] theorem rq(r m i j:Nat):Bw (.ptr r m i j)=true:=rfl
@[simp] theorem rD(x:List D):Bw (.DX x)=true:=rfl
@[simp] theorem rn(r:Nat):Bw (.map r)=true:=rfl
@[simp] theorem tC(f:Fn)(a b:List V):Bw (.fn f a b)=true:=rfl
@[simp] theorem qP(ds:List D):BN (.agg ds)=ds:=rfl
@[simp] theorem nJ(x:Bool):BN (.bool x)=[.bool x]:=rfl
@[simp] theorem qE(k:IntKind)(x:Int):BN (.int k x)=[.int k x]:=rfl
@[simp] theorem o6(x:ByteArray):BN (.str x)=[.str x]:=rfl
@[simp] theorem rA(x:List D):BN (.sl x)=[.sl x]:=rfl
@[simp] theorem rH(ds:List D):CZ.oneD (.agg ds)=true:=rfl
@[simp] theorem qw(x:Bool):CZ.oneD (.bool x)=true:=rfl
@[simp] theorem rK(k:IntKind)(x:Int):CZ.oneD (.int k x)=true:=rfl
@[simp] theorem so(x:ByteArray):CZ.oneD (.str x)=true:=rfl
@[simp] theorem tB(x:List D):CZ.oneD (.sl x)=true:=rfl
attribute [simp] EE Dc oS BA Bd Bh DC Hi HO ev need strip put OC Z4 tM CW HP rO pg arith KD r9 ow gA iI Kt Nl Pk TB JA YQ dC sD GU rX CZ HS HX ry pa bY oZ oX mo Cv JD ES N5 mj eA Xz OS fj mT SD Ba CF Dx LF Kx Jb FD RQ KO callee BE QA J6 HU TO Lc lenOf C0 Bb one C4 BW AP Aw Ar F0 GA Sq Dm mapOf dF oM mY nf oK EN Fa Fg Pn cT qH Kp IC II Uq VF sm Uk B7 CN B2 Bj IL Lf
end Go.Koi
