/-
  Part 4 of the proof that the law ChangeRestricts returns true for every input.
-/
import Derived.Test.YtbpjppgjnkklnaaGreatDoorG02
import Derived.Maps.Keyed
import Derived.DeepKeys4
import Derived.Laws.StructEq
import Derived.Laws.Cover3
set_option maxHeartbeats 64000000
set_option maxRecDepth 100000
open List renaming length->Z,getD->i5
open Bool renaming true->J,false->ap
open Option renaming some->am,none->bi
open Go.IntKind renaming wrap->b8
namespace Go.Koi
open Go renaming Program->cP,TypeId->ea,FuncId->eN
inductive CK where
 |bool|int (q:IntKind)|str
 deriving DecidableEq
inductive KK where
 |one (c:CK)|cells (cs:List CK)
def CC:CK->D->Bool
 |.bool,.bool _=>J
 |.int q,.int g _=>q==g
 |.str,.str _=>J
 |_,_=>ap
def Bv:List CK->List D->Bool
 |[],[]=>J
 |c::g,d::ds=>CC c d&&Bv g ds
 |_,_=>ap
def Bz:KK->D->Bool
 |.one c,d=>CC c d
 |.cells g,.agg ds=>Bv g ds
 |_,_=>ap
def Fb:D->Value
 |.bool b=>.bool b
 |.int k n=>.int k n
 |.str s=>.string s
 |_=>undef
def Qh:D->Value
 |.agg ds=>.agg (ds.map Fb).toArray
 |d=>Fb d
def JM:D->Lit
 |.bool b=>.bool b
 |.int k n=>.int k n
 |.str s=>.string s.data.toList
 |_=>.bool ap
theorem Pg{c:CK}{I:Nat->Prop}{w:World}{d:D}{v:Value}(g:CC c d=J)(h:CD I w d v):v=Fb d:=by
 cases h<;>first|rfl|(cases c<;>simp[CC]at g)
theorem LP:∀{g:List CK} {ds:List D},Bv g ds=J->Z g=Z ds/\∀i (h:i<Z g) (o:i<Z ds),CC g[i] ds[i]=J
 |[],[],_=>⟨rfl,λi h=>by simp at h⟩
 |[],_::_,h=>by simp[Bv]at h
 |_::_,[],h=>by simp[Bv]at h
 |c::g,d::ds,h=>by
  simp[Bv]at h;obtain⟨j,k⟩:=LP h.2;refine⟨by simp[j],λi hi m=>?_⟩;cases i with
  |zero=>exact h.1
  |succ i=>simpa using k i (by simpa using hi) (by simpa using m)
theorem JC{kk:KK}{I:Nat->Prop}{w:World}{d:D}{v:Value}(g:Bz kk d=J)(h:CD I w d v):v=Qh d:=by
 cases kk with
 |one c=>
  have:=Pg g h;rw[this];cases d<;>first|rfl|(cases c<;>simp[Bz,CC]at g)
 |cells m=>
  cases h with
  |agg ds o j h q=>
   obtain⟨u,k⟩:=LP g;simp[Qh,Value.agg.injEq];apply adR (by simp[j]);intro i A B;have hi:i<Z ds:=by omega
   simpa using Pg (k i (by omega) hi) (h i hi)
  |_=>simp[Bz]at g
theorem Qk{c:CK}{a b:D}(ha:CC c a=J)(hb:CC c b=J):DZ a b=J↔Fb a=Fb b:=by
 cases c<;>cases a<;>simp[CC]at ha<;>cases b<;>simp[CC]at hb
 .simp[DZ,Fb]
 .subst ha;subst hb;simp[DZ,Fb]
 .simp[DZ,Fb]
theorem Z5{c:CK}{a b:D}(ha:CC c a=J)(hb:CC c b=J):JM a=JM b↔Fb a=Fb b:=by
 cases c<;>cases a<;>simp[CC]at ha<;>cases b<;>simp[CC]at hb
 .simp[JM,Fb]
 .subst ha;subst hb;simp[JM,Fb]
 .rename_i x y;simp only[JM,Fb,Lit.string.injEq,Value.string.injEq];constructor
  .intro h;cases x;cases y;simp only[ByteArray.mk.injEq];exact ad1 h
  .rintro rfl;rfl
abbrev acO:=@List.cons.injEq
theorem LL:∀{i:List CK} {as g:List D},Bv i as=J->Bv i g=J->(CT as g=J↔as.map Fb=g.map Fb)
 |[],[],[],_,_=>by simp[CT]
 |[],_::_,_,h,_=>by simp[Bv]at h
 |[],[],_::_,_,h=>by simp[Bv]at h
 |_::_,[],_,h,_=>by simp[Bv]at h
 |_::_,_::_,[],_,h=>by simp[Bv]at h
 |c::i,a::as,b::g,ha,hb=>by
  simp[Bv]at ha hb;simp[CT];rw[Qk ha.1 hb.1,LL ha.2 hb.2]
theorem LH:∀{i:List CK} {as g:List D},Bv i as=J->Bv i g=J->(as.map JM=g.map JM↔as.map Fb=g.map Fb)
 |[],[],[],_,_=>by simp
 |[],_::_,_,h,_=>by simp[Bv]at h
 |[],[],_::_,_,h=>by simp[Bv]at h
 |_::_,[],_,h,_=>by simp[Bv]at h
 |_::_,_::_,[],_,h=>by simp[Bv]at h
 |c::i,a::as,b::g,ha,hb=>by
  simp[Bv]at ha hb;simp;rw[Z5 ha.1 hb.1,LH ha.2 hb.2]
theorem Zn{kk:KK}{a b:D}(ha:Bz kk a=J)(hb:Bz kk b=J):DZ a b=J↔Qh a=Qh b:=by
 cases kk with
 |one c=>
  have e:∀{x:D},Bz (.one c) x=J->Qh x=Fb x:=λ{x} h=>by cases x<;>first|rfl|(cases c<;>simp[Bz,CC]at h)
  rw[e ha,e hb];exact Qk ha hb
 |cells g=>
  cases a<;>simp[Bz]at ha;cases b<;>simp[Bz]at hb;simp only[DZ,Qh,Value.agg.injEq];rw[LL ha hb];exact⟨λh=>by rw[h],λh=>by simpa using h⟩
structure Io(P:cP)(K:ea)(kk:KK):Prop where
 keyed:Maps.Keyed P K
 lit:∀{kd I w v},Bz kk kd=J->CD I w kd v->∃l,keyOf P K v=am l
theorem Tf{P:cP}{K:ea}{q:IntKind}(h:P.underlying K=am (.int q)):Io P K (.one (.int q)):=
 ⟨Maps.int_keyed h,λ{kd I w v} g i=>by
  cases i<;>simp[Bz,CC]at g;subst g;rename_i n j;exact⟨_,Maps.keyOf_int_mk h (by rw[Vm];exact j)⟩⟩
theorem Tx{P:cP}{K:ea}(h:P.underlying K=am .string):Io P K (.one .str):=
 ⟨Maps.string_keyed h,λ{kd I w v} g i=>by
  cases i<;>simp[Bz,CC]at g;rename_i s j;exact⟨.string s.data.toList,by simp[keyOf,h,mapKey,j]⟩⟩
def basic(P:cP)(t:ea):Option CK:=
 match P.underlying t with
 |some .bool=>am .bool
 |some (.int q)=>am (.int q)
 |some .string=>am .str
 |_=>none
def kf(P:cP):Nat->List Field->Option (List CK)
 |_,[]=>am []
 |k,f::g=>if f.offset=k/\P.cellsOf f.type=1/\(f.name != "_")=J then
   (match basic P f.type,kf P (k+1) g with|some c,am h=>am (c::h)|_,_=>none)else none
def R5(P:cP)(t:ea):Option (List CK):=
 if P.keyType t&&P.keyTypeAt 2 t&&P.tiled 2 t&&!P.eqGuardType P.depth t&&decide (0<P.types.size)then
  match P.underlying t with
  |some (.struct g)=>if P.cellsOf t=g.size then kf P 0 g.toList else none
  |some (.array n e)=>if P.cellsOf t=n/\P.cellsOf e=1 then(basic P e).map λc=>List.replicate n c else none
  |_=>none
 else none
theorem Ps{P:cP}{t:ea}{c:CK}(hb:basic P t=am c){I:Nat->Prop}{w:World}{d:D}{v:Value}(g:CC c d=J)(h:CD I w d v)(m:Nat):P.keyLits (m+1) t [v]=am [JM d]:=by
 unfold basic at hb;unfold Program.keyLits;cases h with
 |bool b=>split at hb<;>cases hb<;>simp[CC]at g;rename_i i;simp[i,JM]
 |int k n j=>split at hb<;>cases hb<;>simp[CC]at g;rename_i i;subst g;simp[i,JM,Vm,j]
 |str s o=>split at hb<;>cases hb<;>simp[CC]at g;rename_i i;simp[i,JM,o]
 |_=>split at hb<;>cases hb<;>simp[CC]at g
abbrev Hh:=@List.drop_eq_getElem_cons
abbrev adZ:=@Nat.add_comm
theorem U3{P:cP}{I:Nat->Prop}{w:World}{m:Nat}(j:List Value):∀(q:List Field) (k:Nat) (g:List CK) (ds:List D),kf P k q=am g->Bv g ds=J->k+Z q=Z j->(∀i (h:i<Z ds) (N:k+i<Z j),CD I w ds[i] j[k+i])->(q.mapM λf=>P.keyLits (m+1) f.type ((j.drop f.offset).take (P.cellsOf f.type)))=am (ds.map λd=>[JM d])
 |[],k,g,ds,h,o,_,_=>by
  simp only[kf,j3]at h;subst h;cases ds with
  |nil=>rfl
  |cons d ds=>simp[Bv]at o
 |f::q,k,g,ds,h,o,E,B=>by
  simp only[kf]at h;split at h
  .rename_i F;obtain⟨G,H,Q⟩:=F;split at h
   .rename_i c u hb v;cases h;cases ds with
    |nil=>simp[Bv]at o
    |cons d ds=>
     simp only[Bv,cF]at o;simp only[gr]at E;have K:k<Z j:=by omega
     have L:(j.drop f.offset).take (P.cellsOf f.type)=[j[k]]:=by
      rw[G,H,Hh K];rfl
     have A:=B 0 (by simp) (by omega);have C:=Ps hb o.1 A m;have M:=U3 (m:=m) j q (k+1) u ds v o.2 (by omega) (λi hi R=>by
      have:=B (i+1) (by simpa using hi) (by omega);simpa[py,adZ 1 i]using this)
     simp at C;simp[L,C,M]
   .cases h
  .cases h
abbrev ac4:=@List.replicate_succ
theorem Ou{n:Nat}{c:CK}:∀{ds:List D},Bv (List.replicate n c) ds=J->Z ds=n/\∀d∈ds,CC c d=true:=by
 induction n with
 |zero=>intro ds h;cases ds<;>simp[Bv]at h⊢
 |succ n i=>
  intro ds h;cases ds with
  |nil=>simp[ac4,Bv]at h
  |cons d ds=>
   simp[ac4,Bv]at h;obtain⟨j,k⟩:=i h.2;refine⟨by simp[j],λx g=>?_⟩;cases g with
   |head=>exact h.1
   |tail _ g=>exact k x g
theorem Nq{α β:Type}(f:α->β)(l:List α):(l.map λd=>[f d]).flatten=l.map f:=by
 induction l with
 |nil=>rfl
 |cons a l g=>simp[g]
theorem mapM_some{α β:Type}(f:α->Option β)(g:α->β)(l:List α)(h:∀a∈l,f a=am (g a)):l.mapM f=am (l.map g):=by
 induction l with
 |nil=>rfl
 |cons a l i=>simp[h a (by simp),i λb hb=>h b (by simp[hb])]
abbrev ol:=@Bool.not_eq_true'
abbrev adB:=@Bool.and_true
abbrev cL:=@List.getElem_mem
theorem SA{P:cP}{t:ea}{j:List CK}(h:R5 P t=am j):P.keyTypeAt 2 t=J/\P.tiled 2 t=J/\P.eqGuardType P.depth t=ap/\(match P.underlying t with|some (.array _ _)|some (.struct _)=>J|_=>ap)=J/\∀{I:Nat->Prop} {w:World} {ds:List D} {v:Value},Bv j ds=J->CD I w (.agg ds) v->keyOf P t v=am (.string (keyBytes (ds.map JM))):=by
 unfold R5 at h;split at h
 .rename_i W;simp only[cF,ol]at W;obtain⟨⟨⟨⟨X,h2⟩,h3⟩,h4⟩,h5⟩:=W;have Y:0<P.types.size:=by simpa using h5
  refine⟨h2,h3,h4,?_⟩;split at h
  .rename_i o C;refine⟨by rw[C],λ{I w ds v} G q=>?_⟩;split at h
   .rename_i H;cases q with
    |agg ds B hs q ho=>
     have K:∀(k:Nat) (o:List Field) (j:List CK),kf P k o=am j->Z j=Z o:=by
      intro k o;induction o generalizing k with
      |nil=>intro j h;simp[kf]at h;subst h;rfl
      |cons f o N=>
       intro j h;simp only[kf]at h;split at h
       .split at h
        .rename_i c Q hb u;cases h;simp[N _ _ u]
        .cases h
       .cases h
     have L:=K 0 o.toList j h;have hl2:=(LP G).1;have E:∀(k:Nat) (o:List Field) (j:List CK),kf P k o=am j->∀f∈o,(f.name != "_")=true:=by
      intro k o;induction o generalizing k with
      |nil=>intro j _ f M;cases M
      |cons f o N=>
       intro j h g G;simp only[kf]at h;split at h
       .rename_i M;split at h
        .rename_i c Q hb u;cases G with
         |head=>exact M.2.2
         |tail _ G=>exact N _ _ u g G
        .cases h
       .cases h
     have e:=U3 (m:=P.types.size - 1) (I:=I) (w:=w) B.toList o.toList 0 j ds h G (by simp at L⊢;omega) (λi hi zo=>by simpa using q i hi);have Kx:P.types.size - 1+1=P.types.size:=by omega
     rw[Kx]at e;have F:(Value.agg B).cells=B:=rfl;have u:Z B.toList=P.cellsOf t:=by rw[H];simp at L⊢;omega
     unfold keyOf;have A:(Value.agg B).formed P t=true:=by simp[Value.formed,C,H];simp at L;omega
     simp only[C,X,A,adB,ip,F];unfold Program.keyLits;simp only[C,u];have R:o.all (λf=>f.name != "_")=true:=by
      rw[Array.all_eq_true'];intro f M;exact E 0 o.toList j h f (by simpa using M)
     rw[ca ⟨trivial,R⟩,e];simp[Nq]
   .cases h
  .rename_i n e C;refine⟨by rw[C],λ{I w ds v} G q=>?_⟩;split at h
   .rename_i H;obtain⟨H,S⟩:=H;simp only[In]at h;obtain⟨c,hb,rfl⟩:=h;obtain⟨L,zj⟩:=Ou G;cases q with
    |agg ds B hs q ho=>
     have Kx:∃m,P.types.size=m+1:=⟨P.types.size - 1,by omega⟩;obtain⟨m,hm⟩:=Kx;have u:Z B.toList=P.cellsOf t:=by rw[H];simp;omega
     have A:(Value.agg B).formed P t=true:=by simp[Value.formed,C,H];omega
     unfold keyOf;simp only[C,X,A,adB,ip,Value.cells];unfold Program.keyLits;simp only[C,u,ip];have e:=mapM_some (λi=>P.keyLits P.types.size e ((B.toList.drop (i * P.cellsOf e)).take (P.cellsOf e))) (λi=>[JM (ds.getD i (.bool ap))]) (List.range n) (λi hi=>by
      have hi:i<n:=by simpa using hi
      have T:i<Z B.toList:=by simp;omega
      rw[S,Nat.mul_one,Hh T,hm];have U:ds.getD i (.bool ap)=ds[i]'(by omega):=by simp[List.getD,show i<Z ds by omega]
      rw[U];exact Ps hb (zj _ (cL _)) (by simpa using q i (by omega)) m)
     rw[e];have:(List.range n).map (λi=>JM (ds.getD i (.bool ap)))=ds.map JM:=by
      apply xv (by simp[L]);intro i g1 g2;have:i<Z ds:=by simpa using g2
      simp[List.getD,this]
     simp only[acn,Nq,this]
   .cases h
  .cases h
 .cases h
theorem QX{P:cP}{K:ea}{g:List CK}(h:R5 P K=am g):Io P K (.cells g):=by
 obtain⟨j,k,A,o,q⟩:=SA h;refine⟨Maps.Keyed.of_law (deep_law (m:=2) (by decide) j k o),λ{kd I w v} i u=>?_⟩;cases kd<;>simp[Bz]at i;exact⟨_,q i u⟩
theorem SN{P:cP}{T:ea}{g:List CK}(h:R5 P T=am g){I:Nat->Prop}{w:World}{as i:List D}{u v:Value}(ha:Bv g as=J)(hb:Bv g i=J)
  (A:CD I w (.agg as) u) (B:CD I w (.agg i) v):(Op.equal T u v).run P w=.ok (CT as i) w:=by
 obtain⟨E,F,L,C,k⟩:=SA h;obtain⟨r,G,o⟩:=run_equal_deep w (m:=2) (by decide) E C (k ha A) (k hb B);rw[G];congr 1;have H:keyOf P T u=keyOf P T v->as.map JM=i.map JM:=λe=>by
  have j:=k ha A;have K:=k hb B;obtain⟨M,N,Q,R,S⟩:=keyOf_top C j;have q:u=v:=keyOf_inj_deep F C j (by rw[<-e];exact j);have k1:u=Qh (.agg as):=JC (kk:=.cells g) ha A;have k2:v=Qh (.agg i):=JC (kk:=.cells g) hb B;rw[k1,k2]at q;have:as.map Fb=i.map Fb:=by simpa[Qh]using q
  exact(LH ha hb).2 this
 have:(r=J↔CT as i=J):=by
  rw[o,LL ha hb,<-LH ha hb];constructor
  .intro e;exact H (by rw[k ha A,k hb B,e])
  .intro e;rw[e]
 cases r<;>cases U:CT as i<;>simp_all
abbrev oj:=@List.mem_of_getElem?
abbrev abg:=@Array.getElem?_eq_some_iff
abbrev adi:=@MapKept.run_getObj_map
abbrev adj:=@Array.getElem?_push_lt
section
variable {P:cP} {n:Nat} {o:Oper} {tm:Tm} {S S':Sg} {v:V}
def Cz(es:List (D×V))(k:D):Option V:=(es.find? λp=>DZ p.1 k).map (·.2)
def Ep(es:List (D×V))(k:D)(x:V):List (D×V):=
 if(Cz es k).isSome then es.map λp=>if DZ p.1 k then(p.1,x)else p else es++[(k,x)]
theorem V5{T:ea}(g:o.op=.makeMap T none):CR P n o tm S (.map (Z S)) (S++[.map []]):=.val λG w a st=>by
 obtain⟨r1,r2,h⟩:=st.rel.add 0 (.map []) (.map #[] 0) (λL=>by
  simp only[OK];exact⟨#[],0,by simpa[Gh.at]using EV,rfl,rfl,λi hi=>by simp at hi⟩)
 refine⟨.map (am w.heap.size),_,_,?_,?_,r1,r2,h⟩
 .simp[execOp,g,Instr.makeMap];rfl
 .exact .map _ _ rfl (by simp) λ_=>by simp[Gh.at]
theorem Xe{G:Gh}{w:World}(R:Rel P G S w){K:ea}{kk:KK}(F:Io P K kk){r:Nat}{es:List (D×V)}(hr:S[r]?=am (.map es))(hes:∀p∈es,Bz kk p.1=J)
  {kd:D} {B:Value} (hk:CD G.I w kd B) (hg:Bz kk kd=J):
  ∃g q,w.heap[G.CP r]?=am (.map g q)/\g.size=Z es/\(∀m em,(Instr.checkKey em 10000 K B).run P m=.ok () m)/\(∀m,(Instr.keyThatStays B B).run P m=.ok B m)/\((Cz es kd=none/\(∀e∈g.toList,e.key≠B)/\∀m,(Instr.findKey K B g.toList).run P m=.ok none m)\/∃j e,∃hj:j<Z es,g[j]?=am e/\e.key=B/\Cz es kd=am es[j].2/\CV G S w es[j].2 e.val/\(∀m,(Instr.findKey K B g.toList).run P m=.ok (am (j,e.val)) m)/\∀i (h:i<Z es),DZ es[i].1 kd=J↔i=j):=by
 have zq:=R.Da r _ hr;simp[OK]at zq;obtain⟨g,q,h1,Y,_,h3⟩:=zq;obtain⟨l,hl⟩:=F.lit hg hk;have hkv:=JC hg hk;have zj:∀i (h:i<Z es),∃e,g[i]?=am e/\e.key=Qh es[i].1/\Bz kk es[i].1=J/\CV G S w es[i].2 e.val/\(∃l,keyOf P K e.key=am l)/\∀j f,j<i->g[j]?=am f->f.key≠e.key:=λi hi=>by
  obtain⟨e,C,Q,e3,e4,e5⟩:=h3 i hi;have H:=hes _ (cL hi);exact⟨e,C,JC H Q,H,e3,F.lit H Q,λj f hj N=>(e5 j f hj N).2⟩
 have E:∀e∈g.toList,∃l,keyOf P K e.key=am l:=λe T=>by
  obtain⟨i,hi,rfl⟩:=lm.1 T;have zo:i<Z es:=by rw[<-Y];simpa using hi
  obtain⟨e,C,_,_,_,e5,_⟩:=zj i zo;have:g.toList[i]=e:=by
   rw[ll (by omega)]at C;simpa using C
  rw[this];exact e5
 refine⟨g,q,h1,Y,λm em=>F.keyed.check m em hl,λm=>F.keyed.stays m hl,?_⟩;have A:∀i (h:i<Z es) e,g[i]?=am e->(DZ es[i].1 kd=J↔e.key=B):=λi hi e T=>by
  obtain⟨e',C,Q,e3,_⟩:=zj i hi;rw[T]at C;cases C;rw[Zn e3 hg,<-Q,<-hkv]
 by_cases L:∃j,∃hj:j<Z es,DZ es[j].1 kd=J
 .obtain⟨j,hj,U⟩:=L;obtain⟨e,C,Q,e3,e4,e5,e6⟩:=zj j hj;have k:e.key=B:=(A j hj e C).1 U;have u:∀i (h:i<Z es),DZ es[i].1 kd=J↔i=j:=λi hi=>by
   constructor
   .intro hi2;obtain⟨f,f1,f2,f3,f4,f5,f6⟩:=zj i hi;have W:f.key=B:=(A i hi f f1).1 hi2;rcases Nat.lt_trichotomy i j with h|h|h
    .exact absurd (W.trans k.symm) (e6 i f h f1)
    .exact h
    .exact absurd (k.trans W.symm) (f6 j e h C)
   .rintro rfl;exact U
  have M:Cz es kd=am es[j].2:=by
   unfold Cz;have:es.find? (λp=>DZ p.1 kd)=am es[j]:=by
    rw[List.find?_eq_some_iff_getElem];refine⟨U,j,hj,rfl,λi hi=>?_⟩;have:=u i (by omega);simp;cases hx:DZ es[i].1 kd with
    |false=>rfl
    |true=>have:=this.1 hx;omega
   rw[this];rfl
  refine .inr ⟨j,e,hj,C,k,M,e4,λm=>?_,u⟩;rcases F.keyed.find m hl g.toList E with⟨_,X⟩|⟨i,f,g1,X,g3⟩
  .exact absurd k (X e (oj (by simpa using C)))
  .have N:g[i]?=am f:=by simpa using X
   have hi:i<Z es:=by rw[<-Y];exact(abg.1 N).1
   have:i=j:=(u i hi).1 ((A i hi f N).2 g3);subst this;rw[C]at N;cases N;exact g1
 .have zw:∀e∈g.toList,e.key≠B:=λe T k=>by
   obtain⟨i,hi,rfl⟩:=lm.1 T;have zo:i<Z es:=by rw[<-Y];simpa using hi
   exact L ⟨i,zo,(A i zo _ (by rw[ll (by omega)];simp)).2 k⟩
  refine .inl ⟨?_,zw,λm=>?_⟩
  .unfold Cz;have:es.find? (λp=>DZ p.1 kd)=none:=by
    rw[List.find?_eq_none];intro p hp U;obtain⟨i,hi,rfl⟩:=lm.1 hp;exact L ⟨i,hi,U⟩
   rw[this];rfl
  .rcases F.keyed.find m hl g.toList E with⟨g1,_⟩|⟨i,f,g1,X,g3⟩
   .exact g1
   .exact absurd g3 (zw f (oj X))
def UF(es:List (D×V))(k:D)(z:V)(ok:Bool):V:=
 if ok then .CX [(Cz es k).getD z,.d (.bool (Cz es k).isSome)]else(Cz es k).getD z
theorem aa{T K E:ea}{x y:Operand}{ok:Bool}{r:Nat}{es:List (D×V)}{kd:D}{kk:KK}{t e:TI}{z:Value}(H:o.op=.lookup T x y ok)(X:ti P T=am t)(Y:t.kind=.map K E)
  (he:ti P E=am e) (hz:e.zero=am z) (F:Io P K kk) (hx:need (ev tm x)) (ex:strip (ev tm x)=.map r) (L:S[r]?=am (.map es)) (m:∀p∈es,Bz kk p.1=J)
  (hy:need (ev tm y)) (ey:BO S (strip (ev tm y))=am kd) (hg:Bz kk kd=J):CR P n o tm S (UF es kd (OQ z) ok) S:=.pure λG w a st=>by
 have M:=(BS st x).strip hx;rw[ex]at M;have h2:=((BS st y).strip hy).BO st.rel ey;have g:a.eval x=.map (am (G.CP r)):=by cases M with|map _ _ _ _ h=>exact h (by simp[isMap,L])
 obtain⟨d,N,q⟩:=An X w;have u:d=.map K E:=by rw[Y]at q;cases d<;>simp[tk]at q⊢;exact q
 subst u;obtain⟨Q,A,f1,f2,f3,f4,f5⟩:=Xe st.rel F L m h2 hg;have B:=EG he w hz;have k:=adi (P:=P) f1;rcases f5 with⟨R,g2,C⟩|⟨j,U,hj,R,g2,C,W,g5,g6⟩
 .refine⟨if ok then .tuple #[z,.bool ap]else z,?_,?_⟩
  .cases ok<;>simp[execOp,H,Instr.lookup,N,g,k,f3,C,B]
  .unfold UF;rw[R];cases ok
   .exact IH _ _ _ _
   .refine .CX _ _ rfl λi hi=>?_;match i,hi with
    |0,_=>exact IH _ _ _ _
    |1,_=>exact .d _ _ (.bool _)
 .refine⟨if ok then .tuple #[U.val,.bool J]else U.val,?_,?_⟩
  .cases ok<;>simp[execOp,H,Instr.lookup,N,g,k,f3,g5]
  .unfold UF;rw[C];cases ok
   .exact W
   .refine .CX _ _ rfl λi hi=>?_;match i,hi with
    |0,_=>exact W
    |1,_=>exact .d _ _ (.bool _)
theorem MV{T K E:ea}{x y z:Operand}{r:Nat}{es:List (D×V)}{kd:D}{kk:KK}{t:TI}(ho:o.op=.mapUpdate T x y z\/o.op=.insert T x y z)(hT:ti P T=am t)(M:t.kind=.map K E)
  (F:Io P K kk) (hx:need (ev tm x)) (ex:strip (ev tm x)=.map r) (U:S[r]?=am (.map es)) (hes:∀p∈es,Bz kk p.1=J)
  (hy:need (ev tm y)) (ey:BO S (strip (ev tm y))=am kd) (hg:Bz kk kd=J) (hz:need (ev tm z)):CR P n o tm S .any (S.set r (.map (Ep es kd (strip (ev tm z))))):=.skip λG w a st=>by
 have h1:=(BS st x).strip hx;rw[ex]at h1;have h2:=((BS st y).strip hy).BO st.rel ey;have h3:=(BS st z).strip hz;have hmv:a.eval x=.map (am (G.CP r)):=by cases h1 with|map _ _ _ _ h=>exact h (by simp[isMap,U])
 obtain⟨d,hd,N⟩:=An hT w;have hdE:d=.map K E:=by rw[M]at N;cases d<;>simp[tk]at N⊢;exact N
 subst hdE;have zq:=st.rel.Da r _ U;simp only[OK]at zq;obtain⟨ents0,clock0,q1,q2,qk,q3⟩:=zq;obtain⟨g,m,f1,f2,f3,f4,f5⟩:=Xe st.rel F U hes h2 hg;rw[f1]at q1;simp only[j3,Obj.map.injEq]at q1;obtain⟨rfl,rfl⟩:=q1;have hgo:=adi (P:=P) f1;have hso:=λo'=>MapKept.run_setObj_map (P:=P) o' f1;have hrl:=Ag U;have zv:∀o':O,(S.set r o')[r]?=am o':=λo'=>by simp[hrl]
 have A:(execOp a.eval o).run P w=((Instr.mapUpdate T (a.eval x) (a.eval y) (a.eval z)).run P w).andThen λ_ w'=>.ok .skip w':=by
  rcases ho with ho|ho<;>simp[execOp,ho]
 rcases f5 with⟨g1,g2,g3⟩|⟨j,e',hj,g1,g2,g3,g4,g5,g6⟩
 .have B:Ep es kd (strip (ev tm z))=es++[(kd,strip (ev tm z))]:=by simp[Ep,g1]
  rw[B];obtain⟨r1,r2,r3⟩:=st.rel.update (o':=.map (es++[(kd,strip (ev tm z))])) (H:=.map (g.push {key:=a.eval y,val:=a.eval z,born:=m}) (m+1)) U rfl rfl
   (λn' Y=>by simp[lenOf,zv]at Y) (λ_=>by simp[isMap,U]) (λL=>by
    simp only[OK];refine⟨_,_,GQ (F8 f1),by simp[f2],by simp[qk],λi hi=>?_⟩;by_cases u:i<Z es
    .obtain⟨e,W,e2,e3,e4,e5⟩:=q3 i u;refine⟨e,by rw[adj (by omega),<-W,ll (by omega)],?_,?_,e4,λj f hj q=>e5 j f hj ?_⟩
     .rw[oi u];exact e2.mono L.I L.DB
     .rw[oi u];exact e3.later L
     .rw[adj (by omega)]at q;rw[<-q,ll (by omega)]
    .have hie:i=Z es:=by simp at hi;omega
     subst hie;refine⟨⟨a.eval y,a.eval z,m⟩,by rw[<-f2];simp,?_,?_,qk,λj f hj q=>?_⟩
     .simpa using h2.mono L.I L.DB
     .simpa using h3.later L
     .rw[adj (by omega)]at q;simp only[j3]at q;obtain⟨e,W,e2,e3,e4,e5⟩:=q3 j (by omega);rw[ll (by omega)]at W;simp only[j3]at W;have hfe:f=e:=by rw[<-q,<-W]
      subst hfe;exact⟨by simp only;omega,g2 f (by rw[<-q];simp)⟩)
  refine⟨G,_,?_,r1,r2,r3⟩;rw[A];simp[Instr.mapUpdate,hd,hmv,hgo,f3,g3,hso];rfl
 .have B:Ep es kd (strip (ev tm z))=es.map λp=>if DZ p.1 kd then(p.1,strip (ev tm z))else p:=by simp[Ep,g3]
  rw[B];have hjs:j<g.size:=by omega
  have hej:g[j]=e':=by rw[ll hjs]at g1;simpa using g1
  obtain⟨r1,r2,r3⟩:=st.rel.update (o':=.map (es.map λp=>if DZ p.1 kd then(p.1,strip (ev tm z))else p)) (H:=.map (g.modify j λe=>{e with key:=a.eval y,val:=a.eval z}) m) U rfl rfl
   (λn' Y=>by simp[lenOf,zv]at Y) (λ_=>by simp[isMap,U]) (λL=>by
    simp only[OK];refine⟨_,_,GQ (F8 f1),by simp[f2],by simpa using qk,λi hi=>?_⟩;have u:i<Z es:=by simpa using hi
    obtain⟨e,W,e2,e3,e4,e5⟩:=q3 i u;have C:∀k (h:k<g.size),(g.modify j λe=>{e with key:=a.eval y,val:=a.eval z})[k]?=am (if j=k then {g[k]with key:=a.eval y,val:=a.eval z}else g[k]):=λk M=>by
     rw[Array.getElem?_modify,ll M];by_cases Q:j=k<;>simp[Q]
    have R:g[i]'(by omega)=e:=by rw[ll (by omega)]at W;simpa using W
    have X:∀k f,k<i->(g.modify j λe=>{e with key:=a.eval y,val:=a.eval z})[k]?=am f->∃f',g[k]?=am f'/\f.born=f'.born/\f.key=f'.key:=λk f M q=>by
     have hks:k<g.size:=by omega
     rw[C k hks]at q;simp only[j3]at q;refine⟨g[k],ll hks,?_⟩;by_cases Q:j=k
     .subst Q;simp only[ip]at q;rw[<-q];exact⟨rfl,by rw[hej];exact g2.symm⟩
     .rw[bv Q]at q;rw[<-q];exact⟨rfl,rfl⟩
    by_cases hij:j=i
    .subst hij;have N:DZ es[j].1 kd=true:=(g6 j hj).2 rfl;have hee:e=e':=by rw[<-R,hej]
     subst hee;refine⟨_,(C j hjs).trans (by rw[ca rfl]),?_,?_,?_,λk f M q=>?_⟩
     .simp only[m6,N,ip];have h0:=e2.mono L.I L.DB;rw[g2]at h0;exact h0
     .simp only[m6,N,ip];exact h3.later L
     .simp only[R];exact e4
     .obtain⟨f',k1,k2,k3⟩:=X k f M q;obtain⟨b1,b2⟩:=e5 k f' M k1;simp only[R];rw[k2,k3];exact⟨b1,by rw[<-g2];exact b2⟩
    .have N:DZ es[i].1 kd=false:=by
      cases hx:DZ es[i].1 kd with
      |false=>rfl
      |true=>exact absurd ((g6 i u).1 hx).symm hij
     refine⟨e,by rw[C i (by omega),bv hij,R],?_,?_,e4,λk f M q=>?_⟩
     .simp only[m6,N,ob,jw];exact e2.mono L.I L.DB
     .simp only[m6,N,ob,jw];exact e3.later L
     .obtain⟨f',k1,k2,k3⟩:=X k f M q;rw[k2,k3];exact e5 k f' M k1)
  refine⟨G,_,?_,r1,r2,r3⟩;rw[A];have hkey:(g[j]?.map (·.key)).getD (a.eval y)=a.eval y:=by simp[g1,g2]
  have hkts:=f4 w;simp only[Instr.mapUpdate,ls,hd,hmv,hgo,f3,g5,kv,hkey,hkts,hso];rfl
theorem QE{neg:Bool}{T U:ea}{x y:Operand}{as h:List D}{g:List CK}(A:o.op=.binOp (if neg then .neq else .eql) T x y U)(q:R5 P T=am g)(B:need (ev tm x))(C:need (ev tm y))
  (E:BO S (strip (ev tm x))=am (.agg as)) (F:BO S (strip (ev tm y))=am (.agg h)) (ha:Bv g as=J) (hb:Bv g h=J):
  CR P n o tm S (.d (.bool (CT as h !=neg))) S:=.pure λG w a st=>by
 have i:=((BS st x).strip B).BO st.rel E;have j:=((BS st y).strip C).BO st.rel F;have k:=SN q ha hb i j;obtain⟨_,_,H,_,_⟩:=SA q;refine⟨.bool (CT as h !=neg),?_,.d _ _ (.bool _)⟩;generalize K:a.eval x=X at i k;generalize L:a.eval y=Y at j k;cases i with
 |agg _ N Q R u=>
  cases j with
  |agg _ W M zr m=>
   cases neg<;>simp[execOp,A,K,L,run_eqGuard_agg,H,binOp,k]
end
section
variable {P:cP} {n:Nat} {o:Oper} {tm:Tm} {S S':Sg} {v:V}
theorem OS{T E:ea}{x y:Operand}{len:Nat}{k:IntKind}{i:Int}{t e:TI}(R:o.op=.indexAddr T x y)(U:need (ev tm x))(W:need (ev tm y))(Y:ti P T=am t)(g:t.kind=.array len E)
  (he:ti P E=am e) (ey:strip (ev tm y)=.d (.int k i)) (h0:0<=i) (h1:i<len) (q:Gg S (strip (ev tm x))):CR P n o tm S (vS (i.toNat * e.size) (strip (ev tm x))) S:=.pure λG w a st=>by
 have u:=(BS st x).strip U;have hi:=B7 st W ey;generalize strip (ev tm x)=X at *;obtain⟨d,hd,C⟩:=An Y w;have F:d=.array len E:=by rw[g]at C;cases d<;>simp[tk]at C⊢;exact C
 subst F;have N:∀b k,a.eval x=.pointer (am ⟨b,k,none⟩)->(execOp a.eval o).run P w=.ok (.value (.pointer (am ⟨b,k+i.toNat * e.size,none⟩))) w:=λb k g=>by
  simp[execOp,R,g,hi,Instr.indexAt,asIntOf,hd,Instr.sureAddr,GR];rw[ca ⟨h0,h1⟩];simp[Bg he]
 unfold Gg at q;split at q
 .rename_i r m i' j;split at q
  .rename_i wr sz els H;obtain⟨hm,hi⟩:=q;have A:=u.KV H hm;obtain⟨b,k,g⟩:=Oh st.rel H hi;rw[g]at A;refine⟨_,N _ _ A,?_⟩;cases u with
   |ptr _ _ _ _ _ u h3 h4=>
    refine .ptr _ _ _ _ _ rfl h3 λm' K=>⟨(h4 m' K).1,λe L B=>?_⟩;have:L=sz:=by simpa[C1,H]using B.symm
    subst this;rw[<-py,g];simp[py]
  .exact q.elim
 .rename_i Q;generalize hX:a.eval x=X at u;cases u with
  |DW Q b k vs hI h=>
   refine⟨_,N _ _ hX,?_⟩;refine .DW _ _ _ (λj=>vs (i.toNat * e.size+j)) hI λj hj=>?_;have M:i.toNat * e.size+j<Z Q:=by simp at hj;omega
   have:=h (i.toNat * e.size+j) M;simpa[py]using this
 .exact q.elim
theorem nil_eq{neg:Bool}{T E U:ea}{x:Operand}{xs:List D}{t:TI}(A:o.op=.binOp (if neg then .neq else .eql) T x (.const (.slice none 0 0)) U)(B:ti P T=am t)(C:t.kind=.slice E)
  (F:need (ev tm x)) (j:strip (ev tm x)=.d (.sl xs)\/strip (ev tm x)=.full xs) {G:Gh} {w:World} {a:Act} (st:St P n G S w a tm):
  ∃b:Bool,(xs≠[]->b=ap)/\(execOp a.eval o).run P w=.ok (.value (.bool (b !=neg))) w:=by
 have g:=(BS st x).strip F;have k:∃b len cap,a.eval x=.slice b len cap/\(xs≠[]->b.isNone=ap):=by
  have key:∀v,CD G.I w (.sl xs) v->∃b len cap,v=.slice b len cap/\(xs≠[]->b.isNone=ap):=λv h=>by
   cases h with
   |nil b c=>exact⟨b,0,c,rfl,λh=>absurd rfl h⟩
   |sl sz xs b off cap N Q R u g W=>exact⟨_,_,_,rfl,λ_=>rfl⟩
  generalize a.eval x=X at g;rcases j with j|j<;>rw[j]at g
  .cases g with|d _ _ h=>exact key _ h
  .cases g with|full _ b h=>exact key _ h
 obtain⟨b,len,cap,H,K⟩:=k;obtain⟨i,d,Y,L,_,_,_,m⟩:=H4 B;have q:d=.slice E:=by rw[C]at m;cases d<;>simp[tk]at m⊢;exact m
 subst q;have M:=run_equal_slice_nil w T E b len cap L;have u:a.eval (.const (.slice none 0 0))=.slice none 0 0:=rfl;refine⟨b.isNone,K,?_⟩;cases neg<;>simp[execOp,A,H,u,eqGuard,binOp,M]
end
def Fk(tm:Tm)(d:Nat)(v:V):Tm:=λk=>if k=d then v else tm k
@[simp] theorem uU(tm:Tm)(d:Nat)(v:V):Fk tm d v d=v:=by simp[Fk]
@[simp] theorem wy(tm:Tm)(d k:Nat)(v:V)(h:k≠d):Fk tm d v k=tm k:=by simp[Fk,h]
def put(tm:Tm)(d:Option Tmp)(v:V):Tm:=
 match d with
 |some d=>Fk tm d v
 |none=>tm
def ER(l:List V):Tm:=λk=>l.getD k .any
@[simp] theorem uH(v:V)(l:List V):ER (v::l) 0=v:=rfl
@[simp] theorem uJ(v:V)(l:List V)(k:Nat):ER (v::l) (k+1)=ER l k:=rfl
@[simp] theorem vZ(k:Nat):ER [] k=.any:=rfl
def A6(n:Nat)(d:Option Tmp):Prop:=match d with|some d=>d<n|none=>True
theorem ma.put{G:Gh}{S:Sg}{w:World}{n:Nat}{a:Act}{tm:Tm}{d:Option Tmp}{v:V}{cv:Value}(h:ma G S w a.tmps tm)(g:a.tmps.size=n)(i:A6 n d)(j:CV G S w v cv):
  ma G S w (a.put d cv).tmps (put tm d v):=by
 cases d with
 |none=>exact h
 |some d=>
  intro k;simp only[Koi.put,Koi.Fk,Act.put];have m:d<a.tmps.size:=su i (adY g.symm);by_cases e:k=d
  .subst e;simp only[ip];rw[rg,acK m];exact j
  .rw[bv e,rg,ab5 (n7 e),<-rg];exact h k
theorem e9{a:Act}{d:Option Tmp}{cv:Value}:(a.put d cv).tmps.size=a.tmps.size:=by cases d<;>simp[Act.put]
theorem Cy{a:Act}{d:Option Tmp}{cv:Value}:(a.put d cv).defers=a.defers:=by cases d<;>rfl
theorem St.put{P:cP}{n:Nat}{G:Gh}{S:Sg}{w:World}{a:Act}{tm:Tm}(st:St P n G S w a tm){d:Option Tmp}(h:A6 n d){v:V}{cv:Value}{g:Gh}{S':Sg}{w':World}
  (i:CV g S' w' v cv) (R:Rel P g S' w') (L:BA G S w g S' w'):St P n g S' w' (a.put d cv) (put tm d v):=
 ⟨by rw[e9];exact st.size,(st.tm.later L).put st.size h i,R⟩
def CW(ops:Array Oper)(tm:Tm)(j:Nat)(h:Bool):Option Bool:=
 match (ops[j]?).bind (·.dst)with
 |some d=>match tm d with
  |.d (.bool b)=>am (b==h)
  |.opt g (.d (.bool b))=>am (g&&(b==h))
  |_=>bi
 |none=>bi
abbrev adt:=@Option.bind_some
abbrev W1:=@Bool.false_and
theorem Rm{P:cP}{n:Nat}{G:Gh}{S:Sg}{w:World}{a:Act}{tm:Tm}(st:St P n G S w a tm){ops:Array Oper}{o:Oper}{j:Nat}{i g:Bool}(A:o.guard=am (j,i))
  (h:CW ops tm j i=am g):Region.wanted o (yielded ops a.tmps)=g:=by
 unfold CW at h;unfold Region.wanted yielded;rw[A];simp[];cases u:(ops[j]?).bind (·.dst)with
 |none=>rw[u]at h;cases h
 |some d=>
  rw[u]at h;simp at h⊢;have k:=st.tm d;have key:∀v:Value,a.tmps.getD d undef=v->v≠undef->a.tmps[d]?=am v:=λv q B=>by
   rw[rg]at q;cases m:a.tmps[d]? with
   |none=>rw[m]at q;exact absurd q.symm B
   |some x=>rw[m]at q;simpa using q
  split at h
  .rename_i b hb;rw[hb]at k;have:=k.bool;rw[key _ this (by simp[undef])];simp at h;subst h;cases b<;>cases i<;>rfl
  .rename_i C b hb;rw[hb]at k;simp at h;subst h;generalize m:a.tmps.getD d undef=X at k;cases k with
   |opt _ _ _ E F=>
    cases C with
    |true=>
     have:=(E rfl).bool;subst this;rw[key _ m (by simp[undef])];cases b<;>cases i<;>rfl
    |false=>
     have:=F rfl;subst this;simp only[W1];rw[rg]at m;cases H:a.tmps[d]? with
     |none=>rfl
     |some y=>rw[H]at m;simp at m;subst m;rfl
  .cases h
def wW(op:Op):Bool:=
 match op with
 |.box ..|.alloc _|.store ..|.makeSlice ..|.makeMap ..|.mapUpdate ..|.insert ..=>ap
 |.call c=>match c.callee with|.builtin .append=>ap|.builtin _=>J|_=>ap
 |_=>J
def EO(P:cP)(T:ea):Option (Nat×ea):=match ti P T with|some t=>(match t.kind with|.array n e=>am (n,e)|_=>bi)|none=>bi
def Kj(P:cP)(T:ea):Option (ea×ea):=match ti P T with|some t=>(match t.kind with|.map k e=>am (k,e)|_=>bi)|none=>bi
def Nk(P:cP)(T:ea):Option KK:=
 match P.underlying T with
 |some (.int q)=>am (.one (.int q))
 |some .string=>am (.one .str)
 |_=>(R5 P T).map .cells
theorem Q7{P:cP}{T:ea}{p:Nat×ea}(h:EO P T=am p):∃t,ti P T=am t/\t.kind=.array p.1 p.2:=by
 unfold EO at h;split at h
 .rename_i t g;split at h
  .rename_i n e i;cases h;exact⟨t,g,i⟩
  .cases h
 .cases h
theorem KP{P:cP}{T:ea}{p:ea×ea}(h:Kj P T=am p):∃t,ti P T=am t/\t.kind=.map p.1 p.2:=by
 unfold Kj at h;split at h
 .rename_i t g;split at h
  .rename_i n e i;cases h;exact⟨t,g,i⟩
  .cases h
 .cases h
theorem O8{P:cP}{T:ea}{kk:KK}(h:Nk P T=am kk):Io P T kk:=by
 unfold Nk at h;split at h
 .rename_i q g;cases h;exact Tf g
 .rename_i g;cases h;exact Tx g
 .simp at h;obtain⟨c,i,rfl⟩:=h;exact QX i
def F0(c:Call):Operand:=(c.args.toList.drop 1).headD (.const undef)
def Kh(c:Call):Operand:=(c.args.toList.drop 2).headD (.const undef)
def jK(c:Call):ea:=(c.argTypes.toList.drop 1).headD 0
def DS(S:Sg)(x:V):Option (List D):=match BO S x with|some (.agg ds)=>am ds|_=>bi
def Sx(x y:V):Bool:=Ap x&&Ap y
def mapOf(S:Sg)(x:V):Option (List (D×V)):=match x with|.map r=>(match S[r]? with|some (.map g)=>am g|_=>bi)|_=>bi
def fN(x:V):Nat:=match x with|.map r=>r|_=>0
def Bh(kk:KK):List (D×V)->Prop
 |[]=>True
 |p::g=>Bz kk p.1=J/\Bh kk g
theorem HG{kk:KK}:∀{i:List (D×V)},Bh kk i->∀p∈i,Bz kk p.1=J
 |q::j,h,p,g=>by
  cases g with
  |head=>exact h.1
  |tail _ g=>exact HG h.2 p g
theorem Ns{kk:KK}:∀{g:List (D×V)},(∀p∈g,Bz kk p.1=J)->Bh kk g
 |[],_=>trivial
 |q::j,h=>⟨h q (by simp),Ns λp i=>h p (by simp[i])⟩
def qZ(max:Bool)(x y:V):V:=
 match x,y with
 |.d (.int k i),.d (.int _ j)=>.d (.int k (if max then(if j>i then j else i)else(if j<i then j else i)))
 |_,_=>.any
def lC(x y:V):Prop:=
 match x,y with
 |.d (.int k _),.d (.int g _)=>k=g
 |_,_=>False
def sP(P:cP)(T:ea)(x:V)(l h:Int)(_ i:Option Operand):Prop:=
 match x with
 |.d (.str s)=>NT P T=J/\i=bi/\0<=l/\l<=h/\h<=s.size
 |.d (.sl g)|.full g=>0<=l/\l<=h/\h<=Z g/\(match Al P T with
  |some E=>(match Am P E with|some s=>l.toNat=0\/l.toNat=h.toNat\/(Z (BE (g.getD l.toNat (.bool ap)))=s/\CL.oneD (g.getD l.toNat (.bool ap))=J)|none=>False)
  |none=>False)
 |_=>False
def rG(tm:Tm)(x:V)(hi:Option Operand):Int:=
 match hi with
 |some y=>Hi (strip (ev tm y))
 |none=>match x with
  |.d (.str s)=>s.size
  |.d (.sl g)=>Z g
  |.full g=>Z g
  |_=>0
def GI(P:cP)(op:Op)(tm:Tm)(S:Sg):V:=
 match op with
 |.binOp b T x y U=>if Sx (strip (ev tm x)) (strip (ev tm y))then
   (match DS S (strip (ev tm x)),DS S (strip (ev tm y))with
   |some as,am g=>(match b with|.eql=>.d (.bool (CT as g))|.neq=>.d (.bool (!CT as g))|_=>.any)
   |_,_=>.any)
  else HT P (.binOp b T x y U) tm S
 |.slice _ x lo hi h=>u7 (strip (ev tm x)) (Hi (EU tm lo)).toNat (rG tm (strip (ev tm x)) hi).toNat h.isSome
 |.index _ x y=>match strip (ev tm x)with
  |.d (.str s)=>.d (.int .u8 (s.get! (Hi (strip (ev tm y))).toNat).toNat)
  |_=>.any
 |.indexAddr T x y=>match EO P T with
  |some p=>vS ((Hi (strip (ev tm y))).toNat * (Am P p.2).getD 0) (strip (ev tm x))
  |none=>HT P (.indexAddr T x y) tm S
 |.lookup T x y ok=>match Kj P T,mapOf S (strip (ev tm x)),BO S (strip (ev tm y))with
  |some p,am i,am k=>UF i k ((As P p.2).getD .any) ok
  |_,_,_=>.any
 |.call c=>match c.callee with
  |.builtin .min=>if c.args.size=2 then qZ ap (strip (ev tm (EN c))) (strip (ev tm (F0 c)))
    else qZ ap (qZ ap (strip (ev tm (EN c))) (strip (ev tm (F0 c)))) (strip (ev tm (Kh c)))
  |.builtin .max=>if c.args.size=2 then qZ J (strip (ev tm (EN c))) (strip (ev tm (F0 c)))
    else qZ J (qZ J (strip (ev tm (EN c))) (strip (ev tm (F0 c)))) (strip (ev tm (Kh c)))
  |.builtin .cap=>qp (strip (ev tm (EN c)))
  |_=>HT P (.call c) tm S
 |op=>HT P op tm S
def F9(P:cP)(op:Op)(tm:Tm)(S:Sg):Prop:=
 match op with
 |.binOp b T x y U=>if Sx (strip (ev tm x)) (strip (ev tm y))then
   need (ev tm x)/\need (ev tm y)/\(match DS S (strip (ev tm x)),DS S (strip (ev tm y)),R5 P T with
   |some as,am j,am g=>Bv g as=J/\Bv g j=J/\(match b with|.eql|.neq=>True|_=>False)
   |_,_,_=>False)
  else Hn P (.binOp b T x y U) tm S
 |.slice T x lo hi h=>need (ev tm x)/\Fu tm lo/\Fu tm hi/\Fu tm h/\HN (EU tm lo)/\(match hi with|some _=>HN (EU tm hi)|none=>True)/\(match h with|some _=>hi.isSome=J/\EU tm h=EU tm hi|none=>True)/\sP P T (strip (ev tm x)) (Hi (EU tm lo)) (rG tm (strip (ev tm x)) hi) hi h
 |.index T x y=>need (ev tm x)/\need (ev tm y)/\HN (strip (ev tm y))/\NT P T=J/\(match strip (ev tm x)with
  |.d (.str s)=>0<=Hi (strip (ev tm y))/\Hi (strip (ev tm y))<s.size
  |_=>False)
 |.indexAddr T x y=>match EO P T with
  |some p=>need (ev tm x)/\need (ev tm y)/\HN (strip (ev tm y))/\0<=Hi (strip (ev tm y))/\Hi (strip (ev tm y))<p.1/\(Am P p.2).isSome=J/\Gg S (strip (ev tm x))
  |none=>Hn P (.indexAddr T x y) tm S
 |.lookup T x y _=>need (ev tm x)/\need (ev tm y)/\(match Kj P T,mapOf S (strip (ev tm x)),BO S (strip (ev tm y))with
  |some p,am m,am k=>(As P p.2).isSome=J/\(match Nk P p.1 with|some i=>Bh i m/\Bz i k=J|none=>False)
  |_,_,_=>False)
 |.call c=>match c.callee with
  |.builtin .min=>if c.args.size=2 then c.args=#[EN c,F0 c]/\need (ev tm (EN c))/\need (ev tm (F0 c))/\lC (strip (ev tm (EN c))) (strip (ev tm (F0 c)))
    else c.args=#[EN c,F0 c,Kh c]/\need (ev tm (EN c))/\need (ev tm (F0 c))/\need (ev tm (Kh c))/\lC (strip (ev tm (EN c))) (strip (ev tm (F0 c)))/\lC (strip (ev tm (EN c))) (strip (ev tm (Kh c)))
  |.builtin .max=>if c.args.size=2 then c.args=#[EN c,F0 c]/\need (ev tm (EN c))/\need (ev tm (F0 c))/\lC (strip (ev tm (EN c))) (strip (ev tm (F0 c)))
    else c.args=#[EN c,F0 c,Kh c]/\need (ev tm (EN c))/\need (ev tm (F0 c))/\need (ev tm (Kh c))/\lC (strip (ev tm (EN c))) (strip (ev tm (F0 c)))/\lC (strip (ev tm (EN c))) (strip (ev tm (Kh c)))
  |.builtin .cap=>c.args=#[EN c]/\c.argTypes=#[OE c]/\need (ev tm (EN c))/\(Al P (OE c)).isSome=J/\(match strip (ev tm (EN c))with|.full _=>True|_=>False)
  |_=>Hn P (.call c) tm S
 |op=>Hn P op tm S
def tB(P:cP)(g xT:ea)(S:Sg)(x y:V):Prop:=
 match Al P g with
 |some E=>(Al P xT).isSome=J/\(match Am P E,As P E,Ah P E with
  |some s,am z,am b=>Z (Ae z)=s/\(Ap z||Bp z)=J/\b<=65536/\(match II S y with|some h=>Vr S s x h|none=>False)
  |_,_,_=>False)
 |none=>False
def Kv(P:cP)(g:ea):Nat:=((Al P g).bind λE=>Am P E).getD 0
def BX(P:cP)(op:Op)(tm:Tm)(S:Sg):Prop:=
 match op with
 |.box _ x=>need (ev tm x)/\(Ap (strip (ev tm x))||Bp (strip (ev tm x)))=J
 |.alloc T=>match As P T with|some z=>(Ap z||Bp z)=J|none=>False
 |.store T x y=>need (ev tm x)/\need (ev tm y)/\(match Am P T with
   |some s=>JA S (strip (ev tm x)) (λm _ i j sz g=>m=J/\j+s<=sz/\(Ap (g.getD i .any)||!Ap (strip (ev tm y)))=J)/\(Ap (strip (ev tm y))||Bp (strip (ev tm y)))=J/\Z (Ae (strip (ev tm y)))=s
   |none=>False)
 |.makeSlice T x y=>need (ev tm x)/\need (ev tm y)/\HN (strip (ev tm x))/\HN (strip (ev tm y))/\Hi (strip (ev tm x))=Hi (strip (ev tm y))/\0<=Hi (strip (ev tm x))/\Hi (strip (ev tm x))<=1073741824/\(match Al P T with
   |some E=>(match Am P E,As P E,Ah P E with|some s,am z,am b=>Z (Ae z)=s/\(Ap z||Bp z)=J/\b<=65536|_,_,_=>False)
   |none=>False)
 |.makeMap _ r=>r=bi
 |.mapUpdate T x y z|.insert T x y z=>need (ev tm x)/\need (ev tm y)/\need (ev tm z)/\(match Kj P T,mapOf S (strip (ev tm x)),BO S (strip (ev tm y))with
  |some p,am o,am k=>(match Nk P p.1 with|some h=>Bh h o/\Bz h k=J|none=>False)
  |_,_,_=>False)
 |.call c=>match c.callee with
  |.builtin .append=>c.args=#[EN c,F0 c]/\c.argTypes=#[OE c,jK c]/\need (ev tm (EN c))/\need (ev tm (F0 c))/\tB P (OE c) (jK c) S (strip (ev tm (EN c))) (strip (ev tm (F0 c)))
  |_=>F9 P (.call c) tm S
 |op=>F9 P op tm S
def Bc(P:cP)(op:Op)(tm:Tm)(S:Sg):V:=
 match op with
 |.box ..=>.ptr (Z S) 1 0 0
 |.alloc _=>.ptr (Z S) 1 0 0
 |.store ..=>.any
 |.makeSlice _ x _=>.row (Z S) (Hi (strip (ev tm x))).toNat
 |.makeMap ..=>.map (Z S)
 |.mapUpdate ..=>.any
 |.insert ..=>.any
 |.call c=>match c.callee with
  |.builtin .append=>Uk S (strip (ev tm (EN c))) ((II S (strip (ev tm (F0 c)))).getD [])
  |_=>GI P (.call c) tm S
 |op=>GI P op tm S
def C2(P:cP)(op:Op)(tm:Tm)(S:Sg):Sg:=
 match op with
 |.box _ x=>iM S (strip (ev tm x))
 |.alloc T=>match As P T with|some z=>iM S z|none=>S
 |.store _ x y=>lj S (strip (ev tm x)) (strip (ev tm y))
 |.makeSlice T x _=>S++[.row J (Kv P T) (List.replicate (Hi (strip (ev tm x))).toNat ((((Al P T).bind λE=>As P E)).getD .any))]
 |.makeMap ..=>S++[.map []]
 |.mapUpdate _ x y z=>S.set (fN (strip (ev tm x))) (.map (Ep ((mapOf S (strip (ev tm x))).getD []) ((BO S (strip (ev tm y))).getD (.bool ap)) (strip (ev tm z))))
 |.insert _ x y z=>S.set (fN (strip (ev tm x))) (.map (Ep ((mapOf S (strip (ev tm x))).getD []) ((BO S (strip (ev tm y))).getD (.bool ap)) (strip (ev tm z))))
 |.call c=>match c.callee with
  |.builtin .append=>H9 S (Kv P (OE c)) (strip (ev tm (EN c))) ((II S (strip (ev tm (F0 c)))).getD [])
  |_=>S
 |_=>S
abbrev abP:=@Array.getElem_append_left
abbrev aco:=@Array.getElem_append_right
abbrev ac5:=@beq_eq_false_iff_ne
abbrev aci:=@List.range'_succ
abbrev acU:=@wpOps_cons
abbrev acw:=@List.range_eq_range'
section
variable {P:cP} {n b:Nat} {o:Oper} {tm:Tm} {S S':Sg} {v:V} {ops:Array Oper} {K:Tm->Sg->Prop}
theorem HH{x:V}(h:HN x):∃k,x=.d (.int k (Hi x)):=by
 unfold HN at h;split at h
 .exact⟨_,rfl⟩
 .exact h.elim
theorem JZ{T:ea}{b:Nat}(h:Ah P T=am b):∃t,ti P T=am t/\t.bytes=b:=by
 simpa[Ah,In]using h
theorem tO(h:F9 P o.op tm S):CR P n o tm S (GI P o.op tm S) S:=by
 generalize M:o.op=op at h;have hv:Hn P op tm S->CR P n o tm S (HT P op tm S) S:=λh=>by subst M;exact qx h
 cases op<;>try exact hv h
 case binOp b T x y U=>
  simp[F9]at h;simp[GI];split at h
  .rename_i hb;rw[ca hb];obtain⟨A,B,g⟩:=h;split at g
   .rename_i as bs cks ha hb N;rw[ha,hb];have ga:BO S (strip (ev tm x))=am (.agg as):=by unfold DS at ha;split at ha<;>simp_all
    have gb:BO S (strip (ev tm y))=am (.agg bs):=by unfold DS at hb;split at hb<;>simp_all
    obtain⟨g,m,G⟩:=g;cases b<;>simp only at G⊢
    .have:=QE (neg:=false) (n:=n) (by simpa using M) N A B ga gb g m;simpa using this
    .have:=QE (neg:=true) (n:=n) (by simpa using M) N A B ga gb g m;simpa using this
   .exact g.elim
  .rename_i hb;rw[bv hb];exact hv h
 case slice T x lo hi mx=>
  simp[F9]at h;simp[GI];obtain⟨A,B,g,m,G,X,h7,W⟩:=h;obtain⟨kl,hl⟩:=HH G;generalize hL:Hi (EU tm lo)=L at *;generalize hH:rG tm (strip (ev tm x)) hi=Q at *;have eh':hi≠bi->∃R,EU tm hi=.d (.int R Q):=λzi=>by
   cases hi with
   |none=>exact absurd rfl zi
   |some y=>
    obtain⟨R,hh⟩:=HH X;refine⟨R,?_⟩;rw[hh,<-hH];rfl
  obtain⟨R,eh⟩:∃R,hi≠bi->EU tm hi=.d (.int R Q):=by
   by_cases zi:hi=bi
   .exact⟨.i64,λh=>absurd zi h⟩
   .obtain⟨R,h⟩:=eh' zi;exact⟨R,λ_=>h⟩
  have em:mx≠bi->hi≠bi/\EU tm mx=.d (.int R Q):=λzi=>by
   cases mx with
   |none=>exact absurd rfl zi
   |some q=>
    obtain⟨g1,g2⟩:=h7;have:hi≠none:=by intro e;subst e;simp at g1
    exact⟨this,by rw[g2,eh this]⟩
  have fin:∀H:List D,(strip (ev tm x)=.d (.sl H)\/strip (ev tm x)=.full H)->(hi=bi->Q=Z H)->(0<=L/\L<=Q/\Q<=Z H/\(match Al P T with
    |some E=>(match Am P E with|some s=>L.toNat=0\/L.toNat=Q.toNat\/(Z (BE (H.getD L.toNat (.bool ap)))=s/\CL.oneD (H.getD L.toNat (.bool ap))=J)|none=>False)
    |none=>False))->CR P n o tm S (if mx.isSome then .full ((H.take Q.toNat).drop L.toNat)else .d (.sl ((H.take Q.toNat).drop L.toNat))) S:=λH ex hlen W=>by
   obtain⟨g0,g1,g2,Y⟩:=W;split at Y
   .rename_i E hE;split at Y
    .rename_i s hs;obtain⟨t,w,C⟩:=A4 hE;obtain⟨e,f1,f2,_⟩:=CO hs;subst f2;exact V0 M A ex w C f1 B hl g hlen eh m em g0 g1 g2 Y
    .exact Y.elim
   .exact Y.elim
  unfold sP at W;split at W
  .rename_i s F;rw[F];obtain⟨g1,rfl,g2,Y,g4⟩:=W;exact VE M A F (Jj g1) B hl g (λe=>by subst e;rw[<-hH,F];rfl) eh g2 Y g4
  .rename_i H F;rw[F];exact fin H (.inl F) (λe=>by subst e;rw[<-hH,F];rfl) W
  .rename_i H F;rw[F];exact fin H (.inr F) (λe=>by subst e;rw[<-hH,F];rfl) W
  .exact W.elim
 case index T x y=>
  simp[F9]at h;simp[GI];obtain⟨A,B,g,m,G⟩:=h;split at G
  .rename_i s F;obtain⟨k,hk⟩:=HH g;obtain⟨t,w,C⟩:=Jj m;exact fq M A B F hk w C G.1 G.2
  .exact G.elim
 case indexAddr T x y=>
  simp[F9]at h;simp[GI];split at h
  .rename_i p hp;obtain⟨A,B,g,m,G,X,h7⟩:=h;obtain⟨t,w,C⟩:=Q7 hp;obtain⟨s,hs⟩:=md.1 X;obtain⟨e,f1,f2,_⟩:=CO hs;obtain⟨k,hk⟩:=HH g;rw[hs];subst f2;exact OS M A B w C f1 hk m G h7
  .exact hv h
 case lookup T x y ok=>
  simp[F9]at h;simp[GI];obtain⟨A,B,g⟩:=h;split at g
  .rename_i p es k hp he hk;obtain⟨g,m⟩:=g;split at m
   .rename_i kk hkk;obtain⟨t,w,C⟩:=KP hp;obtain⟨z,hz⟩:=md.1 g;obtain⟨t',u,f1,f2,f3⟩:=Ey hz;rw[hz];subst f3;unfold mapOf at he;split at he
    .rename_i r F;split at he
     .rename_i es' hr;cases he;exact aa M w C f1 f2 (O8 hkk) A F hr (HG m.1) B hk m.2
     .cases he
    .cases he
   .exact m.elim
  .exact g.elim
 case call c=>
  simp[F9]at h;simp[GI];have mm:∀{x y:V},lC x y->∃k i j,x=.d (.int k i)/\y=.d (.int k j):=λ{x y} h=>by
   unfold lC at h;split at h
   .subst h;exact⟨_,_,_,rfl,rfl⟩
   .exact h.elim
  split at h
  .rename_i N;split at h
   .rename_i zp;rw[ca zp];obtain⟨A,B,g,m⟩:=h;obtain⟨k,i,j,w,C⟩:=mm m;rw[w,C];exact nH M N A B g w C
   .rename_i zp;rw[bv zp];obtain⟨A,B,g,m,G,X⟩:=h;obtain⟨k,i,j,w,C⟩:=mm G;obtain⟨k',i',l,e3,e4⟩:=mm X;rw[w]at e3;cases e3;rw[w,C,e4];exact mJ M N A B g m w C e4
  .rename_i N;split at h
   .rename_i zp;rw[ca zp];obtain⟨A,B,g,m⟩:=h;obtain⟨k,i,j,w,C⟩:=mm m;rw[w,C];exact oL M N A B g w C
   .rename_i zp;rw[bv zp];obtain⟨A,B,g,m,G,X⟩:=h;obtain⟨k,i,j,w,C⟩:=mm G;obtain⟨k',i',l,e3,e4⟩:=mm X;rw[w]at e3;cases e3;rw[w,C,e4];exact nk M N A B g m w C e4
  .rename_i N;obtain⟨A,B,g,m,G⟩:=h;split at G
   .rename_i H F;rw[F];obtain⟨E,hE⟩:=md.1 m;obtain⟨t,w,C⟩:=A4 hE;exact WD M N A B g F w C
   .exact G.elim
  .exact hv h
theorem Mk(h:BX P o.op tm S):CR P n o tm S (Bc P o.op tm S) (C2 P o.op tm S):=by
 generalize q:o.op=op at h;have hv:F9 P op tm S->CR P n o tm S (GI P op tm S) S:=λh=>by subst q;exact tO h
 cases op<;>try exact hv h
 case box T x=>exact rX q h.1 h.2
 case alloc T=>
  simp only[BX]at h;simp only[Bc,C2];split at h
  .rename_i z H;obtain⟨t,u,w,A,e3⟩:=Ey H;subst e3;exact jF q w A h
  .exact h.elim
 case store T x y=>
  simp only[BX]at h;simp only[Bc,C2];obtain⟨B,C,j⟩:=h;split at j
  .rename_i s F;obtain⟨t,w,A,_⟩:=CO F;subst A;obtain⟨j,g,m⟩:=j;exact dI q B C w j g m
  .exact j.elim
 case makeSlice T x y=>
  simp only[BX]at h;simp only[Bc,C2,Kv];obtain⟨B,C,j,g,m,U,h7,L⟩:=h;split at L
  .rename_i E M;split at L
   .rename_i s z b F H hb;obtain⟨g1,W,g3⟩:=L;obtain⟨t,w,A⟩:=A4 M;obtain⟨e,f1,f2,_⟩:=CO F;obtain⟨X,u,k1,k2,k3⟩:=Ey H;rw[f1]at k1;cases k1;obtain⟨X,l1,l2⟩:=JZ hb;rw[f1]at l1;cases l1;obtain⟨kx,ex⟩:=HH j;obtain⟨ky,ey⟩:=HH g;subst k3;obtain⟨c1,_⟩:=(IH {I:=λ_=>False,CP:=λ_=>0,cap:=λ_=>(0,0),BG:=λ_=>bi} ([]:Sg) (default:World) u).cells (by simpa using W);rw[M];simp only[adt,F,H,up];subst f2;have hm:Hi (strip (ev tm x))=((Hi (strip (ev tm x))).toNat:Int):=by omega
    exact SX q B C (by rw[<-hm];exact ex) (by rw[<-hm,m];exact ey) w A f1 k2 (by omega) W (by omega) (by omega)
   .exact L.elim
  .exact L.elim
 case makeMap T r=>
  simp[BX]at h;subst h;exact V5 q
 case mapUpdate T x y z=>
  simp[BX]at h;simp[Bc,C2];obtain⟨B,C,j,g⟩:=h;split at g
  .rename_i p es k Y i N;split at g
   .rename_i kk G;obtain⟨t,w,A⟩:=KP Y;rw[i,N];unfold mapOf at i;split at i
    .rename_i r Q;split at i
     .rename_i es' hr;cases i;rw[Q];exact MV (.inl q) w A (O8 G) B Q hr (HG g.1) C N g.2 j
     .cases i
    .cases i
   .exact g.elim
  .exact g.elim
 case insert T x y z=>
  simp[BX]at h;simp[Bc,C2];obtain⟨B,C,j,g⟩:=h;split at g
  .rename_i p es k Y i N;split at g
   .rename_i kk G;obtain⟨t,w,A⟩:=KP Y;rw[i,N];unfold mapOf at i;split at i
    .rename_i r Q;split at i
     .rename_i es' hr;cases i;rw[Q];exact MV (.inr q) w A (O8 G) B Q hr (HG g.1) C N g.2 j
     .cases i
    .cases i
   .exact g.elim
  .exact g.elim
 case call c=>
  simp[BX]at h;simp[Bc,C2];split at h
  .rename_i hc;obtain⟨B,C,j,g,m⟩:=h;unfold tB at m;split at m
   .rename_i E M;obtain⟨m,U⟩:=m;split at U
    .rename_i s z b F H hb;obtain⟨g1,W,g3,g4⟩:=U;split at g4
     .rename_i ys R;obtain⟨e,f1,f2,_⟩:=CO F;obtain⟨X,u,k1,k2,k3⟩:=Ey H;rw[f1]at k1;cases k1;obtain⟨X,l1,l2⟩:=JZ hb;rw[f1]at l1;cases l1;subst k3;obtain⟨c1,_⟩:=(IH {I:=λ_=>False,CP:=λ_=>0,cap:=λ_=>(0,0),BG:=λ_=>bi} ([]:Sg) (default:World) u).cells (by simpa using W);rw[R];simp[Kv,M,F];subst f2;exact aM q hc B C j g M m f1 k2 (by omega) (by omega) R g4
     .exact g4.elim
    .exact U.elim
   .exact m.elim
  .exact hv h
def EY(P:cP)(n:Nat)(ops:Array Oper)(o:Oper)(tm:Tm)(S:Sg):Prop:=
 A6 n o.dst/\match o.guard with
 |none=>BX P o.op tm S
 |some (j,h)=>match CW ops tm j h with
  |some g=>wW o.op=J/\(g=J->BX P o.op tm S)
  |none=>False
def Dm(P:cP)(ops:Array Oper)(o:Oper)(tm:Tm)(S:Sg):V:=
 match o.guard with
 |none=>Bc P o.op tm S
 |some (j,h)=>match CW ops tm j h with
  |some g=>Ha g (Bc P o.op tm S)
  |none=>.any
def oS(P:cP)(o:Oper)(tm:Tm)(S:Sg):Sg:=
 match o.guard with
 |none=>C2 P o.op tm S
 |some _=>S
def Step(P:cP)(n b:Nat)(ops:Array Oper)(i:Nat)(tm:Tm)(S:Sg)(g:Tm)(S':Sg):Prop:=
 ∀G w a (h:Act->World->Prop) Q,St P n G S w a tm->b<=Z S->(∀j k m,IP P n b G S w a.defers j k m S' g->h j k)->wpOp P ops Q i h a w
theorem Step.Ig{i:Nat}(hi:ops[i]?=am o)(j:A6 n o.dst)(m:o.guard=bi)(h:CR P n o tm S v S'):Step P n b ops i tm S (put tm o.dst v) S':=λG w a q Q st hb k=>by
 unfold wpOp;simp[hi,Region.wanted,m];exact .inl (h G w a q Q st λcv E u A B C g=>k _ _ u ⟨st.put j A B g,Cy,C,g.late hb⟩)
abbrev Do:=@Step.Ig
theorem Step.GB{i j:Nat}{m g:Bool}(hi:ops[i]?=am o)(q:A6 n o.dst)(A:o.guard=am (j,m))(B:CW ops tm j m=am g)
  (h:g=J->CR P n o tm S v S):Step P n b ops i tm S (put tm o.dst (Ha g v)) S:=λG w a C Q st hb k=>by
 unfold wpOp;simp[hi,Rm st A B];cases g with
 |true=>
  simp;exact .inl (h rfl G w a C Q st λcv M E F H L u=>k _ _ E ⟨st.put q (CV.Ha (λ_=>F) (λe=>by cases e)) H u,Cy,L,u.late hb⟩)
 |false=>
  simp;exact k _ _ G ⟨st.put q (CV.Ha (λe=>by cases e) (λ_=>rfl)) st.rel (aer _ _ _),Cy,tv _ _ _,aev hb⟩
theorem ui{op:Op}(h:wW op=J):C2 P op tm S=S:=by
 unfold C2;cases op<;>simp[wW]at h<;>try rfl
 rename_i c;simp[];split
 .rename_i g;simp[g]at h
 .rfl
theorem Step.El{i:Nat}(hi:ops[i]?=am o)(h:EY P n ops o tm S):Step P n b ops i tm S (put tm o.dst (Dm P ops o tm S)) (oS P o tm S):=by
 obtain⟨m,h⟩:=h;cases k:o.guard with
 |none=>
  simp[k]at h;simp[Dm,oS,k];exact Do hi m k (Mk h)
 |some u=>
  obtain⟨j,q⟩:=u;simp[k]at h;simp[Dm,oS,k];split at h
  .rename_i g w;exact Step.GB hi m k w λe=>by have:=Mk (n:=n) (h.2 e);rwa [ui h.1]at this
  .exact h.elim
def Mu(P:cP)(f:eN):Bool:=
 match P.funcs[f]? with
 |some fn=>!(fn.name== "runtime.NumGoroutine")&&fn.body.isSome
 |none=>ap
def AG(P:cP)(f:eN)(args:List V)(S:Sg)(v:V)(S':Sg):Prop:=
 Mu P f=J/\∀G w (g:Array Value),Rel P G S w->g.size=Z args->(∀i (h:i<Z args) (m:i<g.size),CV G S w args[i] g[i])->Calls P f g w λe j=>∃cv k,e=.returned cv/\CV k S' j v cv/\Rel P k S' j/\Tr G S w k S' j/\BA G S w k S' j
def callee(tm:Tm)(c:Call):Option (eN×List V):=
 match c.callee with
 |.value f=>match strip (ev tm f)with
  |.fn (.func k) first g=>am (k,first++c.args.toList.map (λx=>strip (ev tm x))++g)
  |_=>bi
 |_=>bi
def PZ(tm:Tm):List Operand->Prop
 |[]=>True
 |x::g=>need (ev tm x)/\PZ tm g
theorem NS{tm:Tm}:∀{g:List Operand},PZ tm g->∀x∈g,need (ev tm x)
 |x::g,h,y,i=>by
  cases i with
  |head=>exact h.1
  |tail _ i=>exact NS h.2 y i
def BB(tm:Tm)(c:Call):Prop:=
 (match c.callee with|.value f=>need (ev tm f)|_=>False)/\PZ tm c.args.toList
def BH(P:cP)(f:eN)(args:List V)(S:Sg)(R:V->Sg->Prop):Prop:=
 Mu P f=J/\∀G w (g:Array Value),Rel P G S w->g.size=Z args->(∀i (h:i<Z args) (m:i<g.size),CV G S w args[i] g[i])->Calls P f g w λe j=>∃cv k v S',R v S'/\e=.returned cv/\CV k S' j v cv/\Rel P k S' j/\Tr G S w k S' j/\BA G S w k S' j
theorem AG.oM{f:eN}{args:List V}(h:AG P f args S v S'):BH P f args S λu T=>u=v/\T=S':=
 ⟨h.1,λG w g R i ha=>(h.2 G w g R i ha).mono λ_ _ ⟨cv,j,k,m,q,A,B⟩=>⟨cv,j,v,S',⟨rfl,rfl⟩,k,m,q,A,B⟩⟩
theorem BH.mono{f:eN}{args:List V}{R i:V->Sg->Prop}(h:BH P f args S R)(j:∀v S',R v S'->i v S'):BH P f args S i:=
 ⟨h.1,λG w g r k ha=>(h.2 G w g r k ha).mono λ_ _ ⟨cv,m,v,S',h0,q⟩=>⟨cv,m,v,S',j _ _ h0,q⟩⟩
theorem BH.aA{f:eN}{args:List V}(h:BH P f args S λu T=>u=v/\T=S'):AG P f args S v S':=
 ⟨h.1,λG w g R j ha=>(h.2 G w g R j ha).mono λ_ _ ⟨cv,k,_,_,⟨m,i⟩,q,A,B,C,E⟩=>⟨cv,k,q,m▸i▸A,i▸B,i▸C,i▸E⟩⟩
theorem O5{c:Call}{f:eN}{args:List V}{R:V->Sg->Prop}(W:o.op=.call c)(j:callee tm c=am (f,args))(Y:BB tm c)(h:BH P f args S R){G:Gh}{w:World}{a:Act}{next:Act->World->Prop}{Q:Exit->Act->World->Prop}(st:St P n G S w a tm)
  (u:∀cv k m v S',R v S'->CV m S' k v cv->Rel P m S' k->Tr G S w m S' k->BA G S w m S' k->next (a.put o.dst cv) k):o.wp P a w next Q:=by
 obtain⟨q,h⟩:=h;unfold callee at j;obtain⟨A,E⟩:=Y;cases g:c.callee with
 |value x=>
  simp only[g]at j A;have F:=(BS st x).strip A;split at j
  .rename_i k' first M H
   simp only[j3,ac7]at j;obtain⟨C,N⟩:=j;subst C;subst N;rw[H]at F;generalize hX:a.eval x=X at F;cases F with
   |fn _ _ _ T U L h2 h3 h4=>
    unfold Mu at q;have zl:=h G w (T++c.args.map a.eval++U) st.rel (by simp[L,h2]) (λi hi zo=>by
     by_cases C:i<first.length
     .rw[oi (by simp;omega),oi C];rw[abP (by simp;omega),abP (by omega)];exact h3 i C
     .by_cases N:i<first.length+c.args.size
      .rw[oi (by simp;omega),wn (by omega)];rw[abP (by simp;omega),aco (by omega)];simp[Array.getElem_map,L];exact(BS st _).strip (NS E _ (by simp))
      .simp at hi;rw[wn (by simp;omega)];rw[aco (by simp;omega)];simp[Array.size_map,L];exact h4 _ (by omega))
    unfold Oper.wp;have zm:(execOp a.eval o).run P w=.ok (.enter k' (T++c.args.map a.eval++U)) w:=by
     split at q
     .rename_i fn B;simp[ne_eq]at q;obtain⟨b,hb⟩:=md.1 q.2;simp[execOp,W,resolve,g,hX,Deferred.ofValue,invoke,callFunc,B,q.1,hb]
     .cases q
    rw[zm];simp only[Oper.upon];exact zl.mono λe k ⟨cv,m,v,S',hr,he,g1,g2,g3,g4⟩=>by subst he;exact u cv k m v S' hr g1 g2 g3 g4
  .cases j
 |invoke=>simp[g]at j
 |builtin=>simp[g]at j
theorem Hx{c:Call}{f:eN}{args:List V}(i:o.op=.call c)(j:callee tm c=am (f,args))(k:BB tm c)(h:AG P f args S v S'):
  CR P n o tm S v S':=by
 intro G w a next Q st g
 exact O5 i j k h.oM st λcv m q _ _ ⟨u,A⟩=>by subst u A;exact g cv m q
def AS(P:cP)(n b:Nat)(ops:Array Oper)(l:List Oper)(tm:Tm)(S:Sg)(K:Tm->Sg->Prop):Prop:=
 ∀k,(∀j,l[j]?=ops[k+j]?)->∀G w a Q,St P n G S w a tm->b<=Z S->(∀h i,(∃m S' g,IP P n b G S w a.defers h i m S' g/\K g S')->Q .normal h i)->wpOps P ops Q (List.range' k (Z l)) a w
theorem BY(h:K tm S):AS P n b ops [] tm S K:=λk _ G w a Q st hb g=>by
 simp[List.range'_zero,wpOps];exact g a w ⟨G,S,tm,.refl st hb,h⟩
theorem AS.step{rest:List Oper}{g:Tm}(B:∀i,ops[i]?=am o->Step P n b ops i tm S g S')(h:AS P n b ops rest g S' K):AS P n b ops (o::rest) tm S K:=λk A G w a Q st hb C=>by
 have h0:ops[k]?=am o:=by simpa using(A 0).symm
 simp[aci];rw[acU];refine B k h0 G w a _ Q st hb λE F H m=>?_;refine h (k+1) (λj=>by have:=A (j+1);simp at this;rw[this];congr 1;omega) H F E Q m.st m.late.len λL M N=>?_;obtain⟨R,T,u,q,U⟩:=N;exact C L M ⟨R,T,u,⟨q.st,q.ds.trans m.ds,m.tr.trans q.tr,m.late.trans q.late⟩,U⟩
abbrev EQ:=@AS.step
theorem Cc{rest:List Oper}(g:EY P n ops o tm S)(h:AS P n b ops rest (put tm o.dst (Dm P ops o tm S)) (oS P o tm S) K):AS P n b ops (o::rest) tm S K:=
 EQ (λ_ hi=>Step.El hi g) h
theorem AS.call{rest:List Oper}{c:Call}{f:eN}{args:List V}(g:o.op=.call c)(i:o.guard=bi)(j:A6 n o.dst)(k:callee tm c=am (f,args))(m:BB tm c)
  (h:AG P f args S v S') (q:AS P n b ops rest (put tm o.dst v) S' K):AS P n b ops (o::rest) tm S K:=
 EQ (λ_ hi=>Do hi j i (Hx g k m h)) q
abbrev i9:=@AS.call
theorem AS.Mb{rest:List Oper}{c:Call}{f:eN}{args:List V}{j:Nat}{i g:Bool}(k:o.op=.call c)(m:o.guard=am (j,i))(q:A6 n o.dst)
  (u:CW ops tm j i=am g) (h:g=J->callee tm c=am (f,args)/\BB tm c/\AG P f args S v S) (w:AS P n b ops rest (put tm o.dst (Ha g v)) S K):AS P n b ops (o::rest) tm S K:=
 EQ (λ_ hi=>Step.GB hi q m u λe=>by obtain⟨A,B,C⟩:=h e;exact Hx k A B C) w
theorem AW.region{id:Nat}{Q:Exit->Tm->Sg->Prop}(h:AS P n b ops ops.toList tm S (Q .normal)):AW P n b (.region id ops ap) Q tm S:=λG w a st hb=>by
 apply wp_region;have:=h 0 (λj=>by simp) G w a (QO P n b Q G S w a.defers) st hb (λi k g=>g);rw[acw];simpa using this
def Ix(P:cP)(tm:Tm)(S:Sg):List ResultVar->Prop
 |[]=>True
 |.tmp _::rs=>Ix P tm S rs
 |.cell a T::rs=>need (tm a)/\(Am P T).isSome=J/\Nc (A9 P T) ((Am P T).getD 0) S (strip (tm a))/\Ix P tm S rs
def Hq(P:cP)(tm:Tm)(S:Sg):List ResultVar->List V
 |[]=>[]
 |.tmp t::rs=>tm t::Hq P tm S rs
 |.cell a T::rs=>Kw (A9 P T) ((Am P T).getD 0) S (strip (tm a))::Hq P tm S rs
def UC:List V->V
 |[v]=>v
 |g=>.CX g
def pack:List Value->Value
 |[v]=>v
 |g=>.tuple g.toArray
def Kg(P:cP)(tm:Tm)(S:Sg)(rs:List ResultVar):V:=UC (Hq P tm S rs)
end
section
variable {P:Program} {n:Nat} {o:Oper} {tm:Tm} {S S':Sg} {v:V} {ops:Array Oper} {K:Tm->Sg->Prop}
theorem Wz{G:Gh}{w:World}{a:Act}(st:St P n G S w a tm){T:TypeId}{p:V}{q:Value}(C:CV G S w p q)(h1:(Am P T).isSome=J)(h:Nc (A9 P T) ((Am P T).getD 0) S p):
  ∃cv ad,q=.pointer (some ad)/\(loadVar T ad).run P w=.ok cv w/\CV G S w (Kw (A9 P T) ((Am P T).getD 0) S p) cv:=by
 obtain⟨s,Q⟩:=md.1 h1;obtain⟨t,M,e2,e3⟩:=CO Q;let o':Oper:={dst:=none,op:=.load T (.const q),type:=0,pos:= "",after:=#[],guard:=none};have hcv:∀(R:Tm),ev R (.const q)=OQ q:=λ_=>rfl;obtain⟨U,g⟩:=h;have ha:t.agg=J\/t.size=1:=by
  rw[Q,e3]at U;simp at U;subst e2;simpa using U
 rw[Q,e3]at *;simp at g⊢;subst e2;cases W:p with
 |ptr r m i j=>
  rw[W]at g C;simp only[JA]at g;split at g
  .rename_i wr sz A Y;obtain⟨hm,hi,E,N,hj⟩:=g;have F:A.getD i .any=A[i]:=by simp[i5,hi]
   rw[F]at E N;have E:Ap A[i]=J\/Bp A[i]=true:=by simpa using E
   obtain⟨u,b,k,g1,g2,g3,g4,g5⟩:=Xl st.rel Y hi E N;have H:=C.KV Y hm;rw[g4 j]at H;refine⟨_,_,H,Fw M g2 hj ha g5,?_⟩;simp only[Kw,Yw,Y,F];exact P6 g1 E (by omega) ha
  .exact g.elim
 |DW B=>
  rw[W]at g C;generalize hX:q=X at C;cases C with
  |DW B b off vs hI h=>
   let u:Array Value:=((List.range (Z B)).map vs).toArray;have N:(Value.agg u).cells.size=Z B:=by simp[Value.cells,u]
   refine⟨if t.agg then .agg (u.extract 0 (0+t.size))else u.getD 0 undef,_,rfl,?_,?_⟩
   .rw[show(⟨b,off,none⟩:Addr)=⟨b,off+0,none⟩from rfl];exact Fw (u:=.agg u) (j:=0) M N (by omega) ha (λj hj=>by rw[(h j hj).1];simp[Value.cells,hj,u])
   .simp[Kw];unfold Ux;cases L:t.agg with
    |true=>
     simp;refine .d _ _ (.agg _ _ (by simp[u];try omega) (λi hi=>?_) (λi hi=>?_))
     .have zo:i<t.size:=by simp at hi;try omega
      simpa[u]using(h i (by omega)).2.1
     .have zo:i<t.size:=by simp[u]at hi;try omega
      simpa[u]using(h i (by omega)).2.2
    |false=>
     have h1:t.size=1:=by simpa[L]using ha
     simp only[ob,jw];have h2:0<Z B:=by omega
     have M:B.getD 0 (.bool false)=B[0]:=by simp[i5,h2]
     rw[M];have:=(h 0 h2).2.1;refine .d _ _ ?_;simpa[u,rg,h2]using this
 |_=>rw[W]at g;exact g.elim
def QG(ts:Array Value):ResultVar->Sem Value
 |.tmp t=>pure (ts.getD t undef)
 |.cell b t=>do loadVar t (<-asAddr (ts.getD b undef))
theorem WS(fn:Func)(ts:Array Value):results fn ts=(do let g<-fn.results.mapM (QG ts);pure (if h:g.size=1 then g[0]else .tuple g)):=by
 unfold results;congr
theorem LD{G:Gh}{w:World}{a:Act}(st:St P n G S w a tm)(rs:List ResultVar):Ix P tm S rs->∃g:List Value,(rs.mapM (QG a.tmps)).run P w=.ok g w/\Z g=Z (Hq P tm S rs)/\∀i (h:i<Z g) (N:i<Z (Hq P tm S rs)),CV G S w (Hq P tm S rs)[i] g[i]:=by
 induction rs with
 |nil=>intro _;exact⟨[],by simp,rfl,λi h=>by simp at h⟩
 |cons r rs u=>
  intro h;cases r with
  |tmp t=>
   simp only[Ix]at h;obtain⟨g,j,k,m⟩:=u h;refine⟨a.tmps.getD t undef::g,?_,by simp[Hq,k],λi hi q=>?_⟩
   .simp only[ado,QG,ls,pc,kv,j]
   .cases i with
    |zero=>simpa[Hq]using st.tm t
    |succ i=>simpa[Hq]using m i (by simpa using hi) (by simpa[Hq]using q)
  |cell b T=>
   simp only[Ix]at h;obtain⟨A,B,C,E⟩:=h;obtain⟨g,j,k,m⟩:=u E;obtain⟨cv,ad,F,H,L⟩:=Wz st ((st.tm b).strip A) B C;refine⟨cv::g,?_,by simp[Hq,k],λi hi q=>?_⟩
   .have M:(asAddr (a.tmps.getD b undef)).run P w=.ok ad w:=by rw[F];rfl
    simp only[ado,QG,ls,M,pc,kv,H,j]
   .cases i with
    |zero=>simpa[Hq]using L
    |succ i=>simpa[Hq]using m i (by simpa using hi) (by simpa[Hq]using q)
def Pm(P:Program)(n b:Nat)(rs:List ResultVar)(R:V->Sg->Prop):Exit->Tm->Sg->Prop
 |.normal,tm,S|.ret,tm,S=>∃g h,AI P n b tm S g h/\Ix P g h rs/\∀G w a,St P n G h w a g->b<=Z h->∃i v S',(∀cv,CV G h w (Kg P g h rs) cv->CV i S' w v cv)/\Rel P i S' w/\Tr G h w i S' w/\EL b G h i S'/\R v S'
 |_,_,_=>False
theorem GW{fn:Func}{a:Act}{w:World}{vs:List Value}(h:(fn.results.toList.mapM (QG a.tmps)).run P w=.ok vs w):
  (results fn a.tmps).run P w=.ok (pack vs) w:=by
 rw[WS,Array.mapM_eq_mapM_toList];simp[Sem.run_map,h];match vs with
 |[]=>simp[pack]
 |[v]=>simp[pack]
 |v::u::vs=>simp[pack]
theorem EL.later{G:Gh}{w:World}{g:Gh}{w':World}(R:Rel P G S w)(t:Tr G S w g S' w')(l:EL (Z S) G S g S'):BA G S w g S' w':=
 ⟨t.I,λb hb=>t.DB b (R.JH b hb) (λh=>R.nI b h hb),l.len,l.row,l.map⟩
theorem BH.intro{f:FuncId}{fn:Func}{c:Code}{args:List V}{R:V->Sg->Prop}(hf:P.funcs[f]?=some fn)(F:(fn.name== "runtime.NumGoroutine")=false)(hb:fn.body=some c)(hn:Z args<=fn.ntmps)
  (h:AW P fn.ntmps (Z S) c (Pm P fn.ntmps (Z S) fn.results.toList R) (ER args) S):BH P f args S R:=by
 refine⟨by simp[Mu,hf,F,hb],λG w j R0 zp zl=>?_⟩;refine calls_of_wp hf hb ?_;have st:St P fn.ntmps G S w {tmps:=j++Array.replicate (fn.ntmps - j.size) undef,defers:=[]} (ER args):=by
  refine⟨by simp;omega,λk=>?_,R0⟩;unfold ER;by_cases hk:k<Z args
  .have W:args.getD k .any=args[k]:=by simp[i5,hk]
   have e2:(j++Array.replicate (fn.ntmps - j.size) undef).getD k undef=j[k]'(by omega):=by
    rw[rg,abE (by omega)];simp[show k<j.size by omega]
   simp only[W,e2];exact zl k hk (by omega)
  .have W:args.getD k .any=.any:=by simp[i5,pu (show Z args<=k by omega)]
   rw[W];exact .any _
 refine K2 (h G w _ st (c9 _)) λex Q B hl=>?_;obtain⟨q,S0,X,M,C⟩:=hl;have fin:(∃u A,AI P fn.ntmps (Z S) X S0 u A/\Ix P u A fn.results.toList/\∀G w a,St P fn.ntmps G A w a u->Z S<=Z A->∃q T m,(∀cv,CV G A w (Kg P u A fn.results.toList) cv->CV q m w T cv)/\Rel P q m w/\Tr G A w q m w/\EL (Z S) G A q m/\R T m)->Q.defers=[]/\∃x,(results fn Q.tmps).run P B=.ok x B/\∃cv q v S',R v S'/\Ending.returned x=.returned cv/\CV q S' B v cv/\Rel P q S' B/\Tr G S w q S' B/\BA G S w q S' B:=by
  intro C;obtain⟨u,A,g,h1,h2⟩:=C;refine⟨M.ds,?_⟩;obtain⟨Y,N,t1,l1⟩:=g q B Q M.st M.late.len;obtain⟨E,v1,H,U⟩:=LD N fn.results.toList h1;obtain⟨G2,T,m,g1,g2,g3,g4,g5⟩:=h2 Y B Q N l1.len;have L:∀(E:List Value) (rs:List V),Z E=Z rs->(∀i (h:i<Z E) (h':i<Z rs),CV Y A B rs[i] E[i])->CV Y A B (UC rs) (pack E):=λE rs H U=>by
   match E,rs with
   |[],[]=>exact .CX _ _ rfl (λi h=>by simp at h)
   |[x],[y]=>exact U 0 (by simp) (by simp)
   |x::x'::xs,y::y'::ys=>
    refine .CX _ _ (by simpa using H) (λi h=>?_);have:=U i (by omega) h;simpa using this
   |[],_::_=>simp at H
   |_::_,[]=>simp at H
   |[_],_::_::_=>simp at H
   |_::_::_,[_]=>simp at H
  have hcv:=L E _ H U;have tr:=(M.tr.trans t1).trans g3;have la:=(M.late.trans l1).trans g4;exact⟨_,GW v1,_,G2,T,m,g5,rfl,g1 _ hcv,g2,tr,la.later R0 tr⟩
 cases ex with
 |normal=>exact fin C
 |ret=>exact fin C
 |exit=>exact C.elim
 |goto=>exact C.elim
 |panic=>exact C.elim
 |outgrown=>exact C.elim
theorem AG.intro{f:FuncId}{fn:Func}{c:Code}{args:List V}(j:P.funcs[f]?=some fn)(g:(fn.name== "runtime.NumGoroutine")=false)(hb:fn.body=some c)(k:Z args<=fn.ntmps)
  (h:AW P fn.ntmps (Z S) c (Pm P fn.ntmps (Z S) fn.results.toList λm i=>m=v/\i=S') (ER args) S):AG P f args S v S':=
 BH.aA (BH.intro j g hb k h)
def Pure(P:Program)(f:FuncId)(ds:List D)(d:D):Prop:=AG P f (ds.map .d) [] (.d d) []
theorem Rel.nil{G:Gh}{w:World}(R:Rel P G S w):Rel P G [] w:=
 ⟨R.Gl,λr o h=>by simp at h,λr g o i h=>by simp at h,λb ⟨r,o,h,_⟩=>by simp at h,R.JH,λb ⟨r,o,h,_⟩=>by simp at h⟩
theorem CV.og{G:Gh}{w:World}{d:D}{v:Value}(h:CD G.I w d v):CV G S w (.d d) v:=.d _ _ h
theorem Pure.call{f:FuncId}{ds:List D}{d:D}{args:List V}(h:Pure P f ds d)(ha:args.map (BO S)=ds.map some):AG P f args S (.d d) S:=by
 refine⟨h.1,λG w j R E F=>?_⟩;have k:Z args=Z ds:=by have:=l5 Z ha;simpa using this
 refine(h.2 G w j R.nil (by simpa[k]using E) (λi hi H=>?_)).mono ?_
 .have q:i<Z ds:=by simpa using hi
  have e:BO S args[i]=some ds[i]:=by
   have:=l5 (·[i]?) ha;simpa[q,show i<Z args by omega]using this
  simp;exact .og ((F i (by omega) H).BO R e)
 .rintro e m ⟨cv,B,M,N,Q,g,X⟩;have u:CD B.I m d cv:=by cases N with|d _ _ h=>exact h
  let A:Gh:={G with I:=B.I};have L:BA G S w A S m:=⟨g.I,λb hb=>g.DB b (R.JH b hb) (λ⟨r,o,h,_⟩=>by simp at h),c9 _,λr _ n h=>⟨n,h,c9 _,λ_=>⟨rfl,rfl,rfl,.inl rfl⟩⟩,λr _ h=>⟨h,rfl⟩⟩;have DB:∀b,b<w.heap.size->m.heap[b]?=w.heap[b]?:=λb hb=>g.DB b hb (λ⟨r,o,h,_⟩=>by simp at h);have T:Rel P A S m:=by
   refine⟨R.Gl.later L,λr o C=>(R.Da r o C).later L (λU=>DB _ (R.IJ _ ⟨r,o,C,U,rfl⟩)) rfl rfl rfl,R.inj,λb hb W=>?_,λb hb=>Q.JH b hb,λb hb=>su (R.IJ b hb) g.size⟩;rcases g.im b W with h|⟨r,o,h,_⟩|h
   .exact R.nI b hb h
   .simp at h
   .have:=R.IJ b hb;omega
  refine⟨cv,A,M,.og u,T,⟨g.size,g.I,λb hb _=>DB b hb,λb hb=>.inl hb,λb hb=>?_,g.os,g.out⟩,L⟩;rcases g.im b hb with h|⟨r,o,h,_⟩|h
  .exact .inl h
  .simp at h
  .exact .inr (.inr h)
def nq(P:Program)(n:Nat)(rs:List ResultVar)(d:D):Exit->Tm->Sg->Prop
 |.normal,tm,S|.ret,tm,S=>∃g h,AI P n 0 tm S g h/\Ix P g h rs/\BO h (Kg P g h rs)=some d
 |_,_,_=>False
theorem Pure.intro{f:FuncId}{fn:Func}{c:Code}{ds:List D}{d:D}(A:P.funcs[f]?=some fn)(k:(fn.name== "runtime.NumGoroutine")=false)(hb:fn.body=some c)(B:Z ds<=fn.ntmps)
  (h:AW P fn.ntmps 0 c (nq P fn.ntmps fn.results.toList d) (ER (ds.map .d)) []):Pure P f ds d:=by
 refine AG.intro A k hb (by simpa using B) (h.mono λC tm S m=>?_);have key:(∃i j,AI P fn.ntmps 0 tm S i j/\Ix P i j fn.results.toList/\BO j (Kg P i j fn.results.toList)=some d)->∃i j,AI P fn.ntmps 0 tm S i j/\Ix P i j fn.results.toList/\∀G w a,St P fn.ntmps G j w a i->0<=Z j->∃q v S',(∀cv,CV G j w (Kg P i j fn.results.toList) cv->CV q S' w v cv)/\Rel P q S' w/\Tr G j w q S' w/\EL 0 G j q S'/\v=.d d/\S'=[]:=by
  rintro⟨i,j,g,E,F⟩;refine⟨i,j,g,E,λG w a st _=>⟨G,.d d,[],λcv u=>.og (u.BO st.rel F),st.rel.nil,?_,⟨er _,λr H=>by omega,λr H=>by omega⟩,rfl,rfl⟩⟩;exact⟨c9 _,λ_ h=>h,λ_ _ _=>rfl,λb ⟨r,o,h,_⟩=>by simp at h,λb hb=>.inl hb,rfl,rfl⟩
 cases C with
 |normal=>exact key m
 |ret=>exact key m
 |exit=>exact m.elim
 |goto=>exact m.elim
 |panic=>exact m.elim
 |outgrown=>exact m.elim
end
mutual
def DY:D->Prop
 |.bool _=>True
 |.int k n=>GZ k n=J
 |.str s=>s.size<=maxLen
 |.sl g=>Z g<=maxLen/\Bm g
 |.agg h=>Bm h
 |.CX i=>Bm i
 |.raw _=>True
def Bm:List D->Prop
 |[]=>True
 |x::g=>DY x/\Bm g
end
theorem Tt(xs:List D):Bm xs↔∀x∈xs,DY x:=by
 induction xs with
 |nil=>simp[Bm]
 |cons x xs g=>simp[Bm,g]
theorem Di{α:Type}(f:α->D)(xs:List α):Bm (xs.map f)↔∀x∈xs,DY (f x):=by
 rw[Tt];simp
theorem Mh{xs:List D}(h:∀i (h:i<Z xs),DY xs[i]):Bm xs:=(Tt xs).2 λx g=>by
 obtain⟨i,hi,rfl⟩:=lm.1 g;exact h i hi
theorem CD.wf{I:Nat->Prop}{w:World}{d:D}{v:Value}(h:CD I w d v):DY d:=by
 induction h with
 |bool=>trivial
 |int k n h=>exact h
 |str s h=>exact h
 |nil=>exact⟨by simp[maxLen],trivial⟩
 |sl sz o b off cap i q j u A B g=>exact⟨j,Mh g⟩
 |agg ds i m h C g=>exact Mh g
 |CX ds i m h g=>exact Mh g
 |raw=>trivial
abbrev abY:=@List.getElem?_take
abbrev rx:=@Bool.true_and
abbrev fc:=@decide_eq_true_eq
section
variable {P:Program} {n b:Nat} {o:Oper} {tm:Tm} {S S':Sg} {v:V} {ops:Array Oper} {K:Tm->Sg->Prop} {Q:Exit->Tm->Sg->Prop}
theorem AW.assume{p:Prop}{c:Code}(g:∀G w a,St P n G S w a tm->p)(h:p->AW P n b c Q tm S):AW P n b c Q tm S:=
 λG w a st hb=>h (g G w a st) G w a st hb
theorem AS.assume{p:Prop}{l:List Oper}(g:∀G w a,St P n G S w a tm->p)(h:p->AS P n b ops l tm S K):AS P n b ops l tm S K:=
 λk i G w a Q st hb j=>h (g G w a st) k i G w a Q st hb j
theorem Yi{ds:List D}{G:Gh}{w:World}{a:Act}(st:St P n G S w a (ER (ds.map .d))):Bm ds:=Mh λi hi=>by
 have:=st.tm i;have e:ER (ds.map .d) i=.d ds[i]:=by simp[ER,i5,hi]
 rw[e]at this;cases this with|d _ _ h=>exact h.wf
theorem Pure.Aw{f:FuncId}{fn:Func}{c:Code}{ds:List D}{d:D}(i:P.funcs[f]?=some fn)(g:(fn.name== "runtime.NumGoroutine")=false)(hb:fn.body=some c)(j:Z ds<=fn.ntmps)
  (h:Bm ds->AW P fn.ntmps 0 c (nq P fn.ntmps fn.results.toList d) (ER (ds.map .d)) []):Pure P f ds d:=
 Pure.intro i g hb j (AW.assume (λ_ _ _ st=>Yi st) h)
abbrev hW:=@Pure.Aw
theorem AP{c:Operand}{x y:Code}(h:match ev tm c with|.d (.bool t)=>(t=J->AW P n b x Q tm S)/\(t=false->AW P n b y Q tm S)|_=>False):AW P n b (.cond c x y) Q tm S:=by
 split at h
 .rename_i t g;exact m8 g h.1 h.2
 .exact h.elim
theorem E5{id:Nat}{y:Code}(h:∀K:Tm->Sg->Prop,(∀tm S,AW P n b y Q tm S->K tm S)->AS P n b ops ops.toList tm S K):AW P n b (.seq (.region id ops false) y) Q tm S:=
 xS (AW.region (h _ λ_ _ h=>h))
mutual
def AJ(k:Nat):V->Bool
 |.row r _=>decide (r<k)
 |.ptr r _ _ _=>decide (r<k)
 |.map r=>decide (r<k)
 |.fn _ as g=>Au k as&&Au k g
 |.agg h=>Au k h
 |.CX i=>Au k i
 |.opt _ v=>AJ k v
 |_=>J
def Au(k:Nat):List V->Bool
 |[]=>J
 |x::g=>AJ k x&&Au k g
end
def Ao(k:Nat):O->Bool
 |.row _ _ g=>Au k g
 |.map h=>h.all λe=>AJ k e.2
 |_=>J
theorem Dc{k:Nat}{xs:List V}(h:Au k xs=J):∀i (hi:i<Z xs),AJ k xs[i]=true:=by
 induction xs with
 |nil=>intro i hi;simp at hi
 |cons x xs g=>
  simp[Au]at h;intro i hi;cases i with
  |zero=>exact h.1
  |succ i=>simpa using g h.2 i (by simpa using hi)
@[simp] theorem pE{α:Type}(k:Nat)(f:α->D)(xs:List α):Au k (xs.map λx=>V.d (f x))=true:=by
 induction xs with
 |nil=>rfl
 |cons x xs g=>simp[Au,AJ,g]
@[simp] theorem lV(k:Nat)(xs:List D):Au k (xs.map V.d)=true:=by
 induction xs with
 |nil=>rfl
 |cons x xs g=>simp[Au,AJ,g]
theorem CV.take{G:Gh}{w:World}{k:Nat}{x:V}{v:Value}(h:CV G S w x v)(hb:AJ k x=J)(L:k<=Z S):CV G (S.take k) w x v:=by
 have m:∀r,r<k->(S.take k)[r]?=S[r]?:=λr E=>by simp[E]
 have hl:Z (S.take k)=k:=by simp[L]
 induction h with
 |any v=>exact .any v
 |d d v h=>exact .d d v h
 |full F a h=>exact .full F a h
 |row r n v u E h=>
  have q:r<k:=by simpa[AJ]using hb
  exact .row r n v u (by omega) (by simpa only[lenOf,m r q]using h)
 |ptr r n i j v u E h=>
  have q:r<k:=by simpa[AJ]using hb
  exact .ptr r n i j v u (by omega) (by simpa only[lenOf,C1,m r q]using h)
 |DW A b off B M h=>exact .DW A b off B M h
 |map r v u E h=>
  have q:r<k:=by simpa[AJ]using hb
  exact .map r v u (by omega) (by simpa only[isMap,m r q]using h)
 |fn f as N F R T U h3 h4 W X=>
  simp[AJ]at hb;exact .fn f as N F R T U (λi hi=>W i hi (Dc hb.1 i hi)) (λi hi=>X i hi (Dc hb.2 i hi))
 |agg A B H h u C=>exact .agg A B H (λi hi=>C i hi (Dc hb i hi)) u
 |CX A B H h C=>exact .CX A B H (λi hi=>C i hi (Dc hb i hi))
 |opt g x v h Y C=>exact .opt g x v (λhg=>C hg (by simpa[AJ]using hb)) Y
def clean(k:Nat)(tm:Tm):Tm:=λt=>if AJ k (tm t)then tm t else .any
theorem AI.drop(k:Nat)(hb:b<=k)(H:k<=Z S)(ho:(S.take k).all (Ao k)=J):AI P n b tm S (clean k tm) (S.take k):=λG w a st _=>by
 have g:∀r o,(S.take k)[r]?=some o->S[r]?=some o/\r<k:=λr o h=>by
  have B:=Ag h;have C:r<k:=by simp at B;omega
  exact⟨by simpa[abY,C]using h,C⟩
 have j:∀x,Own G (S.take k) x->Own G S x:=λx ⟨r,o,B,C,h3⟩=>⟨r,o,(g r o B).1,C,h3⟩;have hL:EL b G S G (S.take k):=by
  refine⟨by simp;omega,λr hr n' L=>⟨n',?_,c9 _,λ_=>⟨rfl,rfl,rfl,.inl ?_⟩⟩,λr hr hm=>⟨?_,rfl⟩⟩
  .simpa[lenOf,abY,show r<k by omega]using L
  .simp[C1,show r<k by omega]
  .simpa[isMap,abY,show r<k by omega]using hm
 refine⟨G,⟨st.size,λt=>?_,⟨st.rel.Gl,λr o h=>?_,λr X o Y h h'=>st.rel.inj r X o Y (g r o h).1 (g X Y h').1,λx q=>st.rel.nI x (j x q),st.rel.JH,λx q=>st.rel.IJ x (j x q)⟩⟩,⟨c9 _,λ_ h=>h,λ_ _ _=>rfl,λx q=>.inl (j x q),λx q=>.inl q,rfl,rfl⟩,hL⟩
 .unfold clean;split
  .rename_i M;exact(st.tm t).take M H
  .exact .any _
 .obtain⟨B,C⟩:=g r o h;have E:Ao k o=true:=ed.1 ho o (oj h);have m:=st.rel.Da r o B;cases o with
  |row wr sz els=>
   simp only[OK]at m⊢;cases hv:G.BG r with
   |none=>
    simp only[hv]at m⊢;obtain⟨c,T,N,R,U,g4,g5⟩:=m;refine⟨c,T,N,R,U,g4,λi hi=>?_⟩;obtain⟨u,u1,u2,u3,u4⟩:=g5 i hi;exact⟨u,u1.take (Dc E i hi) H,u2,u3,u4⟩
   |some a=>
    simp[hv]at m⊢;exact m
  |BT xs=>exact m
  |map es=>
   simp[OK]at m⊢;obtain⟨F,A,N,R,gk,U⟩:=m;refine⟨F,A,N,R,gk,λi hi=>?_⟩;obtain⟨e,e1,e2,e3,e4,e5⟩:=U i hi;have W:AJ k es[i].2=true:=ed.1 E es[i] (by simp);exact⟨e,e1,e2,e3.take W H,e4,e5⟩
  |dead=>trivial
theorem AI.DV(k:Nat)(h:b<=k/\k<=Z S/\(S.take k).all (Ao k)=J):AI P n b tm S (clean k tm) (S.take k):=AI.drop k h.1 h.2.1 h.2.2
abbrev l6:=@AI.DV
theorem FO{c:Code}(N:Nat)(Inv:Nat->Tm->Sg->Prop){i0:Nat}(q:i0<=N)(h0:Inv i0 tm S)
  (B:∀i tm S,i<=N->Inv i tm S->AW P n b c (B5 (λj S'=>i<N/\∃h k,AI P n b j S' h k/\Inv (i+1) h k) Q) tm S):AW P n b (.loop c) Q tm S:=by
 refine aes (λm tm S=>∃i,i<=N/\m=N - i/\Inv i tm S) ⟨_,tm,S,a9,i0,q,rfl,h0⟩ ?_;rintro m tm S ⟨i,hi,rfl,C⟩;refine(B i tm S hi C).mono λE j S' A=>?_;cases E with
 |normal=>
  obtain⟨G,u,F,g,w⟩:=A;exact⟨N - (i+1),u,F,by omega,g,i+1,by omega,rfl,w⟩
 |_=>exact A
theorem wrap_i64{x:Int}(k:-9223372036854775808<=x)(m:x<=9223372036854775807):b8 .i64 x=x:=by
 unfold IntKind.wrap;have g:IntKind.i64.bits=64:=rfl;have h:IntKind.i64.signed=true:=rfl;simp only[g,h,rx,fc];have i:(2:Int) ^ 64=18446744073709551616:=by decide
 have j:(2:Int) ^ (64 - 1)=9223372036854775808:=by decide
 rw[i,j];split<;>omega
theorem AK{i n:Nat}(h:i<n)(g:n<=maxLen):b8 .i64 ((i:Int)+1)=((i+1:Nat):Int):=by
 unfold maxLen at g;rw[wrap_i64 (by omega) (by omega)];simp
end
@[simp] theorem rU(vs:List V):Ae (.agg vs)=vs:=rfl
@[simp] theorem pW(ds:List D):Ae (.d (.agg ds))=ds.map .d:=rfl
@[simp] theorem po(x:Bool):Ae (.d (.bool x))=[.d (.bool x)]:=rfl
@[simp] theorem so(k:IntKind)(x:Int):Ae (.d (.int k x))=[.d (.int k x)]:=rfl
@[simp] theorem qC(x:ByteArray):Ae (.d (.str x))=[.d (.str x)]:=rfl
@[simp] theorem tz(x:List D):Ae (.d (.sl x))=[.d (.sl x)]:=rfl
@[simp] theorem sc(x:Value):Ae (.d (.raw x))=[.d (.raw x)]:=rfl
@[simp] theorem pz(x:List D):Ae (.full x)=[.full x]:=rfl
@[simp] theorem qD(r m:Nat):Ae (.row r m)=[.row r m]:=rfl
@[simp] theorem rA(r m i j:Nat):Ae (.ptr r m i j)=[.ptr r m i j]:=rfl
@[simp] theorem ph(x:List D):Ae (.DW x)=[.DW x]:=rfl
@[simp] theorem tI(r:Nat):Ae (.map r)=[.map r]:=rfl
@[simp] theorem tT(f:Fn)(a b:List V):Ae (.fn f a b)=[.fn f a b]:=rfl
@[simp] theorem tL(vs:List V):Ap (.agg vs)=true:=rfl
@[simp] theorem pS(ds:List D):Ap (.d (.agg ds))=true:=rfl
@[simp] theorem pZ(x:Bool):Ap (.d (.bool x))=false:=rfl
@[simp] theorem rP(k:IntKind)(x:Int):Ap (.d (.int k x))=false:=rfl
@[simp] theorem rZ(x:ByteArray):Ap (.d (.str x))=false:=rfl
@[simp] theorem uI(x:List D):Ap (.d (.sl x))=false:=rfl
@[simp] theorem sA(x:Value):Ap (.d (.raw x))=false:=rfl
@[simp] theorem pV(x:List D):Ap (.full x)=false:=rfl
@[simp] theorem qL(r m:Nat):Ap (.row r m)=false:=rfl
@[simp] theorem rz(r m i j:Nat):Ap (.ptr r m i j)=false:=rfl
@[simp] theorem pK(x:List D):Ap (.DW x)=false:=rfl
@[simp] theorem sD(r:Nat):Ap (.map r)=false:=rfl
@[simp] theorem tU(f:Fn)(a b:List V):Ap (.fn f a b)=false:=rfl
@[simp] theorem vF(vs:List V):Bp (.agg vs)=false:=rfl
@[simp] theorem uA(ds:List D):Bp (.d (.agg ds))=false:=rfl
@[simp] theorem uC(x:Bool):Bp (.d (.bool x))=true:=rfl
@[simp] theorem vH(k:IntKind)(x:Int):Bp (.d (.int k x))=true:=rfl
@[simp] theorem vJ(x:ByteArray):Bp (.d (.str x))=true:=rfl
@[simp] theorem wR(x:List D):Bp (.d (.sl x))=true:=rfl
@[simp] theorem vD(x:Value):Bp (.d (.raw x))=one x:=rfl
@[simp] theorem uN(x:List D):Bp (.full x)=true:=rfl
@[simp] theorem vt(r m:Nat):Bp (.row r m)=true:=rfl
@[simp] theorem vp(r m i j:Nat):Bp (.ptr r m i j)=true:=rfl
@[simp] theorem tq(x:List D):Bp (.DW x)=true:=rfl
@[simp] theorem vn(r:Nat):Bp (.map r)=true:=rfl
@[simp] theorem wG(f:Fn)(a b:List V):Bp (.fn f a b)=true:=rfl
@[simp] theorem qW(ds:List D):BE (.agg ds)=ds:=rfl
@[simp] theorem pI(x:Bool):BE (.bool x)=[.bool x]:=rfl
@[simp] theorem rj(k:IntKind)(x:Int):BE (.int k x)=[.int k x]:=rfl
@[simp] theorem rC(x:ByteArray):BE (.str x)=[.str x]:=rfl
@[simp] theorem tt(x:List D):BE (.sl x)=[.sl x]:=rfl
@[simp] theorem vN(ds:List D):CL.oneD (.agg ds)=true:=rfl
@[simp] theorem uP(x:Bool):CL.oneD (.bool x)=true:=rfl
@[simp] theorem vE(k:IntKind)(x:Int):CL.oneD (.int k x)=true:=rfl
@[simp] theorem uV(x:ByteArray):CL.oneD (.str x)=true:=rfl
@[simp] theorem wO(x:List D):CL.oneD (.sl x)=true:=rfl
@[simp] theorem getD_map{α β:Type}(f:α->β)(xs:List α)(i:Nat)(d:β)(h:i<Z xs):(xs.map f)[i]?.getD d=f xs[i]:=by simp[h]
attribute [simp] EY Dm oS A6 BX Bc C2 Hn HT ev need strip put OQ Z8 wW CW Ha uj sE arith JX vG qH iN fM Kw Nc Pv Ux JA Yw eZ vS Gg vV CL Hi HN ue qq cg qp si qA Cl I2 EN OE pX eG Xa OW iM lj TU BO B4 DL Ht F5 Jx F2 Qm KL callee BB PZ Ix Hq UC Kg lenOf C1 isMap one B5 A2 AJ Au Ao GI F9 Sx DS mapOf fN qZ lC sP rG EU Fu F0 Kh jK tB Kv II H9 Uk Vr u7 UF Bz CC Bv Bh GZ L6
end Go.Koi
