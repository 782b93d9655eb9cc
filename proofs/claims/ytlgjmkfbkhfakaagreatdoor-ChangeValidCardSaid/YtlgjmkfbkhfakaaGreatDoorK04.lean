/- Part 5 of the proof that the law ChangeValid returns true for every input. -/
import Derived.Test.YtlgjmkfbkhfakaaGreatDoorK03
import Derived.Maps.Keyed
import Derived.DeepKeys4
import Derived.Laws.StructEq
import Derived.Laws.Cover3
set_option maxHeartbeats 64000000
set_option maxRecDepth 100000
namespace Go.Koi
inductive CK where
 |bool|int (q:IntKind)|str
 deriving DecidableEq
inductive KK where
 |one (c:CK)|cells (cs:List CK)
def AAX:CK→D→Bool
 |.bool,.bool _=>true
 |.int q,.int q' _=>q==q'
 |.str,.str _=>true
 |_,_=>false
def AAU:List CK→List D→Bool
 |[],[]=>true
 |c::cs,d::ds=>AAX c d&&AAU cs ds
 |_,_=>false
def AAV:KK→D→Bool
 |.one c,d=>AAX c d
 |.cells cs,.agg ds=>AAU cs ds
 |_,_=>false
def AA4:D→Value
 |.bool b=>.bool b
 |.int k n=>.int k n
 |.str s=>.string s
 |_=>undef
def ACb:D→Value
 |.agg ds=>.agg (ds.map AA4).toArray
 |d=>AA4 d
def GY:D→Lit
 |.bool b=>.bool b
 |.int k n=>.int k n
 |.str s=>.string s.data.toList
 |_=>.bool false
theorem KW{c:CK}{I:Nat→Prop}{w:World}{d:D}{v:Value}(hg:AAX c d=true)(h:CD I w d v):v=AA4 d:=by
 cases h<;>first|rfl|(cases c<;>simp[AAX]at hg)
theorem Hx:∀{cs:List CK} {ds:List D},AAU cs ds=true→cs.length=ds.length∧∀i (h:i<cs.length) (h':i<ds.length),AAX cs[i] ds[i]=true
 |[],[],_=>⟨rfl,fun i h=>by simp at h⟩
 |[],_::_,h=>by simp[AAU]at h
 |_::_,[],h=>by simp[AAU]at h
 |c::cs,d::ds,h=>by
  simp only[AAU,Bool.and_eq_true]at h;obtain⟨h1,h2⟩:=Hx h.2;refine⟨by simp[h1],fun i hi gj=>?_⟩;cases i with
  |zero=>exact h.1
  |succ i=>simpa using h2 i (by simpa using hi) (by simpa using gj)
theorem GB{kk:KK}{I:Nat→Prop}{w:World}{d:D}{v:Value}(hg:AAV kk d=true)(h:CD I w d v):v=ACb d:=by
 cases kk with
 |one c=>
  have:=KW hg h;rw[this];cases d<;>first|rfl|(cases c<;>simp[AAV,AAX]at hg)
 |cells cs=>
  cases h with
  |agg ds vs hs h ho=>
   obtain⟨h1,h2⟩:=Hx hg;simp only[ACb,Value.agg.injEq];apply Array.ext (by simp[hs]);intro i h3 h4;have hi:i<ds.length:=by omega
   simpa using KW (h2 i (by omega) hi) (h i hi)
  |_=>simp[AAV]at hg
theorem Lr{c:CK}{a b:D}(ha:AAX c a=true)(hb:AAX c b=true):deq a b=true↔AA4 a=AA4 b:=by
 cases c<;>cases a<;>simp[AAX]at ha<;>cases b<;>simp[AAX]at hb
 ·simp[deq,AA4]
 ·subst ha;subst hb;simp[deq,AA4]
 ·simp[deq,AA4]
theorem R4{c:CK}{a b:D}(ha:AAX c a=true)(hb:AAX c b=true):GY a=GY b↔AA4 a=AA4 b:=by
 cases c<;>cases a<;>simp[AAX]at ha<;>cases b<;>simp[AAX]at hb
 ·simp[GY,AA4]
 ·subst ha;subst hb;simp[GY,AA4]
 ·rename_i x y;simp only[GY,AA4,Lit.string.injEq,Value.string.injEq];constructor
  ·intro h;cases x;cases y;simp only[ByteArray.mk.injEq];exact Array.ext' h
  ·rintro rfl;rfl
theorem Hn:∀{cs:List CK} {as bs:List D},AAU cs as=true→AAU cs bs=true→(AAT as bs=true↔as.map AA4=bs.map AA4)
 |[],[],[],_,_=>by simp[AAT]
 |[],_::_,_,h,_=>by simp[AAU]at h
 |[],[],_::_,_,h=>by simp[AAU]at h
 |_::_,[],_,h,_=>by simp[AAU]at h
 |_::_,_::_,[],_,h=>by simp[AAU]at h
 |c::cs,a::as,b::bs,ha,hb=>by
  simp only[AAU,Bool.and_eq_true]at ha hb;simp only[AAT,Bool.and_eq_true,List.map_cons,List.cons.injEq];rw[Lr ha.1 hb.1,Hn ha.2 hb.2]
theorem Ho:∀{cs:List CK} {as bs:List D},AAU cs as=true→AAU cs bs=true→(as.map GY=bs.map GY↔as.map AA4=bs.map AA4)
 |[],[],[],_,_=>by simp
 |[],_::_,_,h,_=>by simp[AAU]at h
 |[],[],_::_,_,h=>by simp[AAU]at h
 |_::_,[],_,h,_=>by simp[AAU]at h
 |_::_,_::_,[],_,h=>by simp[AAU]at h
 |c::cs,a::as,b::bs,ha,hb=>by
  simp only[AAU,Bool.and_eq_true]at ha hb;simp only[List.map_cons,List.cons.injEq];rw[R4 ha.1 hb.1,Ho ha.2 hb.2]
theorem RU{kk:KK}{a b:D}(ha:AAV kk a=true)(hb:AAV kk b=true):deq a b=true↔ACb a=ACb b:=by
 cases kk with
 |one c=>
  have e:∀{x:D},AAV (.one c) x=true→ACb x=AA4 x:=fun {x} h=>by cases x<;>first|rfl|(cases c<;>simp[AAV,AAX]at h)
  rw[e ha,e hb];exact Lr ha hb
 |cells cs=>
  cases a<;>simp[AAV]at ha;cases b<;>simp[AAV]at hb;simp only[deq,ACb,Value.agg.injEq];rw[Hn ha hb];exact⟨fun h=>by rw[h],fun h=>by simpa using h⟩
structure GD(P:Program)(K:TypeId)(kk:KK):Prop where
 keyed:Maps.Keyed P K
 lit:∀{kd I w v},AAV kk kd=true→CD I w kd v→∃l,keyOf P K v=some l
theorem OI{P:Program}{K:TypeId}{q:IntKind}(h:P.underlying K=some (.int q)):GD P K (.one (.int q)):=
 ⟨Maps.int_keyed h,fun {kd I w v} hg hc=>by
  cases hc<;>simp[AAV,AAX]at hg;subst hg;rename_i n hr;exact⟨_,Maps.keyOf_int_mk h (by rw[PT];exact hr)⟩⟩
theorem N9{P:Program}{K:TypeId}(h:P.underlying K=some .string):GD P K (.one .str):=
 ⟨Maps.string_keyed h,fun {kd I w v} hg hc=>by
  cases hc<;>simp[AAV,AAX]at hg;rename_i s hs;exact⟨.string s.data.toList,by simp[keyOf,h,mapKey,hs]⟩⟩
def basic(P:Program)(t:TypeId):Option CK:=
 match P.underlying t with
 |some .bool=>some .bool
 |some (.int q)=>some (.int q)
 |some .string=>some .str
 |_=>none
def ckF(P:Program):Nat→List Field→Option (List CK)
 |_,[]=>some []
 |k,f::fs=>if f.offset=k∧P.cellsOf f.type=1∧(f.name != "_")=true then
   (match basic P f.type,ckF P (k+1) fs with|some c,some cs=>some (c::cs)|_,_=>none)else none
def ckT(P:Program)(t:TypeId):Option (List CK):=
 if P.keyType t&&P.keyTypeAt 2 t&&P.tiled 2 t&&!P.eqGuardType P.depth t&&decide (0<P.types.size)then
  match P.underlying t with
  |some (.struct fs)=>if P.cellsOf t=fs.size then ckF P 0 fs.toList else none
  |some (.array n e)=>if P.cellsOf t=n∧P.cellsOf e=1 then(basic P e).map fun c=>List.replicate n c else none
  |_=>none
 else none
theorem Kp{P:Program}{t:TypeId}{c:CK}(hb:basic P t=some c){I:Nat→Prop}{w:World}{d:D}{v:Value}(hg:AAX c d=true)(h:CD I w d v)(m:Nat):P.keyLits (m+1) t [v]=some [GY d]:=by
 unfold basic at hb;unfold Program.keyLits;cases h with
 |bool b=>split at hb<;>cases hb<;>simp[AAX]at hg;rename_i hu;simp[hu,GY]
 |int k n hr=>split at hb<;>cases hb<;>simp[AAX]at hg;rename_i hu;subst hg;simp[hu,GY,PT,hr]
 |str s hs=>split at hb<;>cases hb<;>simp[AAX]at hg;rename_i hu;simp[hu,GY,hs]
 |_=>split at hb<;>cases hb<;>simp[AAX]at hg
theorem Nd{P:Program}{I:Nat→Prop}{w:World}{m:Nat}(cs:List Value):∀(fs:List Field) (k:Nat) (cks:List CK) (ds:List D),ckF P k fs=some cks→AAU cks ds=true→k+fs.length=cs.length→(∀i (h:i<ds.length) (h':k+i<cs.length),CD I w ds[i] cs[k+i])→(fs.mapM fun f=>P.keyLits (m+1) f.type ((cs.drop f.offset).take (P.cellsOf f.type)))=some (ds.map fun d=>[GY d])
 |[],k,cks,ds,h,hg,_,_=>by
  simp only[ckF,Option.some.injEq]at h;subst h;cases ds with
  |nil=>rfl
  |cons d ds=>simp[AAU]at hg
 |f::fs,k,cks,ds,h,hg,hl,hc=>by
  simp only[ckF]at h;split at h
  ·rename_i hf;obtain⟨h1,h2,h3⟩:=hf;split at h
   ·rename_i c cs' hb lI;cases h;cases ds with
    |nil=>simp[AAU]at hg
    |cons d ds=>
     simp only[AAU,Bool.and_eq_true]at hg;simp only[List.length_cons]at hl;have hk:k<cs.length:=by omega
     have e1:(cs.drop f.offset).take (P.cellsOf f.type)=[cs[k]]:=by
      rw[h1,h2,List.drop_eq_getElem_cons hk];rfl
     have jo:=hc 0 (by simp) (by omega);have e2:=Kp hb hg.1 jo m;have e3:=Nd (m:=m) cs fs (k+1) cs' ds lI hg.2 (by omega) (fun i hi gj=>by
      have:=hc (i+1) (by simpa using hi) (by omega);simpa[Nat.add_assoc,Nat.add_comm 1 i]using this)
     simp only[Nat.add_zero]at e2;simp[List.mapM_cons,e1,e2,e3]
   ·cases h
  ·cases h
theorem K3{n:Nat}{c:CK}:∀{ds:List D},AAU (List.replicate n c) ds=true→ds.length=n∧∀d∈ds,AAX c d=true:=by
 induction n with
 |zero=>intro ds h;cases ds<;>simp[AAU]at h⊢
 |succ n ih=>
  intro ds h;cases ds with
  |nil=>simp[List.replicate_succ,AAU]at h
  |cons d ds=>
   simp only[List.replicate_succ,AAU,Bool.and_eq_true]at h;obtain⟨h1,h2⟩:=ih h.2;refine⟨by simp[h1],fun x hx=>?_⟩;cases hx with
   |head=>exact h.1
   |tail _ hx=>exact h2 x hx
theorem JS{α β:Type}(f:α→β)(l:List α):(l.map fun d=>[f d]).flatten=l.map f:=by
 induction l with
 |nil=>rfl
 |cons a l ih=>simp[ih]
theorem mapM_some{α β:Type}(f:α→Option β)(g:α→β)(l:List α)(h:∀a∈l,f a=some (g a)):l.mapM f=some (l.map g):=by
 induction l with
 |nil=>rfl
 |cons a l ih=>simp[List.mapM_cons,h a (by simp),ih fun b hb=>h b (by simp[hb])]
theorem ACr{P:Program}{t:TypeId}{cks:List CK}(h:ckT P t=some cks):P.keyTypeAt 2 t=true∧P.tiled 2 t=true∧P.eqGuardType P.depth t=false∧(match P.underlying t with|some (.array _ _)|some (.struct _)=>true|_=>false)=true∧∀{I:Nat→Prop} {w:World} {ds:List D} {v:Value},AAU cks ds=true→CD I w (.agg ds) v→keyOf P t v=some (.string (keyBytes (ds.map GY))):=by
 unfold ckT at h;split at h
 ·rename_i hc;simp only[Bool.and_eq_true,Bool.not_eq_true']at hc;obtain⟨⟨⟨⟨h1,h2⟩,h3⟩,h4⟩,h5⟩:=hc;have ki:0<P.types.size:=by simpa using h5
  refine⟨h2,h3,h4,?_⟩;split at h
  ·rename_i fs hu;refine⟨by rw[hu],fun {I w ds v} hg jo=>?_⟩;split at h
   ·rename_i gp;cases jo with
    |agg ds vs hs jo ho=>
     have hlen:∀(k:Nat) (fs:List Field) (cks:List CK),ckF P k fs=some cks→cks.length=fs.length:=by
      intro k fs;induction fs generalizing k with
      |nil=>intro cks h;simp[ckF]at h;subst h;rfl
      |cons f fs ih=>
       intro cks h;simp only[ckF]at h;split at h
       ·split at h
        ·rename_i c cs' hb lI;cases h;simp[ih _ _ lI]
        ·cases h
       ·cases h
     have hl:=hlen 0 fs.toList cks h;have jT:=(Hx hg).1;have pE:∀(k:Nat) (fs:List Field) (cks:List CK),ckF P k fs=some cks→∀f∈fs,(f.name != "_")=true:=by
      intro k fs;induction fs generalizing k with
      |nil=>intro cks _ f hf;cases hf
      |cons f fs ih=>
       intro cks h g hg;simp only[ckF]at h;split at h
       ·rename_i hf;split at h
        ·rename_i c cs' hb lI;cases hg with
         |head=>exact hf.2.2
         |tail _ hg=>exact ih _ _ lI g hg
        ·cases h
       ·cases h
     have e:=Nd (m:=P.types.size - 1) (I:=I) (w:=w) vs.toList fs.toList 0 cks ds h hg (by simp at hl⊢;omega) (fun i hi gj=>by simpa using jo i hi);have lL:P.types.size - 1+1=P.types.size:=by omega
     rw[lL]at e;have pF:(Value.agg vs).cells=vs:=rfl;have lI:vs.toList.length=P.cellsOf t:=by rw[gp];simp at hl⊢;omega
     unfold keyOf;have mY:(Value.agg vs).formed P t=true:=by simp[Value.formed,hu,gp];simp at hl;omega
     simp only[hu,h1,mY,Bool.and_true,if_true,pF];unfold Program.keyLits;simp only[hu,lI];have kO:fs.all (fun f=>f.name != "_")=true:=by
      rw[Array.all_eq_true'];intro f hf;exact pE 0 fs.toList cks h f (by simpa using hf)
     rw[if_pos ⟨trivial,kO⟩,e];simp[JS]
   ·cases h
  ·rename_i n e hu;refine⟨by rw[hu],fun {I w ds v} hg jo=>?_⟩;split at h
   ·rename_i gp;obtain⟨gp,qH⟩:=gp;simp only[Option.map_eq_some_iff]at h;obtain⟨c,hb,rfl⟩:=h;obtain⟨hl,gg⟩:=K3 hg;cases jo with
    |agg ds vs hs jo ho=>
     have lL:∃m,P.types.size=m+1:=⟨P.types.size - 1,by omega⟩;obtain⟨m,hm⟩:=lL;have lI:vs.toList.length=P.cellsOf t:=by rw[gp];simp;omega
     have mY:(Value.agg vs).formed P t=true:=by simp[Value.formed,hu,gp];omega
     unfold keyOf;simp only[hu,h1,mY,Bool.and_true,if_true,Value.cells];unfold Program.keyLits;simp only[hu,lI,if_true];have e:=mapM_some (fun i=>P.keyLits P.types.size e ((vs.toList.drop (i * P.cellsOf e)).take (P.cellsOf e))) (fun i=>[GY (ds.getD i (.bool false))]) (List.range n) (fun i hi=>by
      have hi:i<n:=by simpa using hi
      have jR:i<vs.toList.length:=by simp;omega
      rw[qH,Nat.mul_one,List.drop_eq_getElem_cons jR,hm];have jn:ds.getD i (.bool false)=ds[i]'(by omega):=by simp[List.getD,show i<ds.length by omega]
      rw[jn];exact Kp hb (gg _ (List.getElem_mem _)) (by simpa using jo i (by omega)) m)
     rw[e];have:(List.range n).map (fun i=>GY (ds.getD i (.bool false)))=ds.map GY:=by
      apply List.ext_getElem (by simp[hl]);intro i g1 g2;have:i<ds.length:=by simpa using g2
      simp[List.getD,this]
     simp only[Option.map_some,JS,this]
   ·cases h
  ·cases h
 ·cases h
theorem LJ{P:Program}{K:TypeId}{cks:List CK}(h:ckT P K=some cks):GD P K (.cells cks):=by
 obtain⟨h1,h2,h3,h4,h5⟩:=ACr h;refine⟨Maps.Keyed.of_law (deep_law (m:=2) (by decide) h1 h2 h4),fun {kd I w v} hg hc=>?_⟩;cases kd<;>simp[AAV]at hg;exact⟨_,h5 hg hc⟩
theorem MX{P:Program}{T:TypeId}{cks:List CK}(h:ckT P T=some cks){I:Nat→Prop}{w:World}{as bs:List D}{u v:Value}(ha:AAU cks as=true)(hb:AAU cks bs=true)
  (hu:CD I w (.agg as) u) (hv:CD I w (.agg bs) v):(Op.equal T u v).run P w=.ok (AAT as bs) w:=by
 obtain⟨h1,h2,h3,h4,h5⟩:=ACr h;obtain⟨r,hr,oq⟩:=run_equal_deep w (m:=2) (by decide) h1 h4 (h5 ha hu) (h5 hb hv);rw[hr];congr 1;have hl:keyOf P T u=keyOf P T v→as.map GY=bs.map GY:=fun e=>by
  have iN:=h5 ha hu;have jy:=h5 hb hv;obtain⟨xs,L1,e1,g1,g2⟩:=keyOf_top h4 iN;have vo:u=v:=keyOf_inj_deep h2 h4 iN (by rw[←e];exact iN);have k1:u=ACb (.agg as):=GB (kk:=.cells cks) ha hu;have k2:v=ACb (.agg bs):=GB (kk:=.cells cks) hb hv;rw[k1,k2]at vo;have:as.map AA4=bs.map AA4:=by simpa[ACb]using vo
  exact(Ho ha hb).2 this
 have:(r=true↔AAT as bs=true):=by
  rw[oq,Hn ha hb,←Ho ha hb];constructor
  ·intro e;exact hl (by rw[h5 ha hu,h5 hb hv,e])
  ·intro e;rw[e]
 cases r<;>cases hd:AAT as bs<;>simp_all
section
variable {P:Program} {n:Nat} {o:Oper} {tm:Tm} {S S':Sg} {v:V}
def A4(es:List (D×V))(k:D):Option V:=(es.find? fun p=>deq p.1 k).map (·.2)
def DU(es:List (D×V))(k:D)(x:V):List (D×V):=
 if(A4 es k).isSome then es.map fun p=>if deq p.1 k then(p.1,x)else p else es++[(k,x)]
theorem PC{T:TypeId}(ho:o.op=.makeMap T none):Bv P n o tm S (.map S.length) (S++[.map []]):=.val fun G w a st=>by
 obtain⟨r1,r2,r3⟩:=st.rel.add 0 (.map []) (.map #[] 0) (fun L=>by
  simp only[OK];exact⟨#[],0,by simpa[Gh.at]using C0,rfl,rfl,fun i hi=>by simp at hi⟩)
 refine⟨.map (some w.heap.size),_,_,?_,?_,r1,r2,r3⟩
 ·simp[execOp,ho,Instr.makeMap];rfl
 ·exact .map _ _ rfl (by simp) fun _=>by simp[Gh.at]
theorem Qd{G:Gh}{w:World}(R:Rel P G S w){K:TypeId}{kk:KK}(F:GD P K kk){r:Nat}{es:List (D×V)}(hr:S[r]?=some (.map es))(iB:∀p∈es,AAV kk p.1=true)
  {kd:D} {kv:Value} (hk:CD G.I w kd kv) (hg:AAV kk kd=true):
  ∃ents clock,w.heap[G.BZ r]?=some (.map ents clock)∧ents.size=es.length∧(∀w' em,(Instr.checkKey em 10000 K kv).run P w'=.ok () w')∧(∀w',(Instr.keyThatStays kv kv).run P w'=.ok kv w')∧((A4 es kd=none∧(∀e∈ents.toList,e.key≠kv)∧∀w',(Instr.findKey K kv ents.toList).run P w'=.ok none w')∨∃j e,∃hj:j<es.length,ents[j]?=some e∧e.key=kv∧A4 es kd=some es[j].2∧CV G S w es[j].2 e.val∧(∀w',(Instr.findKey K kv ents.toList).run P w'=.ok (some (j,e.val)) w')∧∀i (h:i<es.length),deq es[i].1 kd=true↔i=j):=by
 have gw:=R.CT r _ hr;simp only[OK]at gw;obtain⟨ents,clock,h1,h2,_,h3⟩:=gw;obtain⟨l,hl⟩:=F.lit hg hk;have wu:=GB hg hk;have gg:∀i (h:i<es.length),∃e,ents[i]?=some e∧e.key=ACb es[i].1∧AAV kk es[i].1=true∧CV G S w es[i].2 e.val∧(∃l,keyOf P K e.key=some l)∧∀j f,j<i→ents[j]?=some f→f.key≠e.key:=fun i hi=>by
  obtain⟨e,e1,e2,e3,e4,e5⟩:=h3 i hi;have rk:=iB _ (List.getElem_mem hi);exact⟨e,e1,GB rk e2,rk,e3,F.lit rk e2,fun j f hj hf=>(e5 j f hj hf).2⟩
 have oY:∀e∈ents.toList,∃l,keyOf P K e.key=some l:=fun e he=>by
  obtain⟨i,hi,rfl⟩:=List.mem_iff_getElem.1 he;have gj:i<es.length:=by rw[←h2];simpa using hi
  obtain⟨e,e1,_,_,_,e5,_⟩:=gg i gj;have:ents.toList[i]=e:=by
   rw[Array.getElem?_eq_getElem (by omega)]at e1;simpa using e1
  rw[this];exact e5
 refine⟨ents,clock,h1,h2,fun w' em=>F.keyed.check w' em hl,fun w'=>F.keyed.stays w' hl,?_⟩;have ot:∀i (h:i<es.length) e,ents[i]?=some e→(deq es[i].1 kd=true↔e.key=kv):=fun i hi e he=>by
  obtain⟨e',e1,e2,e3,_⟩:=gg i hi;rw[he]at e1;cases e1;rw[RU e3 hg,←e2,←wu]
 by_cases hex:∃j,∃hj:j<es.length,deq es[j].1 kd=true
 ·obtain⟨j,hj,hd⟩:=hex;obtain⟨e,e1,e2,e3,e4,e5,e6⟩:=gg j hj;have jB:e.key=kv:=(ot j hj e e1).1 hd;have mZ:∀i (h:i<es.length),deq es[i].1 kd=true↔i=j:=fun i hi=>by
   constructor
   ·intro jR;obtain⟨f,f1,f2,f3,f4,f5,f6⟩:=gg i hi;have vp:f.key=kv:=(ot i hi f f1).1 jR;rcases Nat.lt_trichotomy i j with h|h|h
    ·exact absurd (vp.trans jB.symm) (e6 i f h f1)
    ·exact h
    ·exact absurd (jB.trans vp.symm) (f6 j e h e1)
   ·rintro rfl;exact hd
  have rm:A4 es kd=some es[j].2:=by
   unfold A4;have:es.find? (fun p=>deq p.1 kd)=some es[j]:=by
    rw[List.find?_eq_some_iff_getElem];refine⟨hd,j,hj,rfl,fun i hi=>?_⟩;have:=mZ i (by omega);simp only[Bool.not_eq_true'];cases hx:deq es[i].1 kd with
    |false=>rfl
    |true=>have:=this.1 hx;omega
   rw[this];rfl
  refine .inr ⟨j,e,hj,e1,jB,rm,e4,fun w'=>?_,mZ⟩;rcases F.keyed.find w' hl ents.toList oY with⟨_,g2⟩|⟨i,f,g1,g2,g3⟩
  ·exact absurd jB (g2 e (List.mem_of_getElem? (by simpa using e1)))
  ·have hf:ents[i]?=some f:=by simpa using g2
   have hi:i<es.length:=by rw[←h2];exact(Array.getElem?_eq_some_iff.1 hf).1
   have:i=j:=(mZ i hi).1 ((ot i hi f hf).2 g3);subst this;rw[e1]at hf;cases hf;exact g1
 ·have gy:∀e∈ents.toList,e.key≠kv:=fun e he jB=>by
   obtain⟨i,hi,rfl⟩:=List.mem_iff_getElem.1 he;have gj:i<es.length:=by rw[←h2];simpa using hi
   exact hex ⟨i,gj,(ot i gj _ (by rw[Array.getElem?_eq_getElem (by omega)];simp)).2 jB⟩
  refine .inl ⟨?_,gy,fun w'=>?_⟩
  ·unfold A4;have:es.find? (fun p=>deq p.1 kd)=none:=by
    rw[List.find?_eq_none];intro p hp hd;obtain⟨i,hi,rfl⟩:=List.mem_iff_getElem.1 hp;exact hex ⟨i,hi,hd⟩
   rw[this];rfl
  ·rcases F.keyed.find w' hl ents.toList oY with⟨g1,_⟩|⟨i,f,g1,g2,g3⟩
   ·exact g1
   ·exact absurd g3 (gy f (List.mem_of_getElem? g2))
def N8(es:List (D×V))(k:D)(z:V)(ok:Bool):V:=
 if ok then .Bd [(A4 es k).getD z,.d (.bool (A4 es k).isSome)]else(A4 es k).getD z
theorem Sm{T K E:TypeId}{x y:Operand}{ok:Bool}{r:Nat}{es:List (D×V)}{kd:D}{kk:KK}{t e:TI}{z:Value}(ho:o.op=.lookup T x y ok)(hT:ti P T=some t)(hk:t.kind=.map K E)
  (he:ti P E=some e) (hz:e.zero=some z) (F:GD P K kk) (hx:need (ev tm x)) (ex:strip (ev tm x)=.map r) (hr:S[r]?=some (.map es)) (iB:∀p∈es,AAV kk p.1=true)
  (hy:need (ev tm y)) (ey:asD S (strip (ev tm y))=some kd) (hg:AAV kk kd=true):Bv P n o tm S (N8 es kd (cst z) ok) S:=.pure fun G w a st=>by
 have h1:=(BH st x).strip hx;rw[ex]at h1;have h2:=((BH st y).strip hy).asD st.rel ey;have ou:a.eval x=.map (some (G.BZ r)):=by cases h1 with|map _ _ _ _ h=>exact h (by simp[AAN,hr])
 obtain⟨d,hd,gv⟩:=Ai hT w;have hdE:d=.map K E:=by rw[hk]at gv;cases d<;>simp[tk]at gv⊢;exact gv
 subst hdE;obtain⟨ents,clock,f1,f2,f3,f4,f5⟩:=Qd st.rel F hr iB h2 hg;have wv:=DF he w hz;have ov:=MapKept.run_getObj_map (P:=P) f1;rcases f5 with⟨g1,g2,g3⟩|⟨j,e',hj,g1,g2,g3,g4,g5,g6⟩
 ·refine⟨if ok then .tuple #[z,.bool false]else z,?_,?_⟩
  ·cases ok<;>simp[execOp,ho,Instr.lookup,hd,ou,ov,f3,g3,wv]
  ·unfold N8;rw[g1];cases ok
   ·exact Fo _ _ _ _
   ·refine .Bd _ _ rfl fun i hi=>?_;match i,hi with
    |0,_=>exact Fo _ _ _ _
    |1,_=>exact .d _ _ (.bool _)
 ·refine⟨if ok then .tuple #[e'.val,.bool true]else e'.val,?_,?_⟩
  ·cases ok<;>simp[execOp,ho,Instr.lookup,hd,ou,ov,f3,g5]
  ·unfold N8;rw[g3];cases ok
   ·exact g4
   ·refine .Bd _ _ rfl fun i hi=>?_;match i,hi with
    |0,_=>exact g4
    |1,_=>exact .d _ _ (.bool _)
theorem IG{T K E:TypeId}{x y z:Operand}{r:Nat}{es:List (D×V)}{kd:D}{kk:KK}{t:TI}(ho:o.op=.mapUpdate T x y z∨o.op=.insert T x y z)(hT:ti P T=some t)(hk:t.kind=.map K E)
  (F:GD P K kk) (hx:need (ev tm x)) (ex:strip (ev tm x)=.map r) (hr:S[r]?=some (.map es)) (iB:∀p∈es,AAV kk p.1=true)
  (hy:need (ev tm y)) (ey:asD S (strip (ev tm y))=some kd) (hg:AAV kk kd=true) (hz:need (ev tm z)):Bv P n o tm S .any (S.set r (.map (DU es kd (strip (ev tm z))))):=.skip fun G w a st=>by
 have h1:=(BH st x).strip hx;rw[ex]at h1;have h2:=((BH st y).strip hy).asD st.rel ey;have h3:=(BH st z).strip hz;have ou:a.eval x=.map (some (G.BZ r)):=by cases h1 with|map _ _ _ _ h=>exact h (by simp[AAN,hr])
 obtain⟨d,hd,gv⟩:=Ai hT w;have hdE:d=.map K E:=by rw[hk]at gv;cases d<;>simp[tk]at gv⊢;exact gv
 subst hdE;have gw:=st.rel.CT r _ hr;simp only[OK]at gw;obtain⟨ents0,clock0,q1,q2,qk,q3⟩:=gw;obtain⟨ents,clock,f1,f2,f3,f4,f5⟩:=Qd st.rel F hr iB h2 hg;rw[f1]at q1;simp only[Option.some.injEq,Obj.map.injEq]at q1;obtain⟨rfl,rfl⟩:=q1;have ov:=MapKept.run_getObj_map (P:=P) f1;have rn:=fun o'=>MapKept.run_setObj_map (P:=P) o' f1;have iH:=AZ hr;have gz:∀o':O,(S.set r o')[r]?=some o':=fun o'=>by simp[iH]
 have iA:(execOp a.eval o).run P w=((Instr.mapUpdate T (a.eval x) (a.eval y) (a.eval z)).run P w).andThen fun _ w'=>.ok .skip w':=by
  rcases ho with ho|ho<;>simp[execOp,ho]
 rcases f5 with⟨g1,g2,g3⟩|⟨j,e',hj,g1,g2,g3,g4,g5,g6⟩
 ·have iT:DU es kd (strip (ev tm z))=es++[(kd,strip (ev tm z))]:=by simp[DU,g1]
  rw[iT];obtain⟨r1,r2,r3⟩:=st.rel.update (o':=.map (es++[(kd,strip (ev tm z))])) (H:=.map (ents.push {key:=a.eval y,val:=a.eval z,born:=clock}) (clock+1)) hr rfl rfl
   (fun n' iz=>by simp[lenOf,gz]at iz) (fun _=>by simp[AAN,hr]) (fun L=>by
    simp only[OK];refine⟨_,_,Ej (D3 f1),by simp[f2],by simp[qk],fun i hi=>?_⟩;by_cases jR:i<es.length
    ·obtain⟨e,e1,e2,e3,e4,e5⟩:=q3 i jR;refine⟨e,by rw[Array.getElem?_push_lt (by omega),←e1,Array.getElem?_eq_getElem (by omega)],?_,?_,e4,fun j f hj hf=>e5 j f hj ?_⟩
     ·rw[List.getElem_append_left jR];exact e2.mono L.I L.DG
     ·rw[List.getElem_append_left jR];exact e3.later L
     ·rw[Array.getElem?_push_lt (by omega)]at hf;rw[←hf,Array.getElem?_eq_getElem (by omega)]
    ·have m0:i=es.length:=by simp at hi;omega
     subst m0;refine⟨⟨a.eval y,a.eval z,clock⟩,by rw[←f2];simp,?_,?_,qk,fun j f hj hf=>?_⟩
     ·simpa using h2.mono L.I L.DG
     ·simpa using h3.later L
     ·rw[Array.getElem?_push_lt (by omega)]at hf;simp only[Option.some.injEq]at hf;obtain⟨e,e1,e2,e3,e4,e5⟩:=q3 j (by omega);rw[Array.getElem?_eq_getElem (by omega)]at e1;simp only[Option.some.injEq]at e1;have m6:f=e:=by rw[←hf,←e1]
      subst m6;exact⟨by simp only;omega,g2 f (by rw[←hf];simp)⟩)
  refine⟨G,_,?_,r1,r2,r3⟩;rw[iA];simp[Instr.mapUpdate,hd,ou,ov,f3,g3,rn];rfl
 ·have iT:DU es kd (strip (ev tm z))=es.map fun p=>if deq p.1 kd then(p.1,strip (ev tm z))else p:=by simp[DU,g3]
  rw[iT];have qI:j<ents.size:=by omega
  have vq:ents[j]=e':=by rw[Array.getElem?_eq_getElem qI]at g1;simpa using g1
  obtain⟨r1,r2,r3⟩:=st.rel.update (o':=.map (es.map fun p=>if deq p.1 kd then(p.1,strip (ev tm z))else p)) (H:=.map (ents.modify j fun e=>{e with key:=a.eval y,val:=a.eval z}) clock) hr rfl rfl
   (fun n' iz=>by simp[lenOf,gz]at iz) (fun _=>by simp[AAN,hr]) (fun L=>by
    simp only[OK];refine⟨_,_,Ej (D3 f1),by simp[f2],by simpa using qk,fun i hi=>?_⟩;have jR:i<es.length:=by simpa using hi
    obtain⟨e,e1,e2,e3,e4,e5⟩:=q3 i jR;have ia:∀k (h:k<ents.size),(ents.modify j fun e=>{e with key:=a.eval y,val:=a.eval z})[k]?=some (if j=k then {ents[k]with key:=a.eval y,val:=a.eval z}else ents[k]):=fun k hk=>by
     rw[Array.getElem?_modify,Array.getElem?_eq_getElem hk];by_cases hjk:j=k<;>simp[hjk]
    have oZ:ents[i]'(by omega)=e:=by rw[Array.getElem?_eq_getElem (by omega)]at e1;simpa using e1
    have hold:∀k f,k<i→(ents.modify j fun e=>{e with key:=a.eval y,val:=a.eval z})[k]?=some f→∃f',ents[k]?=some f'∧f.born=f'.born∧f.key=f'.key:=fun k f hk hf=>by
     have o6:k<ents.size:=by omega
     rw[ia k o6]at hf;simp only[Option.some.injEq]at hf;refine⟨ents[k],Array.getElem?_eq_getElem o6,?_⟩;by_cases hjk:j=k
     ·subst hjk;simp only[if_true]at hf;rw[←hf];exact⟨rfl,by rw[vq];exact g2.symm⟩
     ·rw[if_neg hjk]at hf;rw[←hf];exact⟨rfl,rfl⟩
    by_cases hij:j=i
    ·subst hij;have gv:deq es[j].1 kd=true:=(g6 j hj).2 rfl;have wx:e=e':=by rw[←oZ,vq]
     subst wx;refine⟨_,(ia j qI).trans (by rw[if_pos rfl]),?_,?_,?_,fun k f hk hf=>?_⟩
     ·simp only[List.getElem_map,gv,if_true];have h0:=e2.mono L.I L.DG;rw[g2]at h0;exact h0
     ·simp only[List.getElem_map,gv,if_true];exact h3.later L
     ·simp only[oZ];exact e4
     ·obtain⟨f',k1,k2,k3⟩:=hold k f hk hf;obtain⟨b1,b2⟩:=e5 k f' hk k1;simp only[oZ];rw[k2,k3];exact⟨b1,by rw[←g2];exact b2⟩
    ·have gv:deq es[i].1 kd=false:=by
      cases hx:deq es[i].1 kd with
      |false=>rfl
      |true=>exact absurd ((g6 i jR).1 hx).symm hij
     refine⟨e,by rw[ia i (by omega),if_neg hij,oZ],?_,?_,e4,fun k f hk hf=>?_⟩
     ·simp only[List.getElem_map,gv,Bool.false_eq_true,if_false];exact e2.mono L.I L.DG
     ·simp only[List.getElem_map,gv,Bool.false_eq_true,if_false];exact e3.later L
     ·obtain⟨f',k1,k2,k3⟩:=hold k f hk hf;rw[k2,k3];exact e5 k f' hk k1)
  refine⟨G,_,?_,r1,r2,r3⟩;rw[iA];have jB:(ents[j]?.map (·.key)).getD (a.eval y)=a.eval y:=by simp[g1,g2]
  have tw:=f4 w;simp only[Instr.mapUpdate,Sem.run_bind,hd,ou,ov,f3,g5,Result.andThen_ok,jB,tw,rn];rfl
theorem Jz{neg:Bool}{T U:TypeId}{x y:Operand}{as bs:List D}{cks:List CK}(ho:o.op=.binOp (if neg then .neq else .eql) T x y U)(hc:ckT P T=some cks)(hx:need (ev tm x))(hy:need (ev tm y))
  (ex:asD S (strip (ev tm x))=some (.agg as)) (ey:asD S (strip (ev tm y))=some (.agg bs)) (ha:AAU cks as=true) (hb:AAU cks bs=true):
  Bv P n o tm S (.d (.bool (AAT as bs !=neg))) S:=.pure fun G w a st=>by
 have h1:=((BH st x).strip hx).asD st.rel ex;have h2:=((BH st y).strip hy).asD st.rel ey;have hr:=MX hc ha hb h1 h2;obtain⟨_,_,hg,_,_⟩:=ACr hc;refine⟨.bool (AAT as bs !=neg),?_,.d _ _ (.bool _)⟩;generalize hX:a.eval x=X at h1 hr;generalize hY:a.eval y=Y at h2 hr;cases h1 with
 |agg _ us hs hd j4=>
  cases h2 with
  |agg _ vs hs' gv hone'=>
   cases neg<;>simp[execOp,ho,hX,hY,run_eqGuard_agg,hg,binOp,hr]
end
section
variable {P:Program} {n:Nat} {o:Oper} {tm:Tm} {S S':Sg} {v:V}
theorem Jj{T E:TypeId}{x y:Operand}{len:Nat}{k:IntKind}{i:Int}{t e:TI}(ho:o.op=.indexAddr T x y)(hx:need (ev tm x))(hy:need (ev tm y))(ht:ti P T=some t)(hk:t.kind=.array len E)
  (he:ti P E=some e) (ey:strip (ev tm y)=.d (.int k i)) (h0:0≤i) (h1:i<len) (hp:ABD S (strip (ev tm x))):Bv P n o tm S (faV (i.toNat * e.size) (strip (ev tm x))) S:=.pure fun G w a st=>by
 have h2:=(BH st x).strip hx;have hi:=Bg st hy ey;generalize strip (ev tm x)=X at *;obtain⟨d,hd,gv⟩:=Ai ht w;have hdE:d=.array len E:=by rw[hk]at gv;cases d<;>simp[tk]at gv⊢;exact gv
 subst hdE;have gl:∀b k,a.eval x=.pointer (some ⟨b,k,none⟩)→(execOp a.eval o).run P w=.ok (.value (.pointer (some ⟨b,k+i.toNat * e.size,none⟩))) w:=fun b k hk=>by
  simp only[execOp,ho,hk,hi,Instr.indexAt,asIntOf,Sem.run_bind,Sem.run_pure,Result.andThen_ok,hd,Instr.sureAddr,Eb];rw[if_pos ⟨h0,h1⟩];simp[BQ he]
 unfold ABD at hp;split at hp
 ·rename_i r m i' j;split at hp
  ·rename_i wr sz els hr;obtain⟨hm,hi⟩:=hp;have lr:=h2.HI hr hm;obtain⟨b,k,hk⟩:=KC st.rel hr hi;rw[hk]at lr;refine⟨_,gl _ _ lr,?_⟩;cases h2 with
   |ptr _ _ _ _ _ h2 h3 h4=>
    refine .ptr _ _ _ _ _ rfl h3 fun m' iS=>⟨(h4 m' iS).1,fun e sz' lF=>?_⟩;have:sz'=sz:=by simpa[AAf,hr]using lF.symm
    subst this;rw[←Nat.add_assoc,hk];simp[Nat.add_assoc]
  ·exact hp.elim
 ·rename_i cs;generalize hX:a.eval x=X at h2;cases h2 with
  |Cc cs b k vs hI h=>
   refine⟨_,gl _ _ hX,?_⟩;refine .Cc _ _ _ (fun j=>vs (i.toNat * e.size+j)) hI fun j hj=>?_;have jL:i.toNat * e.size+j<cs.length:=by simp at hj;omega
   have:=h (i.toNat * e.size+j) jL;simpa[Nat.add_assoc]using this
 ·exact hp.elim
theorem nil_eq{neg:Bool}{T E U:TypeId}{x:Operand}{xs:List D}{t:TI}(ho:o.op=.binOp (if neg then .neq else .eql) T x (.const (.slice none 0 0)) U)(ht:ti P T=some t)(hk:t.kind=.slice E)
  (hx:need (ev tm x)) (ex:strip (ev tm x)=.d (.sl xs)∨strip (ev tm x)=.full xs) {G:Gh} {w:World} {a:Act} (st:St P n G S w a tm):
  ∃b:Bool,(xs≠[]→b=false)∧(execOp a.eval o).run P w=.ok (.value (.bool (b !=neg))) w:=by
 have h1:=(BH st x).strip hx;have jo:∃b len cap,a.eval x=.slice b len cap∧(xs≠[]→b.isNone=false):=by
  have key:∀v,CD G.I w (.sl xs) v→∃b len cap,v=.slice b len cap∧(xs≠[]→b.isNone=false):=fun v h=>by
   cases h with
   |nil b c=>exact⟨b,0,c,rfl,fun h=>absurd rfl h⟩
   |sl sz xs b off cap vs hI hl hc h1 h2=>exact⟨_,_,_,rfl,fun _=>rfl⟩
  generalize a.eval x=X at h1;rcases ex with ex|ex<;>rw[ex]at h1
  ·cases h1 with|d _ _ h=>exact key _ h
  ·cases h1 with|full _ b h=>exact key _ h
 obtain⟨b,len,cap,hv,dI⟩:=jo;obtain⟨i,d,u1,u2,_,_,_,u3⟩:=GA ht;have hdE:d=.slice E:=by rw[hk]at u3;cases d<;>simp[tk]at u3⊢;exact u3
 subst hdE;have hr:=run_equal_slice_nil w T E b len cap u2;have hc:a.eval (.const (.slice none 0 0))=.slice none 0 0:=rfl;refine⟨b.isNone,dI,?_⟩;cases neg<;>simp[execOp,ho,hv,hc,eqGuard,binOp,hr]
end
end Go.Koi
