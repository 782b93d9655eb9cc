/-
  Part 6 of the proof that the law ChangeRenames of the package koinelaw31 returns true for every input.
-/
import Derived.Test.YtknmpedpidhhbaaGreatDoorK04
import Derived.Laws.Cover3
set_option maxHeartbeats 64000000
set_option maxRecDepth 100000
namespace Go.Koi
section
variable {P:Program} {n:Nat} {o:Oper} {tm:Tm} {S S':Sg} {v:V}
theorem Jj{T E:TypeId}{x y:Operand}{len:Nat}{k:IntKind}{i:Int}{t e:TI}(ho:o.op=.indexAddr T x y)(hx:need (ev tm x))(hy:need (ev tm y))(ht:ti P T=some t)(hk:t.kind=.array len E)
  (he:ti P E=some e) (ey:strip (ev tm y)=.d (.int k i)) (h0:0≤i) (h1:i<len) (hp:AA9 S (strip (ev tm x))):Bv P n o tm S (faV (i.toNat * e.size) (strip (ev tm x))) S:=.pure fun G w a st=>by
 have h2:=(BH st x).strip hx;have hi:=Bg st hy ey;generalize strip (ev tm x)=X at *;obtain⟨d,hd,hd'⟩:=Ai ht w;have hdE:d=.array len E:=by rw[hk]at hd';cases d<;>simp[tk]at hd'⊢;exact hd'
 subst hdE;have hrun:∀b k,a.eval x=.pointer (some ⟨b,k,none⟩)→(execOp a.eval o).run P w=.ok (.value (.pointer (some ⟨b,k+i.toNat * e.size,none⟩))) w:=fun b k hk=>by
  simp only[execOp,ho,hk,hi,Instr.indexAt,asIntOf,Sem.run_bind,Sem.run_pure,Result.andThen_ok,hd,Instr.sureAddr,Eb];rw[if_pos ⟨h0,h1⟩];simp[BQ he]
 unfold AA9 at hp;split at hp
 ·rename_i r m i' j;split at hp
  ·rename_i wr sz els hr;obtain⟨hm,hi⟩:=hp;have hpv:=h2.HI hr hm;obtain⟨b,k,hk⟩:=KC st.rel hr hi;rw[hk]at hpv;refine⟨_,hrun _ _ hpv,?_⟩;cases h2 with
   |ptr _ _ _ _ _ h2 h3 h4=>
    refine .ptr _ _ _ _ _ rfl h3 fun m' hm'=>⟨(h4 m' hm').1,fun e sz' hsz'=>?_⟩;have:sz'=sz:=by simpa[AAf,hr]using hsz'.symm
    subst this;rw[←Nat.add_assoc,hk];simp[Nat.add_assoc]
  ·exact hp.elim
 ·rename_i cs;generalize hX:a.eval x=X at h2;cases h2 with
  |Cc cs b k vs hI h=>
   refine⟨_,hrun _ _ hX,?_⟩;refine .Cc _ _ _ (fun j=>vs (i.toNat * e.size+j)) hI fun j hj=>?_;have hj':i.toNat * e.size+j<cs.length:=by simp at hj;omega
   have:=h (i.toNat * e.size+j) hj';simpa[Nat.add_assoc]using this
 ·exact hp.elim
theorem nil_eq{neg:Bool}{T E U:TypeId}{x:Operand}{xs:List D}{t:TI}(ho:o.op=.binOp (if neg then .neq else .eql) T x (.const (.slice none 0 0)) U)(ht:ti P T=some t)(hk:t.kind=.slice E)
  (hx:need (ev tm x)) (ex:strip (ev tm x)=.d (.sl xs)∨strip (ev tm x)=.full xs) {G:Gh} {w:World} {a:Act} (st:St P n G S w a tm):
  ∃b:Bool,(xs≠[]→b=false)∧(execOp a.eval o).run P w=.ok (.value (.bool (b !=neg))) w:=by
 have h1:=(BH st x).strip hx;have hcd:∃b len cap,a.eval x=.slice b len cap∧(xs≠[]→b.isNone=false):=by
  have key:∀v,CD G.I w (.sl xs) v→∃b len cap,v=.slice b len cap∧(xs≠[]→b.isNone=false):=fun v h=>by
   cases h with
   |nil b c=>exact⟨b,0,c,rfl,fun h=>absurd rfl h⟩
   |sl sz xs b off cap vs hI hl hc h1 h2=>exact⟨_,_,_,rfl,fun _=>rfl⟩
  generalize a.eval x=X at h1;rcases ex with ex|ex<;>rw[ex]at h1
  ·cases h1 with|d _ _ h=>exact key _ h
  ·cases h1 with|full _ b h=>exact key _ h
 obtain⟨b,len,cap,hv,hne⟩:=hcd;obtain⟨i,d,u1,u2,_,_,_,u3⟩:=GA ht;have hdE:d=.slice E:=by rw[hk]at u3;cases d<;>simp[tk]at u3⊢;exact u3
 subst hdE;have hr:=run_equal_slice_nil w T E b len cap u2;have hc:a.eval (.const (.slice none 0 0))=.slice none 0 0:=rfl;refine⟨b.isNone,hne,?_⟩;cases neg<;>simp[execOp,ho,hv,hc,eqGuard,binOp,hr]
end
def EJ(tm:Tm)(d:Nat)(v:V):Tm:=fun k=>if k=d then v else tm k
@[simp] theorem dH(tm:Tm)(d:Nat)(v:V):EJ tm d v d=v:=by simp[EJ]
@[simp] theorem fN(tm:Tm)(d k:Nat)(v:V)(h:k≠d):EJ tm d v k=tm k:=by simp[EJ,h]
def put(tm:Tm)(d:Option Tmp)(v:V):Tm:=
 match d with
 |some d=>EJ tm d v
 |none=>tm
def Dl(l:List V):Tm:=fun k=>l.getD k .any
@[simp] theorem bp(v:V)(l:List V):Dl (v::l) 0=v:=rfl
@[simp] theorem bY(v:V)(l:List V)(k:Nat):Dl (v::l) (k+1)=Dl l k:=rfl
@[simp] theorem dN(k:Nat):Dl [] k=.any:=rfl
def A6(n:Nat)(d:Option Tmp):Prop:=match d with|some d=>d<n|none=>True
theorem Zr.put{G:Gh}{S:Sg}{w:World}{n:Nat}{a:Act}{tm:Tm}{d:Option Tmp}{v:V}{cv:Value}(h:Zr G S w a.tmps tm)(hn:a.tmps.size=n)(hd:A6 n d)(hv:CV G S w v cv):
  Zr G S w (a.put d cv).tmps (put tm d v):=by
 cases d with
 |none=>exact h
 |some d=>
  intro k;simp only[Koi.put,Koi.EJ,Act.put];have hd':d<a.tmps.size:=Nat.lt_of_lt_of_le hd (Nat.le_of_eq hn.symm);by_cases e:k=d
  ·subst e;simp only[if_true];rw[Array.getD_eq_getD_getElem?,Array.getElem?_setIfInBounds_self_of_lt hd'];exact hv
  ·rw[if_neg e,Array.getD_eq_getD_getElem?,Array.getElem?_setIfInBounds_ne (Ne.symm e),←Array.getD_eq_getD_getElem?];exact h k
theorem UK{a:Act}{d:Option Tmp}{cv:Value}:(a.put d cv).tmps.size=a.tmps.size:=by cases d<;>simp[Act.put]
theorem Be{a:Act}{d:Option Tmp}{cv:Value}:(a.put d cv).defers=a.defers:=by cases d<;>rfl
theorem St.put{P:Program}{n:Nat}{G:Gh}{S:Sg}{w:World}{a:Act}{tm:Tm}(st:St P n G S w a tm){d:Option Tmp}(hd:A6 n d){v:V}{cv:Value}{G':Gh}{S':Sg}{w':World}
  (hv:CV G' S' w' v cv) (R:Rel P G' S' w') (L:A9 G S w G' S' w'):St P n G' S' w' (a.put d cv) (put tm d v):=
 ⟨by rw[UK];exact st.size,(st.tm.later L).put st.size hd hv,R⟩
def AAb(ops:Array Oper)(tm:Tm)(j:Nat)(want:Bool):Option Bool:=
 match (ops[j]?).bind (·.dst)with
 |some d=>match tm d with
  |.d (.bool b)=>some (b==want)
  |.opt g (.d (.bool b))=>some (g&&(b==want))
  |_=>none
 |none=>none
theorem L8{P:Program}{n:Nat}{G:Gh}{S:Sg}{w:World}{a:Act}{tm:Tm}(st:St P n G S w a tm){ops:Array Oper}{o:Oper}{j:Nat}{want g:Bool}(hg:o.guard=some (j,want))
  (h:AAb ops tm j want=some g):Region.wanted o (yielded ops a.tmps)=g:=by
 unfold AAb at h;unfold Region.wanted yielded;rw[hg];simp only[];cases hd:(ops[j]?).bind (·.dst)with
 |none=>rw[hd]at h;cases h
 |some d=>
  rw[hd]at h;simp only[Option.bind_some]at h⊢;have hcv:=st.tm d;have key:∀v:Value,a.tmps.getD d undef=v→v≠undef→a.tmps[d]?=some v:=fun v hv hne=>by
   rw[Array.getD_eq_getD_getElem?]at hv;cases hx:a.tmps[d]? with
   |none=>rw[hx]at hv;exact absurd hv.symm hne
   |some x=>rw[hx]at hv;simpa using hv
  split at h
  ·rename_i b hb;rw[hb]at hcv;have:=hcv.bool;rw[key _ this (by simp[undef])];simp only[Option.some.injEq]at h;subst h;cases b<;>cases want<;>rfl
  ·rename_i g' b hb;rw[hb]at hcv;simp only[Option.some.injEq]at h;subst h;generalize hx:a.tmps.getD d undef=X at hcv;cases hcv with
   |opt _ _ _ h1 h2=>
    cases g' with
    |true=>
     have:=(h1 rfl).bool;subst this;rw[key _ hx (by simp[undef])];cases b<;>cases want<;>rfl
    |false=>
     have:=h2 rfl;subst this;simp only[Bool.false_and];rw[Array.getD_eq_getD_getElem?]at hx;cases hy:a.tmps[d]? with
     |none=>rfl
     |some y=>rw[hy]at hx;simp at hx;subst hx;rfl
  ·cases h
def isV(op:Op):Bool:=
 match op with
 |.box ..|.alloc _|.store ..|.makeSlice ..|.makeMap ..|.mapUpdate ..|.insert ..=>false
 |.call c=>match c.callee with|.builtin .append=>false|.builtin _=>true|_=>false
 |_=>true
def AAx(P:Program)(T:TypeId):Option (Nat×TypeId):=match ti P T with|some t=>(match t.kind with|.array n e=>some (n,e)|_=>none)|none=>none
def ABb(P:Program)(T:TypeId):Option (TypeId×TypeId):=match ti P T with|some t=>(match t.kind with|.map k e=>some (k,e)|_=>none)|none=>none
def kkT(P:Program)(T:TypeId):Option KK:=
 match P.underlying T with
 |some (.int q)=>some (.one (.int q))
 |some .string=>some (.one .str)
 |_=>(ckT P T).map .cells
theorem LO{P:Program}{T:TypeId}{p:Nat×TypeId}(h:AAx P T=some p):∃t,ti P T=some t∧t.kind=.array p.1 p.2:=by
 unfold AAx at h;split at h
 ·rename_i t ht;split at h
  ·rename_i n e hk;cases h;exact⟨t,ht,hk⟩
  ·cases h
 ·cases h
theorem F7{P:Program}{T:TypeId}{p:TypeId×TypeId}(h:ABb P T=some p):∃t,ti P T=some t∧t.kind=.map p.1 p.2:=by
 unfold ABb at h;split at h
 ·rename_i t ht;split at h
  ·rename_i n e hk;cases h;exact⟨t,ht,hk⟩
  ·cases h
 ·cases h
theorem Kr{P:Program}{T:TypeId}{kk:KK}(h:kkT P T=some kk):GD P T kk:=by
 unfold kkT at h;split at h
 ·rename_i q hu;cases h;exact OI hu
 ·rename_i hu;cases h;exact N9 hu
 ·simp only[Option.map_eq_some_iff]at h;obtain⟨c,h1,rfl⟩:=h;exact LJ h1
def Dm(c:Call):Operand:=(c.args.toList.drop 1).headD (.const undef)
def KT(c:Call):Operand:=(c.args.toList.drop 2).headD (.const undef)
def V7(c:Call):TypeId:=(c.argTypes.toList.drop 1).headD 0
def AAs(S:Sg)(x:V):Option (List D):=match asD S x with|some (.agg ds)=>some ds|_=>none
def Mx(x y:V):Bool:=Ar x&&Ar y
def mapOf(S:Sg)(x:V):Option (List (D×V)):=match x with|.map r=>(match S[r]? with|some (.map es)=>some es|_=>none)|_=>none
def UC(x:V):Nat:=match x with|.map r=>r|_=>0
def AAH(kk:KK):List (D×V)→Prop
 |[]=>True
 |p::ps=>AAK kk p.1=true∧AAH kk ps
theorem Ez{kk:KK}:∀{es:List (D×V)},AAH kk es→∀p∈es,AAK kk p.1=true
 |q::qs,h,p,hp=>by
  cases hp with
  |head=>exact h.1
  |tail _ hp=>exact Ez h.2 p hp
theorem JY{kk:KK}:∀{es:List (D×V)},(∀p∈es,AAK kk p.1=true)→AAH kk es
 |[],_=>trivial
 |q::qs,h=>⟨h q (by simp),JY fun p hp=>h p (by simp[hp])⟩
def mmV(max:Bool)(x y:V):V:=
 match x,y with
 |.d (.int k i),.d (.int _ j)=>.d (.int k (if max then(if j>i then j else i)else(if j<i then j else i)))
 |_,_=>.any
def XC(x y:V):Prop:=
 match x,y with
 |.d (.int k _),.d (.int k' _)=>k=k'
 |_,_=>False
def AD0(P:Program)(T:TypeId)(x:V)(l h:Int)(_ mx:Option Operand):Prop:=
 match x with
 |.d (.str s)=>ABt P T=true∧mx=none∧0≤l∧l≤h∧h≤s.size
 |.d (.sl xs)|.full xs=>0≤l∧l≤h∧h≤xs.length∧(match AAF P T with
  |some E=>(match Aq P E with|some s=>l.toNat=0∨l.toNat=h.toNat∨((AAL (xs.getD l.toNat (.bool false))).length=s∧AAe.oneD (xs.getD l.toNat (.bool false))=true)|none=>False)
  |none=>False)
 |_=>False
def hiV(tm:Tm)(x:V)(hi:Option Operand):Int:=
 match hi with
 |some y=>FM (strip (ev tm y))
 |none=>match x with
  |.d (.str s)=>s.size
  |.d (.sl xs)=>xs.length
  |.full xs=>xs.length
  |_=>0
def AA7(P:Program)(op:Op)(tm:Tm)(S:Sg):V:=
 match op with
 |.binOp b T x y U=>if Mx (strip (ev tm x)) (strip (ev tm y))then
   (match AAs S (strip (ev tm x)),AAs S (strip (ev tm y))with
   |some as,some bs=>(match b with|.eql=>.d (.bool (AAk as bs))|.neq=>.d (.bool (!AAk as bs))|_=>.any)
   |_,_=>.any)
  else ABF P (.binOp b T x y U) tm S
 |.slice _ x lo hi mx=>AEB (strip (ev tm x)) (FM (AAt tm lo)).toNat (hiV tm (strip (ev tm x)) hi).toNat mx.isSome
 |.index _ x y=>match strip (ev tm x)with
  |.d (.str s)=>.d (.int .u8 (s.get! (FM (strip (ev tm y))).toNat).toNat)
  |_=>.any
 |.indexAddr T x y=>match AAx P T with
  |some p=>faV ((FM (strip (ev tm y))).toNat * (Aq P p.2).getD 0) (strip (ev tm x))
  |none=>ABF P (.indexAddr T x y) tm S
 |.lookup T x y ok=>match ABb P T,mapOf S (strip (ev tm x)),asD S (strip (ev tm y))with
  |some p,some es,some k=>N8 es k ((Au P p.2).getD .any) ok
  |_,_,_=>.any
 |.call c=>match c.callee with
  |.builtin .min=>if c.args.size=2 then mmV false (strip (ev tm (DL c))) (strip (ev tm (Dm c)))
    else mmV false (mmV false (strip (ev tm (DL c))) (strip (ev tm (Dm c)))) (strip (ev tm (KT c)))
  |.builtin .max=>if c.args.size=2 then mmV true (strip (ev tm (DL c))) (strip (ev tm (Dm c)))
    else mmV true (mmV true (strip (ev tm (DL c))) (strip (ev tm (Dm c)))) (strip (ev tm (KT c)))
  |.builtin .cap=>ADx (strip (ev tm (DL c)))
  |_=>ABF P (.call c) tm S
 |op=>ABF P op tm S
def AA8(P:Program)(op:Op)(tm:Tm)(S:Sg):Prop:=
 match op with
 |.binOp b T x y U=>if Mx (strip (ev tm x)) (strip (ev tm y))then
   need (ev tm x)∧need (ev tm y)∧(match AAs S (strip (ev tm x)),AAs S (strip (ev tm y)),ckT P T with
   |some as,some bs,some cks=>AAU cks as=true∧AAU cks bs=true∧(match b with|.eql|.neq=>True|_=>False)
   |_,_,_=>False)
  else ABE P (.binOp b T x y U) tm S
 |.slice T x lo hi mx=>need (ev tm x)∧EH tm lo∧EH tm hi∧EH tm mx∧FF (AAt tm lo)∧(match hi with|some _=>FF (AAt tm hi)|none=>True)∧(match mx with|some _=>hi.isSome=true∧AAt tm mx=AAt tm hi|none=>True)∧AD0 P T (strip (ev tm x)) (FM (AAt tm lo)) (hiV tm (strip (ev tm x)) hi) hi mx
 |.index T x y=>need (ev tm x)∧need (ev tm y)∧FF (strip (ev tm y))∧ABt P T=true∧(match strip (ev tm x)with
  |.d (.str s)=>0≤FM (strip (ev tm y))∧FM (strip (ev tm y))<s.size
  |_=>False)
 |.indexAddr T x y=>match AAx P T with
  |some p=>need (ev tm x)∧need (ev tm y)∧FF (strip (ev tm y))∧0≤FM (strip (ev tm y))∧FM (strip (ev tm y))<p.1∧(Aq P p.2).isSome=true∧AA9 S (strip (ev tm x))
  |none=>ABE P (.indexAddr T x y) tm S
 |.lookup T x y _=>need (ev tm x)∧need (ev tm y)∧(match ABb P T,mapOf S (strip (ev tm x)),asD S (strip (ev tm y))with
  |some p,some es,some k=>(Au P p.2).isSome=true∧(match kkT P p.1 with|some kk=>AAH kk es∧AAK kk k=true|none=>False)
  |_,_,_=>False)
 |.call c=>match c.callee with
  |.builtin .min=>if c.args.size=2 then c.args=#[DL c,Dm c]∧need (ev tm (DL c))∧need (ev tm (Dm c))∧XC (strip (ev tm (DL c))) (strip (ev tm (Dm c)))
    else c.args=#[DL c,Dm c,KT c]∧need (ev tm (DL c))∧need (ev tm (Dm c))∧need (ev tm (KT c))∧XC (strip (ev tm (DL c))) (strip (ev tm (Dm c)))∧XC (strip (ev tm (DL c))) (strip (ev tm (KT c)))
  |.builtin .max=>if c.args.size=2 then c.args=#[DL c,Dm c]∧need (ev tm (DL c))∧need (ev tm (Dm c))∧XC (strip (ev tm (DL c))) (strip (ev tm (Dm c)))
    else c.args=#[DL c,Dm c,KT c]∧need (ev tm (DL c))∧need (ev tm (Dm c))∧need (ev tm (KT c))∧XC (strip (ev tm (DL c))) (strip (ev tm (Dm c)))∧XC (strip (ev tm (DL c))) (strip (ev tm (KT c)))
  |.builtin .cap=>c.args=#[DL c]∧c.argTypes=#[Je c]∧need (ev tm (DL c))∧(AAF P (Je c)).isSome=true∧(match strip (ev tm (DL c))with|.full _=>True|_=>False)
  |_=>ABE P (.call c) tm S
 |op=>ABE P op tm S
def ADu(P:Program)(sT xT:TypeId)(S:Sg)(x y:V):Prop:=
 match AAF P sT with
 |some E=>(AAF P xT).isSome=true∧(match Aq P E,Au P E,Ao P E with
  |some s,some z,some b=>(AAD z).length=s∧(Ar z||AAV z)=true∧b≤65536∧(match ABN S y with|some ys=>PF S s x ys|none=>False)
  |_,_,_=>False)
 |none=>False
def HZ(P:Program)(sT:TypeId):Nat:=((AAF P sT).bind fun E=>Aq P E).getD 0
def AAQ(P:Program)(op:Op)(tm:Tm)(S:Sg):Prop:=
 match op with
 |.box _ x=>need (ev tm x)∧(Ar (strip (ev tm x))||AAV (strip (ev tm x)))=true
 |.alloc T=>match Au P T with|some z=>(Ar z||AAV z)=true|none=>False
 |.store T x y=>need (ev tm x)∧need (ev tm y)∧(match Aq P T with
   |some s=>ABU S (strip (ev tm x)) (fun wr _ i j sz els=>wr=true∧j+s≤sz∧(Ar (els.getD i .any)||!Ar (strip (ev tm y)))=true)∧(Ar (strip (ev tm y))||AAV (strip (ev tm y)))=true∧(AAD (strip (ev tm y))).length=s
   |none=>False)
 |.makeSlice T x y=>need (ev tm x)∧need (ev tm y)∧FF (strip (ev tm x))∧FF (strip (ev tm y))∧FM (strip (ev tm x))=FM (strip (ev tm y))∧0≤FM (strip (ev tm x))∧FM (strip (ev tm x))≤1073741824∧(match AAF P T with
   |some E=>(match Aq P E,Au P E,Ao P E with|some s,some z,some b=>(AAD z).length=s∧(Ar z||AAV z)=true∧b≤65536|_,_,_=>False)
   |none=>False)
 |.makeMap _ r=>r=none
 |.mapUpdate T x y z|.insert T x y z=>need (ev tm x)∧need (ev tm y)∧need (ev tm z)∧(match ABb P T,mapOf S (strip (ev tm x)),asD S (strip (ev tm y))with
  |some p,some es,some k=>(match kkT P p.1 with|some kk=>AAH kk es∧AAK kk k=true|none=>False)
  |_,_,_=>False)
 |.call c=>match c.callee with
  |.builtin .append=>c.args=#[DL c,Dm c]∧c.argTypes=#[Je c,V7 c]∧need (ev tm (DL c))∧need (ev tm (Dm c))∧ADu P (Je c) (V7 c) S (strip (ev tm (DL c))) (strip (ev tm (Dm c)))
  |_=>AA8 P (.call c) tm S
 |op=>AA8 P op tm S
def BP(P:Program)(op:Op)(tm:Tm)(S:Sg):V:=
 match op with
 |.box ..=>.ptr S.length 1 0 0
 |.alloc _=>.ptr S.length 1 0 0
 |.store ..=>.any
 |.makeSlice _ x _=>.row S.length (FM (strip (ev tm x))).toNat
 |.makeMap ..=>.map S.length
 |.mapUpdate ..=>.any
 |.insert ..=>.any
 |.call c=>match c.callee with
  |.builtin .append=>OS S (strip (ev tm (DL c))) ((ABN S (strip (ev tm (Dm c)))).getD [])
  |_=>AA7 P (.call c) tm S
 |op=>AA7 P op tm S
def CM(P:Program)(op:Op)(tm:Tm)(S:Sg):Sg:=
 match op with
 |.box _ x=>Tu S (strip (ev tm x))
 |.alloc T=>match Au P T with|some z=>Tu S z|none=>S
 |.store _ x y=>ADm S (strip (ev tm x)) (strip (ev tm y))
 |.makeSlice T x _=>S++[.row true (HZ P T) (List.replicate (FM (strip (ev tm x))).toNat ((((AAF P T).bind fun E=>Au P E)).getD .any))]
 |.makeMap ..=>S++[.map []]
 |.mapUpdate _ x y z=>S.set (UC (strip (ev tm x))) (.map (DU ((mapOf S (strip (ev tm x))).getD []) ((asD S (strip (ev tm y))).getD (.bool false)) (strip (ev tm z))))
 |.insert _ x y z=>S.set (UC (strip (ev tm x))) (.map (DU ((mapOf S (strip (ev tm x))).getD []) ((asD S (strip (ev tm y))).getD (.bool false)) (strip (ev tm z))))
 |.call c=>match c.callee with
  |.builtin .append=>ABM S (HZ P (Je c)) (strip (ev tm (DL c))) ((ABN S (strip (ev tm (Dm c)))).getD [])
  |_=>S
 |_=>S
section
variable {P:Program} {n b:Nat} {o:Oper} {tm:Tm} {S S':Sg} {v:V} {ops:Array Oper} {K:Tm→Sg→Prop}
theorem E8{x:V}(h:FF x):∃k,x=.d (.int k (FM x)):=by
 unfold FF at h;split at h
 ·exact⟨_,rfl⟩
 ·exact h.elim
theorem Gx{T:TypeId}{b:Nat}(h:Ao P T=some b):∃t,ti P T=some t∧t.bytes=b:=by
 simpa[Ao,Option.map_eq_some_iff]using h
theorem ak(h:AA8 P o.op tm S):Bv P n o tm S (AA7 P o.op tm S) S:=by
 generalize hop:o.op=op at h;have hv:ABE P op tm S→Bv P n o tm S (ABF P op tm S) S:=fun h=>by subst hop;exact aA h
 cases op<;>try exact hv h
 case binOp b T x y U=>
  simp only[AA8]at h;simp only[AA7];split at h
  ·rename_i hb;rw[if_pos hb];obtain⟨h1,h2,h3⟩:=h;split at h3
   ·rename_i as bs cks ha hb hc;rw[ha,hb];have ga:asD S (strip (ev tm x))=some (.agg as):=by unfold AAs at ha;split at ha<;>simp_all
    have gb:asD S (strip (ev tm y))=some (.agg bs):=by unfold AAs at hb;split at hb<;>simp_all
    obtain⟨h3,h4,h5⟩:=h3;cases b<;>simp only at h5⊢
    ·have:=Jz (neg:=false) (n:=n) (by simpa using hop) hc h1 h2 ga gb h3 h4;simpa using this
    ·have:=Jz (neg:=true) (n:=n) (by simpa using hop) hc h1 h2 ga gb h3 h4;simpa using this
   ·exact h3.elim
  ·rename_i hb;rw[if_neg hb];exact hv h
 case slice T x lo hi mx=>
  simp only[AA8]at h;simp only[AA7];obtain⟨h1,h2,h3,h4,h5,h6,h7,h8⟩:=h;obtain⟨kl,hl⟩:=E8 h5;generalize hL:FM (AAt tm lo)=L at *;generalize hH:hiV tm (strip (ev tm x)) hi=Hh at *;have eh':hi≠none→∃kh,AAt tm hi=.d (.int kh Hh):=fun hne=>by
   cases hi with
   |none=>exact absurd rfl hne
   |some y=>
    obtain⟨kh,hh⟩:=E8 h6;refine⟨kh,?_⟩;rw[hh,←hH];rfl
  obtain⟨kh,eh⟩:∃kh,hi≠none→AAt tm hi=.d (.int kh Hh):=by
   by_cases hne:hi=none
   ·exact⟨.i64,fun h=>absurd hne h⟩
   ·obtain⟨kh,h⟩:=eh' hne;exact⟨kh,fun _=>h⟩
  have em:mx≠none→hi≠none∧AAt tm mx=.d (.int kh Hh):=fun hne=>by
   cases mx with
   |none=>exact absurd rfl hne
   |some q=>
    obtain⟨g1,g2⟩:=h7;have:hi≠none:=by intro e;subst e;simp at g1
    exact⟨this,by rw[g2,eh this]⟩
  have fin:∀xs:List D,(strip (ev tm x)=.d (.sl xs)∨strip (ev tm x)=.full xs)→(hi=none→Hh=xs.length)→(0≤L∧L≤Hh∧Hh≤xs.length∧(match AAF P T with
    |some E=>(match Aq P E with|some s=>L.toNat=0∨L.toNat=Hh.toNat∨((AAL (xs.getD L.toNat (.bool false))).length=s∧AAe.oneD (xs.getD L.toNat (.bool false))=true)|none=>False)
    |none=>False))→Bv P n o tm S (if mx.isSome then .full ((xs.take Hh.toNat).drop L.toNat)else .d (.sl ((xs.take Hh.toNat).drop L.toNat))) S:=fun xs ex hlen h8=>by
   obtain⟨g0,g1,g2,g3⟩:=h8;split at g3
   ·rename_i E hE;split at g3
    ·rename_i s hs;obtain⟨t,e1,e2⟩:=BA hE;obtain⟨e,f1,f2,_⟩:=Bn hs;subst f2;exact Pg hop h1 ex e1 e2 f1 h2 hl h3 hlen eh h4 em g0 g1 g2 g3
    ·exact g3.elim
   ·exact g3.elim
  unfold AD0 at h8;split at h8
  ·rename_i s hx;rw[hx];obtain⟨g1,rfl,g2,g3,g4⟩:=h8;exact Nx hop h1 hx (Gn g1) h2 hl h3 (fun e=>by subst e;rw[←hH,hx];rfl) eh g2 g3 g4
  ·rename_i xs hx;rw[hx];exact fin xs (.inl hx) (fun e=>by subst e;rw[←hH,hx];rfl) h8
  ·rename_i xs hx;rw[hx];exact fin xs (.inr hx) (fun e=>by subst e;rw[←hH,hx];rfl) h8
  ·exact h8.elim
 case index T x y=>
  simp only[AA8]at h;simp only[AA7];obtain⟨h1,h2,h3,h4,h5⟩:=h;split at h5
  ·rename_i s hx;obtain⟨k,hk⟩:=E8 h3;obtain⟨t,e1,e2⟩:=Gn h4;exact Uq hop h1 h2 hx hk e1 e2 h5.1 h5.2
  ·exact h5.elim
 case indexAddr T x y=>
  simp only[AA8]at h;simp only[AA7];split at h
  ·rename_i p hp;obtain⟨h1,h2,h3,h4,h5,h6,h7⟩:=h;obtain⟨t,e1,e2⟩:=LO hp;obtain⟨s,hs⟩:=Option.isSome_iff_exists.1 h6;obtain⟨e,f1,f2,_⟩:=Bn hs;obtain⟨k,hk⟩:=E8 h3;rw[hs];subst f2;exact Jj hop h1 h2 e1 e2 f1 hk h4 h5 h7
  ·exact hv h
 case lookup T x y ok=>
  simp only[AA8]at h;simp only[AA7];obtain⟨h1,h2,h3⟩:=h;split at h3
  ·rename_i p es k hp he hk;obtain⟨h3,h4⟩:=h3;split at h4
   ·rename_i kk hkk;obtain⟨t,e1,e2⟩:=F7 hp;obtain⟨z,hz⟩:=Option.isSome_iff_exists.1 h3;obtain⟨t',u,f1,f2,f3⟩:=Dc hz;rw[hz];subst f3;unfold mapOf at he;split at he
    ·rename_i r hx;split at he
     ·rename_i es' hr;cases he;exact Sm hop e1 e2 f1 f2 (Kr hkk) h1 hx hr (Ez h4.1) h2 hk h4.2
     ·cases he
    ·cases he
   ·exact h4.elim
  ·exact h3.elim
 case call c=>
  simp only[AA8]at h;simp only[AA7];have mm:∀{x y:V},XC x y→∃k i j,x=.d (.int k i)∧y=.d (.int k j):=fun {x y} h=>by
   unfold XC at h;split at h
   ·subst h;exact⟨_,_,_,rfl,rfl⟩
   ·exact h.elim
  split at h
  ·rename_i hc;split at h
   ·rename_i hsz;rw[if_pos hsz];obtain⟨h1,h2,h3,h4⟩:=h;obtain⟨k,i,j,e1,e2⟩:=mm h4;rw[e1,e2];exact YY hop hc h1 h2 h3 e1 e2
   ·rename_i hsz;rw[if_neg hsz];obtain⟨h1,h2,h3,h4,h5,h6⟩:=h;obtain⟨k,i,j,e1,e2⟩:=mm h5;obtain⟨k',i',l,e3,e4⟩:=mm h6;rw[e1]at e3;cases e3;rw[e1,e2,e4];exact Xz hop hc h1 h2 h3 h4 e1 e2 e4
  ·rename_i hc;split at h
   ·rename_i hsz;rw[if_pos hsz];obtain⟨h1,h2,h3,h4⟩:=h;obtain⟨k,i,j,e1,e2⟩:=mm h4;rw[e1,e2];exact Ye hop hc h1 h2 h3 e1 e2
   ·rename_i hsz;rw[if_neg hsz];obtain⟨h1,h2,h3,h4,h5,h6⟩:=h;obtain⟨k,i,j,e1,e2⟩:=mm h5;obtain⟨k',i',l,e3,e4⟩:=mm h6;rw[e1]at e3;cases e3;rw[e1,e2,e4];exact Xw hop hc h1 h2 h3 h4 e1 e2 e4
  ·rename_i hc;obtain⟨h1,h2,h3,h4,h5⟩:=h;split at h5
   ·rename_i xs hx;rw[hx];obtain⟨E,hE⟩:=Option.isSome_iff_exists.1 h4;obtain⟨t,e1,e2⟩:=BA hE;exact O8 hop hc h1 h2 h3 hx e1 e2
   ·exact h5.elim
  ·exact hv h
theorem IW(h:AAQ P o.op tm S):Bv P n o tm S (BP P o.op tm S) (CM P o.op tm S):=by
 generalize hop:o.op=op at h;have hv:AA8 P op tm S→Bv P n o tm S (AA7 P op tm S) S:=fun h=>by subst hop;exact ak h
 cases op<;>try exact hv h
 case box T x=>exact bL hop h.1 h.2
 case alloc T=>
  simp only[AAQ]at h;simp only[BP,CM];split at h
  ·rename_i z hz;obtain⟨t,u,e1,e2,e3⟩:=Dc hz;subst e3;exact WU hop e1 e2 h
  ·exact h.elim
 case store T x y=>
  simp only[AAQ]at h;simp only[BP,CM];obtain⟨h1,h2,h3⟩:=h;split at h3
  ·rename_i s hs;obtain⟨t,e1,e2,_⟩:=Bn hs;subst e2;obtain⟨h3,h4,h5⟩:=h3;exact UF hop h1 h2 e1 h3 h4 h5
  ·exact h3.elim
 case makeSlice T x y=>
  simp only[AAQ]at h;simp only[BP,CM,HZ];obtain⟨h1,h2,h3,h4,h5,h6,h7,h8⟩:=h;split at h8
  ·rename_i E hE;split at h8
   ·rename_i s z b hs hz hb;obtain⟨g1,g2,g3⟩:=h8;obtain⟨t,e1,e2⟩:=BA hE;obtain⟨e,f1,f2,_⟩:=Bn hs;obtain⟨t',u,k1,k2,k3⟩:=Dc hz;rw[f1]at k1;cases k1;obtain⟨t',l1,l2⟩:=Gx hb;rw[f1]at l1;cases l1;obtain⟨kx,ex⟩:=E8 h3;obtain⟨ky,ey⟩:=E8 h4;subst k3;obtain⟨c1,_⟩:=(Fo {I:=fun _=>False,BZ:=fun _=>0,cap:=fun _=>(0,0),BB:=fun _=>none} ([]:Sg) (default:World) u).cells (by simpa using g2);rw[hE];simp only[Option.bind_some,hs,hz,Option.getD_some];subst f2;have hm:FM (strip (ev tm x))=((FM (strip (ev tm x))).toNat:Int):=by omega
    exact M6 hop h1 h2 (by rw[←hm];exact ex) (by rw[←hm,h5];exact ey) e1 e2 f1 k2 (by omega) g2 (by omega) (by omega)
   ·exact h8.elim
  ·exact h8.elim
 case makeMap T r=>
  simp only[AAQ]at h;subst h;exact PC hop
 case mapUpdate T x y z=>
  simp only[AAQ]at h;simp only[BP,CM];obtain⟨h1,h2,h3,h4⟩:=h;split at h4
  ·rename_i p es k hp he hk;split at h4
   ·rename_i kk hkk;obtain⟨t,e1,e2⟩:=F7 hp;rw[he,hk];unfold mapOf at he;split at he
    ·rename_i r hx;split at he
     ·rename_i es' hr;cases he;rw[hx];exact IG (.inl hop) e1 e2 (Kr hkk) h1 hx hr (Ez h4.1) h2 hk h4.2 h3
     ·cases he
    ·cases he
   ·exact h4.elim
  ·exact h4.elim
 case insert T x y z=>
  simp only[AAQ]at h;simp only[BP,CM];obtain⟨h1,h2,h3,h4⟩:=h;split at h4
  ·rename_i p es k hp he hk;split at h4
   ·rename_i kk hkk;obtain⟨t,e1,e2⟩:=F7 hp;rw[he,hk];unfold mapOf at he;split at he
    ·rename_i r hx;split at he
     ·rename_i es' hr;cases he;rw[hx];exact IG (.inr hop) e1 e2 (Kr hkk) h1 hx hr (Ez h4.1) h2 hk h4.2 h3
     ·cases he
    ·cases he
   ·exact h4.elim
  ·exact h4.elim
 case call c=>
  simp only[AAQ]at h;simp only[BP,CM];split at h
  ·rename_i hc;obtain⟨h1,h2,h3,h4,h5⟩:=h;unfold ADu at h5;split at h5
   ·rename_i E hE;obtain⟨h5,h6⟩:=h5;split at h6
    ·rename_i s z b hs hz hb;obtain⟨g1,g2,g3,g4⟩:=h6;split at g4
     ·rename_i ys hys;obtain⟨e,f1,f2,_⟩:=Bn hs;obtain⟨t',u,k1,k2,k3⟩:=Dc hz;rw[f1]at k1;cases k1;obtain⟨t',l1,l2⟩:=Gx hb;rw[f1]at l1;cases l1;subst k3;obtain⟨c1,_⟩:=(Fo {I:=fun _=>False,BZ:=fun _=>0,cap:=fun _=>(0,0),BB:=fun _=>none} ([]:Sg) (default:World) u).cells (by simpa using g2);rw[hys];simp only[HZ,hE,Option.bind_some,hs,Option.getD_some];subst f2;exact Q9 hop hc h1 h2 h3 h4 hE h5 f1 k2 (by omega) (by omega) hys g4
     ·exact g4.elim
    ·exact h6.elim
   ·exact h5.elim
  ·exact hv h
def AAu(P:Program)(n:Nat)(ops:Array Oper)(o:Oper)(tm:Tm)(S:Sg):Prop:=
 A6 n o.dst∧match o.guard with
 |none=>AAQ P o.op tm S
 |some (j,want)=>match AAb ops tm j want with
  |some g=>isV o.op=true∧(g=true→AAQ P o.op tm S)
  |none=>False
def Cq(P:Program)(ops:Array Oper)(o:Oper)(tm:Tm)(S:Sg):V:=
 match o.guard with
 |none=>BP P o.op tm S
 |some (j,want)=>match AAb ops tm j want with
  |some g=>FI g (BP P o.op tm S)
  |none=>.any
def oS(P:Program)(o:Oper)(tm:Tm)(S:Sg):Sg:=
 match o.guard with
 |none=>CM P o.op tm S
 |some _=>S
def Step(P:Program)(n b:Nat)(ops:Array Oper)(i:Nat)(tm:Tm)(S:Sg)(tm':Tm)(S':Sg):Prop:=
 ∀G w a (K':Act→World→Prop) Q,St P n G S w a tm→b≤S.length→(∀a' w' G',E1 P n b G S w a.defers a' w' G' S' tm'→K' a' w')→wpOp P ops Q i K' a w
theorem Step.Hd{i:Nat}(hi:ops[i]?=some o)(hd:A6 n o.dst)(hg:o.guard=none)(h:Bv P n o tm S v S'):Step P n b ops i tm S (put tm o.dst v) S':=fun G w a K' Q st hb k=>by
 unfold wpOp;simp only[hi,Region.wanted,hg,if_true];exact .inl (h G w a K' Q st fun cv w' G' h1 h2 h3 h4=>k _ _ G' ⟨st.put hd h1 h2 h4,Be,h3,h4.late hb⟩)
theorem Step.ET{i j:Nat}{want g:Bool}(hi:ops[i]?=some o)(hd:A6 n o.dst)(hg:o.guard=some (j,want))(hv:AAb ops tm j want=some g)
  (h:g=true→Bv P n o tm S v S):Step P n b ops i tm S (put tm o.dst (FI g v)) S:=fun G w a K' Q st hb k=>by
 unfold wpOp;simp only[hi,L8 st hg hv];cases g with
 |true=>
  simp only[if_true];exact .inl (h rfl G w a K' Q st fun cv w' G' h1 h2 h3 h4=>k _ _ G' ⟨st.put hd (CV.FI (fun _=>h1) (fun e=>by cases e)) h2 h4,Be,h3,h4.late hb⟩)
 |false=>
  simp only[Bool.false_eq_true,if_false];exact k _ _ G ⟨st.put hd (CV.FI (fun e=>by cases e) (fun _=>rfl)) st.rel (A9.refl _ _ _),Be,Tr.refl _ _ _,Dt.refl hb⟩
theorem cb{op:Op}(h:isV op=true):CM P op tm S=S:=by
 unfold CM;cases op<;>simp[isV]at h<;>try rfl
 rename_i c;simp only[];split
 ·rename_i hc;simp[hc]at h
 ·rfl
theorem Step.B5{i:Nat}(hi:ops[i]?=some o)(h:AAu P n ops o tm S):Step P n b ops i tm S (put tm o.dst (Cq P ops o tm S)) (oS P o tm S):=by
 obtain⟨hd,h⟩:=h;cases hg:o.guard with
 |none=>
  simp only[hg]at h;simp only[Cq,oS,hg];exact Step.Hd hi hd hg (IW h)
 |some jw=>
  obtain⟨j,want⟩:=jw;simp only[hg]at h;simp only[Cq,oS,hg];split at h
  ·rename_i g hv;exact Step.ET hi hd hg hv fun e=>by have:=IW (n:=n) (h.2 e);rwa [cb h.1]at this
  ·exact h.elim
def ACC(P:Program)(f:FuncId):Bool:=
 match P.funcs[f]? with
 |some fn=>!(fn.name== "runtime.NumGoroutine")&&fn.body.isSome
 |none=>false
def AE(P:Program)(f:FuncId)(args:List V)(S:Sg)(v:V)(S':Sg):Prop:=
 ACC P f=true∧∀G w (cargs:Array Value),Rel P G S w→cargs.size=args.length→(∀i (h:i<args.length) (h':i<cargs.size),CV G S w args[i] cargs[i])→Calls P f cargs w fun e w'=>∃cv G',e=.returned cv∧CV G' S' w' v cv∧Rel P G' S' w'∧Tr G S w G' S' w'∧A9 G S w G' S' w'
def callee(tm:Tm)(c:Call):Option (FuncId×List V):=
 match c.callee with
 |.value f=>match strip (ev tm f)with
  |.fn (.func k) first caps=>some (k,first++c.args.toList.map (fun x=>strip (ev tm x))++caps)
  |_=>none
 |_=>none
def ACD(tm:Tm):List Operand→Prop
 |[]=>True
 |x::xs=>need (ev tm x)∧ACD tm xs
theorem Fx{tm:Tm}:∀{xs:List Operand},ACD tm xs→∀x∈xs,need (ev tm x)
 |x::xs,h,y,hy=>by
  cases hy with
  |head=>exact h.1
  |tail _ hy=>exact Fx h.2 y hy
def A5(tm:Tm)(c:Call):Prop:=
 (match c.callee with|.value f=>need (ev tm f)|_=>False)∧ACD tm c.args.toList
theorem E2{c:Call}{f:FuncId}{args:List V}(ho:o.op=.call c)(hc:callee tm c=some (f,args))(hn:A5 tm c)(h:AE P f args S v S'):
  Bv P n o tm S v S':=by
 intro G w a next Q st kont
 obtain⟨hf,h⟩:=h;unfold callee at hc;obtain⟨hn1,hn2⟩:=hn;cases hcal:c.callee with
 |value x=>
  simp only[hcal]at hc hn1;have hx:=(BH st x).strip hn1;split at hc
  ·rename_i k' first caps hfn
   simp only[Option.some.injEq,Prod.mk.injEq]at hc;obtain⟨e1,e2⟩:=hc;subst e1;subst e2;rw[hfn]at hx;generalize hX:a.eval x=X at hx;cases hx with
   |fn _ _ _ xs ys h1 h2 h3 h4=>
    unfold ACC at hf;have hargs:=h G w (xs++c.args.map a.eval++ys) st.rel (by simp[h1,h2]) (fun i hi hi'=>by
     by_cases e1:i<first.length
     ·rw[List.getElem_append_left (by simp;omega),List.getElem_append_left e1];rw[Array.getElem_append_left (by simp;omega),Array.getElem_append_left (by omega)];exact h3 i e1
     ·by_cases e2:i<first.length+c.args.size
      ·rw[List.getElem_append_left (by simp;omega),List.getElem_append_right (by omega)];rw[Array.getElem_append_left (by simp;omega),Array.getElem_append_right (by omega)];simp only[List.getElem_map,Array.getElem_map,Array.getElem_toList,h1];exact(BH st _).strip (Fx hn2 _ (by simp))
      ·simp only[List.length_append,List.length_map,Array.length_toList]at hi;rw[List.getElem_append_right (by simp;omega)];rw[Array.getElem_append_right (by simp;omega)];simp only[List.length_append,List.length_map,Array.length_toList,Array.size_append,Array.size_map,h1];exact h4 _ (by omega))
    unfold Oper.wp;have hrun:(execOp a.eval o).run P w=.ok (.enter k' (xs++c.args.map a.eval++ys)) w:=by
     split at hf
     ·rename_i fn hfn';simp only[Bool.and_eq_true,Bool.not_eq_true',beq_eq_false_iff_ne,ne_eq]at hf;obtain⟨b,hb⟩:=Option.isSome_iff_exists.1 hf.2;simp[execOp,ho,resolve,hcal,hX,Deferred.ofValue,invoke,callFunc,hfn',hf.1,hb]
     ·cases hf
    rw[hrun];simp only[Oper.upon];exact hargs.mono fun e w' ⟨cv,G',he,g1,g2,g3,g4⟩=>by subst he;exact kont cv w' G' g1 g2 g3 g4
  ·cases hc
 |invoke=>simp[hcal]at hc
 |builtin=>simp[hcal]at hc
def AS(P:Program)(n b:Nat)(ops:Array Oper)(l:List Oper)(tm:Tm)(S:Sg)(K:Tm→Sg→Prop):Prop:=
 ∀k,(∀j,l[j]?=ops[k+j]?)→∀G w a Q,St P n G S w a tm→b≤S.length→(∀a' w',(∃G' S' tm',E1 P n b G S w a.defers a' w' G' S' tm'∧K tm' S')→Q .normal a' w')→wpOps P ops Q (List.range' k l.length) a w
theorem Aj(h:K tm S):AS P n b ops [] tm S K:=fun k _ G w a Q st hb hq=>by
 simp only[List.length_nil,List.range'_zero,wpOps];exact hq a w ⟨G,S,tm,.refl st hb,h⟩
theorem AS.step{rest:List Oper}{tm':Tm}(hs:∀i,ops[i]?=some o→Step P n b ops i tm S tm' S')(h:AS P n b ops rest tm' S' K):AS P n b ops (o::rest) tm S K:=fun k hk G w a Q st hb hq=>by
 have h0:ops[k]?=some o:=by simpa using(hk 0).symm
 simp only[List.length_cons,List.range'_succ];rw[wpOps_cons];refine hs k h0 G w a _ Q st hb fun a' w' G' hc=>?_;refine h (k+1) (fun j=>by have:=hk (j+1);simp only[List.getElem?_cons_succ]at this;rw[this];congr 1;omega) G' w' a' Q hc.st hc.late.len fun a2 w2 hh=>?_;obtain⟨G2,S2,tm2,hc2,hK⟩:=hh;exact hq a2 w2 ⟨G2,S2,tm2,⟨hc2.st,hc2.ds.trans hc.ds,hc.tr.trans hc2.tr,hc.late.trans hc2.late⟩,hK⟩
theorem B7{rest:List Oper}(h1:AAu P n ops o tm S)(h2:AS P n b ops rest (put tm o.dst (Cq P ops o tm S)) (oS P o tm S) K):AS P n b ops (o::rest) tm S K:=
 AS.step (fun _ hi=>Step.B5 hi h1) h2
theorem AS.call{rest:List Oper}{c:Call}{f:FuncId}{args:List V}(ho:o.op=.call c)(hg:o.guard=none)(hd:A6 n o.dst)(hc:callee tm c=some (f,args))(hn:A5 tm c)
  (h:AE P f args S v S') (h2:AS P n b ops rest (put tm o.dst v) S' K):AS P n b ops (o::rest) tm S K:=
 AS.step (fun _ hi=>Step.Hd hi hd hg (E2 ho hc hn h)) h2
theorem AS.IU{rest:List Oper}{c:Call}{f:FuncId}{args:List V}{j:Nat}{want g:Bool}(ho:o.op=.call c)(hg:o.guard=some (j,want))(hd:A6 n o.dst)
  (hv:AAb ops tm j want=some g) (h:g=true→callee tm c=some (f,args)∧A5 tm c∧AE P f args S v S) (h2:AS P n b ops rest (put tm o.dst (FI g v)) S K):AS P n b ops (o::rest) tm S K:=
 AS.step (fun _ hi=>Step.ET hi hd hg hv fun e=>by obtain⟨h1,h3,h4⟩:=h e;exact E2 ho h1 h3 h4) h2
theorem AW.region{id:Nat}{Q:Exit→Tm→Sg→Prop}(h:AS P n b ops ops.toList tm S (Q .normal)):AW P n b (.region id ops false) Q tm S:=fun G w a st hb=>by
 refine wp_region ?_;have:=h 0 (fun j=>by simp) G w a (K7 P n b Q G S w a.defers) st hb (fun a' w' hh=>hh);rw[List.range_eq_range'];simpa using this
def ABc(P:Program)(tm:Tm)(S:Sg):List ResultVar→Prop
 |[]=>True
 |.tmp _::rs=>ABc P tm S rs
 |.cell a T::rs=>need (tm a)∧(Aq P T).isSome=true∧Gj (BF P T) ((Aq P T).getD 0) S (strip (tm a))∧ABc P tm S rs
def FK(P:Program)(tm:Tm)(S:Sg):List ResultVar→List V
 |[]=>[]
 |.tmp t::rs=>tm t::FK P tm S rs
 |.cell a T::rs=>ABf (BF P T) ((Aq P T).getD 0) S (strip (tm a))::FK P tm S rs
def ACh:List V→V
 |[v]=>v
 |vs=>.Bd vs
def pack:List Value→Value
 |[v]=>v
 |vs=>.tuple vs.toArray
def IL(P:Program)(tm:Tm)(S:Sg)(rs:List ResultVar):V:=ACh (FK P tm S rs)
end
end Go.Koi
