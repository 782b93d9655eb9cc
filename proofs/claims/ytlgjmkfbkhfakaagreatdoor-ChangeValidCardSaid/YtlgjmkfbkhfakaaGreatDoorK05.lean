/- Part 6 of the proof that the law ChangeValid returns true for every input. -/
import Derived.Test.YtlgjmkfbkhfakaaGreatDoorK04
set_option maxHeartbeats 64000000
set_option maxRecDepth 100000
namespace Go.Koi
def EJ(tm:Tm)(d:Nat)(v:V):Tm:=fun k=>if k=d then v else tm k
@[simp] theorem dH(tm:Tm)(d:Nat)(v:V):EJ tm d v d=v:=by simp[EJ]
@[simp] theorem fN(tm:Tm)(d k:Nat)(v:V)(h:k≠d):EJ tm d v k=tm k:=by simp[EJ,h]
def put(tm:Tm)(d:Option Tmp)(v:V):Tm:=
 match d with
 |some d=>EJ tm d v
 |none=>tm
def Dl(l:List V):Tm:=fun k=>l.getD k .any
@[simp] theorem bp(v:V)(l:List V):Dl (v::l) 0=v:=rfl
@[simp] theorem bY(v:V)(l:List V)(k:Nat):Dl (v::l) (k+1)=Dl l k:=rfl
@[simp] theorem dN(k:Nat):Dl [] k=.any:=rfl
def A6(n:Nat)(d:Option Tmp):Prop:=match d with|some d=>d<n|none=>True
theorem Zr.put{G:Gh}{S:Sg}{w:World}{n:Nat}{a:Act}{tm:Tm}{d:Option Tmp}{v:V}{cv:Value}(h:Zr G S w a.tmps tm)(hn:a.tmps.size=n)(hd:A6 n d)(hv:CV G S w v cv):
  Zr G S w (a.put d cv).tmps (put tm d v):=by
 cases d with
 |none=>exact h
 |some d=>
  intro k;simp only[Koi.put,Koi.EJ,Act.put];have gv:d<a.tmps.size:=Nat.lt_of_lt_of_le hd (Nat.le_of_eq hn.symm);by_cases e:k=d
  ·subst e;simp only[if_true];rw[Array.getD_eq_getD_getElem?,Array.getElem?_setIfInBounds_self_of_lt gv];exact hv
  ·rw[if_neg e,Array.getD_eq_getD_getElem?,Array.getElem?_setIfInBounds_ne (Ne.symm e),←Array.getD_eq_getD_getElem?];exact h k
theorem UK{a:Act}{d:Option Tmp}{cv:Value}:(a.put d cv).tmps.size=a.tmps.size:=by cases d<;>simp[Act.put]
theorem Be{a:Act}{d:Option Tmp}{cv:Value}:(a.put d cv).defers=a.defers:=by cases d<;>rfl
theorem St.put{P:Program}{n:Nat}{G:Gh}{S:Sg}{w:World}{a:Act}{tm:Tm}(st:St P n G S w a tm){d:Option Tmp}(hd:A6 n d){v:V}{cv:Value}{G':Gh}{S':Sg}{w':World}
  (hv:CV G' S' w' v cv) (R:Rel P G' S' w') (L:A9 G S w G' S' w'):St P n G' S' w' (a.put d cv) (put tm d v):=
 ⟨by rw[UK];exact st.size,(st.tm.later L).put st.size hd hv,R⟩
def AAd(ops:Array Oper)(tm:Tm)(j:Nat)(want:Bool):Option Bool:=
 match (ops[j]?).bind (·.dst)with
 |some d=>match tm d with
  |.d (.bool b)=>some (b==want)
  |.opt g (.d (.bool b))=>some (g&&(b==want))
  |_=>none
 |none=>none
theorem L8{P:Program}{n:Nat}{G:Gh}{S:Sg}{w:World}{a:Act}{tm:Tm}(st:St P n G S w a tm){ops:Array Oper}{o:Oper}{j:Nat}{want g:Bool}(hg:o.guard=some (j,want))
  (h:AAd ops tm j want=some g):Region.wanted o (yielded ops a.tmps)=g:=by
 unfold AAd at h;unfold Region.wanted yielded;rw[hg];simp only[];cases hd:(ops[j]?).bind (·.dst)with
 |none=>rw[hd]at h;cases h
 |some d=>
  rw[hd]at h;simp only[Option.bind_some]at h⊢;have iO:=st.tm d;have key:∀v:Value,a.tmps.getD d undef=v→v≠undef→a.tmps[d]?=some v:=fun v hv dI=>by
   rw[Array.getD_eq_getD_getElem?]at hv;cases hx:a.tmps[d]? with
   |none=>rw[hx]at hv;exact absurd hv.symm dI
   |some x=>rw[hx]at hv;simpa using hv
  split at h
  ·rename_i b hb;rw[hb]at iO;have:=iO.bool;rw[key _ this (by simp[undef])];simp only[Option.some.injEq]at h;subst h;cases b<;>cases want<;>rfl
  ·rename_i g' b hb;rw[hb]at iO;simp only[Option.some.injEq]at h;subst h;generalize hx:a.tmps.getD d undef=X at iO;cases iO with
   |opt _ _ _ h1 h2=>
    cases g' with
    |true=>
     have:=(h1 rfl).bool;subst this;rw[key _ hx (by simp[undef])];cases b<;>cases want<;>rfl
    |false=>
     have:=h2 rfl;subst this;simp only[Bool.false_and];rw[Array.getD_eq_getD_getElem?]at hx;cases hy:a.tmps[d]? with
     |none=>rfl
     |some y=>rw[hy]at hx;simp at hx;subst hx;rfl
  ·cases h
def isV(op:Op):Bool:=
 match op with
 |.box ..|.alloc _|.store ..|.makeSlice ..|.makeMap ..|.mapUpdate ..|.insert ..=>false
 |.call c=>match c.callee with|.builtin .append=>false|.builtin _=>true|_=>false
 |_=>true
def AAz(P:Program)(T:TypeId):Option (Nat×TypeId):=match ti P T with|some t=>(match t.kind with|.array n e=>some (n,e)|_=>none)|none=>none
def ABb(P:Program)(T:TypeId):Option (TypeId×TypeId):=match ti P T with|some t=>(match t.kind with|.map k e=>some (k,e)|_=>none)|none=>none
def kkT(P:Program)(T:TypeId):Option KK:=
 match P.underlying T with
 |some (.int q)=>some (.one (.int q))
 |some .string=>some (.one .str)
 |_=>(ckT P T).map .cells
theorem LO{P:Program}{T:TypeId}{p:Nat×TypeId}(h:AAz P T=some p):∃t,ti P T=some t∧t.kind=.array p.1 p.2:=by
 unfold AAz at h;split at h
 ·rename_i t ht;split at h
  ·rename_i n e hk;cases h;exact⟨t,ht,hk⟩
  ·cases h
 ·cases h
theorem F7{P:Program}{T:TypeId}{p:TypeId×TypeId}(h:ABb P T=some p):∃t,ti P T=some t∧t.kind=.map p.1 p.2:=by
 unfold ABb at h;split at h
 ·rename_i t ht;split at h
  ·rename_i n e hk;cases h;exact⟨t,ht,hk⟩
  ·cases h
 ·cases h
theorem Kr{P:Program}{T:TypeId}{kk:KK}(h:kkT P T=some kk):GD P T kk:=by
 unfold kkT at h;split at h
 ·rename_i q hu;cases h;exact OI hu
 ·rename_i hu;cases h;exact N9 hu
 ·simp only[Option.map_eq_some_iff]at h;obtain⟨c,h1,rfl⟩:=h;exact LJ h1
def Dm(c:Call):Operand:=(c.args.toList.drop 1).headD (.const undef)
def KT(c:Call):Operand:=(c.args.toList.drop 2).headD (.const undef)
def V7(c:Call):TypeId:=(c.argTypes.toList.drop 1).headD 0
def AAr(S:Sg)(x:V):Option (List D):=match asD S x with|some (.agg ds)=>some ds|_=>none
def Mx(x y:V):Bool:=Ar x&&Ar y
def mapOf(S:Sg)(x:V):Option (List (D×V)):=match x with|.map r=>(match S[r]? with|some (.map es)=>some es|_=>none)|_=>none
def UC(x:V):Nat:=match x with|.map r=>r|_=>0
def AAR(kk:KK):List (D×V)→Prop
 |[]=>True
 |p::ps=>AAV kk p.1=true∧AAR kk ps
theorem Ez{kk:KK}:∀{es:List (D×V)},AAR kk es→∀p∈es,AAV kk p.1=true
 |q::qs,h,p,hp=>by
  cases hp with
  |head=>exact h.1
  |tail _ hp=>exact Ez h.2 p hp
theorem JY{kk:KK}:∀{es:List (D×V)},(∀p∈es,AAV kk p.1=true)→AAR kk es
 |[],_=>trivial
 |q::qs,h=>⟨h q (by simp),JY fun p hp=>h p (by simp[hp])⟩
def mmV(max:Bool)(x y:V):V:=
 match x,y with
 |.d (.int k i),.d (.int _ j)=>.d (.int k (if max then(if j>i then j else i)else(if j<i then j else i)))
 |_,_=>.any
def XC(x y:V):Prop:=
 match x,y with
 |.d (.int k _),.d (.int k' _)=>k=k'
 |_,_=>False
def AEu(P:Program)(T:TypeId)(x:V)(l h:Int)(_ mx:Option Operand):Prop:=
 match x with
 |.d (.str s)=>AB6 P T=true∧mx=none∧0≤l∧l≤h∧h≤s.size
 |.d (.sl xs)|.full xs=>0≤l∧l≤h∧h≤xs.length∧(match AAH P T with
  |some E=>(match Aq P E with|some s=>l.toNat=0∨l.toNat=h.toNat∨((AAL (xs.getD l.toNat (.bool false))).length=s∧AAe.oneD (xs.getD l.toNat (.bool false))=true)|none=>False)
  |none=>False)
 |_=>False
def hiV(tm:Tm)(x:V)(hi:Option Operand):Int:=
 match hi with
 |some y=>FM (strip (ev tm y))
 |none=>match x with
  |.d (.str s)=>s.size
  |.d (.sl xs)=>xs.length
  |.full xs=>xs.length
  |_=>0
def ABA(P:Program)(op:Op)(tm:Tm)(S:Sg):V:=
 match op with
 |.binOp b T x y U=>if Mx (strip (ev tm x)) (strip (ev tm y))then
   (match AAr S (strip (ev tm x)),AAr S (strip (ev tm y))with
   |some as,some bs=>(match b with|.eql=>.d (.bool (AAT as bs))|.neq=>.d (.bool (!AAT as bs))|_=>.any)
   |_,_=>.any)
  else ABL P (.binOp b T x y U) tm S
 |.slice _ x lo hi mx=>AFE (strip (ev tm x)) (FM (AAs tm lo)).toNat (hiV tm (strip (ev tm x)) hi).toNat mx.isSome
 |.index _ x y=>match strip (ev tm x)with
  |.d (.str s)=>.d (.int .u8 (s.get! (FM (strip (ev tm y))).toNat).toNat)
  |_=>.any
 |.indexAddr T x y=>match AAz P T with
  |some p=>faV ((FM (strip (ev tm y))).toNat * (Aq P p.2).getD 0) (strip (ev tm x))
  |none=>ABL P (.indexAddr T x y) tm S
 |.lookup T x y ok=>match ABb P T,mapOf S (strip (ev tm x)),asD S (strip (ev tm y))with
  |some p,some es,some k=>N8 es k ((Au P p.2).getD .any) ok
  |_,_,_=>.any
 |.call c=>match c.callee with
  |.builtin .min=>if c.args.size=2 then mmV false (strip (ev tm (DL c))) (strip (ev tm (Dm c)))
    else mmV false (mmV false (strip (ev tm (DL c))) (strip (ev tm (Dm c)))) (strip (ev tm (KT c)))
  |.builtin .max=>if c.args.size=2 then mmV true (strip (ev tm (DL c))) (strip (ev tm (Dm c)))
    else mmV true (mmV true (strip (ev tm (DL c))) (strip (ev tm (Dm c)))) (strip (ev tm (KT c)))
  |.builtin .cap=>AEp (strip (ev tm (DL c)))
  |_=>ABL P (.call c) tm S
 |op=>ABL P op tm S
def AA9(P:Program)(op:Op)(tm:Tm)(S:Sg):Prop:=
 match op with
 |.binOp b T x y U=>if Mx (strip (ev tm x)) (strip (ev tm y))then
   need (ev tm x)∧need (ev tm y)∧(match AAr S (strip (ev tm x)),AAr S (strip (ev tm y)),ckT P T with
   |some as,some bs,some cks=>AAU cks as=true∧AAU cks bs=true∧(match b with|.eql|.neq=>True|_=>False)
   |_,_,_=>False)
  else ABK P (.binOp b T x y U) tm S
 |.slice T x lo hi mx=>need (ev tm x)∧EH tm lo∧EH tm hi∧EH tm mx∧FF (AAs tm lo)∧(match hi with|some _=>FF (AAs tm hi)|none=>True)∧(match mx with|some _=>hi.isSome=true∧AAs tm mx=AAs tm hi|none=>True)∧AEu P T (strip (ev tm x)) (FM (AAs tm lo)) (hiV tm (strip (ev tm x)) hi) hi mx
 |.index T x y=>need (ev tm x)∧need (ev tm y)∧FF (strip (ev tm y))∧AB6 P T=true∧(match strip (ev tm x)with
  |.d (.str s)=>0≤FM (strip (ev tm y))∧FM (strip (ev tm y))<s.size
  |_=>False)
 |.indexAddr T x y=>match AAz P T with
  |some p=>need (ev tm x)∧need (ev tm y)∧FF (strip (ev tm y))∧0≤FM (strip (ev tm y))∧FM (strip (ev tm y))<p.1∧(Aq P p.2).isSome=true∧ABD S (strip (ev tm x))
  |none=>ABK P (.indexAddr T x y) tm S
 |.lookup T x y _=>need (ev tm x)∧need (ev tm y)∧(match ABb P T,mapOf S (strip (ev tm x)),asD S (strip (ev tm y))with
  |some p,some es,some k=>(Au P p.2).isSome=true∧(match kkT P p.1 with|some kk=>AAR kk es∧AAV kk k=true|none=>False)
  |_,_,_=>False)
 |.call c=>match c.callee with
  |.builtin .min=>if c.args.size=2 then c.args=#[DL c,Dm c]∧need (ev tm (DL c))∧need (ev tm (Dm c))∧XC (strip (ev tm (DL c))) (strip (ev tm (Dm c)))
    else c.args=#[DL c,Dm c,KT c]∧need (ev tm (DL c))∧need (ev tm (Dm c))∧need (ev tm (KT c))∧XC (strip (ev tm (DL c))) (strip (ev tm (Dm c)))∧XC (strip (ev tm (DL c))) (strip (ev tm (KT c)))
  |.builtin .max=>if c.args.size=2 then c.args=#[DL c,Dm c]∧need (ev tm (DL c))∧need (ev tm (Dm c))∧XC (strip (ev tm (DL c))) (strip (ev tm (Dm c)))
    else c.args=#[DL c,Dm c,KT c]∧need (ev tm (DL c))∧need (ev tm (Dm c))∧need (ev tm (KT c))∧XC (strip (ev tm (DL c))) (strip (ev tm (Dm c)))∧XC (strip (ev tm (DL c))) (strip (ev tm (KT c)))
  |.builtin .cap=>c.args=#[DL c]∧c.argTypes=#[Je c]∧need (ev tm (DL c))∧(AAH P (Je c)).isSome=true∧(match strip (ev tm (DL c))with|.full _=>True|_=>False)
  |_=>ABK P (.call c) tm S
 |op=>ABK P op tm S
def AEe(P:Program)(sT xT:TypeId)(S:Sg)(x y:V):Prop:=
 match AAH P sT with
 |some E=>(AAH P xT).isSome=true∧(match Aq P E,Au P E,Ao P E with
  |some s,some z,some b=>(AAF z).length=s∧(Ar z||AAW z)=true∧b≤65536∧(match ABS S y with|some ys=>PF S s x ys|none=>False)
  |_,_,_=>False)
 |none=>False
def HZ(P:Program)(sT:TypeId):Nat:=((AAH P sT).bind fun E=>Aq P E).getD 0
def AAS(P:Program)(op:Op)(tm:Tm)(S:Sg):Prop:=
 match op with
 |.box _ x=>need (ev tm x)∧(Ar (strip (ev tm x))||AAW (strip (ev tm x)))=true
 |.alloc T=>match Au P T with|some z=>(Ar z||AAW z)=true|none=>False
 |.store T x y=>need (ev tm x)∧need (ev tm y)∧(match Aq P T with
   |some s=>ABZ S (strip (ev tm x)) (fun wr _ i j sz els=>wr=true∧j+s≤sz∧(Ar (els.getD i .any)||!Ar (strip (ev tm y)))=true)∧(Ar (strip (ev tm y))||AAW (strip (ev tm y)))=true∧(AAF (strip (ev tm y))).length=s
   |none=>False)
 |.makeSlice T x y=>need (ev tm x)∧need (ev tm y)∧FF (strip (ev tm x))∧FF (strip (ev tm y))∧FM (strip (ev tm x))=FM (strip (ev tm y))∧0≤FM (strip (ev tm x))∧FM (strip (ev tm x))≤1073741824∧(match AAH P T with
   |some E=>(match Aq P E,Au P E,Ao P E with|some s,some z,some b=>(AAF z).length=s∧(Ar z||AAW z)=true∧b≤65536|_,_,_=>False)
   |none=>False)
 |.makeMap _ r=>r=none
 |.mapUpdate T x y z|.insert T x y z=>need (ev tm x)∧need (ev tm y)∧need (ev tm z)∧(match ABb P T,mapOf S (strip (ev tm x)),asD S (strip (ev tm y))with
  |some p,some es,some k=>(match kkT P p.1 with|some kk=>AAR kk es∧AAV kk k=true|none=>False)
  |_,_,_=>False)
 |.call c=>match c.callee with
  |.builtin .append=>c.args=#[DL c,Dm c]∧c.argTypes=#[Je c,V7 c]∧need (ev tm (DL c))∧need (ev tm (Dm c))∧AEe P (Je c) (V7 c) S (strip (ev tm (DL c))) (strip (ev tm (Dm c)))
  |_=>AA9 P (.call c) tm S
 |op=>AA9 P op tm S
def BP(P:Program)(op:Op)(tm:Tm)(S:Sg):V:=
 match op with
 |.box ..=>.ptr S.length 1 0 0
 |.alloc _=>.ptr S.length 1 0 0
 |.store ..=>.any
 |.makeSlice _ x _=>.row S.length (FM (strip (ev tm x))).toNat
 |.makeMap ..=>.map S.length
 |.mapUpdate ..=>.any
 |.insert ..=>.any
 |.call c=>match c.callee with
  |.builtin .append=>OS S (strip (ev tm (DL c))) ((ABS S (strip (ev tm (Dm c)))).getD [])
  |_=>ABA P (.call c) tm S
 |op=>ABA P op tm S
def CM(P:Program)(op:Op)(tm:Tm)(S:Sg):Sg:=
 match op with
 |.box _ x=>Tu S (strip (ev tm x))
 |.alloc T=>match Au P T with|some z=>Tu S z|none=>S
 |.store _ x y=>AET S (strip (ev tm x)) (strip (ev tm y))
 |.makeSlice T x _=>S++[.row true (HZ P T) (List.replicate (FM (strip (ev tm x))).toNat ((((AAH P T).bind fun E=>Au P E)).getD .any))]
 |.makeMap ..=>S++[.map []]
 |.mapUpdate _ x y z=>S.set (UC (strip (ev tm x))) (.map (DU ((mapOf S (strip (ev tm x))).getD []) ((asD S (strip (ev tm y))).getD (.bool false)) (strip (ev tm z))))
 |.insert _ x y z=>S.set (UC (strip (ev tm x))) (.map (DU ((mapOf S (strip (ev tm x))).getD []) ((asD S (strip (ev tm y))).getD (.bool false)) (strip (ev tm z))))
 |.call c=>match c.callee with
  |.builtin .append=>ABT S (HZ P (Je c)) (strip (ev tm (DL c))) ((ABS S (strip (ev tm (Dm c)))).getD [])
  |_=>S
 |_=>S
section
variable {P:Program} {n b:Nat} {o:Oper} {tm:Tm} {S S':Sg} {v:V} {ops:Array Oper} {K:Tm→Sg→Prop}
theorem E8{x:V}(h:FF x):∃k,x=.d (.int k (FM x)):=by
 unfold FF at h;split at h
 ·exact⟨_,rfl⟩
 ·exact h.elim
theorem Gx{T:TypeId}{b:Nat}(h:Ao P T=some b):∃t,ti P T=some t∧t.bytes=b:=by
 simpa[Ao,Option.map_eq_some_iff]using h
theorem ak(h:AA9 P o.op tm S):Bv P n o tm S (ABA P o.op tm S) S:=by
 generalize g7:o.op=op at h;have hv:ABK P op tm S→Bv P n o tm S (ABL P op tm S) S:=fun h=>by subst g7;exact aA h
 cases op<;>try exact hv h
 case binOp b T x y U=>
  simp only[AA9]at h;simp only[ABA];split at h
  ·rename_i hb;rw[if_pos hb];obtain⟨h1,h2,h3⟩:=h;split at h3
   ·rename_i as bs cks ha hb hc;rw[ha,hb];have ga:asD S (strip (ev tm x))=some (.agg as):=by unfold AAr at ha;split at ha<;>simp_all
    have gb:asD S (strip (ev tm y))=some (.agg bs):=by unfold AAr at hb;split at hb<;>simp_all
    obtain⟨h3,h4,h5⟩:=h3;cases b<;>simp only at h5⊢
    ·have:=Jz (neg:=false) (n:=n) (by simpa using g7) hc h1 h2 ga gb h3 h4;simpa using this
    ·have:=Jz (neg:=true) (n:=n) (by simpa using g7) hc h1 h2 ga gb h3 h4;simpa using this
   ·exact h3.elim
  ·rename_i hb;rw[if_neg hb];exact hv h
 case slice T x lo hi mx=>
  simp only[AA9]at h;simp only[ABA];obtain⟨h1,h2,h3,h4,h5,h6,h7,h8⟩:=h;obtain⟨kl,hl⟩:=E8 h5;generalize hL:FM (AAs tm lo)=L at *;generalize hH:hiV tm (strip (ev tm x)) hi=Hh at *;have eh':hi≠none→∃kh,AAs tm hi=.d (.int kh Hh):=fun dI=>by
   cases hi with
   |none=>exact absurd rfl dI
   |some y=>
    obtain⟨kh,hh⟩:=E8 h6;refine⟨kh,?_⟩;rw[hh,←hH];rfl
  obtain⟨kh,eh⟩:∃kh,hi≠none→AAs tm hi=.d (.int kh Hh):=by
   by_cases dI:hi=none
   ·exact⟨.i64,fun h=>absurd dI h⟩
   ·obtain⟨kh,h⟩:=eh' dI;exact⟨kh,fun _=>h⟩
  have em:mx≠none→hi≠none∧AAs tm mx=.d (.int kh Hh):=fun dI=>by
   cases mx with
   |none=>exact absurd rfl dI
   |some q=>
    obtain⟨g1,g2⟩:=h7;have:hi≠none:=by intro e;subst e;simp at g1
    exact⟨this,by rw[g2,eh this]⟩
  have fin:∀xs:List D,(strip (ev tm x)=.d (.sl xs)∨strip (ev tm x)=.full xs)→(hi=none→Hh=xs.length)→(0≤L∧L≤Hh∧Hh≤xs.length∧(match AAH P T with
    |some E=>(match Aq P E with|some s=>L.toNat=0∨L.toNat=Hh.toNat∨((AAL (xs.getD L.toNat (.bool false))).length=s∧AAe.oneD (xs.getD L.toNat (.bool false))=true)|none=>False)
    |none=>False))→Bv P n o tm S (if mx.isSome then .full ((xs.take Hh.toNat).drop L.toNat)else .d (.sl ((xs.take Hh.toNat).drop L.toNat))) S:=fun xs ex hlen h8=>by
   obtain⟨g0,g1,g2,g3⟩:=h8;split at g3
   ·rename_i E hE;split at g3
    ·rename_i s hs;obtain⟨t,e1,e2⟩:=BA hE;obtain⟨e,f1,f2,_⟩:=Bn hs;subst f2;exact Pg g7 h1 ex e1 e2 f1 h2 hl h3 hlen eh h4 em g0 g1 g2 g3
    ·exact g3.elim
   ·exact g3.elim
  unfold AEu at h8;split at h8
  ·rename_i s hx;rw[hx];obtain⟨g1,rfl,g2,g3,g4⟩:=h8;exact Nx g7 h1 hx (Gn g1) h2 hl h3 (fun e=>by subst e;rw[←hH,hx];rfl) eh g2 g3 g4
  ·rename_i xs hx;rw[hx];exact fin xs (.inl hx) (fun e=>by subst e;rw[←hH,hx];rfl) h8
  ·rename_i xs hx;rw[hx];exact fin xs (.inr hx) (fun e=>by subst e;rw[←hH,hx];rfl) h8
  ·exact h8.elim
 case index T x y=>
  simp only[AA9]at h;simp only[ABA];obtain⟨h1,h2,h3,h4,h5⟩:=h;split at h5
  ·rename_i s hx;obtain⟨k,hk⟩:=E8 h3;obtain⟨t,e1,e2⟩:=Gn h4;exact Uq g7 h1 h2 hx hk e1 e2 h5.1 h5.2
  ·exact h5.elim
 case indexAddr T x y=>
  simp only[AA9]at h;simp only[ABA];split at h
  ·rename_i p hp;obtain⟨h1,h2,h3,h4,h5,h6,h7⟩:=h;obtain⟨t,e1,e2⟩:=LO hp;obtain⟨s,hs⟩:=Option.isSome_iff_exists.1 h6;obtain⟨e,f1,f2,_⟩:=Bn hs;obtain⟨k,hk⟩:=E8 h3;rw[hs];subst f2;exact Jj g7 h1 h2 e1 e2 f1 hk h4 h5 h7
  ·exact hv h
 case lookup T x y ok=>
  simp only[AA9]at h;simp only[ABA];obtain⟨h1,h2,h3⟩:=h;split at h3
  ·rename_i p es k hp he hk;obtain⟨h3,h4⟩:=h3;split at h4
   ·rename_i kk n9;obtain⟨t,e1,e2⟩:=F7 hp;obtain⟨z,hz⟩:=Option.isSome_iff_exists.1 h3;obtain⟨t',u,f1,f2,f3⟩:=Dc hz;rw[hz];subst f3;unfold mapOf at he;split at he
    ·rename_i r hx;split at he
     ·rename_i es' hr;cases he;exact Sm g7 e1 e2 f1 f2 (Kr n9) h1 hx hr (Ez h4.1) h2 hk h4.2
     ·cases he
    ·cases he
   ·exact h4.elim
  ·exact h3.elim
 case call c=>
  simp only[AA9]at h;simp only[ABA];have mm:∀{x y:V},XC x y→∃k i j,x=.d (.int k i)∧y=.d (.int k j):=fun {x y} h=>by
   unfold XC at h;split at h
   ·subst h;exact⟨_,_,_,rfl,rfl⟩
   ·exact h.elim
  split at h
  ·rename_i hc;split at h
   ·rename_i gp;rw[if_pos gp];obtain⟨h1,h2,h3,h4⟩:=h;obtain⟨k,i,j,e1,e2⟩:=mm h4;rw[e1,e2];exact YY g7 hc h1 h2 h3 e1 e2
   ·rename_i gp;rw[if_neg gp];obtain⟨h1,h2,h3,h4,h5,h6⟩:=h;obtain⟨k,i,j,e1,e2⟩:=mm h5;obtain⟨k',i',l,e3,e4⟩:=mm h6;rw[e1]at e3;cases e3;rw[e1,e2,e4];exact Xz g7 hc h1 h2 h3 h4 e1 e2 e4
  ·rename_i hc;split at h
   ·rename_i gp;rw[if_pos gp];obtain⟨h1,h2,h3,h4⟩:=h;obtain⟨k,i,j,e1,e2⟩:=mm h4;rw[e1,e2];exact Ye g7 hc h1 h2 h3 e1 e2
   ·rename_i gp;rw[if_neg gp];obtain⟨h1,h2,h3,h4,h5,h6⟩:=h;obtain⟨k,i,j,e1,e2⟩:=mm h5;obtain⟨k',i',l,e3,e4⟩:=mm h6;rw[e1]at e3;cases e3;rw[e1,e2,e4];exact Xw g7 hc h1 h2 h3 h4 e1 e2 e4
  ·rename_i hc;obtain⟨h1,h2,h3,h4,h5⟩:=h;split at h5
   ·rename_i xs hx;rw[hx];obtain⟨E,hE⟩:=Option.isSome_iff_exists.1 h4;obtain⟨t,e1,e2⟩:=BA hE;exact O8 g7 hc h1 h2 h3 hx e1 e2
   ·exact h5.elim
  ·exact hv h
theorem IW(h:AAS P o.op tm S):Bv P n o tm S (BP P o.op tm S) (CM P o.op tm S):=by
 generalize g7:o.op=op at h;have hv:AA9 P op tm S→Bv P n o tm S (ABA P op tm S) S:=fun h=>by subst g7;exact ak h
 cases op<;>try exact hv h
 case box T x=>exact bL g7 h.1 h.2
 case alloc T=>
  simp only[AAS]at h;simp only[BP,CM];split at h
  ·rename_i z hz;obtain⟨t,u,e1,e2,e3⟩:=Dc hz;subst e3;exact WU g7 e1 e2 h
  ·exact h.elim
 case store T x y=>
  simp only[AAS]at h;simp only[BP,CM];obtain⟨h1,h2,h3⟩:=h;split at h3
  ·rename_i s hs;obtain⟨t,e1,e2,_⟩:=Bn hs;subst e2;obtain⟨h3,h4,h5⟩:=h3;exact UF g7 h1 h2 e1 h3 h4 h5
  ·exact h3.elim
 case makeSlice T x y=>
  simp only[AAS]at h;simp only[BP,CM,HZ];obtain⟨h1,h2,h3,h4,h5,h6,h7,h8⟩:=h;split at h8
  ·rename_i E hE;split at h8
   ·rename_i s z b hs hz hb;obtain⟨g1,g2,g3⟩:=h8;obtain⟨t,e1,e2⟩:=BA hE;obtain⟨e,f1,f2,_⟩:=Bn hs;obtain⟨t',u,k1,k2,k3⟩:=Dc hz;rw[f1]at k1;cases k1;obtain⟨t',l1,l2⟩:=Gx hb;rw[f1]at l1;cases l1;obtain⟨kx,ex⟩:=E8 h3;obtain⟨ky,ey⟩:=E8 h4;subst k3;obtain⟨c1,_⟩:=(Fo {I:=fun _=>False,BZ:=fun _=>0,cap:=fun _=>(0,0),BB:=fun _=>none} ([]:Sg) (default:World) u).cells (by simpa using g2);rw[hE];simp only[Option.bind_some,hs,hz,Option.getD_some];subst f2;have hm:FM (strip (ev tm x))=((FM (strip (ev tm x))).toNat:Int):=by omega
    exact M6 g7 h1 h2 (by rw[←hm];exact ex) (by rw[←hm,h5];exact ey) e1 e2 f1 k2 (by omega) g2 (by omega) (by omega)
   ·exact h8.elim
  ·exact h8.elim
 case makeMap T r=>
  simp only[AAS]at h;subst h;exact PC g7
 case mapUpdate T x y z=>
  simp only[AAS]at h;simp only[BP,CM];obtain⟨h1,h2,h3,h4⟩:=h;split at h4
  ·rename_i p es k hp he hk;split at h4
   ·rename_i kk n9;obtain⟨t,e1,e2⟩:=F7 hp;rw[he,hk];unfold mapOf at he;split at he
    ·rename_i r hx;split at he
     ·rename_i es' hr;cases he;rw[hx];exact IG (.inl g7) e1 e2 (Kr n9) h1 hx hr (Ez h4.1) h2 hk h4.2 h3
     ·cases he
    ·cases he
   ·exact h4.elim
  ·exact h4.elim
 case insert T x y z=>
  simp only[AAS]at h;simp only[BP,CM];obtain⟨h1,h2,h3,h4⟩:=h;split at h4
  ·rename_i p es k hp he hk;split at h4
   ·rename_i kk n9;obtain⟨t,e1,e2⟩:=F7 hp;rw[he,hk];unfold mapOf at he;split at he
    ·rename_i r hx;split at he
     ·rename_i es' hr;cases he;rw[hx];exact IG (.inr g7) e1 e2 (Kr n9) h1 hx hr (Ez h4.1) h2 hk h4.2 h3
     ·cases he
    ·cases he
   ·exact h4.elim
  ·exact h4.elim
 case call c=>
  simp only[AAS]at h;simp only[BP,CM];split at h
  ·rename_i hc;obtain⟨h1,h2,h3,h4,h5⟩:=h;unfold AEe at h5;split at h5
   ·rename_i E hE;obtain⟨h5,h6⟩:=h5;split at h6
    ·rename_i s z b hs hz hb;obtain⟨g1,g2,g3,g4⟩:=h6;split at g4
     ·rename_i ys sD;obtain⟨e,f1,f2,_⟩:=Bn hs;obtain⟨t',u,k1,k2,k3⟩:=Dc hz;rw[f1]at k1;cases k1;obtain⟨t',l1,l2⟩:=Gx hb;rw[f1]at l1;cases l1;subst k3;obtain⟨c1,_⟩:=(Fo {I:=fun _=>False,BZ:=fun _=>0,cap:=fun _=>(0,0),BB:=fun _=>none} ([]:Sg) (default:World) u).cells (by simpa using g2);rw[sD];simp only[HZ,hE,Option.bind_some,hs,Option.getD_some];subst f2;exact Q9 g7 hc h1 h2 h3 h4 hE h5 f1 k2 (by omega) (by omega) sD g4
     ·exact g4.elim
    ·exact h6.elim
   ·exact h5.elim
  ·exact hv h
def AAw(P:Program)(n:Nat)(ops:Array Oper)(o:Oper)(tm:Tm)(S:Sg):Prop:=
 A6 n o.dst∧match o.guard with
 |none=>AAS P o.op tm S
 |some (j,want)=>match AAd ops tm j want with
  |some g=>isV o.op=true∧(g=true→AAS P o.op tm S)
  |none=>False
def Cq(P:Program)(ops:Array Oper)(o:Oper)(tm:Tm)(S:Sg):V:=
 match o.guard with
 |none=>BP P o.op tm S
 |some (j,want)=>match AAd ops tm j want with
  |some g=>FI g (BP P o.op tm S)
  |none=>.any
def oS(P:Program)(o:Oper)(tm:Tm)(S:Sg):Sg:=
 match o.guard with
 |none=>CM P o.op tm S
 |some _=>S
def Step(P:Program)(n b:Nat)(ops:Array Oper)(i:Nat)(tm:Tm)(S:Sg)(tm':Tm)(S':Sg):Prop:=
 ∀G w a (K':Act→World→Prop) Q,St P n G S w a tm→b≤S.length→(∀a' w' G',E1 P n b G S w a.defers a' w' G' S' tm'→K' a' w')→wpOp P ops Q i K' a w
theorem Step.Hd{i:Nat}(hi:ops[i]?=some o)(hd:A6 n o.dst)(hg:o.guard=none)(h:Bv P n o tm S v S'):Step P n b ops i tm S (put tm o.dst v) S':=fun G w a K' Q st hb k=>by
 unfold wpOp;simp only[hi,Region.wanted,hg,if_true];exact .inl (h G w a K' Q st fun cv w' G' h1 h2 h3 h4=>k _ _ G' ⟨st.put hd h1 h2 h4,Be,h3,h4.late hb⟩)
theorem Step.ET{i j:Nat}{want g:Bool}(hi:ops[i]?=some o)(hd:A6 n o.dst)(hg:o.guard=some (j,want))(hv:AAd ops tm j want=some g)
  (h:g=true→Bv P n o tm S v S):Step P n b ops i tm S (put tm o.dst (FI g v)) S:=fun G w a K' Q st hb k=>by
 unfold wpOp;simp only[hi,L8 st hg hv];cases g with
 |true=>
  simp only[if_true];exact .inl (h rfl G w a K' Q st fun cv w' G' h1 h2 h3 h4=>k _ _ G' ⟨st.put hd (CV.FI (fun _=>h1) (fun e=>by cases e)) h2 h4,Be,h3,h4.late hb⟩)
 |false=>
  simp only[Bool.false_eq_true,if_false];exact k _ _ G ⟨st.put hd (CV.FI (fun e=>by cases e) (fun _=>rfl)) st.rel (A9.refl _ _ _),Be,Tr.refl _ _ _,Dt.refl hb⟩
theorem AE0{op:Op}(h:isV op=true):CM P op tm S=S:=by
 unfold CM;cases op<;>simp[isV]at h<;>try rfl
 rename_i c;simp only[];split
 ·rename_i hc;simp[hc]at h
 ·rfl
theorem Step.B5{i:Nat}(hi:ops[i]?=some o)(h:AAw P n ops o tm S):Step P n b ops i tm S (put tm o.dst (Cq P ops o tm S)) (oS P o tm S):=by
 obtain⟨hd,h⟩:=h;cases hg:o.guard with
 |none=>
  simp only[hg]at h;simp only[Cq,oS,hg];exact Step.Hd hi hd hg (IW h)
 |some jw=>
  obtain⟨j,want⟩:=jw;simp only[hg]at h;simp only[Cq,oS,hg];split at h
  ·rename_i g hv;exact Step.ET hi hd hg hv fun e=>by have:=IW (n:=n) (h.2 e);rwa [AE0 h.1]at this
  ·exact h.elim
def ACT(P:Program)(f:FuncId):Bool:=
 match P.funcs[f]? with
 |some fn=>!(fn.name== "runtime.NumGoroutine")&&fn.body.isSome
 |none=>false
def AE(P:Program)(f:FuncId)(args:List V)(S:Sg)(v:V)(S':Sg):Prop:=
 ACT P f=true∧∀G w (cargs:Array Value),Rel P G S w→cargs.size=args.length→(∀i (h:i<args.length) (h':i<cargs.size),CV G S w args[i] cargs[i])→Calls P f cargs w fun e w'=>∃cv G',e=.returned cv∧CV G' S' w' v cv∧Rel P G' S' w'∧Tr G S w G' S' w'∧A9 G S w G' S' w'
def callee(tm:Tm)(c:Call):Option (FuncId×List V):=
 match c.callee with
 |.value f=>match strip (ev tm f)with
  |.fn (.func k) first caps=>some (k,first++c.args.toList.map (fun x=>strip (ev tm x))++caps)
  |_=>none
 |_=>none
def ACU(tm:Tm):List Operand→Prop
 |[]=>True
 |x::xs=>need (ev tm x)∧ACU tm xs
theorem Fx{tm:Tm}:∀{xs:List Operand},ACU tm xs→∀x∈xs,need (ev tm x)
 |x::xs,h,y,hy=>by
  cases hy with
  |head=>exact h.1
  |tail _ hy=>exact Fx h.2 y hy
def A5(tm:Tm)(c:Call):Prop:=
 (match c.callee with|.value f=>need (ev tm f)|_=>False)∧ACU tm c.args.toList
theorem E2{c:Call}{f:FuncId}{args:List V}(ho:o.op=.call c)(hc:callee tm c=some (f,args))(hn:A5 tm c)(h:AE P f args S v S'):
  Bv P n o tm S v S':=by
 intro G w a next Q st kont
 obtain⟨hf,h⟩:=h;unfold callee at hc;obtain⟨jC,kO⟩:=hn;cases iU:c.callee with
 |value x=>
  simp only[iU]at hc jC;have hx:=(BH st x).strip jC;split at hc
  ·rename_i k' first caps mc
   simp only[Option.some.injEq,Prod.mk.injEq]at hc;obtain⟨e1,e2⟩:=hc;subst e1;subst e2;rw[mc]at hx;generalize hX:a.eval x=X at hx;cases hx with
   |fn _ _ _ xs ys h1 h2 h3 h4=>
    unfold ACT at hf;have gi:=h G w (xs++c.args.map a.eval++ys) st.rel (by simp[h1,h2]) (fun i hi gj=>by
     by_cases e1:i<first.length
     ·rw[List.getElem_append_left (by simp;omega),List.getElem_append_left e1];rw[Array.getElem_append_left (by simp;omega),Array.getElem_append_left (by omega)];exact h3 i e1
     ·by_cases e2:i<first.length+c.args.size
      ·rw[List.getElem_append_left (by simp;omega),List.getElem_append_right (by omega)];rw[Array.getElem_append_left (by simp;omega),Array.getElem_append_right (by omega)];simp only[List.getElem_map,Array.getElem_map,Array.getElem_toList,h1];exact(BH st _).strip (Fx kO _ (by simp))
      ·simp only[List.length_append,List.length_map,Array.length_toList]at hi;rw[List.getElem_append_right (by simp;omega)];rw[Array.getElem_append_right (by simp;omega)];simp only[List.length_append,List.length_map,Array.length_toList,Array.size_append,Array.size_map,h1];exact h4 _ (by omega))
    unfold Oper.wp;have gl:(execOp a.eval o).run P w=.ok (.enter k' (xs++c.args.map a.eval++ys)) w:=by
     split at hf
     ·rename_i fn lM;simp only[Bool.and_eq_true,Bool.not_eq_true',beq_eq_false_iff_ne,ne_eq]at hf;obtain⟨b,hb⟩:=Option.isSome_iff_exists.1 hf.2;simp[execOp,ho,resolve,iU,hX,Deferred.ofValue,invoke,callFunc,lM,hf.1,hb]
     ·cases hf
    rw[gl];simp only[Oper.upon];exact gi.mono fun e w' ⟨cv,G',he,g1,g2,g3,g4⟩=>by subst he;exact kont cv w' G' g1 g2 g3 g4
  ·cases hc
 |invoke=>simp[iU]at hc
 |builtin=>simp[iU]at hc
def AS(P:Program)(n b:Nat)(ops:Array Oper)(l:List Oper)(tm:Tm)(S:Sg)(K:Tm→Sg→Prop):Prop:=
 ∀k,(∀j,l[j]?=ops[k+j]?)→∀G w a Q,St P n G S w a tm→b≤S.length→(∀a' w',(∃G' S' tm',E1 P n b G S w a.defers a' w' G' S' tm'∧K tm' S')→Q .normal a' w')→wpOps P ops Q (List.range' k l.length) a w
theorem Aj(h:K tm S):AS P n b ops [] tm S K:=fun k _ G w a Q st hb hq=>by
 simp only[List.length_nil,List.range'_zero,wpOps];exact hq a w ⟨G,S,tm,.refl st hb,h⟩
theorem AS.step{rest:List Oper}{tm':Tm}(hs:∀i,ops[i]?=some o→Step P n b ops i tm S tm' S')(h:AS P n b ops rest tm' S' K):AS P n b ops (o::rest) tm S K:=fun k hk G w a Q st hb hq=>by
 have h0:ops[k]?=some o:=by simpa using(hk 0).symm
 simp only[List.length_cons,List.range'_succ];rw[wpOps_cons];refine hs k h0 G w a _ Q st hb fun a' w' G' hc=>?_;refine h (k+1) (fun j=>by have:=hk (j+1);simp only[List.getElem?_cons_succ]at this;rw[this];congr 1;omega) G' w' a' Q hc.st hc.late.len fun a2 w2 hh=>?_;obtain⟨G2,S2,tm2,gx,hK⟩:=hh;exact hq a2 w2 ⟨G2,S2,tm2,⟨gx.st,gx.ds.trans hc.ds,hc.tr.trans gx.tr,hc.late.trans gx.late⟩,hK⟩
theorem B7{rest:List Oper}(h1:AAw P n ops o tm S)(h2:AS P n b ops rest (put tm o.dst (Cq P ops o tm S)) (oS P o tm S) K):AS P n b ops (o::rest) tm S K:=
 AS.step (fun _ hi=>Step.B5 hi h1) h2
theorem AS.call{rest:List Oper}{c:Call}{f:FuncId}{args:List V}(ho:o.op=.call c)(hg:o.guard=none)(hd:A6 n o.dst)(hc:callee tm c=some (f,args))(hn:A5 tm c)
  (h:AE P f args S v S') (h2:AS P n b ops rest (put tm o.dst v) S' K):AS P n b ops (o::rest) tm S K:=
 AS.step (fun _ hi=>Step.Hd hi hd hg (E2 ho hc hn h)) h2
theorem AS.IU{rest:List Oper}{c:Call}{f:FuncId}{args:List V}{j:Nat}{want g:Bool}(ho:o.op=.call c)(hg:o.guard=some (j,want))(hd:A6 n o.dst)
  (hv:AAd ops tm j want=some g) (h:g=true→callee tm c=some (f,args)∧A5 tm c∧AE P f args S v S) (h2:AS P n b ops rest (put tm o.dst (FI g v)) S K):AS P n b ops (o::rest) tm S K:=
 AS.step (fun _ hi=>Step.ET hi hd hg hv fun e=>by obtain⟨h1,h3,h4⟩:=h e;exact E2 ho h1 h3 h4) h2
theorem AW.region{id:Nat}{Q:Exit→Tm→Sg→Prop}(h:AS P n b ops ops.toList tm S (Q .normal)):AW P n b (.region id ops false) Q tm S:=fun G w a st hb=>by
 refine wp_region ?_;have:=h 0 (fun j=>by simp) G w a (K7 P n b Q G S w a.defers) st hb (fun a' w' hh=>hh);rw[List.range_eq_range'];simpa using this
def ABi(P:Program)(tm:Tm)(S:Sg):List ResultVar→Prop
 |[]=>True
 |.tmp _::rs=>ABi P tm S rs
 |.cell a T::rs=>need (tm a)∧(Aq P T).isSome=true∧Gj (BF P T) ((Aq P T).getD 0) S (strip (tm a))∧ABi P tm S rs
def FK(P:Program)(tm:Tm)(S:Sg):List ResultVar→List V
 |[]=>[]
 |.tmp t::rs=>tm t::FK P tm S rs
 |.cell a T::rs=>ABn (BF P T) ((Aq P T).getD 0) S (strip (tm a))::FK P tm S rs
def ACy:List V→V
 |[v]=>v
 |vs=>.Bd vs
def pack:List Value→Value
 |[v]=>v
 |vs=>.tuple vs.toArray
def IL(P:Program)(tm:Tm)(S:Sg)(rs:List ResultVar):V:=ACy (FK P tm S rs)
end
section
variable {P:Program} {n:Nat} {o:Oper} {tm:Tm} {S S':Sg} {v:V} {ops:Array Oper} {K:Tm→Sg→Prop}
theorem PY{G:Gh}{w:World}{a:Act}(st:St P n G S w a tm){T:TypeId}{p:V}{q:Value}(hq:CV G S w p q)(h1:(Aq P T).isSome=true)(h:Gj (BF P T) ((Aq P T).getD 0) S p):
  ∃cv ad,q=.pointer (some ad)∧(loadVar T ad).run P w=.ok cv w∧CV G S w (ABn (BF P T) ((Aq P T).getD 0) S p) cv:=by
 obtain⟨s,hs⟩:=Option.isSome_iff_exists.1 h1;obtain⟨t,e1,e2,e3⟩:=Bn hs;let o':Oper:={dst:=none,op:=.load T (.const q),type:=0,pos:= "",after:=#[],guard:=none};have iO:∀(tm':Tm),ev tm' (.const q)=cst q:=fun _=>rfl;obtain⟨h3,h4⟩:=h;have ha:t.agg=true∨t.size=1:=by
  rw[hs,e3]at h3;simp only[Option.getD_some]at h3;subst e2;simpa using h3
 rw[hs,e3]at *;simp only[Option.getD_some]at h4⊢;subst e2;cases hp:p with
 |ptr r m i j=>
  rw[hp]at h4 hq;simp only[ABZ]at h4;split at h4
  ·rename_i wr sz els hr;obtain⟨hm,hi,he,gp,hj⟩:=h4;have jn:els.getD i .any=els[i]:=by simp[List.getD,hi]
   rw[jn]at he gp;have he:Ar els[i]=true∨AAW els[i]=true:=by simpa using he
   obtain⟨u,b,k,g1,g2,g3,g4,g5⟩:=Qt st.rel hr hi he gp;have lr:=hq.HI hr hm;rw[g4 j]at lr;refine⟨_,_,lr,EG e1 g2 hj ha g5,?_⟩;simp only[ABn,P5,hr,jn];exact K4 g1 he (by omega) ha
  ·exact h4.elim
 |Cc cs=>
  rw[hp]at h4 hq;generalize hX:q=X at hq;cases hq with
  |Cc cs b off vs hI h=>
   let u:Array Value:=((List.range cs.length).map vs).toArray;have gp:(Value.agg u).cells.size=cs.length:=by simp[Value.cells,u]
   refine⟨if t.agg then .agg (u.extract 0 (0+t.size))else u.getD 0 undef,_,rfl,?_,?_⟩
   ·rw[show(⟨b,off,none⟩:Addr)=⟨b,off+0,none⟩from rfl];exact EG (u:=.agg u) (j:=0) e1 gp (by omega) ha (fun j hj=>by rw[(h j hj).1];simp[Value.cells,hj,u])
   ·simp only[ABn];unfold OY;cases jI:t.agg with
    |true=>
     simp only[if_true];refine .d _ _ (.agg _ _ (by simp[u];try omega) (fun i hi=>?_) (fun i hi=>?_))
     ·have gj:i<t.size:=by simp at hi;try omega
      simpa[u]using(h i (by omega)).2.1
     ·have gj:i<t.size:=by simp[u]at hi;try omega
      simpa[u]using(h i (by omega)).2.2
    |false=>
     have h1:t.size=1:=by simpa[jI]using ha
     simp only[Bool.false_eq_true,if_false];have h2:0<cs.length:=by omega
     have e1:cs.getD 0 (.bool false)=cs[0]:=by simp[List.getD,h2]
     rw[e1];have:=(h 0 h2).2.1;refine .d _ _ ?_;simpa[u,Array.getD_eq_getD_getElem?,h2]using this
 |_=>rw[hp]at h4;exact h4.elim
def ACV(ts:Array Value):ResultVar→Sem Value
 |.tmp t=>pure (ts.getD t undef)
 |.cell b t=>do loadVar t (←asAddr (ts.getD b undef))
theorem Pe(fn:Func)(ts:Array Value):results fn ts=(do let vs←fn.results.mapM (ACV ts);pure (if h:vs.size=1 then vs[0]else .tuple vs)):=by
 unfold results;congr
theorem Hs{G:Gh}{w:World}{a:Act}(st:St P n G S w a tm)(rs:List ResultVar):ABi P tm S rs→∃vs:List Value,(rs.mapM (ACV a.tmps)).run P w=.ok vs w∧vs.length=(FK P tm S rs).length∧∀i (h:i<vs.length) (h':i<(FK P tm S rs).length),CV G S w (FK P tm S rs)[i] vs[i]:=by
 induction rs with
 |nil=>intro _;exact⟨[],by simp,rfl,fun i h=>by simp at h⟩
 |cons r rs ih=>
  intro h;cases r with
  |tmp t=>
   simp only[ABi]at h;obtain⟨vs,h1,h2,h3⟩:=ih h;refine⟨a.tmps.getD t undef::vs,?_,by simp[FK,h2],fun i hi gj=>?_⟩
   ·simp only[List.mapM_cons,ACV,Sem.run_bind,Sem.run_pure,Result.andThen_ok,h1]
   ·cases i with
    |zero=>simpa[FK]using st.tm t
    |succ i=>simpa[FK]using h3 i (by simpa using hi) (by simpa[FK]using gj)
  |cell b T=>
   simp only[ABi]at h;obtain⟨g1,g2,g3,g4⟩:=h;obtain⟨vs,h1,h2,h3⟩:=ih g4;obtain⟨cv,ad,e1,e2,e3⟩:=PY st ((st.tm b).strip g1) g2 g3;refine⟨cv::vs,?_,by simp[FK,h2],fun i hi gj=>?_⟩
   ·have ea:(asAddr (a.tmps.getD b undef)).run P w=.ok ad w:=by rw[e1];rfl
    simp only[List.mapM_cons,ACV,Sem.run_bind,ea,Sem.run_pure,Result.andThen_ok,e2,h1]
   ·cases i with
    |zero=>simpa[FK]using e3
    |succ i=>simpa[FK]using h3 i (by simpa using hi) (by simpa[FK]using gj)
def T9(P:Program)(n b:Nat)(rs:List ResultVar)(R:V→Sg→Prop):Exit→Tm→Sg→Prop
 |.normal,tm,S|.ret,tm,S=>∃tm1 S1,AJ P n b tm S tm1 S1∧ABi P tm1 S1 rs∧∀G w a,St P n G S1 w a tm1→b≤S1.length→∃G' v S',(∀cv,CV G S1 w (IL P tm1 S1 rs) cv→CV G' S' w v cv)∧Rel P G' S' w∧Tr G S1 w G' S' w∧Dt b G S1 G' S'∧R v S'
 |_,_,_=>False
theorem Ec{fn:Func}{a:Act}{w:World}{vs:List Value}(h:(fn.results.toList.mapM (ACV a.tmps)).run P w=.ok vs w):
  (results fn a.tmps).run P w=.ok (pack vs) w:=by
 rw[Pe,Array.mapM_eq_mapM_toList];simp only[Sem.run_bind,Sem.run_map,h,Result.andThen_ok,Sem.run_pure];match vs with
 |[]=>simp[pack]
 |[v]=>simp[pack]
 |v::u::vs=>simp[pack]
theorem Dt.later{G:Gh}{w:World}{G':Gh}{w':World}(R:Rel P G S w)(t:Tr G S w G' S' w')(l:Dt S.length G S G' S'):A9 G S w G' S' w':=
 ⟨t.I,fun b hb=>t.DG b (R.G5 b hb) (fun ho=>R.nI b ho hb),l.len,l.row,l.map⟩
theorem AE.intro{f:FuncId}{fn:Func}{c:Code}{args:List V}(hf:P.funcs[f]?=some fn)(iJ:(fn.name== "runtime.NumGoroutine")=false)(hb:fn.body=some c)(hn:args.length≤fn.ntmps)
  (h:AW P fn.ntmps S.length c (T9 P fn.ntmps S.length fn.results.toList fun v' S''=>v'=v∧S''=S') (Dl args) S):AE P f args S v S':=by
 refine⟨by simp[ACT,hf,iJ,hb],fun G w cargs R gp gi=>?_⟩;refine calls_of_wp hf hb ?_;have st:St P fn.ntmps G S w {tmps:=cargs++Array.replicate (fn.ntmps - cargs.size) undef,defers:=[]} (Dl args):=by
  refine⟨by simp;omega,fun k=>?_,R⟩;unfold Dl;by_cases hk:k<args.length
  ·have e1:args.getD k .any=args[k]:=by simp[List.getD,hk]
   have e2:(cargs++Array.replicate (fn.ntmps - cargs.size) undef).getD k undef=cargs[k]'(by omega):=by
    rw[Array.getD_eq_getD_getElem?,Array.getElem?_append_left (by omega)];simp[show k<cargs.size by omega]
   simp only[e1,e2];exact gi k hk (by omega)
  ·have e1:args.getD k .any=.any:=by simp[List.getD,List.getElem?_eq_none (show args.length≤k by omega)]
   rw[e1];exact .any _
 refine wp_mono (h G w _ st (Nat.le_refl _)) fun ex a' w' hl=>?_;obtain⟨G',S0,tm',hc,hq⟩:=hl;have fin:(∃tm1 S1,AJ P fn.ntmps S.length tm' S0 tm1 S1∧ABi P tm1 S1 fn.results.toList∧∀G w a,St P fn.ntmps G S1 w a tm1→S.length≤S1.length→∃G' v' S'',(∀cv,CV G S1 w (IL P tm1 S1 fn.results.toList) cv→CV G' S'' w v' cv)∧Rel P G' S'' w∧Tr G S1 w G' S'' w∧Dt S.length G S1 G' S''∧v'=v∧S''=S')→a'.defers=[]∧∃x,(results fn a'.tmps).run P w'=.ok x w'∧∃cv G',Ending.returned x=.returned cv∧CV G' S' w' v cv∧Rel P G' S' w'∧Tr G S w G' S' w'∧A9 G S w G' S' w':=by
  intro hq;obtain⟨tm1,S1,g,h1,h2⟩:=hq;refine⟨hc.ds,?_⟩;obtain⟨G1,st1,t1,l1⟩:=g G' w' a' hc.st hc.late.len;obtain⟨vs,v1,v2,v3⟩:=Hs st1 fn.results.toList h1;obtain⟨G2,v',S'',g1,g2,g3,g4,rfl,rfl⟩:=h2 G1 w' a' st1 l1.len;have kQ:∀(vs:List Value) (rs:List V),vs.length=rs.length→(∀i (h:i<vs.length) (h':i<rs.length),CV G1 S1 w' rs[i] vs[i])→CV G1 S1 w' (ACy rs) (pack vs):=fun vs rs v2 v3=>by
   match vs,rs with
   |[],[]=>exact .Bd _ _ rfl (fun i h=>by simp at h)
   |[x],[y]=>exact v3 0 (by simp) (by simp)
   |x::x'::xs,y::y'::ys=>
    refine .Bd _ _ (by simpa using v2) (fun i h=>?_);have:=v3 i (by omega) h;simpa using this
   |[],_::_=>simp at v2
   |_::_,[]=>simp at v2
   |[_],_::_::_=>simp at v2
   |_::_::_,[_]=>simp at v2
  have iO:=kQ vs _ v2 v3;have tr:=(hc.tr.trans t1).trans g3;have la:=(hc.late.trans l1).trans g4;exact⟨_,Ec v1,_,G2,rfl,g1 _ iO,g2,tr,la.later R tr⟩
 cases ex with
 |normal=>exact fin hq
 |ret=>exact fin hq
 |exit=>exact hq.elim
 |goto=>exact hq.elim
 |panic=>exact hq.elim
 |outgrown=>exact hq.elim
def Pure(P:Program)(f:FuncId)(ds:List D)(d:D):Prop:=AE P f (ds.map .d) [] (.d d) []
theorem Rel.nil{G:Gh}{w:World}(R:Rel P G S w):Rel P G [] w:=
 ⟨R.Es,fun r o h=>by simp at h,fun r r' o o' h=>by simp at h,fun b ⟨r,o,h,_⟩=>by simp at h,R.G5,fun b ⟨r,o,h,_⟩=>by simp at h⟩
theorem CV.W4{G:Gh}{w:World}{d:D}{v:Value}(h:CD G.I w d v):CV G S w (.d d) v:=.d _ _ h
theorem Pure.call{f:FuncId}{ds:List D}{d:D}{args:List V}(h:Pure P f ds d)(ha:args.map (asD S)=ds.map some):AE P f args S (.d d) S:=by
 refine⟨h.1,fun G w cargs R gp gi=>?_⟩;have hlen:args.length=ds.length:=by have:=congrArg List.length ha;simpa using this
 refine(h.2 G w cargs R.nil (by simpa[hlen]using gp) (fun i hi gj=>?_)).mono ?_
 ·have o7:i<ds.length:=by simpa using hi
  have e:asD S args[i]=some ds[i]:=by
   have:=congrArg (·[i]?) ha;simpa[o7,show i<args.length by omega]using this
  simp only[List.getElem_map];exact .W4 ((gi i (by omega) gj).asD R e)
 ·rintro e w' ⟨cv,G',he,h1,h2,h3,h4⟩;have jo:CD G'.I w' d cv:=by cases h1 with|d _ _ h=>exact h
  let G2:Gh:={G with I:=G'.I};have L:A9 G S w G2 S w':=⟨h3.I,fun b hb=>h3.DG b (R.G5 b hb) (fun⟨r,o,h,_⟩=>by simp at h),Nat.le_refl _,fun r _ n h=>⟨n,h,Nat.le_refl _,fun _=>⟨rfl,rfl,rfl,.inl rfl⟩⟩,fun r _ h=>⟨h,rfl⟩⟩;have DG:∀b,b<w.heap.size→w'.heap[b]?=w.heap[b]?:=fun b hb=>h3.DG b hb (fun⟨r,o,h,_⟩=>by simp at h);have R2:Rel P G2 S w':=by
   refine⟨R.Es.later L,fun r o ho=>(R.CT r o ho).later L (fun hw=>DG _ (R.FW _ ⟨r,o,ho,hw,rfl⟩)) rfl rfl rfl,R.inj,fun b hb hI=>?_,fun b hb=>h2.G5 b hb,fun b hb=>Nat.lt_of_lt_of_le (R.FW b hb) h3.size⟩;rcases h3.im b hI with h|⟨r,o,h,_⟩|h
   ·exact R.nI b hb h
   ·simp at h
   ·have:=R.FW b hb;omega
  refine⟨cv,G2,he,.W4 jo,R2,⟨h3.size,h3.I,fun b hb _=>DG b hb,fun b hb=>.inl hb,fun b hb=>?_,h3.os,h3.out⟩,L⟩;rcases h3.im b hb with h|⟨r,o,h,_⟩|h
  ·exact .inl h
  ·simp at h
  ·exact .inr (.inr h)
def dQ(P:Program)(n:Nat)(rs:List ResultVar)(d:D):Exit→Tm→Sg→Prop
 |.normal,tm,S|.ret,tm,S=>∃tm1 S1,AJ P n 0 tm S tm1 S1∧ABi P tm1 S1 rs∧asD S1 (IL P tm1 S1 rs)=some d
 |_,_,_=>False
theorem Pure.intro{f:FuncId}{fn:Func}{c:Code}{ds:List D}{d:D}(hf:P.funcs[f]?=some fn)(iJ:(fn.name== "runtime.NumGoroutine")=false)(hb:fn.body=some c)(hn:ds.length≤fn.ntmps)
  (h:AW P fn.ntmps 0 c (dQ P fn.ntmps fn.results.toList d) (Dl (ds.map .d)) []):Pure P f ds d:=by
 refine AE.intro hf iJ hb (by simpa using hn) (h.mono fun ex tm S hq=>?_);have key:(∃tm1 S1,AJ P fn.ntmps 0 tm S tm1 S1∧ABi P tm1 S1 fn.results.toList∧asD S1 (IL P tm1 S1 fn.results.toList)=some d)→∃tm1 S1,AJ P fn.ntmps 0 tm S tm1 S1∧ABi P tm1 S1 fn.results.toList∧∀G w a,St P fn.ntmps G S1 w a tm1→0≤S1.length→∃G' v S',(∀cv,CV G S1 w (IL P tm1 S1 fn.results.toList) cv→CV G' S' w v cv)∧Rel P G' S' w∧Tr G S1 w G' S' w∧Dt 0 G S1 G' S'∧v=.d d∧S'=[]:=by
  rintro⟨tm1,S1,g,h1,h2⟩;refine⟨tm1,S1,g,h1,fun G w a st _=>⟨G,.d d,[],fun cv iO=>.W4 (iO.asD st.rel h2),st.rel.nil,?_,⟨Nat.zero_le _,fun r hr=>by omega,fun r hr=>by omega⟩,rfl,rfl⟩⟩;exact⟨Nat.le_refl _,fun _ h=>h,fun _ _ _=>rfl,fun b ⟨r,o,h,_⟩=>by simp at h,fun b hb=>.inl hb,rfl,rfl⟩
 cases ex with
 |normal=>exact key hq
 |ret=>exact key hq
 |exit=>exact hq.elim
 |goto=>exact hq.elim
 |panic=>exact hq.elim
 |outgrown=>exact hq.elim
end
end Go.Koi
