/-
  Part 5 of the proof that the law ChangeRenames of the package koinelaw31 returns true for every input.
-/
import Derived.Test.YtknmpedpidhhbaaGreatDoorK03
import Derived.Laws.MakeOwn
import Derived.Maps.Keyed
import Derived.DeepKeys4
import Derived.Laws.StructEq
set_option maxHeartbeats 64000000
set_option maxRecDepth 100000
namespace Go.Koi
section
variable {P:Program} {n:Nat} {o:Oper} {tm:Tm} {S S':Sg} {v:V}
def AEB(x:V)(l h:Nat)(full:Bool):V:=
 match x with
 |.d (.str s)=>.d (.str (s.extract l h))
 |.d (.sl xs)=>if full then .full ((xs.take h).drop l)else .d (.sl ((xs.take h).drop l))
 |.full xs=>if full then .full ((xs.take h).drop l)else .d (.sl ((xs.take h).drop l))
 |_=>.any
theorem CD.sub{I:Nat→Prop}{w:World}{xs:List D}{b:Option Addr}{len cap:Nat}(H:CD I w (.sl xs) (.slice b len cap)){l h m sz:Nat}(hl:l≤h)(hh:h≤xs.length)(hm:h≤m)
  (hs:l=0∨l=h∨((AAL (xs.getD l (.bool false))).length=sz∧AAe.oneD (xs.getD l (.bool false))=true)):
  CD I w (.sl ((xs.take h).drop l)) (.slice (if m=l then b else b.map (·.add (l * sz))) (h - l) (m - l)):=by
 have hlen:((xs.take h).drop l).length=h - l:=by simp;omega
 by_cases he:l=h
 ·subst he;have:(xs.take l).drop l=[]:=List.length_eq_zero_iff.1 (by simp;try omega);rw[this,Nat.sub_self];exact .nil _ _
 ·cases H with
  |nil=>simp at hh;omega
  |sl sz' xs b off cap vs hI hl' hc h1 h2=>
   have hml:m≠l:=by omega
   have hoff:off+l * sz=off+l * sz':=by
    rcases hs with e|e|⟨e1,e2⟩
    ·subst e;simp
    ·exact absurd e he
    ·have hlt:l<xs.length:=by omega
     have hgd:xs.getD l (.bool false)=xs[l]:=by simp[List.getD,hlt]
     rw[hgd]at e1 e2;obtain⟨c1,_⟩:=(h1 l hlt).cells e2;have:=(h2 l hlt).1;have:sz=sz':=by omega
     rw[this]
   simp only[if_neg hml,Option.map_some,Eb];rw[hoff];have hlen':=hlen;rw[←hlen];refine .sl sz' _ b _ _ (fun i=>vs (l+i)) hI (by omega) (by omega) (fun i hi=>?_) (fun i hi=>?_)
   ·have:((xs.take h).drop l)[i]=xs[l+i]'(by omega):=by simp
    rw[this];exact h1 _ _
   ·obtain⟨g1,g2⟩:=h2 (l+i) (by omega);refine⟨g1,fun j hj=>?_⟩;rw[←g2 j hj];congr 2;rw[Nat.add_mul];omega
def AAt(tm:Tm)(x:Option Operand):V:=match x with|some y=>strip (ev tm y)|none=>.d (.int .i64 0)
def EH(tm:Tm)(x:Option Operand):Prop:=match x with|some y=>need (ev tm y)|none=>True
theorem Bg{G:Gh}{w:World}{a:Act}(st:St P n G S w a tm){y:Operand}{k:IntKind}{i:Int}(hy:need (ev tm y))(ey:strip (ev tm y)=.d (.int k i)):a.eval y=.int k i:=by
 have h:=(BH st y).strip hy;rw[ey]at h;exact h.int
theorem EX{G:Gh}{w:World}{a:Act}(st:St P n G S w a tm){y:Operand}{k:IntKind}{i:Int}(hy:need (ev tm y))(ey:strip (ev tm y)=.d (.int k i)):rng k i=true:=by
 have h:=(BH st y).strip hy;rw[ey]at h;exact h.rng
theorem By{w:World}{k:IntKind}{i:Int}{y:Nat}{code:BoundsCode}(h0:0≤i)(h1:i≤y):(Instr.sliceBound (.int k i) y code).run P w=.ok i.toNat w:=by
 simp[Instr.sliceBound,asIntOf,h0,h1]
theorem Nx{T:TypeId}{x:Operand}{lo hi:Option Operand}{s:ByteArray}{kl kh:IntKind}{l h:Int}(ho:o.op=.slice T x lo hi none)(hx:need (ev tm x))(ex:strip (ev tm x)=.d (.str s))
  (hT:∃t,ti P T=some t∧t.kind=.str) (hlo:EH tm lo) (el:AAt tm lo=.d (.int kl l)) (hhi:EH tm hi) (eh:hi=none→h=s.size) (eh':hi≠none→AAt tm hi=.d (.int kh h))
  (h0:0≤l) (h1:l≤h) (h2:h≤s.size):Bv P n o tm S (.d (.str (s.extract l.toNat h.toNat))) S:=.pure fun G w a st=>by
 have hv:=(BH st x).strip hx;rw[ex]at hv;obtain⟨hv1,hv2⟩:=hv.str;obtain⟨t,t1,t2⟩:=hT;obtain⟨d,hd,hd'⟩:=Ai t1 w;have hdE:d=.string:=by rw[t2]at hd';cases d<;>simp[tk]at hd'⊢
 subst hdE;refine⟨.string (s.extract l.toNat h.toNat),?_,.d _ _ (.str _ (by simp;omega))⟩;have hb:(Instr.sliceBounds false s.size s.size (lo.map a.eval) (hi.map a.eval) none).run P w=.ok (l.toNat,h.toNat,s.size) w:=by
  unfold Instr.sliceBounds;have hhr:∀y,hi=some y→a.eval y=.int kh h:=fun y hy=>Bg st (by simpa[EH,hy]using hhi) (by have:=eh' (by simp[hy]);simpa[AAt,hy]using this);have hlr:∀y,lo=some y→a.eval y=.int kl l:=fun y hy=>Bg st (by simpa[EH,hy]using hlo) (by simpa[AAt,hy]using el);have e3:lo=none→l=0:=fun e=>by subst e;simp[AAt]at el;exact el.2.symm
  cases hi with
  |none=>
   have:=eh rfl;subst this;cases lo with
   |none=>have:=e3 rfl;subst this;simp
   |some z=>simp[hlr z rfl,By h0 h1]
  |some y=>
   have e4:l≤(h.toNat:Int):=by omega
   cases lo with
   |none=>have:=e3 rfl;subst this;simp[hhr y rfl,By (show 0≤h by omega) h2]
   |some z=>simp[hhr y rfl,By (show 0≤h by omega) h2,hlr z rfl,By h0 e4]
 simp[execOp,ho,Instr.sliceAt,hv1,hd,Instr.slice,hb]
theorem Pg{T E:TypeId}{x:Operand}{lo hi mx:Option Operand}{xs:List D}{kl kh:IntKind}{l h:Int}{e:TI}{t:TI}(ho:o.op=.slice T x lo hi mx)(hx:need (ev tm x))
  (ex:strip (ev tm x)=.d (.sl xs)∨strip (ev tm x)=.full xs) (hT:ti P T=some t) (hk:t.kind=.slice E) (he:ti P E=some e) (hlo:EH tm lo) (el:AAt tm lo=.d (.int kl l)) (hhi:EH tm hi)
  (eh:hi=none→h=xs.length) (eh':hi≠none→AAt tm hi=.d (.int kh h)) (hmx:EH tm mx) (em:mx≠none→hi≠none∧AAt tm mx=.d (.int kh h))
  (h0:0≤l) (h1:l≤h) (h2:h≤xs.length) (hs:l.toNat=0∨l.toNat=h.toNat∨((AAL (xs.getD l.toNat (.bool false))).length=e.size∧AAe.oneD (xs.getD l.toNat (.bool false))=true)):
  Bv P n o tm S (if mx.isSome then .full ((xs.take h.toNat).drop l.toNat)else .d (.sl ((xs.take h.toNat).drop l.toNat))) S:=.pure fun G w a st=>by
 have hv:=(BH st x).strip hx;obtain⟨d,hd,hd'⟩:=Ai hT w;have hdE:d=.slice E:=by rw[hk]at hd';cases d<;>simp[tk]at hd'⊢;exact hd'
 subst hdE;have hcd:∃b cap,a.eval x=.slice b xs.length cap∧xs.length≤cap∧CD G.I w (.sl xs) (.slice b xs.length cap):=by
  generalize a.eval x=X at hv;rcases ex with ex|ex<;>rw[ex]at hv
  ·cases hv with
   |d _ _ hc=>
    cases hc with
    |nil b c=>exact⟨b,c,rfl,Nat.zero_le _,.nil b c⟩
    |sl sz xs b off cap vs hI hl hc h1 h2=>exact⟨_,_,rfl,hc,.sl sz xs b off cap vs hI hl hc h1 h2⟩
  ·cases hv with
   |full _ b hc=>exact⟨b,_,rfl,Nat.le_refl _,hc⟩
 obtain⟨b,cap,hval,hcap,hcd⟩:=hcd;have hhr:∀y,hi=some y→a.eval y=.int kh h:=fun y hy=>Bg st (by simpa[EH,hy]using hhi) (by have:=eh' (by simp[hy]);simpa[AAt,hy]using this);have hlr:∀y,lo=some y→a.eval y=.int kl l:=fun y hy=>Bg st (by simpa[EH,hy]using hlo) (by simpa[AAt,hy]using el);have hmr:∀y,mx=some y→a.eval y=.int kh h:=fun y hy=>Bg st (by simpa[EH,hy]using hmx) (by have:=(em (by simp[hy])).2;simpa[AAt,hy]using this);have e3:lo=none→l=0:=fun e=>by subst e;simp[AAt]at el;exact el.2.symm
 let m:Nat:=if mx.isSome then h.toNat else cap;have hb:(Instr.sliceBounds true xs.length cap (lo.map a.eval) (hi.map a.eval) (mx.map a.eval)).run P w=.ok (l.toNat,h.toNat,m) w:=by
  unfold Instr.sliceBounds;have e4:l≤(h.toNat:Int):=by omega
  have e5:(h:Int)≤cap:=by omega
  have e6:h≤(h.toNat:Int):=by omega
  have e7:(0:Int)≤h:=by omega
  cases mx with
  |none=>
   cases hi with
   |none=>
    have:=eh rfl;subst this;cases lo with
    |none=>have:=e3 rfl;subst this;simp[m]
    |some z=>simp[hlr z rfl,By h0 h1,m]
   |some y=>
    cases lo with
    |none=>have:=e3 rfl;subst this;simp[hhr y rfl,By e7 e5,m]
    |some z=>simp[hhr y rfl,By e7 e5,hlr z rfl,By h0 e4,m]
  |some q=>
   cases hi with
   |none=>exact absurd rfl (em (by simp)).1
   |some y=>
    cases lo with
    |none=>have:=e3 rfl;subst this;simp[hmr q rfl,hhr y rfl,By e7 e5,By e7 e6,m]
    |some z=>simp[hmr q rfl,hhr y rfl,By e7 e5,By e7 e6,hlr z rfl,By h0 e4,m]
 have hmh:h.toNat≤m:=by simp only[m];split<;>omega
 have hsub:=hcd.sub (l:=l.toNat) (h:=h.toNat) (m:=m) (sz:=e.size) (by omega) (by omega) hmh hs;refine⟨.slice (if m=l.toNat then b else b.map (·.add (l.toNat * e.size))) (h.toNat - l.toNat) (m - l.toNat),?_,?_⟩
 ·simp[execOp,ho,Instr.sliceAt,hval,hd,Instr.slice,hb,BQ he]
 ·have hlen:((xs.take h.toNat).drop l.toNat).length=h.toNat - l.toNat:=by simp;omega
  cases hm:mx.isSome with
  |false=>simp only[Bool.false_eq_true,if_false];exact .d _ _ hsub
  |true=>
   simp only[if_true];have e1:m=h.toNat:=by simp[m,hm]
   have:m - l.toNat=h.toNat - l.toNat:=by rw[e1]
   rw[this]at hsub⊢;have:=CV.full (S:=S) _ _ (by rw[hlen];exact hsub);rwa [hlen]at this
theorem M6{T E:TypeId}{x y:Operand}{kx ky:IntKind}{m:Nat}{t e:TI}{z:Value}(ho:o.op=.makeSlice T x y)(hx:need (ev tm x))(hy:need (ev tm y))
  (ex:strip (ev tm x)=.d (.int kx m)) (ey:strip (ev tm y)=.d (.int ky m)) (hT:ti P T=some t) (hk:t.kind=.slice E) (he:ti P E=some e) (hz:e.zero=some z) (hzs:z.cells.size=e.size)
  (hzo:(Ar (cst z)||AAV (cst z))=true) (hb:e.bytes≤65536) (hm:m≤2 ^ 30):
  Bv P n o tm S (.row S.length m) (S++[.row true e.size (List.replicate m (cst z))]):=.val fun G w a st=>by
 have h1:=Bg st hx ex;have h2:=Bg st hy ey;obtain⟨i1,d1,u1,u2,_,_,_,u3⟩:=GA hT;have hdE:d1=.slice E:=by rw[hk]at u3;cases d1<;>simp[tk]at u3⊢;exact u3
 subst hdE;obtain⟨i2,d2,v1,v2,v3,v4,v5,v6⟩:=GA he;have hm64:(m:Int)≤9223372036854775807:=by omega
 have hbm:(i2.bytes:Int) * (m:Int)≤281474976710656:=by
  have h:e.bytes * m≤65536 * 2 ^ 30:=Nat.mul_le_mul hb hm;rw[v4];have:((e.bytes * m:Nat):Int)≤281474976710656:=by omega
  rwa [Int.natCast_mul]at this
 have hrun:=run_make (P:=P) w T E i2 z u2 v1 (v5.trans hz) kx ky m m (by omega) (Int.le_refl _) hbm hm64;simp only[Int.toNat_natCast,v3]at hrun;obtain⟨r1,r2,r3⟩:=st.rel.add m (.row true e.size (List.replicate m (cst z))) (.cells (madeCells z.cells (m * e.size)) E (0,0)) (fun L=>by
  have hv:(G.at S.length w.heap.size m none).BB S.length=none:=by simp[Gh.at]
  have hbk:(G.at S.length w.heap.size m none).BZ S.length=w.heap.size:=by simp[Gh.at]
  have hcp:(G.at S.length w.heap.size m none).cap S.length=(m,0):=by simp[Gh.at]
  simp only[OK,hv,hbk,hcp];refine⟨_,E,C0,by rw[size_madeCells,Nat.zero_add];exact Nat.le_refl _,by simp,by simp[maxLen];omega,fun i hi=>?_⟩;have hi:i<m:=by simpa using hi
  have hcv:=Fo (G.at S.length w.heap.size m none) (S++[.row true e.size (List.replicate m (cst z))]) (BS w (.cells (madeCells z.cells (m * e.size)) E (0,0))) z;obtain⟨c1,c2,_⟩:=hcv.cells (by simpa using hzo);refine⟨z,by simpa using hcv,hzs,fun x hx=>?_,fun j hj=>?_⟩
  ·obtain⟨k,hk,rfl⟩:=Array.mem_iff_getElem.1 hx;exact c2 k hk
  ·have hlt:=D0 hi hj;have hmod:(i * e.size+j) % z.cells.size=j:=by rw[hzs,Nat.mul_comm,Nat.mul_add_mod];exact Nat.mod_eq_of_lt hj
   have hj':j<z.cells.size:=by omega
   simp[madeCells,hlt,hmod,hj'])
 refine⟨.slice (some ⟨w.heap.size,0,none⟩) m m,_,_,?_,?_,r1,r2,r3⟩
 ·simp[execOp,ho,h1,h2,hrun];rfl
 ·refine .row _ _ _ rfl (by simp) fun m' hm'=>?_;have:m'=m:=by simpa[lenOf]using hm'.symm
  subst this;exact⟨Nat.le_refl _,fun _=>by simp[Gh.AAO,Gh.at]⟩
theorem Uq{T:TypeId}{x y:Operand}{s:ByteArray}{k:IntKind}{i:Int}{t:TI}(ho:o.op=.index T x y)(hx:need (ev tm x))(hy:need (ev tm y))(ex:strip (ev tm x)=.d (.str s))
  (ey:strip (ev tm y)=.d (.int k i)) (ht:ti P T=some t) (hk:t.kind=.str) (h0:0≤i) (h1:i<s.size):Bv P n o tm S (.d (.int .u8 (s.get! i.toNat).toNat)) S:=.pure fun G w a st=>by
 have hv:=(BH st x).strip hx;rw[ex]at hv;have hi:=Bg st hy ey;obtain⟨d,hd,hd'⟩:=Ai ht w;have hdE:d=.string:=by rw[hk]at hd';cases d<;>simp[tk]at hd'⊢
 subst hdE;have hlt:i.toNat<s.size:=by omega
 refine⟨.int .u8 (s.get! i.toNat).toNat,?_,.d _ _ (.int _ _ (by have:=UInt8.toNat_lt (s.get! i.toNat);simp[rng];omega))⟩;have hg:s[i.toNat]?=some (s.get! i.toNat):=by
  simp[ByteArray.get!,getElem?_pos,hlt];rfl
 simp[execOp,ho,Instr.index,hv.str.1,hi,asIntOf,hd,h0,hg]
theorem YY{c:Call}{x y:Operand}{k:IntKind}{i j:Int}(ho:o.op=.call c)(hc:c.callee=.builtin .min)(hargs:c.args=#[x,y])(hx:need (ev tm x))(hy:need (ev tm y))
  (ex:strip (ev tm x)=.d (.int k i)) (ey:strip (ev tm y)=.d (.int k j)):Bv P n o tm S (.d (.int k (if j<i then j else i))) S:=.pure fun G w a st=>by
 have h1:=Bg st hx ex;have h2:=Bg st hy ey;have r1:=EX st hx ex;have r2:=EX st hy ey;exact⟨_,by simp[execOp,ho,resolve,hc,hargs,invoke,builtin,Builtin.min_,h1,h2,Builtin.min2],.d _ _ (.int _ _ (by split<;>assumption))⟩
theorem Ye{c:Call}{x y:Operand}{k:IntKind}{i j:Int}(ho:o.op=.call c)(hc:c.callee=.builtin .max)(hargs:c.args=#[x,y])(hx:need (ev tm x))(hy:need (ev tm y))
  (ex:strip (ev tm x)=.d (.int k i)) (ey:strip (ev tm y)=.d (.int k j)):Bv P n o tm S (.d (.int k (if j>i then j else i))) S:=.pure fun G w a st=>by
 have h1:=Bg st hx ex;have h2:=Bg st hy ey;have r1:=EX st hx ex;have r2:=EX st hy ey;exact⟨_,by simp[execOp,ho,resolve,hc,hargs,invoke,builtin,Builtin.max_,h1,h2,Builtin.max2],.d _ _ (.int _ _ (by split<;>assumption))⟩
theorem Xw{c:Call}{x y z:Operand}{k:IntKind}{i j l:Int}(ho:o.op=.call c)(hc:c.callee=.builtin .max)(hargs:c.args=#[x,y,z])(hx:need (ev tm x))(hy:need (ev tm y))(hz:need (ev tm z))
  (ex:strip (ev tm x)=.d (.int k i)) (ey:strip (ev tm y)=.d (.int k j)) (ez:strip (ev tm z)=.d (.int k l)):
  Bv P n o tm S (.d (.int k (if l>(if j>i then j else i)then l else(if j>i then j else i)))) S:=.pure fun G w a st=>by
 have h1:=Bg st hx ex;have h2:=Bg st hy ey;have h3:=Bg st hz ez;have r1:=EX st hx ex;have r2:=EX st hy ey;have r3:=EX st hz ez;exact⟨_,by simp[execOp,ho,resolve,hc,hargs,invoke,builtin,Builtin.max_,h1,h2,h3,Builtin.max2],.d _ _ (.int _ _ (by split<;>(try split)<;>assumption))⟩
theorem Xz{c:Call}{x y z:Operand}{k:IntKind}{i j l:Int}(ho:o.op=.call c)(hc:c.callee=.builtin .min)(hargs:c.args=#[x,y,z])(hx:need (ev tm x))(hy:need (ev tm y))(hz:need (ev tm z))
  (ex:strip (ev tm x)=.d (.int k i)) (ey:strip (ev tm y)=.d (.int k j)) (ez:strip (ev tm z)=.d (.int k l)):
  Bv P n o tm S (.d (.int k (if l<(if j<i then j else i)then l else(if j<i then j else i)))) S:=.pure fun G w a st=>by
 have h1:=Bg st hx ex;have h2:=Bg st hy ey;have h3:=Bg st hz ez;have r1:=EX st hx ex;have r2:=EX st hy ey;have r3:=EX st hz ez;exact⟨_,by simp[execOp,ho,resolve,hc,hargs,invoke,builtin,Builtin.min_,h1,h2,h3,Builtin.min2],.d _ _ (.int _ _ (by split<;>(try split)<;>assumption))⟩
theorem O8{T:TypeId}{x:Operand}{c:Call}{xs:List D}{t:TI}{E:TypeId}(ho:o.op=.call c)(hc:c.callee=.builtin .cap)(hargs:c.args=#[x])(hT:c.argTypes=#[T])
  (hx:need (ev tm x)) (ex:strip (ev tm x)=.full xs) (ht:ti P T=some t) (hk:t.kind=.slice E):Bv P n o tm S (.d (.int .i64 xs.length)) S:=.pure fun G w a st=>by
 have h1:=(BH st x).strip hx;rw[ex]at h1;obtain⟨d,hd,hd'⟩:=Ai ht w;have hdE:d=.slice E:=by rw[hk]at hd';cases d<;>simp[tk]at hd'⊢;exact hd'
 subst hdE;generalize hv:a.eval x=X at h1;cases h1 with
 |full _ a0 h=>
  refine⟨.int .i64 xs.length,?_,.d _ _ (.int _ _ (IF h.len))⟩;simp[execOp,ho,resolve,hc,hargs,hT,hv,invoke,builtin,Builtin.cap_,hd,goInt]
end
inductive CK where
 |bool|int (q:IntKind)|str
 deriving DecidableEq
inductive KK where
 |one (c:CK)|cells (cs:List CK)
def AAP:CK→D→Bool
 |.bool,.bool _=>true
 |.int q,.int q' _=>q==q'
 |.str,.str _=>true
 |_,_=>false
def AAU:List CK→List D→Bool
 |[],[]=>true
 |c::cs,d::ds=>AAP c d&&AAU cs ds
 |_,_=>false
def AAK:KK→D→Bool
 |.one c,d=>AAP c d
 |.cells cs,.agg ds=>AAU cs ds
 |_,_=>false
def AA4:D→Value
 |.bool b=>.bool b
 |.int k n=>.int k n
 |.str s=>.string s
 |_=>undef
def ACL:D→Value
 |.agg ds=>.agg (ds.map AA4).toArray
 |d=>AA4 d
def GY:D→Lit
 |.bool b=>.bool b
 |.int k n=>.int k n
 |.str s=>.string s.data.toList
 |_=>.bool false
theorem KW{c:CK}{I:Nat→Prop}{w:World}{d:D}{v:Value}(hg:AAP c d=true)(h:CD I w d v):v=AA4 d:=by
 cases h<;>first|rfl|(cases c<;>simp[AAP]at hg)
theorem Hx:∀{cs:List CK} {ds:List D},AAU cs ds=true→cs.length=ds.length∧∀i (h:i<cs.length) (h':i<ds.length),AAP cs[i] ds[i]=true
 |[],[],_=>⟨rfl,fun i h=>by simp at h⟩
 |[],_::_,h=>by simp[AAU]at h
 |_::_,[],h=>by simp[AAU]at h
 |c::cs,d::ds,h=>by
  simp only[AAU,Bool.and_eq_true]at h;obtain⟨h1,h2⟩:=Hx h.2;refine⟨by simp[h1],fun i hi hi'=>?_⟩;cases i with
  |zero=>exact h.1
  |succ i=>simpa using h2 i (by simpa using hi) (by simpa using hi')
theorem GB{kk:KK}{I:Nat→Prop}{w:World}{d:D}{v:Value}(hg:AAK kk d=true)(h:CD I w d v):v=ACL d:=by
 cases kk with
 |one c=>
  have:=KW hg h;rw[this];cases d<;>first|rfl|(cases c<;>simp[AAK,AAP]at hg)
 |cells cs=>
  cases h with
  |agg ds vs hs h ho=>
   obtain⟨h1,h2⟩:=Hx hg;simp only[ACL,Value.agg.injEq];apply Array.ext (by simp[hs]);intro i h3 h4;have hi:i<ds.length:=by omega
   simpa using KW (h2 i (by omega) hi) (h i hi)
  |_=>simp[AAK]at hg
theorem Lr{c:CK}{a b:D}(ha:AAP c a=true)(hb:AAP c b=true):deq a b=true↔AA4 a=AA4 b:=by
 cases c<;>cases a<;>simp[AAP]at ha<;>cases b<;>simp[AAP]at hb
 ·simp[deq,AA4]
 ·subst ha;subst hb;simp[deq,AA4]
 ·simp[deq,AA4]
theorem R4{c:CK}{a b:D}(ha:AAP c a=true)(hb:AAP c b=true):GY a=GY b↔AA4 a=AA4 b:=by
 cases c<;>cases a<;>simp[AAP]at ha<;>cases b<;>simp[AAP]at hb
 ·simp[GY,AA4]
 ·subst ha;subst hb;simp[GY,AA4]
 ·rename_i x y;simp only[GY,AA4,Lit.string.injEq,Value.string.injEq];constructor
  ·intro h;cases x;cases y;simp only[ByteArray.mk.injEq];exact Array.ext' h
  ·rintro rfl;rfl
theorem Hn:∀{cs:List CK} {as bs:List D},AAU cs as=true→AAU cs bs=true→(AAk as bs=true↔as.map AA4=bs.map AA4)
 |[],[],[],_,_=>by simp[AAk]
 |[],_::_,_,h,_=>by simp[AAU]at h
 |[],[],_::_,_,h=>by simp[AAU]at h
 |_::_,[],_,h,_=>by simp[AAU]at h
 |_::_,_::_,[],_,h=>by simp[AAU]at h
 |c::cs,a::as,b::bs,ha,hb=>by
  simp only[AAU,Bool.and_eq_true]at ha hb;simp only[AAk,Bool.and_eq_true,List.map_cons,List.cons.injEq];rw[Lr ha.1 hb.1,Hn ha.2 hb.2]
theorem Ho:∀{cs:List CK} {as bs:List D},AAU cs as=true→AAU cs bs=true→(as.map GY=bs.map GY↔as.map AA4=bs.map AA4)
 |[],[],[],_,_=>by simp
 |[],_::_,_,h,_=>by simp[AAU]at h
 |[],[],_::_,_,h=>by simp[AAU]at h
 |_::_,[],_,h,_=>by simp[AAU]at h
 |_::_,_::_,[],_,h=>by simp[AAU]at h
 |c::cs,a::as,b::bs,ha,hb=>by
  simp only[AAU,Bool.and_eq_true]at ha hb;simp only[List.map_cons,List.cons.injEq];rw[R4 ha.1 hb.1,Ho ha.2 hb.2]
theorem RU{kk:KK}{a b:D}(ha:AAK kk a=true)(hb:AAK kk b=true):deq a b=true↔ACL a=ACL b:=by
 cases kk with
 |one c=>
  have e:∀{x:D},AAK (.one c) x=true→ACL x=AA4 x:=fun {x} h=>by cases x<;>first|rfl|(cases c<;>simp[AAK,AAP]at h)
  rw[e ha,e hb];exact Lr ha hb
 |cells cs=>
  cases a<;>simp[AAK]at ha;cases b<;>simp[AAK]at hb;simp only[deq,ACL,Value.agg.injEq];rw[Hn ha hb];exact⟨fun h=>by rw[h],fun h=>by simpa using h⟩
structure GD(P:Program)(K:TypeId)(kk:KK):Prop where
 keyed:Maps.Keyed P K
 lit:∀{kd I w v},AAK kk kd=true→CD I w kd v→∃l,keyOf P K v=some l
theorem OI{P:Program}{K:TypeId}{q:IntKind}(h:P.underlying K=some (.int q)):GD P K (.one (.int q)):=
 ⟨Maps.int_keyed h,fun {kd I w v} hg hc=>by
  cases hc<;>simp[AAK,AAP]at hg;subst hg;rename_i n hr;exact⟨_,Maps.keyOf_int_mk h (by rw[PT];exact hr)⟩⟩
theorem N9{P:Program}{K:TypeId}(h:P.underlying K=some .string):GD P K (.one .str):=
 ⟨Maps.string_keyed h,fun {kd I w v} hg hc=>by
  cases hc<;>simp[AAK,AAP]at hg;rename_i s hs;exact⟨.string s.data.toList,by simp[keyOf,h,mapKey,hs]⟩⟩
def basic(P:Program)(t:TypeId):Option CK:=
 match P.underlying t with
 |some .bool=>some .bool
 |some (.int q)=>some (.int q)
 |some .string=>some .str
 |_=>none
def ckF(P:Program):Nat→List Field→Option (List CK)
 |_,[]=>some []
 |k,f::fs=>if f.offset=k∧P.cellsOf f.type=1∧(f.name != "_")=true then
   (match basic P f.type,ckF P (k+1) fs with|some c,some cs=>some (c::cs)|_,_=>none)else none
def ckT(P:Program)(t:TypeId):Option (List CK):=
 if P.keyType t&&P.keyTypeAt 2 t&&P.tiled 2 t&&!P.eqGuardType P.depth t&&decide (0<P.types.size)then
  match P.underlying t with
  |some (.struct fs)=>if P.cellsOf t=fs.size then ckF P 0 fs.toList else none
  |some (.array n e)=>if P.cellsOf t=n∧P.cellsOf e=1 then(basic P e).map fun c=>List.replicate n c else none
  |_=>none
 else none
theorem Kp{P:Program}{t:TypeId}{c:CK}(hb:basic P t=some c){I:Nat→Prop}{w:World}{d:D}{v:Value}(hg:AAP c d=true)(h:CD I w d v)(m:Nat):P.keyLits (m+1) t [v]=some [GY d]:=by
 unfold basic at hb;unfold Program.keyLits;cases h with
 |bool b=>split at hb<;>cases hb<;>simp[AAP]at hg;rename_i hu;simp[hu,GY]
 |int k n hr=>split at hb<;>cases hb<;>simp[AAP]at hg;rename_i hu;subst hg;simp[hu,GY,PT,hr]
 |str s hs=>split at hb<;>cases hb<;>simp[AAP]at hg;rename_i hu;simp[hu,GY,hs]
 |_=>split at hb<;>cases hb<;>simp[AAP]at hg
theorem Nd{P:Program}{I:Nat→Prop}{w:World}{m:Nat}(cs:List Value):∀(fs:List Field) (k:Nat) (cks:List CK) (ds:List D),ckF P k fs=some cks→AAU cks ds=true→k+fs.length=cs.length→(∀i (h:i<ds.length) (h':k+i<cs.length),CD I w ds[i] cs[k+i])→(fs.mapM fun f=>P.keyLits (m+1) f.type ((cs.drop f.offset).take (P.cellsOf f.type)))=some (ds.map fun d=>[GY d])
 |[],k,cks,ds,h,hg,_,_=>by
  simp only[ckF,Option.some.injEq]at h;subst h;cases ds with
  |nil=>rfl
  |cons d ds=>simp[AAU]at hg
 |f::fs,k,cks,ds,h,hg,hl,hc=>by
  simp only[ckF]at h;split at h
  ·rename_i hf;obtain⟨h1,h2,h3⟩:=hf;split at h
   ·rename_i c cs' hb hcs;cases h;cases ds with
    |nil=>simp[AAU]at hg
    |cons d ds=>
     simp only[AAU,Bool.and_eq_true]at hg;simp only[List.length_cons]at hl;have hk:k<cs.length:=by omega
     have e1:(cs.drop f.offset).take (P.cellsOf f.type)=[cs[k]]:=by
      rw[h1,h2,List.drop_eq_getElem_cons hk];rfl
     have hcd:=hc 0 (by simp) (by omega);have e2:=Kp hb hg.1 hcd m;have e3:=Nd (m:=m) cs fs (k+1) cs' ds hcs hg.2 (by omega) (fun i hi hi'=>by
      have:=hc (i+1) (by simpa using hi) (by omega);simpa[Nat.add_assoc,Nat.add_comm 1 i]using this)
     simp only[Nat.add_zero]at e2;simp[List.mapM_cons,e1,e2,e3]
   ·cases h
  ·cases h
theorem K3{n:Nat}{c:CK}:∀{ds:List D},AAU (List.replicate n c) ds=true→ds.length=n∧∀d∈ds,AAP c d=true:=by
 induction n with
 |zero=>intro ds h;cases ds<;>simp[AAU]at h⊢
 |succ n ih=>
  intro ds h;cases ds with
  |nil=>simp[List.replicate_succ,AAU]at h
  |cons d ds=>
   simp only[List.replicate_succ,AAU,Bool.and_eq_true]at h;obtain⟨h1,h2⟩:=ih h.2;refine⟨by simp[h1],fun x hx=>?_⟩;cases hx with
   |head=>exact h.1
   |tail _ hx=>exact h2 x hx
theorem JS{α β:Type}(f:α→β)(l:List α):(l.map fun d=>[f d]).flatten=l.map f:=by
 induction l with
 |nil=>rfl
 |cons a l ih=>simp[ih]
theorem mapM_some{α β:Type}(f:α→Option β)(g:α→β)(l:List α)(h:∀a∈l,f a=some (g a)):l.mapM f=some (l.map g):=by
 induction l with
 |nil=>rfl
 |cons a l ih=>simp[List.mapM_cons,h a (by simp),ih fun b hb=>h b (by simp[hb])]
theorem ACa{P:Program}{t:TypeId}{cks:List CK}(h:ckT P t=some cks):P.keyTypeAt 2 t=true∧P.tiled 2 t=true∧P.eqGuardType P.depth t=false∧(match P.underlying t with|some (.array _ _)|some (.struct _)=>true|_=>false)=true∧∀{I:Nat→Prop} {w:World} {ds:List D} {v:Value},AAU cks ds=true→CD I w (.agg ds) v→keyOf P t v=some (.string (keyBytes (ds.map GY))):=by
 unfold ckT at h;split at h
 ·rename_i hc;simp only[Bool.and_eq_true,Bool.not_eq_true']at hc;obtain⟨⟨⟨⟨h1,h2⟩,h3⟩,h4⟩,h5⟩:=hc;have hpos:0<P.types.size:=by simpa using h5
  refine⟨h2,h3,h4,?_⟩;split at h
  ·rename_i fs hu;refine⟨by rw[hu],fun {I w ds v} hg hcd=>?_⟩;split at h
   ·rename_i hsz;cases hcd with
    |agg ds vs hs hcd ho=>
     have hlen:∀(k:Nat) (fs:List Field) (cks:List CK),ckF P k fs=some cks→cks.length=fs.length:=by
      intro k fs;induction fs generalizing k with
      |nil=>intro cks h;simp[ckF]at h;subst h;rfl
      |cons f fs ih=>
       intro cks h;simp only[ckF]at h;split at h
       ·split at h
        ·rename_i c cs' hb hcs;cases h;simp[ih _ _ hcs]
        ·cases h
       ·cases h
     have hl:=hlen 0 fs.toList cks h;have hl2:=(Hx hg).1;have hnames:∀(k:Nat) (fs:List Field) (cks:List CK),ckF P k fs=some cks→∀f∈fs,(f.name != "_")=true:=by
      intro k fs;induction fs generalizing k with
      |nil=>intro cks _ f hf;cases hf
      |cons f fs ih=>
       intro cks h g hg;simp only[ckF]at h;split at h
       ·rename_i hf;split at h
        ·rename_i c cs' hb hcs;cases hg with
         |head=>exact hf.2.2
         |tail _ hg=>exact ih _ _ hcs g hg
        ·cases h
       ·cases h
     have e:=Nd (m:=P.types.size - 1) (I:=I) (w:=w) vs.toList fs.toList 0 cks ds h hg (by simp at hl⊢;omega) (fun i hi hi'=>by simpa using hcd i hi);have hts:P.types.size - 1+1=P.types.size:=by omega
     rw[hts]at e;have hcells:(Value.agg vs).cells=vs:=rfl;have hcs:vs.toList.length=P.cellsOf t:=by rw[hsz];simp at hl⊢;omega
     unfold keyOf;have hform:(Value.agg vs).formed P t=true:=by simp[Value.formed,hu,hsz];simp at hl;omega
     simp only[hu,h1,hform,Bool.and_true,if_true,hcells];unfold Program.keyLits;simp only[hu,hcs];have hn2:fs.all (fun f=>f.name != "_")=true:=by
      rw[Array.all_eq_true'];intro f hf;exact hnames 0 fs.toList cks h f (by simpa using hf)
     rw[if_pos ⟨trivial,hn2⟩,e];simp[JS]
   ·cases h
  ·rename_i n e hu;refine⟨by rw[hu],fun {I w ds v} hg hcd=>?_⟩;split at h
   ·rename_i hsz;obtain⟨hsz,hse⟩:=hsz;simp only[Option.map_eq_some_iff]at h;obtain⟨c,hb,rfl⟩:=h;obtain⟨hl,hall⟩:=K3 hg;cases hcd with
    |agg ds vs hs hcd ho=>
     have hts:∃m,P.types.size=m+1:=⟨P.types.size - 1,by omega⟩;obtain⟨m,hm⟩:=hts;have hcs:vs.toList.length=P.cellsOf t:=by rw[hsz];simp;omega
     have hform:(Value.agg vs).formed P t=true:=by simp[Value.formed,hu,hsz];omega
     unfold keyOf;simp only[hu,h1,hform,Bool.and_true,if_true,Value.cells];unfold Program.keyLits;simp only[hu,hcs,if_true];have e:=mapM_some (fun i=>P.keyLits P.types.size e ((vs.toList.drop (i * P.cellsOf e)).take (P.cellsOf e))) (fun i=>[GY (ds.getD i (.bool false))]) (List.range n) (fun i hi=>by
      have hi:i<n:=by simpa using hi
      have hi2:i<vs.toList.length:=by simp;omega
      rw[hse,Nat.mul_one,List.drop_eq_getElem_cons hi2,hm];have hgd:ds.getD i (.bool false)=ds[i]'(by omega):=by simp[List.getD,show i<ds.length by omega]
      rw[hgd];exact Kp hb (hall _ (List.getElem_mem _)) (by simpa using hcd i (by omega)) m)
     rw[e];have:(List.range n).map (fun i=>GY (ds.getD i (.bool false)))=ds.map GY:=by
      apply List.ext_getElem (by simp[hl]);intro i g1 g2;have:i<ds.length:=by simpa using g2
      simp[List.getD,this]
     simp only[Option.map_some,JS,this]
   ·cases h
  ·cases h
 ·cases h
theorem LJ{P:Program}{K:TypeId}{cks:List CK}(h:ckT P K=some cks):GD P K (.cells cks):=by
 obtain⟨h1,h2,h3,h4,h5⟩:=ACa h;refine⟨Maps.Keyed.of_law (deep_law (m:=2) (by decide) h1 h2 h4),fun {kd I w v} hg hc=>?_⟩;cases kd<;>simp[AAK]at hg;exact⟨_,h5 hg hc⟩
theorem MX{P:Program}{T:TypeId}{cks:List CK}(h:ckT P T=some cks){I:Nat→Prop}{w:World}{as bs:List D}{u v:Value}(ha:AAU cks as=true)(hb:AAU cks bs=true)
  (hu:CD I w (.agg as) u) (hv:CD I w (.agg bs) v):(Op.equal T u v).run P w=.ok (AAk as bs) w:=by
 obtain⟨h1,h2,h3,h4,h5⟩:=ACa h;obtain⟨r,hr,hiff⟩:=run_equal_deep w (m:=2) (by decide) h1 h4 (h5 ha hu) (h5 hb hv);rw[hr];congr 1;have hl:keyOf P T u=keyOf P T v→as.map GY=bs.map GY:=fun e=>by
  have hk1:=h5 ha hu;have hk2:=h5 hb hv;obtain⟨xs,L1,e1,g1,g2⟩:=keyOf_top h4 hk1;have huv:u=v:=keyOf_inj_deep h2 h4 hk1 (by rw[←e];exact hk1);have k1:u=ACL (.agg as):=GB (kk:=.cells cks) ha hu;have k2:v=ACL (.agg bs):=GB (kk:=.cells cks) hb hv;rw[k1,k2]at huv;have:as.map AA4=bs.map AA4:=by simpa[ACL]using huv
  exact(Ho ha hb).2 this
 have:(r=true↔AAk as bs=true):=by
  rw[hiff,Hn ha hb,←Ho ha hb];constructor
  ·intro e;exact hl (by rw[h5 ha hu,h5 hb hv,e])
  ·intro e;rw[e]
 cases r<;>cases hd:AAk as bs<;>simp_all
section
variable {P:Program} {n:Nat} {o:Oper} {tm:Tm} {S S':Sg} {v:V}
def A4(es:List (D×V))(k:D):Option V:=(es.find? fun p=>deq p.1 k).map (·.2)
def DU(es:List (D×V))(k:D)(x:V):List (D×V):=
 if(A4 es k).isSome then es.map fun p=>if deq p.1 k then(p.1,x)else p else es++[(k,x)]
theorem PC{T:TypeId}(ho:o.op=.makeMap T none):Bv P n o tm S (.map S.length) (S++[.map []]):=.val fun G w a st=>by
 obtain⟨r1,r2,r3⟩:=st.rel.add 0 (.map []) (.map #[] 0) (fun L=>by
  simp only[OK];exact⟨#[],0,by simpa[Gh.at]using C0,rfl,rfl,fun i hi=>by simp at hi⟩)
 refine⟨.map (some w.heap.size),_,_,?_,?_,r1,r2,r3⟩
 ·simp[execOp,ho,Instr.makeMap];rfl
 ·exact .map _ _ rfl (by simp) fun _=>by simp[Gh.at]
theorem Qd{G:Gh}{w:World}(R:Rel P G S w){K:TypeId}{kk:KK}(F:GD P K kk){r:Nat}{es:List (D×V)}(hr:S[r]?=some (.map es))(hes:∀p∈es,AAK kk p.1=true)
  {kd:D} {kv:Value} (hk:CD G.I w kd kv) (hg:AAK kk kd=true):
  ∃ents clock,w.heap[G.BZ r]?=some (.map ents clock)∧ents.size=es.length∧(∀w' em,(Instr.checkKey em 10000 K kv).run P w'=.ok () w')∧(∀w',(Instr.keyThatStays kv kv).run P w'=.ok kv w')∧((A4 es kd=none∧(∀e∈ents.toList,e.key≠kv)∧∀w',(Instr.findKey K kv ents.toList).run P w'=.ok none w')∨∃j e,∃hj:j<es.length,ents[j]?=some e∧e.key=kv∧A4 es kd=some es[j].2∧CV G S w es[j].2 e.val∧(∀w',(Instr.findKey K kv ents.toList).run P w'=.ok (some (j,e.val)) w')∧∀i (h:i<es.length),deq es[i].1 kd=true↔i=j):=by
 have hob:=R.CT r _ hr;simp only[OK]at hob;obtain⟨ents,clock,h1,h2,_,h3⟩:=hob;obtain⟨l,hl⟩:=F.lit hg hk;have hkv:=GB hg hk;have hall:∀i (h:i<es.length),∃e,ents[i]?=some e∧e.key=ACL es[i].1∧AAK kk es[i].1=true∧CV G S w es[i].2 e.val∧(∃l,keyOf P K e.key=some l)∧∀j f,j<i→ents[j]?=some f→f.key≠e.key:=fun i hi=>by
  obtain⟨e,e1,e2,e3,e4,e5⟩:=h3 i hi;have hgi:=hes _ (List.getElem_mem hi);exact⟨e,e1,GB hgi e2,hgi,e3,F.lit hgi e2,fun j f hj hf=>(e5 j f hj hf).2⟩
 have hlits:∀e∈ents.toList,∃l,keyOf P K e.key=some l:=fun e he=>by
  obtain⟨i,hi,rfl⟩:=List.mem_iff_getElem.1 he;have hi':i<es.length:=by rw[←h2];simpa using hi
  obtain⟨e,e1,_,_,_,e5,_⟩:=hall i hi';have:ents.toList[i]=e:=by
   rw[Array.getElem?_eq_getElem (by omega)]at e1;simpa using e1
  rw[this];exact e5
 refine⟨ents,clock,h1,h2,fun w' em=>F.keyed.check w' em hl,fun w'=>F.keyed.stays w' hl,?_⟩;have hdeq:∀i (h:i<es.length) e,ents[i]?=some e→(deq es[i].1 kd=true↔e.key=kv):=fun i hi e he=>by
  obtain⟨e',e1,e2,e3,_⟩:=hall i hi;rw[he]at e1;cases e1;rw[RU e3 hg,←e2,←hkv]
 by_cases hex:∃j,∃hj:j<es.length,deq es[j].1 kd=true
 ·obtain⟨j,hj,hd⟩:=hex;obtain⟨e,e1,e2,e3,e4,e5,e6⟩:=hall j hj;have hkey:e.key=kv:=(hdeq j hj e e1).1 hd;have huniq:∀i (h:i<es.length),deq es[i].1 kd=true↔i=j:=fun i hi=>by
   constructor
   ·intro hi2;obtain⟨f,f1,f2,f3,f4,f5,f6⟩:=hall i hi;have hkf:f.key=kv:=(hdeq i hi f f1).1 hi2;rcases Nat.lt_trichotomy i j with h|h|h
    ·exact absurd (hkf.trans hkey.symm) (e6 i f h f1)
    ·exact h
    ·exact absurd (hkey.trans hkf.symm) (f6 j e h e1)
   ·rintro rfl;exact hd
  have hfind:A4 es kd=some es[j].2:=by
   unfold A4;have:es.find? (fun p=>deq p.1 kd)=some es[j]:=by
    rw[List.find?_eq_some_iff_getElem];refine⟨hd,j,hj,rfl,fun i hi=>?_⟩;have:=huniq i (by omega);simp only[Bool.not_eq_true'];cases hx:deq es[i].1 kd with
    |false=>rfl
    |true=>have:=this.1 hx;omega
   rw[this];rfl
  refine .inr ⟨j,e,hj,e1,hkey,hfind,e4,fun w'=>?_,huniq⟩;rcases F.keyed.find w' hl ents.toList hlits with⟨_,g2⟩|⟨i,f,g1,g2,g3⟩
  ·exact absurd hkey (g2 e (List.mem_of_getElem? (by simpa using e1)))
  ·have hf:ents[i]?=some f:=by simpa using g2
   have hi:i<es.length:=by rw[←h2];exact(Array.getElem?_eq_some_iff.1 hf).1
   have:i=j:=(huniq i hi).1 ((hdeq i hi f hf).2 g3);subst this;rw[e1]at hf;cases hf;exact g1
 ·have hno:∀e∈ents.toList,e.key≠kv:=fun e he hkey=>by
   obtain⟨i,hi,rfl⟩:=List.mem_iff_getElem.1 he;have hi':i<es.length:=by rw[←h2];simpa using hi
   exact hex ⟨i,hi',(hdeq i hi' _ (by rw[Array.getElem?_eq_getElem (by omega)];simp)).2 hkey⟩
  refine .inl ⟨?_,hno,fun w'=>?_⟩
  ·unfold A4;have:es.find? (fun p=>deq p.1 kd)=none:=by
    rw[List.find?_eq_none];intro p hp hd;obtain⟨i,hi,rfl⟩:=List.mem_iff_getElem.1 hp;exact hex ⟨i,hi,hd⟩
   rw[this];rfl
  ·rcases F.keyed.find w' hl ents.toList hlits with⟨g1,_⟩|⟨i,f,g1,g2,g3⟩
   ·exact g1
   ·exact absurd g3 (hno f (List.mem_of_getElem? g2))
def N8(es:List (D×V))(k:D)(z:V)(ok:Bool):V:=
 if ok then .Bd [(A4 es k).getD z,.d (.bool (A4 es k).isSome)]else(A4 es k).getD z
theorem Sm{T K E:TypeId}{x y:Operand}{ok:Bool}{r:Nat}{es:List (D×V)}{kd:D}{kk:KK}{t e:TI}{z:Value}(ho:o.op=.lookup T x y ok)(hT:ti P T=some t)(hk:t.kind=.map K E)
  (he:ti P E=some e) (hz:e.zero=some z) (F:GD P K kk) (hx:need (ev tm x)) (ex:strip (ev tm x)=.map r) (hr:S[r]?=some (.map es)) (hes:∀p∈es,AAK kk p.1=true)
  (hy:need (ev tm y)) (ey:asD S (strip (ev tm y))=some kd) (hg:AAK kk kd=true):Bv P n o tm S (N8 es kd (cst z) ok) S:=.pure fun G w a st=>by
 have h1:=(BH st x).strip hx;rw[ex]at h1;have h2:=((BH st y).strip hy).asD st.rel ey;have hmv:a.eval x=.map (some (G.BZ r)):=by cases h1 with|map _ _ _ _ h=>exact h (by simp[AAM,hr])
 obtain⟨d,hd,hd'⟩:=Ai hT w;have hdE:d=.map K E:=by rw[hk]at hd';cases d<;>simp[tk]at hd'⊢;exact hd'
 subst hdE;obtain⟨ents,clock,f1,f2,f3,f4,f5⟩:=Qd st.rel F hr hes h2 hg;have hzr:=DF he w hz;have hgo:=MapKept.run_getObj_map (P:=P) f1;rcases f5 with⟨g1,g2,g3⟩|⟨j,e',hj,g1,g2,g3,g4,g5,g6⟩
 ·refine⟨if ok then .tuple #[z,.bool false]else z,?_,?_⟩
  ·cases ok<;>simp[execOp,ho,Instr.lookup,hd,hmv,hgo,f3,g3,hzr]
  ·unfold N8;rw[g1];cases ok
   ·exact Fo _ _ _ _
   ·refine .Bd _ _ rfl fun i hi=>?_;match i,hi with
    |0,_=>exact Fo _ _ _ _
    |1,_=>exact .d _ _ (.bool _)
 ·refine⟨if ok then .tuple #[e'.val,.bool true]else e'.val,?_,?_⟩
  ·cases ok<;>simp[execOp,ho,Instr.lookup,hd,hmv,hgo,f3,g5]
  ·unfold N8;rw[g3];cases ok
   ·exact g4
   ·refine .Bd _ _ rfl fun i hi=>?_;match i,hi with
    |0,_=>exact g4
    |1,_=>exact .d _ _ (.bool _)
theorem IG{T K E:TypeId}{x y z:Operand}{r:Nat}{es:List (D×V)}{kd:D}{kk:KK}{t:TI}(ho:o.op=.mapUpdate T x y z∨o.op=.insert T x y z)(hT:ti P T=some t)(hk:t.kind=.map K E)
  (F:GD P K kk) (hx:need (ev tm x)) (ex:strip (ev tm x)=.map r) (hr:S[r]?=some (.map es)) (hes:∀p∈es,AAK kk p.1=true)
  (hy:need (ev tm y)) (ey:asD S (strip (ev tm y))=some kd) (hg:AAK kk kd=true) (hz:need (ev tm z)):Bv P n o tm S .any (S.set r (.map (DU es kd (strip (ev tm z))))):=.skip fun G w a st=>by
 have h1:=(BH st x).strip hx;rw[ex]at h1;have h2:=((BH st y).strip hy).asD st.rel ey;have h3:=(BH st z).strip hz;have hmv:a.eval x=.map (some (G.BZ r)):=by cases h1 with|map _ _ _ _ h=>exact h (by simp[AAM,hr])
 obtain⟨d,hd,hd'⟩:=Ai hT w;have hdE:d=.map K E:=by rw[hk]at hd';cases d<;>simp[tk]at hd'⊢;exact hd'
 subst hdE;have hob:=st.rel.CT r _ hr;simp only[OK]at hob;obtain⟨ents0,clock0,q1,q2,qk,q3⟩:=hob;obtain⟨ents,clock,f1,f2,f3,f4,f5⟩:=Qd st.rel F hr hes h2 hg;rw[f1]at q1;simp only[Option.some.injEq,Obj.map.injEq]at q1;obtain⟨rfl,rfl⟩:=q1;have hgo:=MapKept.run_getObj_map (P:=P) f1;have hso:=fun o'=>MapKept.run_setObj_map (P:=P) o' f1;have hrl:=AZ hr;have hat:∀o':O,(S.set r o')[r]?=some o':=fun o'=>by simp[hrl]
 have hexec:(execOp a.eval o).run P w=((Instr.mapUpdate T (a.eval x) (a.eval y) (a.eval z)).run P w).andThen fun _ w'=>.ok .skip w':=by
  rcases ho with ho|ho<;>simp[execOp,ho]
 rcases f5 with⟨g1,g2,g3⟩|⟨j,e',hj,g1,g2,g3,g4,g5,g6⟩
 ·have hput:DU es kd (strip (ev tm z))=es++[(kd,strip (ev tm z))]:=by simp[DU,g1]
  rw[hput];obtain⟨r1,r2,r3⟩:=st.rel.update (o':=.map (es++[(kd,strip (ev tm z))])) (H:=.map (ents.push {key:=a.eval y,val:=a.eval z,born:=clock}) (clock+1)) hr rfl rfl
   (fun n' hn'=>by simp[lenOf,hat]at hn') (fun _=>by simp[AAM,hr]) (fun L=>by
    simp only[OK];refine⟨_,_,Ej (D3 f1),by simp[f2],by simp[qk],fun i hi=>?_⟩;by_cases hi2:i<es.length
    ·obtain⟨e,e1,e2,e3,e4,e5⟩:=q3 i hi2;refine⟨e,by rw[Array.getElem?_push_lt (by omega),←e1,Array.getElem?_eq_getElem (by omega)],?_,?_,e4,fun j f hj hf=>e5 j f hj ?_⟩
     ·rw[List.getElem_append_left hi2];exact e2.mono L.I L.DG
     ·rw[List.getElem_append_left hi2];exact e3.later L
     ·rw[Array.getElem?_push_lt (by omega)]at hf;rw[←hf,Array.getElem?_eq_getElem (by omega)]
    ·have hie:i=es.length:=by simp at hi;omega
     subst hie;refine⟨⟨a.eval y,a.eval z,clock⟩,by rw[←f2];simp,?_,?_,qk,fun j f hj hf=>?_⟩
     ·simpa using h2.mono L.I L.DG
     ·simpa using h3.later L
     ·rw[Array.getElem?_push_lt (by omega)]at hf;simp only[Option.some.injEq]at hf;obtain⟨e,e1,e2,e3,e4,e5⟩:=q3 j (by omega);rw[Array.getElem?_eq_getElem (by omega)]at e1;simp only[Option.some.injEq]at e1;have hfe:f=e:=by rw[←hf,←e1]
      subst hfe;exact⟨by simp only;omega,g2 f (by rw[←hf];simp)⟩)
  refine⟨G,_,?_,r1,r2,r3⟩;rw[hexec];simp[Instr.mapUpdate,hd,hmv,hgo,f3,g3,hso];rfl
 ·have hput:DU es kd (strip (ev tm z))=es.map fun p=>if deq p.1 kd then(p.1,strip (ev tm z))else p:=by simp[DU,g3]
  rw[hput];have hjs:j<ents.size:=by omega
  have hej:ents[j]=e':=by rw[Array.getElem?_eq_getElem hjs]at g1;simpa using g1
  obtain⟨r1,r2,r3⟩:=st.rel.update (o':=.map (es.map fun p=>if deq p.1 kd then(p.1,strip (ev tm z))else p)) (H:=.map (ents.modify j fun e=>{e with key:=a.eval y,val:=a.eval z}) clock) hr rfl rfl
   (fun n' hn'=>by simp[lenOf,hat]at hn') (fun _=>by simp[AAM,hr]) (fun L=>by
    simp only[OK];refine⟨_,_,Ej (D3 f1),by simp[f2],by simpa using qk,fun i hi=>?_⟩;have hi2:i<es.length:=by simpa using hi
    obtain⟨e,e1,e2,e3,e4,e5⟩:=q3 i hi2;have hget:∀k (h:k<ents.size),(ents.modify j fun e=>{e with key:=a.eval y,val:=a.eval z})[k]?=some (if j=k then {ents[k]with key:=a.eval y,val:=a.eval z}else ents[k]):=fun k hk=>by
     rw[Array.getElem?_modify,Array.getElem?_eq_getElem hk];by_cases hjk:j=k<;>simp[hjk]
    have hei:ents[i]'(by omega)=e:=by rw[Array.getElem?_eq_getElem (by omega)]at e1;simpa using e1
    have hold:∀k f,k<i→(ents.modify j fun e=>{e with key:=a.eval y,val:=a.eval z})[k]?=some f→∃f',ents[k]?=some f'∧f.born=f'.born∧f.key=f'.key:=fun k f hk hf=>by
     have hks:k<ents.size:=by omega
     rw[hget k hks]at hf;simp only[Option.some.injEq]at hf;refine⟨ents[k],Array.getElem?_eq_getElem hks,?_⟩;by_cases hjk:j=k
     ·subst hjk;simp only[if_true]at hf;rw[←hf];exact⟨rfl,by rw[hej];exact g2.symm⟩
     ·rw[if_neg hjk]at hf;rw[←hf];exact⟨rfl,rfl⟩
    by_cases hij:j=i
    ·subst hij;have hd':deq es[j].1 kd=true:=(g6 j hj).2 rfl;have hee:e=e':=by rw[←hei,hej]
     subst hee;refine⟨_,(hget j hjs).trans (by rw[if_pos rfl]),?_,?_,?_,fun k f hk hf=>?_⟩
     ·simp only[List.getElem_map,hd',if_true];have h0:=e2.mono L.I L.DG;rw[g2]at h0;exact h0
     ·simp only[List.getElem_map,hd',if_true];exact h3.later L
     ·simp only[hei];exact e4
     ·obtain⟨f',k1,k2,k3⟩:=hold k f hk hf;obtain⟨b1,b2⟩:=e5 k f' hk k1;simp only[hei];rw[k2,k3];exact⟨b1,by rw[←g2];exact b2⟩
    ·have hd':deq es[i].1 kd=false:=by
      cases hx:deq es[i].1 kd with
      |false=>rfl
      |true=>exact absurd ((g6 i hi2).1 hx).symm hij
     refine⟨e,by rw[hget i (by omega),if_neg hij,hei],?_,?_,e4,fun k f hk hf=>?_⟩
     ·simp only[List.getElem_map,hd',Bool.false_eq_true,if_false];exact e2.mono L.I L.DG
     ·simp only[List.getElem_map,hd',Bool.false_eq_true,if_false];exact e3.later L
     ·obtain⟨f',k1,k2,k3⟩:=hold k f hk hf;rw[k2,k3];exact e5 k f' hk k1)
  refine⟨G,_,?_,r1,r2,r3⟩;rw[hexec];have hkey:(ents[j]?.map (·.key)).getD (a.eval y)=a.eval y:=by simp[g1,g2]
  have hkts:=f4 w;simp only[Instr.mapUpdate,Sem.run_bind,hd,hmv,hgo,f3,g5,Result.andThen_ok,hkey,hkts,hso];rfl
theorem Jz{neg:Bool}{T U:TypeId}{x y:Operand}{as bs:List D}{cks:List CK}(ho:o.op=.binOp (if neg then .neq else .eql) T x y U)(hc:ckT P T=some cks)(hx:need (ev tm x))(hy:need (ev tm y))
  (ex:asD S (strip (ev tm x))=some (.agg as)) (ey:asD S (strip (ev tm y))=some (.agg bs)) (ha:AAU cks as=true) (hb:AAU cks bs=true):
  Bv P n o tm S (.d (.bool (AAk as bs !=neg))) S:=.pure fun G w a st=>by
 have h1:=((BH st x).strip hx).asD st.rel ex;have h2:=((BH st y).strip hy).asD st.rel ey;have hr:=MX hc ha hb h1 h2;obtain⟨_,_,hg,_,_⟩:=ACa hc;refine⟨.bool (AAk as bs !=neg),?_,.d _ _ (.bool _)⟩;generalize hX:a.eval x=X at h1 hr;generalize hY:a.eval y=Y at h2 hr;cases h1 with
 |agg _ us hs hd hone=>
  cases h2 with
  |agg _ vs hs' hd' hone'=>
   cases neg<;>simp[execOp,ho,hX,hY,run_eqGuard_agg,hg,binOp,hr]
end
end Go.Koi
