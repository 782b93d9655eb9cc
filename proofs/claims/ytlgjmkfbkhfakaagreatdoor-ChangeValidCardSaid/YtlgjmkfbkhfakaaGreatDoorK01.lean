/- Part 2 of the proof that the law ChangeValid returns true for every input. -/
import Derived.Test.YtlgjmkfbkhfakaaGreatDoorK00
import Derived.Laws.Strings
import Derived.Laws.Small
set_option maxHeartbeats 64000000
set_option maxRecDepth 100000
namespace Go.Koi
def Bv(P:Program)(n:Nat)(o:Oper)(tm:Tm)(S:Sg)(v:V)(S':Sg):Prop:=
 ∀G w a (next:Act→World→Prop) Q,St P n G S w a tm→(∀cv w' G',CV G' S' w' v cv→Rel P G' S' w'→Tr G S w G' S' w'→A9 G S w G' S' w'→next (a.put o.dst cv) w')→o.wp P a w next Q
section
variable {P:Program} {n:Nat} {o:Oper} {tm:Tm} {S S':Sg} {v:V}
theorem Bv.val(h:∀G w a,St P n G S w a tm→∃cv G' w',(execOp a.eval o).run P w=.ok (.value cv) w'∧CV G' S' w' v cv∧Rel P G' S' w'∧Tr G S w G' S' w'∧A9 G S w G' S' w'):
  Bv P n o tm S v S':=fun G w a next Q st k=>by
 obtain⟨cv,G',w',h1,h2,h3,h4,h5⟩:=h G w a st;unfold Oper.wp;rw[h1];exact k cv w' G' h2 h3 h4 h5
theorem Bv.skip(h:∀G w a,St P n G S w a tm→∃G' w',(execOp a.eval o).run P w=.ok .skip w'∧Rel P G' S' w'∧Tr G S w G' S' w'∧A9 G S w G' S' w'):
  Bv P n o tm S .any S':=fun G w a next Q st k=>by
 obtain⟨G',w',h1,h3,h4,h5⟩:=h G w a st;unfold Oper.wp;rw[h1];exact k _ w' G' (.any _) h3 h4 h5
theorem Bv.pure(h:∀G w a,St P n G S w a tm→∃cv,(execOp a.eval o).run P w=.ok (.value cv) w∧CV G S w v cv):
  Bv P n o tm S v S:=.val fun G w a st=>by
 obtain⟨cv,h1,h2⟩:=h G w a st;exact⟨cv,G,w,h1,h2,st.rel,Tr.refl _ _ _,A9.refl _ _ _⟩
theorem YC{x:Operand}(ho:o.op=.move x):Bv P n o tm S (ev tm x) S:=
 .pure fun G w a st=>⟨a.eval x,by simp[execOp,ho],BH st x⟩
theorem Rv{x:Operand}(ho:o.op=.assign x):Bv P n o tm S (ev tm x) S:=
 .pure fun G w a st=>⟨a.eval x,by simp[execOp,ho],BH st x⟩
theorem CV.bool{G:Gh}{w:World}{b:Bool}{c:Value}(h:CV G S w (.d (.bool b)) c):c=.bool b:=by
 cases h with|d _ _ h=>cases h;rfl
theorem CV.int{G:Gh}{w:World}{k:IntKind}{i:Int}{c:Value}(h:CV G S w (.d (.int k i)) c):c=.int k i:=by
 cases h with|d _ _ h=>cases h;rfl
theorem CV.rng{G:Gh}{w:World}{k:IntKind}{i:Int}{c:Value}(h:CV G S w (.d (.int k i)) c):rng k i=true:=by
 cases h with|d _ _ h=>cases h;assumption
theorem Ts{k:IntKind}{a b:Int}(h:rng k a=true):rng k (a.tmod b)=true:=by
 have h1:a.natAbs.mod b.natAbs≤a.natAbs:=Nat.mod_le _ _;have h2:0≤a→0≤a.tmod b∧a.tmod b≤a:=fun h=>by
  refine⟨Int.tmod_nonneg b h,?_⟩;have:=Int.natAbs_tmod a b;have h3:=Int.tmod_nonneg b h;have h4:(a.tmod b).natAbs≤a.natAbs:=by rw[this];exact Nat.mod_le _ _
  omega
 have h3:a≤0→a≤a.tmod b∧a.tmod b≤0:=fun h=>by
  have:=Int.natAbs_tmod a b;have h4:(a.tmod b).natAbs≤a.natAbs:=by rw[this];exact Nat.mod_le _ _
  have h5:(-a).tmod b= -(a.tmod b):=Int.neg_tmod ..;have h6:0≤(-a).tmod b:=Int.tmod_nonneg b (by omega);omega
 rcases Int.le_total 0 a with e|e
 ·have:=h2 e;cases k<;>simp[Koi.rng]at h⊢ <;>omega
 ·have:=h3 e;cases k<;>simp[Koi.rng]at h⊢ <;>omega
theorem Tq{k:IntKind}{a:Int}(m:Nat)(h:rng k a=true):rng k (a.fdiv (2 ^ m))=true:=by
 have hp:(0:Int)<2 ^ m:=Int.pow_pos (by decide);rw[Int.fdiv_eq_ediv_of_nonneg _ (by omega)];have h2:0≤a→0≤a / 2 ^ m∧a / 2 ^ m≤a:=fun h=>⟨Int.ediv_nonneg h (by omega),Int.ediv_le_self _ h⟩;have h3:a<0→a≤a / 2 ^ m∧a / 2 ^ m<0:=fun h=>by
  refine⟨?_,Int.ediv_neg_of_neg_of_pos h hp⟩;have:a * 2 ^ m≤a * 1:=Int.mul_le_mul_of_nonpos_left (by omega) (by omega);exact(Int.le_ediv_iff_mul_le hp).2 (by omega)
 rcases Int.lt_or_le a 0 with e|e
 ·have:=h3 e;cases k<;>simp[Koi.rng]at h⊢ <;>omega
 ·have:=h2 e;cases k<;>simp[Koi.rng]at h⊢ <;>omega
theorem CV.str{G:Gh}{w:World}{s:ByteArray}{c:Value}(h:CV G S w (.d (.str s)) c):c=.string s∧s.size≤maxLen:=by
 cases h with|d _ _ h=>cases h;exact⟨rfl,‹_›⟩
def ADM(c:Bool)(x y:V):V:=
 match x,y with
 |.opt _ (.d (.bool p)),.d (.bool q)=>.d (.bool (bif c then p else q))
 |.d (.bool p),.opt _ (.d (.bool q))=>.d (.bool (bif c then p else q))
 |.d (.bool p),.d (.bool q)=>.d (.bool (bif c then p else q))
 |_,_=>.any
def Jr(c:Bool)(x y:V):Prop:=
 match x,y with
 |.opt g (.d (.bool _)),.d (.bool _)=>c=true→g=true
 |.d (.bool _),.opt g (.d (.bool _))=>c=false→g=true
 |.d (.bool _),.d (.bool _)=>True
 |_,_=>False
theorem Xm{c x y:Operand}{b:Bool}(ho:o.op=.pick c x y)(hc:strip (ev tm c)=.d (.bool b))(hn:need (ev tm c))(hp:Jr b (ev tm x) (ev tm y)):
  Bv P n o tm S (ADM b (ev tm x) (ev tm y)) S:=.pure fun G w a st=>by
 have h1:=(BH st c).strip hn;rw[hc]at h1;have h1:=h1.bool;have hx:=BH st x;have hy:=BH st y;refine⟨if b then a.eval x else a.eval y,by simp[execOp,ho,h1,asBool],?_⟩;generalize ev tm x=X at *;generalize ev tm y=Y at *;unfold Jr at hp;unfold ADM;split at hp
 ·cases b
  ·have:=hy.bool;simp[this];exact .d _ _ (.bool _)
  ·cases hx with|opt _ _ _ h _=>have:=(h (hp rfl)).bool;simp[this];exact .d _ _ (.bool _)
 ·cases b
  ·cases hy with|opt _ _ _ h _=>have:=(h (hp rfl)).bool;simp[this];exact .d _ _ (.bool _)
  ·have:=hx.bool;simp[this];exact .d _ _ (.bool _)
 ·have h2:=hx.bool;have h3:=hy.bool;cases b<;>simp[h2,h3]<;>exact .d _ _ (.bool _)
 ·exact hp.elim
def arith(op:BinOp)(k:IntKind)(a b:Int):V:=
 match op with
 |.add=>.d (.int k (k.wrap (a+b)))
 |.sub=>.d (.int k (k.wrap (a - b)))
 |.mul=>.d (.int k (k.wrap (a * b)))
 |.quo=>.d (.int k (k.wrap (a.tdiv b)))
 |.rem=>.d (.int k (a.tmod b))
 |.eql=>.d (.bool (a==b))
 |.neq=>.d (.bool (a !=b))
 |.lss=>.d (.bool (a<b))
 |.leq=>.d (.bool (a≤b))
 |.gtr=>.d (.bool (a>b))
 |.geq=>.d (.bool (a≥b))
 |.and=>.d (.int k (k.wrap (BitVec.ofInt k.bits a&&& BitVec.ofInt k.bits b).toNat))
 |.or=>.d (.int k (k.wrap (BitVec.ofInt k.bits a|||BitVec.ofInt k.bits b).toNat))
 |.shl=>.d (.int k (k.wrap (a * 2 ^ (min b.toNat k.bits))))
 |.shr=>.d (.int k (a.fdiv (2 ^ (min b.toNat k.bits))))
 |_=>.any
def ABg(op:BinOp)(b:Int):Prop:=
 match op with
 |.quo|.rem=>b≠0
 |.shl|.shr=>0≤b
 |.xor|.andNot=>False
 |_=>True
def AB2(op:BinOp)(j k:IntKind):Prop:=
 match op with
 |.shl|.shr=>True
 |_=>j=k
mutual
def deq:D→D→Bool
 |.bool a,.bool b=>a==b
 |.int j a,.int k b=>j==k&&a==b
 |.str a,.str b=>decide (a=b)
 |.agg a,.agg b=>AAT a b
 |_,_=>false
def AAT:List D→List D→Bool
 |[],[]=>true
 |x::xs,y::ys=>deq x y&&AAT xs ys
 |_,_=>false
end
def AES(op:BinOp)(x y:V):V:=
 match x,y with
 |.d (.int k a),.d (.int _ b)=>arith op k a b
 |.d (.str a),.d (.str b)=>match op with|.eql=>.d (.bool (decide (a=b)))|.neq=>.d (.bool (!decide (a=b)))|.add=>.d (.str (a++b))|_=>.any
 |_,_=>.any
def MM(op:BinOp)(x y:V):Prop:=
 match x,y with
 |.d (.int k _),.d (.int k' b)=>AB2 op k k'∧ABg op b
 |.d (.str a),.d (.str b)=>match op with|.eql|.neq=>True|.add=>a.size+b.size≤maxLen|_=>False
 |_,_=>False
theorem KI(a b:ByteArray):(a.toList==b.toList)=decide (a=b):=by
 have h1:(a.toList==b.toList)=decide (a.toList=b.toList):=by rw[Bool.eq_iff_iff];simp
 rw[h1];congr 1;rw[ByteArray.toList_eq,ByteArray.toList_eq];apply propext;constructor
 ·intro h;cases a;cases b;simp only[ByteArray.mk.injEq];exact Array.ext' h
 ·rintro rfl;rfl
theorem ZX{op:BinOp}{T U:TypeId}{x y:Operand}{k k':IntKind}{i j:Int}(ho:o.op=.binOp op T x y U)(hx:need (ev tm x))(hy:need (ev tm y))
  (ex:strip (ev tm x)=.d (.int k i)) (ey:strip (ev tm y)=.d (.int k' j)) (hk:AB2 op k k') (hp:ABg op j):Bv P n o tm S (arith op k i j) S:=.pure fun G w a st=>by
 have h1:=(BH st x).strip hx;have h2:=(BH st y).strip hy;rw[ex]at h1;rw[ey]at h2;simp only[execOp,ho,h1.int,h2.int];have hg:∀w,(eqGuard op T x y (.int k i) (.int k' j)).run P w=.ok () w:=fun w=>by cases op<;>simp[eqGuard]
 simp only[Sem.run_bind,hg,Result.andThen_ok];cases op<;>simp only[ABg]at hp<;>simp only[AB2]at hk<;>(try subst hk)<;>
   first
   |exact hp.elim
   |exact⟨_,by simp[binOp,Op.intArith,Op.intCmp,Op.intDiv,hp];rfl,.d _ _ (by first|exact .int _ _ (Gp _ _)|exact .int _ _ (Ts h1.rng)|exact .bool _)⟩
   |exact⟨_,by simp[binOp];rfl,.d _ _ (by first|exact .int _ _ (Gp _ _)|exact .bool _)⟩
   |exact⟨_,by simp[binOp,Op.shift,show ¬j<0 from by omega];rfl,.d _ _ (by first|exact .int _ _ (Gp _ _)|exact .int _ _ (Tq _ h1.rng)|exact .bool _)⟩
theorem Z2{op:BinOp}{T U:TypeId}{x y:Operand}{p q:ByteArray}(ho:o.op=.binOp op T x y U)(hx:need (ev tm x))(hy:need (ev tm y))
  (ex:strip (ev tm x)=.d (.str p)) (ey:strip (ev tm y)=.d (.str q)) (hp:MM op (.d (.str p)) (.d (.str q))):
  Bv P n o tm S (AES op (.d (.str p)) (.d (.str q))) S:=.pure fun G w a st=>by
 have h1:=(BH st x).strip hx;have h2:=(BH st y).strip hy;rw[ex]at h1;rw[ey]at h2;simp only[execOp,ho,h1.str.1,h2.str.1];have hg:∀w,(eqGuard op T x y (.string p) (.string q)).run P w=.ok () w:=fun w=>by cases op<;>simp[eqGuard]
 simp only[Sem.run_bind,hg,Result.andThen_ok];cases op<;>simp only[MM]at hp<;>simp only[AES];case eql=>exact⟨.bool (decide (p=q)),by simp[binOp,Op.stringOp,KI],.d _ _ (.bool _)⟩
 case neq=>exact⟨.bool (!decide (p=q)),by simp[binOp,Op.stringOp,KI],.d _ _ (.bool _)⟩
 case add=>
  refine⟨.string (p++q),?_,.d _ _ (.str _ (by simpa using hp))⟩;have:¬(((p.size+q.size:Nat):Int)>IntKind.i64.max):=by
   unfold maxLen at hp;have:IntKind.i64.max=9223372036854775807:=by decide
   omega
  simp only[binOp,Op.stringOp,if_neg this];simp
 all_goals exact hp.elim
theorem Ly{neg:Bool}{T U:TypeId}{x y:Operand}{p q:Bool}{t:TI}(ho:o.op=.binOp (if neg then .neq else .eql) T x y U)(hx:need (ev tm x))(hy:need (ev tm y))
  (ex:strip (ev tm x)=.d (.bool p)) (ey:strip (ev tm y)=.d (.bool q)) (ht:ti P T=some t) (hk:t.kind=.bool):
  Bv P n o tm S (.d (.bool ((p==q)!=neg))) S:=.pure fun G w a st=>by
 have h1:=(BH st x).strip hx;have h2:=(BH st y).strip hy;rw[ex]at h1;rw[ey]at h2;refine⟨.bool ((p==q)!=neg),?_,.d _ _ (.bool _)⟩;simp only[execOp,ho,h1.bool,h2.bool];obtain⟨i,d,_,hd,_,_,_,gv⟩:=GA ht;have:d=.bool:=by rw[hk]at gv;cases d<;>simp[tk]at gv⊢
 subst this;have h:=run_equal_bool (w:=w) T p q hd;cases neg<;>simp[eqGuard,binOp,h]
theorem bB{T:TypeId}{x:Operand}{p:Bool}(ho:o.op=.unOp .not T x)(hx:need (ev tm x))(ex:strip (ev tm x)=.d (.bool p)):
  Bv P n o tm S (.d (.bool !p)) S:=.pure fun G w a st=>by
 have h1:=(BH st x).strip hx;rw[ex]at h1;exact⟨.bool !p,by simp[execOp,ho,h1.bool,Op.unary],.d _ _ (.bool _)⟩
theorem PX{T U:TypeId}{x:Operand}{k j:IntKind}{i:Int}{t u:TI}(ho:o.op=.convert T U x)(hx:need (ev tm x))(ex:strip (ev tm x)=.d (.int k i))
  (ht:ti P T=some t) (hu:ti P U=some u) (hk:u.kind=.int j):Bv P n o tm S (.d (.int j (j.wrap i))) S:=.pure fun G w a st=>by
 have h1:=(BH st x).strip hx;rw[ex]at h1;obtain⟨d,hd,_⟩:=Ai ht w;obtain⟨e,he,px⟩:=Ai hu w;have:e=.int j:=by rw[hk]at px;cases e<;>simp[tk]at px⊢;exact px
 subst this;exact⟨.int j (j.wrap i),by simp[execOp,ho,h1.int,convert,hd,he,Conv.intToInt],.d _ _ (.int _ _ (Gp _ _))⟩
end
section
variable {P:Program} {n:Nat} {o:Oper} {tm:Tm} {S S':Sg} {v:V}
theorem Qt{G:Gh}{w:World}(R:Rel P G S w){r i:Nat}{wr:Bool}{sz:Nat}{els:List V}(hr:S[r]?=some (.row wr sz els))(hi:i<els.length)
  (he:Ar els[i]=true∨AAW els[i]=true) (gp:(AAF els[i]).length=sz):
  ∃v b k,CV G S w els[i] v∧v.cells.size=sz∧(∀x∈v.cells,one x=true)∧(∀j,G.addr r (i * sz+j)=.pointer (some ⟨b,k+j,none⟩))∧(∀j,j<sz→w.cell? ⟨b,k+j,none⟩=v.cells[j]?):=by
 have h:=R.CT r _ hr;simp only[OK]at h;cases hv:G.BB r with
 |none=>
  simp only[hv]at h;obtain⟨c,T,h1,h2,h3,h4,h5⟩:=h;obtain⟨v,g1,g2,g3,g4⟩:=h5 i hi;exact⟨v,G.BZ r,(G.cap r).2+i * sz,g1,g2,g3,fun j=>by simp[Gh.addr,hv,Nat.add_assoc],fun j hj=>by rw[cell_of h1,Nat.add_assoc];exact g4 j hj⟩
 |some a=>
  simp only[hv]at h;obtain⟨_,_,xs,rfl,hc⟩:=h;have gj:i<xs.length:=by simpa using hi
  generalize hx:D.sl xs=X at hc;generalize hy:Value.slice a xs.length xs.length=Y at hc;cases hc with
  |nil a cap=>cases hx;simp at gj
  |sl sz' xs' b off cap vs hI hl om h1 h2=>
   cases hx;injection hy with e1 e2 e3;subst e1;obtain⟨g1,g2⟩:=h2 i gj;have iO:CV G S w (V.d xs[i]) (vs i):=.d _ _ (h1 i gj);have lE:(xs.map V.d)[i]=V.d xs[i]:=by simp
   rw[lE]at he gp⊢;obtain⟨c1,c2,_⟩:=iO.cells he;have:sz'=sz:=by omega
   subst this;refine⟨vs i,b,off+i * sz',iO,g1,fun x hx=>?_,fun j=>by simp[Gh.addr,hv,Nat.add_assoc],g2⟩;obtain⟨m,hm,rfl⟩:=Array.mem_iff_getElem.1 hx;exact c2 m hm
  |_=>cases hx
def Km(agg:Bool)(size:Nat)(e:V)(j:Nat):V:=
 if agg then
  if j=0∧(AAF e).length=size∧Ar e=true then e else .agg (((AAF e).drop j).take size)
 else(AAF e).getD j .any
theorem K4{G:Gh}{w:World}{e:V}{u:Value}{agg:Bool}{size j:Nat}(h:CV G S w e u)(he:Ar e=true∨AAW e=true)(hj:j+size≤(AAF e).length)
  (ha:agg=true∨size=1):CV G S w (Km agg size e j) (if agg then .agg (u.cells.extract j (j+size))else u.cells.getD j undef):=by
 obtain⟨c1,c2,c3⟩:=h.cells he;unfold Km;cases agg with
 |true=>
  simp only[if_true];split
  ·rename_i hc;obtain⟨rfl,h2,h3⟩:=hc;have:u.cells.extract 0 (0+size)=u.cells:=by
    have:size=u.cells.size:=by omega
    rw[this];simp
   rw[this];have:Value.agg u.cells=u:=by
    cases h with
    |agg=>rfl
    |d d v hd=>cases hd<;>first|rfl|simp[Ar]at h3
    |_=>simp[Ar]at h3
   rw[this];exact h
  ·refine .agg _ _ (by simp;omega) (fun i hi=>?_) (fun i hi=>?_)
   ·have gj:i<size:=by simp at hi;omega
    obtain⟨x,x1,x2⟩:=c3 (j+i) (by omega);have e1:(((AAF e).drop j).take size)[i]=(AAF e)[j+i]'(by omega):=by simp
    rw[e1];have e2:(u.cells.extract j (j+size))[i]'(by simp;omega)=x:=by
     have:u.cells[j+i]'(by omega)=x:=by
      have:=x1;rw[Array.getElem?_eq_getElem (by omega)]at this;simpa using this
     simp[this]
    rw[e2];exact x2
   ·have gj:i<size:=by simp at hi;omega
    simpa using c2 (j+i) (by omega)
 |false=>
  have hs:size=1:=by simpa using ha
  subst hs;simp only[Bool.false_eq_true,if_false];obtain⟨x,x1,x2⟩:=c3 j (by omega);have e1:(AAF e).getD j .any=(AAF e)[j]'(by omega):=by simp[List.getD,List.getElem?_eq_getElem (show j<(AAF e).length by omega)]
  have e2:u.cells.getD j undef=x:=by simp[Array.getD_eq_getD_getElem?,x1]
  rw[e1,e2];exact x2
theorem EG{T:TypeId}{t:TI}(ht:ti P T=some t){w:World}{b k j sz:Nat}{u:Value}(hs:u.cells.size=sz)(hj:j+t.size≤sz)(ha:t.agg=true∨t.size=1)
  (hc:∀j,j<sz→w.cell? ⟨b,k+j,none⟩=u.cells[j]?):
  (loadVar T ⟨b,k+j,none⟩).run P w=.ok (if t.agg then .agg (u.cells.extract j (j+t.size))else u.cells.getD j undef) w:=by
 unfold loadVar;simp only[Sem.run_bind,IP ht,Result.andThen_ok];cases jI:t.agg with
 |true=>
  simp only[if_true,Sem.run_bind,BQ ht,Result.andThen_ok];rw[run_loadCells (u.cells.extract j (j+t.size)) (by simp;omega) (fun i hi=>by
   rw[Nat.add_assoc,hc (j+i) (by omega)];simp only[Array.getElem?_extract];rw[if_pos (by omega)])]
  simp
 |false=>
  have h1:t.size=1:=by simpa[jI]using ha
  simp only[Bool.false_eq_true,if_false];rw[run_load,hc j (by omega)];have:j<u.cells.size:=by omega
  simp[Array.getElem?_eq_getElem this]
def ABZ(S:Sg)(p:V)(K:(wr:Bool)→(r i j:Nat)→(sz:Nat)→(els:List V)→Prop):Prop:=
 match p with
 |.ptr r m i j=>
  match S[r]? with
  |some (.row wr sz els)=>els.length=m∧i<els.length∧(Ar (els.getD i .any)||AAW (els.getD i .any))=true∧(AAF (els.getD i .any)).length=sz∧K wr r i j sz els
  |_=>False
 |_=>False
def P5(S:Sg)(p:V):V:=
 match p with
 |.ptr r _ i _=>
  match S[r]? with
  |some (.row _ _ els)=>els.getD i .any
  |_=>.any
 |_=>.any
def Tn(p:V):Nat:=
 match p with
 |.ptr _ _ _ j=>j
 |_=>0
theorem CV.HI{G:Gh}{w:World}{r m i j:Nat}{p:Value}{wr:Bool}{sz:Nat}{els:List V}(h:CV G S w (.ptr r m i j) p)(hr:S[r]?=some (.row wr sz els))(hm:els.length=m):
  p=G.addr r (i * sz+j):=by
 cases h with
 |ptr _ _ _ _ _ ho cx h=>
  exact(h m (by simp[lenOf,hr,hm])).2 rfl sz (by simp[AAf,hr])
theorem XD{T:TypeId}{x:Operand}{t:TI}(ho:o.op=.load T x)(hx:need (ev tm x))(ht:ti P T=some t)(ha:t.agg=true∨t.size=1)
  (hp:ABZ S (strip (ev tm x)) fun _ _ _ j sz _=>j+t.size≤sz):Bv P n o tm S (Km t.agg t.size (P5 S (strip (ev tm x))) (Tn (strip (ev tm x)))) S:=.pure fun G w a st=>by
 have h1:=(BH st x).strip hx;generalize strip (ev tm x)=X at *;unfold ABZ at hp;split at hp
 ·rename_i r m i j;split at hp
  ·rename_i wr sz els hr;obtain⟨hm,hi,he,gp,hj⟩:=hp;have jn:els.getD i .any=els[i]:=by simp[List.getD,hi]
   rw[jn]at he gp;have he:Ar els[i]=true∨AAW els[i]=true:=by simpa using he
   obtain⟨u,b,k,g1,g2,g3,g4,g5⟩:=Qt st.rel hr hi he gp;have lr:=h1.HI hr hm;rw[g4 j]at lr;refine⟨if t.agg then .agg (u.cells.extract j (j+t.size))else u.cells.getD j undef,?_,?_⟩
   ·simp only[execOp,ho,lr,Instr.loadAt,Instr.sureAddr];simp[EG ht g2 hj ha g5]
   ·simp only[P5,Tn,hr,jn];exact K4 g1 he (by omega) ha
  ·exact hp.elim
 ·exact hp.elim
def OY(agg:Bool)(size:Nat)(cs:List D):V:=if agg then .d (.agg (cs.take size))else .d (cs.getD 0 (.bool false))
theorem UR{T:TypeId}{x:Operand}{t:TI}{cs:List D}(ho:o.op=.load T x)(hx:need (ev tm x))(ex:strip (ev tm x)=.Cc cs)(ht:ti P T=some t)(ha:t.agg=true∨t.size=1)
  (hp:t.size≤cs.length):Bv P n o tm S (OY t.agg t.size cs) S:=.pure fun G w a st=>by
 have h1:=(BH st x).strip hx;rw[ex]at h1;generalize hX:a.eval x=X at h1;cases h1 with
 |Cc cs b off vs hI h=>
  let u:Array Value:=((List.range cs.length).map vs).toArray;have gp:(Value.agg u).cells.size=cs.length:=by simp[Value.cells,u]
  refine⟨if t.agg then .agg (u.extract 0 (0+t.size))else u.getD 0 undef,?_,?_⟩
  ·simp only[execOp,ho,hX,Instr.loadAt,Instr.sureAddr,Sem.run_bind,Sem.run_pure,Result.andThen_ok];rw[show(⟨b,off,none⟩:Addr)=⟨b,off+0,none⟩from rfl];rw[EG (u:=.agg u) (j:=0) ht gp (by omega) ha (fun j hj=>by
    rw[(h j hj).1];simp[Value.cells,hj,u])]
   rfl
  ·unfold OY;cases jI:t.agg with
   |true=>
    simp only[if_true];refine .d _ _ (.agg _ _ (by simp[u]) (fun i hi=>?_) (fun i hi=>?_))
    ·have gj:i<t.size:=by simp at hi;omega
     simpa[u]using(h i (by omega)).2.1
    ·have gj:i<t.size:=by simp[u]at hi;omega
     simpa[u]using(h i (by omega)).2.2
   |false=>
    have h1:t.size=1:=by simpa[jI]using ha
    simp only[Bool.false_eq_true,if_false];have h2:0<cs.length:=by omega
    have e1:cs.getD 0 (.bool false)=cs[0]:=by simp[List.getD,h2]
    rw[e1];have:=(h 0 h2).2.1;refine .d _ _ ?_;simpa[u,Array.getD_eq_getD_getElem?,h2]using this
end
section
variable {P:Program} {n:Nat} {o:Oper} {tm:Tm} {S S':Sg} {v:V}
def AAD(P:Program)(T:TypeId)(f:Nat):Option (Nat×TypeId):=
 match ti P T with
 |some t=>match t.kind with
  |.struct fs=>fs[f]?
  |_=>none
 |none=>none
theorem JZ{T:TypeId}{f:Nat}{off:Nat}{U:TypeId}(h:AAD P T f=some (off,U))(w:World):
  ∃fs fl,(underlying T).run P w=.ok (.struct fs) w∧fs[f]?=some fl∧fl.offset=off∧fl.type=U:=by
 unfold AAD at h;split at h
 ·rename_i t ht;split at h
  ·rename_i gs hk;obtain⟨d,hd,gv⟩:=Ai ht w;rw[hk]at gv;cases d with
   |struct fs=>
    simp only[tk,TK.struct.injEq]at gv;subst gv;simp only[List.getElem?_map,Option.map_eq_some_iff,Prod.mk.injEq]at h;obtain⟨fl,h1,h2,h3⟩:=h;exact⟨fs,fl,hd,by simpa using h1,h2,h3⟩
   |_=>simp[tk]at gv
  ·cases h
 ·cases h
def faV(off:Nat)(p:V):V:=
 match p with
 |.ptr r m i j=>.ptr r m i (j+off)
 |.Cc cs=>.Cc (cs.drop off)
 |_=>.any
def ABD(S:Sg)(p:V):Prop:=
 match p with
 |.ptr r m i _=>match S[r]? with
  |some (.row _ _ els)=>els.length=m∧i<els.length
  |_=>False
 |.Cc _=>True
 |_=>False
theorem KC{G:Gh}{w:World}(R:Rel P G S w){r i:Nat}{wr:Bool}{sz:Nat}{els:List V}(hr:S[r]?=some (.row wr sz els))(hi:i<els.length):
  ∃b k,∀j,G.addr r j=.pointer (some ⟨b,k+j,none⟩):=by
 have h:=R.CT r _ hr;simp only[OK]at h;cases hv:G.BB r with
 |none=>exact⟨G.BZ r,(G.cap r).2,fun j=>by simp[Gh.addr,hv]⟩
 |some a=>
  simp only[hv]at h;obtain⟨_,_,xs,rfl,hc⟩:=h;have gj:i<xs.length:=by simpa using hi
  generalize hx:D.sl xs=X at hc;generalize hy:Value.slice a xs.length xs.length=Y at hc;cases hc with
  |nil a cap=>cases hx;simp at gj
  |sl sz' xs' b off cap vs hI hl om h1 h2=>
   injection hy with e1 e2 e3;subst e1;exact⟨b,off,fun j=>by simp[Gh.addr,hv]⟩
  |_=>cases hx
theorem MW{T U:TypeId}{x:Operand}{f off:Nat}{u:TI}(ho:o.op=.fieldAddr T x f)(hx:need (ev tm x))(hf:AAD P T f=some (off,U))(hu:ti P U=some u)(hz:u.size≠0)
  (hp:ABD S (strip (ev tm x))):Bv P n o tm S (faV off (strip (ev tm x))) S:=.pure fun G w a st=>by
 have h1:=(BH st x).strip hx;generalize strip (ev tm x)=X at *;obtain⟨fs,fl,e1,e2,e3,e4⟩:=JZ hf w;have gl:∀b k,a.eval x=.pointer (some ⟨b,k,none⟩)→(execOp a.eval o).run P w=.ok (.value (.pointer (some ⟨b,k+off,none⟩))) w:=fun b k hk=>by
  simp only[execOp,ho,hk,Instr.fieldAt,Sem.run_bind,e1,Result.andThen_ok,e2,Instr.sureAddr,fieldPlace,e4,e3,BQ hu,if_neg hz,Sem.run_pure,Eb,Sem.run_ite]
 unfold ABD at hp;split at hp
 ·rename_i r m i j;split at hp
  ·rename_i wr sz els hr;obtain⟨hm,hi⟩:=hp;have lr:=h1.HI hr hm;obtain⟨b,k,hk⟩:=KC st.rel hr hi;rw[hk]at lr;refine⟨_,gl _ _ lr,?_⟩;cases h1 with
   |ptr _ _ _ _ _ h2 h3 h4=>
    refine .ptr _ _ _ _ _ rfl h3 fun m' iS=>⟨(h4 m' iS).1,fun e sz' lF=>?_⟩;have:sz'=sz:=by simpa[AAf,hr]using lF.symm
    subst this;rw[←Nat.add_assoc,hk];simp[Nat.add_assoc]
  ·exact hp.elim
 ·rename_i cs;generalize hX:a.eval x=X at h1;cases h1 with
  |Cc cs b k vs hI h=>
   refine⟨_,gl _ _ hX,?_⟩;refine .Cc _ _ _ (fun j=>vs (off+j)) hI fun j hj=>?_;have jL:off+j<cs.length:=by simp at hj;omega
   have:=h (off+j) jL;simpa[Nat.add_assoc]using this
 ·exact hp.elim
def AAL:D→List D
 |.agg ds=>ds
 |d=>[d]
def iaV(x:V)(i:Nat):V:=
 match x with
 |.d (.sl xs)=>.Cc (AAL (xs.getD i (.bool false)))
 |.full xs=>.Cc (AAL (xs.getD i (.bool false)))
 |.row r m=>.ptr r m i 0
 |_=>.any
def AAe(S:Sg)(x:V)(i:Int)(sz:Nat):Prop:=
 match x with
 |.d (.sl xs)=>0≤i∧i<xs.length∧(AAL (xs.getD i.toNat (.bool false))).length=sz∧oneD (xs.getD i.toNat (.bool false))=true
 |.full xs=>0≤i∧i<xs.length∧(AAL (xs.getD i.toNat (.bool false))).length=sz∧oneD (xs.getD i.toNat (.bool false))=true
 |.row r m=>match S[r]? with
  |some (.row _ sz' els)=>els.length=m∧0≤i∧i<els.length∧sz'=sz
  |_=>False
 |_=>False
 where
 oneD:D→Bool
  |.Bd _=>false
  |.raw v=>one v
  |_=>true
theorem CD.cells{I:Nat→Prop}{w:World}{d:D}{v:Value}(h:CD I w d v)(ho:AAe.oneD d=true):v.cells.size=(AAL d).length∧∀i (h:i<(AAL d).length),∃u,v.cells[i]?=some u∧CD I w (AAL d)[i] u∧one u=true:=by
 cases h with
 |agg ds vs hs h vi=>exact⟨hs,fun i hi=>⟨vs[i]'(by simp[AAL]at hi;omega),by simp[Value.cells],h i hi,vi i (by simp[AAL]at hi;omega)⟩⟩
 |Bd=>simp[AAe.oneD]at ho
 |raw v=>
  have hv:one v=true:=ho;rw[HG hv];refine⟨rfl,fun i hi=>?_⟩;have:i=0:=by simp[AAL]at hi;exact hi
  subst this;exact⟨v,rfl,.raw v,hv⟩
 |bool b=>exact⟨rfl,fun i hi=>by
  have:i=0:=by simp[AAL]at hi;exact hi
  subst this;exact⟨_,rfl,.bool b,rfl⟩⟩
 |int k m hm=>exact⟨rfl,fun i hi=>by
  have:i=0:=by simp[AAL]at hi;exact hi
  subst this;exact⟨_,rfl,.int k m hm,rfl⟩⟩
 |str s hs=>exact⟨rfl,fun i hi=>by
  have:i=0:=by simp[AAL]at hi;exact hi
  subst this;exact⟨_,rfl,.str s hs,rfl⟩⟩
 |nil a c=>exact⟨rfl,fun i hi=>by
  have:i=0:=by simp[AAL]at hi;exact hi
  subst this;exact⟨_,rfl,.nil a c,rfl⟩⟩
 |sl sz xs b off cap vs hI hl hc h1 h2=>exact⟨rfl,fun i hi=>by
  have:i=0:=by simp[AAL]at hi;exact hi
  subst this;exact⟨_,rfl,.sl sz xs b off cap vs hI hl hc h1 h2,rfl⟩⟩
theorem Y7{G:Gh}{w:World}{xs:List D}{cv:Value}(h:CD G.I w (.sl xs) cv){i:Nat}(hi:i<xs.length)(ho:AAe.oneD xs[i]=true):
  ∃b off len cap,cv=.slice (some ⟨b,off,none⟩) len cap∧len=xs.length∧CV G S w (.Cc (AAL xs[i])) (.pointer (some ⟨b,off+i * (AAL xs[i]).length,none⟩)):=by
 cases h with
 |nil=>simp at hi
 |sl sz xs b off cap vs hI hl hc h1 h2=>
  obtain⟨c1,c2⟩:=(h1 i hi).cells ho;obtain⟨g1,g2⟩:=h2 i hi;have gp:(AAL xs[i]).length=sz:=by omega
  refine⟨b,off,_,cap,rfl,rfl,.Cc _ _ _ (fun j=>(vs i).cells.getD j undef) hI fun j hj=>?_⟩;obtain⟨u,u1,u2,u3⟩:=c2 j hj;have e:(vs i).cells.getD j undef=u:=by simp[Array.getD_eq_getD_getElem?,u1]
  rw[e,gp,g2 j (by omega)];exact⟨u1,u2,u3⟩
theorem Mk{T:TypeId}{x y:Operand}{E:TypeId}{k:IntKind}{i:Int}{t e:TI}(ho:o.op=.indexAddr T x y)(hx:need (ev tm x))(hy:need (ev tm y))(ht:ti P T=some t)(hk:t.kind=.slice E)
  (he:ti P E=some e) (ey:strip (ev tm y)=.d (.int k i)) (hp:AAe S (strip (ev tm x)) i e.size):Bv P n o tm S (iaV (strip (ev tm x)) i.toNat) S:=.pure fun G w a st=>by
 have h1:=(BH st x).strip hx;have h2:=(BH st y).strip hy;rw[ey]at h2;obtain⟨d,hd,gv⟩:=Ai ht w;have hdE:d=.slice E:=by rw[hk]at gv;cases d<;>simp[tk]at gv⊢;exact gv
 subst hdE;have gl:∀b off len cap,a.eval x=.slice (some ⟨b,off,none⟩) len cap→0≤i→i<len→(execOp a.eval o).run P w=.ok (.value (.pointer (some ⟨b,off+i.toNat * e.size,none⟩))) w:=fun b off len cap hv h0 hl=>by
  simp only[execOp,ho,h2.int,hv,Instr.indexAt,asIntOf,Sem.run_bind,Sem.run_pure,Result.andThen_ok,hd,Eb];rw[if_pos ⟨h0,hl⟩];simp[BQ he]
 generalize strip (ev tm x)=X at *;unfold AAe at hp;split at hp
 ·rename_i xs;obtain⟨h0,hl,gp,j4⟩:=hp;have hi:i.toNat<xs.length:=by omega
  have jn:xs.getD i.toNat (.bool false)=xs[i.toNat]:=by simp[List.getD,hi]
  rw[jn]at gp j4;have jo:CD G.I w (.sl xs) (a.eval x):=by cases h1 with|d _ _ h=>exact h
  obtain⟨b,off,len,cap,g1,g2,g3⟩:=Y7 (S:=S) jo hi j4;refine⟨_,gl b off len cap g1 h0 (by omega),?_⟩;rw[←gp];simpa only[iaV,jn]using g3
 ·rename_i xs;obtain⟨h0,hl,gp,j4⟩:=hp;have hi:i.toNat<xs.length:=by omega
  have jn:xs.getD i.toNat (.bool false)=xs[i.toNat]:=by simp[List.getD,hi]
  rw[jn]at gp j4;have jo:CD G.I w (.sl xs) (a.eval x):=by
   generalize a.eval x=X at h1;cases h1 with|full _ _ h=>exact h
  obtain⟨b,off,len,cap,g1,g2,g3⟩:=Y7 (S:=S) jo hi j4;refine⟨_,gl b off len cap g1 h0 (by omega),?_⟩;rw[←gp];simpa only[iaV,jn]using g3
 ·rename_i r m;split at hp
  ·rename_i wr sz els hr;obtain⟨hm,h0,hl,gp⟩:=hp;subst gp;have hi:i.toNat<els.length:=by omega
   have hlen:lenOf S r=some m:=by simp[lenOf,hr,hm]
   have iI:a.eval x=G.AAP r m∧r<S.length:=by
    cases h1 with|row _ _ _ _ cx h=>exact⟨(h m hlen).2 rfl,cx⟩
   obtain⟨iI,cx⟩:=iI;have gw:=st.rel.CT r _ hr;have key:∃b off cap,G.AAP r m=.slice (some ⟨b,off,none⟩) m cap∧∀j,G.addr r j=.pointer (some ⟨b,off+j,none⟩):=by
    simp only[OK]at gw;cases hv:G.BB r with
    |none=>exact⟨G.BZ r,(G.cap r).2,(G.cap r).1,by simp[Gh.AAP,hv],fun j=>by simp[Gh.addr,hv]⟩
    |some b=>
     simp only[hv]at gw;obtain⟨_,_,xs,rfl,hc⟩:=gw;have gj:i.toNat<xs.length:=by simpa using hi
     generalize hx:D.sl xs=X at hc;generalize hy:Value.slice b xs.length xs.length=Y at hc;cases hc with
     |nil a cap=>cases hx;simp at gj
     |sl sz' xs' b off cap vs hI hl om h1 h2=>
      injection hy with e1 e2 e3;subst e1;exact⟨b,off,m,by simp[Gh.AAP,hv],fun j=>by simp[Gh.addr,hv]⟩
     |_=>cases hx
   obtain⟨b,off,cap,k1,k2⟩:=key;refine⟨_,gl b off m cap (iI.trans k1) h0 (by omega),.ptr _ _ _ _ _ rfl cx fun m' iS=>?_⟩;rw[hlen]at iS;cases iS;refine⟨Nat.le_refl _,fun _ sz' lF=>?_⟩;have:sz'=e.size:=by simpa[AAf,hr]using lF.symm
   subst this;rw[k2];simp
  ·exact hp.elim
 ·exact hp.elim
end
section
variable {P:Program} {n:Nat} {o:Oper} {tm:Tm} {S S':Sg} {v:V}
theorem IF{n:Nat}(h:n≤maxLen):rng .i64 n=true:=by
 simp[maxLen]at h;simp[rng];omega
theorem CD.len{I:Nat→Prop}{w:World}{xs:List D}{v:Value}(h:CD I w (.sl xs) v):xs.length≤maxLen:=by
 cases h with
 |nil=>simp
 |sl sz xs b off cap vs hI hl=>exact hl
theorem Rel.Zb{G:Gh}{w:World}(R:Rel P G S w){r m:Nat}(h:lenOf S r=some m):m≤maxLen:=by
 unfold Koi.lenOf at h;split at h
 ·rename_i wr sz els hr;cases h;have:=R.CT r _ hr;simp only[OK]at this;split at this
  ·obtain⟨c,T,_,_,_,h,_⟩:=this;exact h
  ·obtain⟨_,h,_⟩:=this;exact h
 ·rename_i xs hr;cases h;have:=R.CT r _ hr;simp only[OK]at this;exact this.len
 ·cases h
theorem R7{T:TypeId}{x:Operand}{c:Call}{xs:List D}{t:TI}{E:TypeId}(ho:o.op=.call c)(hc:c.callee=.builtin .len)(gi:c.args=#[x])(hT:c.argTypes=#[T])
  (hx:need (ev tm x)) (ex:strip (ev tm x)=.d (.sl xs)) (ht:ti P T=some t) (hk:t.kind=.slice E):Bv P n o tm S (.d (.int .i64 xs.length)) S:=.pure fun G w a st=>by
 have h1:=(BH st x).strip hx;rw[ex]at h1;obtain⟨d,hd,gv⟩:=Ai ht w;have hdE:d=.slice E:=by rw[hk]at gv;cases d<;>simp[tk]at gv⊢;exact gv
 subst hdE;have hlen:xs.length≤maxLen:=by cases h1 with|d _ _ h=>exact h.len
 have:∃a0 cap,a.eval x=.slice a0 xs.length cap:=by
  generalize a.eval x=X at h1;cases h1 with|d _ _ h=>cases h with
   |nil a c=>exact⟨a,c,rfl⟩
   |sl sz xs b off cap=>exact⟨_,cap,rfl⟩
 obtain⟨a0,cap,hv⟩:=this;refine⟨.int .i64 xs.length,?_,.d _ _ (.int _ _ (IF hlen))⟩;simp[execOp,ho,resolve,hc,gi,hT,hv,invoke,builtin,Builtin.len_,hd,goInt]
theorem Nr{T:TypeId}{x:Operand}{c:Call}{xs:List D}{t:TI}{E:TypeId}(ho:o.op=.call c)(hc:c.callee=.builtin .len)(gi:c.args=#[x])(hT:c.argTypes=#[T])
  (hx:need (ev tm x)) (ex:strip (ev tm x)=.full xs) (ht:ti P T=some t) (hk:t.kind=.slice E):Bv P n o tm S (.d (.int .i64 xs.length)) S:=.pure fun G w a st=>by
 have h1:=(BH st x).strip hx;rw[ex]at h1;obtain⟨d,hd,gv⟩:=Ai ht w;have hdE:d=.slice E:=by rw[hk]at gv;cases d<;>simp[tk]at gv⊢;exact gv
 subst hdE;generalize hv:a.eval x=X at h1;cases h1 with
 |full _ a0 h=>
  refine⟨.int .i64 xs.length,?_,.d _ _ (.int _ _ (IF h.len))⟩;simp[execOp,ho,resolve,hc,gi,hT,hv,invoke,builtin,Builtin.len_,hd,goInt]
theorem O3{T:TypeId}{x:Operand}{c:Call}{r m:Nat}{t:TI}{E:TypeId}(ho:o.op=.call c)(hc:c.callee=.builtin .len)(gi:c.args=#[x])(hT:c.argTypes=#[T])
  (hx:need (ev tm x)) (ex:strip (ev tm x)=.row r m) (hl:lenOf S r=some m) (ht:ti P T=some t) (hk:t.kind=.slice E):Bv P n o tm S (.d (.int .i64 m)) S:=.pure fun G w a st=>by
 have h1:=(BH st x).strip hx;rw[ex]at h1;obtain⟨d,hd,gv⟩:=Ai ht w;have hdE:d=.slice E:=by rw[hk]at gv;cases d<;>simp[tk]at gv⊢;exact gv
 subst hdE;have hv:a.eval x=G.AAP r m:=by
  cases h1 with|row _ _ _ _ _ h=>exact(h m hl).2 rfl
 have:∃a0 cap,a.eval x=.slice a0 m cap:=by
  rw[hv];unfold Gh.AAP;split<;>exact⟨_,_,rfl⟩
 obtain⟨a0,cap,hv⟩:=this;refine⟨.int .i64 m,?_,.d _ _ (.int _ _ (IF (st.rel.Zb hl)))⟩;simp[execOp,ho,resolve,hc,gi,hT,hv,invoke,builtin,Builtin.len_,hd,goInt]
theorem Pp{T:TypeId}{x:Operand}{c:Call}{s:ByteArray}{t:TI}(ho:o.op=.call c)(hc:c.callee=.builtin .len)(gi:c.args=#[x])(hT:c.argTypes=#[T])
  (hx:need (ev tm x)) (ex:strip (ev tm x)=.d (.str s)) (ht:ti P T=some t) (hk:t.kind=.str):Bv P n o tm S (.d (.int .i64 s.size)) S:=.pure fun G w a st=>by
 have h1:=(BH st x).strip hx;rw[ex]at h1;obtain⟨d,hd,gv⟩:=Ai ht w;have hdE:d=.string:=by rw[hk]at gv;cases d<;>simp[tk]at gv⊢
 subst hdE;have hv:=h1.str.1;have hs:=h1.str.2;refine⟨.int .i64 s.size,?_,.d _ _ (.int _ _ (IF hs))⟩;simp[execOp,ho,resolve,hc,gi,hT,hv,invoke,builtin,Builtin.len_,hd,goInt]
theorem PJ{x:Operand}{k:Nat}{vs:List V}(ho:o.op=.extract x k)(hx:need (ev tm x))(ex:strip (ev tm x)=.Bd vs)(hk:k<vs.length):
  Bv P n o tm S (vs.getD k .any) S:=.pure fun G w a st=>by
 have h1:=(BH st x).strip hx;rw[ex]at h1;generalize hv:a.eval x=X at h1;cases h1 with
 |Bd cs xs hs h=>
  refine⟨xs[k],?_,?_⟩
  ·simp[execOp,ho,hv,Instr.extract,hs,hk]
  ·have:vs.getD k .any=vs[k]:=by simp[List.getD,hk]
   rw[this];exact h k hk
theorem NT{x:Operand}{k:Nat}{vs:List D}(ho:o.op=.extract x k)(hx:need (ev tm x))(ex:strip (ev tm x)=.d (.Bd vs))(hk:k<vs.length):
  Bv P n o tm S (.d (vs.getD k (.bool false))) S:=.pure fun G w a st=>by
 have h1:=(BH st x).strip hx;rw[ex]at h1;generalize hv:a.eval x=X at h1;cases h1 with
 |d _ _ h1=>cases h1 with
  |Bd cs xs hs h=>
   refine⟨xs[k],?_,?_⟩
   ·simp[execOp,ho,hv,Instr.extract,hs,hk]
   ·have:vs.getD k (.bool false)=vs[k]:=by simp[List.getD,hk]
    rw[this];exact .d _ _ (h k hk)
theorem OW{f:Fn}{as bs:Array Operand}(ho:o.op=.makeFunc f as bs):Bv P n o tm S (.fn f (as.toList.map (ev tm)) (bs.toList.map (ev tm))) S:=.pure fun G w a st=>by
 refine⟨.func f (as.map a.eval) (bs.map a.eval),by simp[execOp,ho,Instr.makeFunc],.fn _ _ _ _ _ (by simp) (by simp) (fun i h=>?_) (fun i h=>?_)⟩
 ·simpa using BH st _
 ·simpa using BH st _
theorem Nq{x:Operand}{r m i j:Nat}(ho:o.op=.nilCheck x)(hx:need (ev tm x))(ex:strip (ev tm x)=.ptr r m i j)(hp:ABD S (.ptr r m i j)):Bv P n o tm S (.ptr r m i j) S:=.pure fun G w a st=>by
 have h1:=(BH st x).strip hx;rw[ex]at h1;simp only[ABD]at hp;split at hp
 ·rename_i wr sz els hr;obtain⟨hm,hi⟩:=hp;have lr:=h1.HI hr hm;obtain⟨b,k,hk⟩:=KC st.rel hr hi;rw[hk]at lr;exact⟨a.eval x,by simp[execOp,ho,lr],h1⟩
 ·exact hp.elim
theorem ML{x:Operand}{cs:List D}(ho:o.op=.nilCheck x)(hx:need (ev tm x))(ex:strip (ev tm x)=.Cc cs):Bv P n o tm S (.Cc cs) S:=.pure fun G w a st=>by
 have h1:=(BH st x).strip hx;rw[ex]at h1;refine⟨a.eval x,?_,h1⟩;generalize hv:a.eval x=X at h1;cases h1 with
 |Cc cs b off vs hI h=>simp[execOp,ho,hv]
theorem Tg{T U:TypeId}{x:Operand}{f off:Nat}{u:TI}(ho:o.op=.field T x f)(hx:need (ev tm x))(hf:AAD P T f=some (off,U))(hu:ti P U=some u)
  (he:Ar (strip (ev tm x))=true) (hj:off+u.size≤(AAF (strip (ev tm x))).length) (ha:u.agg=true∨u.size=1):
  Bv P n o tm S (Km u.agg u.size (strip (ev tm x)) off) S:=.pure fun G w a st=>by
 have h1:=(BH st x).strip hx;obtain⟨fs,fl,e1,e2,e3,e4⟩:=JZ hf w;have hl:=K4 h1 (.inl he) hj ha;obtain⟨c1,_,c3⟩:=h1.cells (.inl he);generalize strip (ev tm x)=X at *;have jI:∃vs,a.eval x=.agg vs:=by
  generalize a.eval x=Y at h1;cases h1 with
  |agg=>exact⟨_,rfl⟩
  |d d v hd=>cases hd<;>first|exact⟨_,rfl⟩|simp[Ar]at he
  |_=>simp[Ar]at he
 obtain⟨vs,hv⟩:=jI;rw[hv]at hl c1 c3;simp only[Value.cells]at hl c1 c3;refine⟨_,?_,hl⟩;simp only[execOp,ho,hv,Instr.field,Sem.run_bind,e1,Result.andThen_ok,e2,asAgg,Sem.run_pure,part,e3,e4,IP hu];cases jI:u.agg with
 |true=>simp[BQ hu]
 |false=>
  have h1:u.size=1:=by simpa[jI]using ha
  simp only[Bool.false_eq_true,if_false];have:off<vs.size:=by omega
  simp[this]
end
section
variable {P:Program} {n:Nat} {o:Oper} {tm:Tm} {S S':Sg} {v:V}
def MZ(e:V)(j:Nat)(x:V):V:=
 if Ar e then
  if j=0∧(AAF e).length=(AAF x).length∧Ar x=true then x
  else .agg ((AAF e).take j++AAF x++(AAF e).drop (j+(AAF x).length))
 else x
theorem CV.Iv{G:Gh}{w:World}{cs:List V}{u:Array Value}(hs:u.size=cs.length)(h:∀i (h:i<cs.length),∃x,u[i]?=some x∧CV G S w cs[i] x)
  (ho:∀i (h:i<u.size),Koi.one u[i]=true):CV G S w (.agg cs) (.agg u):=.agg _ _ hs (fun i hi=>by
   obtain⟨x,h1,h2⟩:=h i hi;have:u[i]'(by omega)=x:=by rw[Array.getElem?_eq_getElem (by omega)]at h1;simpa using h1
   rw[this];exact h2) ho
theorem Xa{G:Gh}{w:World}{e x:V}{u y:Value}{j:Nat}(h:CV G S w e u)(he:Ar e=true∨AAW e=true)(h':CV G S w x y)(hx:Ar x=true∨AAW x=true)
  (hj:j+(AAF x).length≤(AAF e).length) (hk:Ar e=true∨Ar x=false):
  ∃z,CV G S w (MZ e j x) z∧z.cells.size=u.cells.size∧(∀c∈z.cells,one c=true)∧(∀i,z.cells[i]?=if j≤i∧i<j+y.cells.size then y.cells[i - j]? else u.cells[i]?)∧(Ar (MZ e j x)=true∨AAW (MZ e j x)=true)∧(AAF (MZ e j x)).length=(AAF e).length:=by
 obtain⟨c1,c2,c3⟩:=h.cells he;obtain⟨d1,d2,d3⟩:=h'.cells hx;have allOne:∀{z:Value},(∀i (h:i<z.cells.size),one z.cells[i]=true)→∀c∈z.cells,one c=true:=fun hz c hc=>by
  obtain⟨i,hi,rfl⟩:=Array.mem_iff_getElem.1 hc;exact hz i hi
 have whole:j=0→(AAF e).length=(AAF x).length→∀i,y.cells[i]?=if j≤i∧i<j+y.cells.size then y.cells[i - j]? else u.cells[i]?:=fun h0 h1 i=>by
  subst h0;by_cases hi:i<y.cells.size
  ·rw[if_pos (by omega)];simp
  ·rw[if_neg (by omega),Array.getElem?_eq_none (by omega),Array.getElem?_eq_none (by omega)]
 unfold MZ;split
 ·rename_i jI;split
  ·rename_i hc;obtain⟨h0,h1,_⟩:=hc;exact⟨y,h',by omega,allOne d2,whole h0 h1,hx,h1.symm⟩
  ·let z:Array Value:=Array.ofFn (n:=u.cells.size) fun i=>if j≤i.val∧i.val<j+y.cells.size then y.cells.getD (i.val - j) undef else u.cells.getD i.val undef;have hz:z.size=u.cells.size:=by simp[z]
   have td:∀i,z[i]?=if j≤i∧i<j+y.cells.size then y.cells[i - j]? else u.cells[i]?:=fun i=>by
    by_cases h3:i<u.cells.size
    ·simp only[z,Array.getElem?_ofFn,h3,dif_pos];by_cases h2:j≤i∧i<j+y.cells.size
     ·rw[if_pos h2,if_pos h2,Array.getElem?_eq_getElem (show i - j<y.cells.size by omega)];simp[Array.getD_eq_getD_getElem?,show i - j<y.cells.size by omega]
     ·rw[if_neg h2,if_neg h2,Array.getElem?_eq_getElem h3];simp
    ·rw[Array.getElem?_eq_none (by omega),if_neg (by omega),Array.getElem?_eq_none (by omega)]
   have qE:∀i (h:i<z.size),one z[i]=true:=fun i hi=>by
    have h1:=td i;rw[Array.getElem?_eq_getElem hi]at h1;by_cases h2:j≤i∧i<j+y.cells.size
    ·rw[if_pos h2,Array.getElem?_eq_getElem (by omega)]at h1;simp only[Option.some.injEq]at h1;rw[h1];exact d2 _ _
    ·rw[if_neg h2,Array.getElem?_eq_getElem (by omega)]at h1;simp only[Option.some.injEq]at h1;rw[h1];exact c2 _ _
   have hlen:((AAF e).take j++AAF x++(AAF e).drop (j+(AAF x).length)).length=(AAF e).length:=by simp;omega
   refine⟨.agg z,CV.Iv (by rw[hz,hlen,c1]) (fun i hi=>?_) qE,hz,?_,td,.inl rfl,hlen⟩
   ·rw[hlen]at hi;rw[td];by_cases h2:j≤i∧i<j+y.cells.size
    ·rw[if_pos h2];obtain⟨q,q1,q2⟩:=d3 (i - j) (by omega);refine⟨q,q1,?_⟩;have:((AAF e).take j++AAF x++(AAF e).drop (j+(AAF x).length))[i]'(by rw[hlen];exact hi)=(AAF x)[i - j]'(by omega):=by
      rw[List.getElem_append_left (by simp;omega),List.getElem_append_right (by simp;omega)];congr 1;simp;omega
     rw[this];exact q2
    ·rw[if_neg h2];obtain⟨q,q1,q2⟩:=c3 i hi;refine⟨q,q1,?_⟩;have:((AAF e).take j++AAF x++(AAF e).drop (j+(AAF x).length))[i]'(by rw[hlen];exact hi)=(AAF e)[i]:=by
      by_cases h3:i<j
      ·rw[List.getElem_append_left (by simp;omega),List.getElem_append_left (by simp;omega)];simp
      ·rw[List.getElem_append_right (by simp;omega)];simp only[List.getElem_drop,List.length_append,List.length_take];congr 1;omega
     rw[this];exact q2
   ·intro c hc;obtain⟨i,hi,rfl⟩:=Array.mem_iff_getElem.1 hc;exact qE i hi
 ·rename_i jI;have h1:AAW e=true:=he.resolve_left jI;have sy:=HG (h.one h1);rw[sy]at c1;simp at c1;have we:AAW x=true:=hx.resolve_left (by simpa using hk.resolve_left jI);have mU:=HG (h'.one we);have d1':=d1;rw[mU]at d1';simp at d1';have mV:j=0:=by omega
  exact⟨y,h',by rw[sy,mU];simp,allOne d2,whole mV (by omega),hx,by omega⟩
def AET(S:Sg)(p:V)(x:V):Sg:=
 match p with
 |.ptr r _ i j=>
  match S[r]? with
  |some (.row wr sz els)=>S.set r (.row wr sz (els.set i (MZ (els.getD i .any) j x)))
  |_=>S
 |_=>S
theorem UF{T:TypeId}{x y:Operand}{t:TI}(ho:o.op=.store T x y)(hx:need (ev tm x))(hy:need (ev tm y))(ht:ti P T=some t)
  (hp:ABZ S (strip (ev tm x)) fun wr _ i j sz els=>wr=true∧j+t.size≤sz∧(Ar (els.getD i .any)||!Ar (strip (ev tm y)))=true)
  (hv:(Ar (strip (ev tm y))||AAW (strip (ev tm y)))=true) (hs:(AAF (strip (ev tm y))).length=t.size):
  Bv P n o tm S .any (AET S (strip (ev tm x)) (strip (ev tm y))):=.skip fun G w a st=>by
 have h1:=(BH st x).strip hx;have h2:=(BH st y).strip hy;generalize strip (ev tm x)=X at *;generalize strip (ev tm y)=Y at *;unfold ABZ at hp;split at hp
 ·rename_i r m i j;split at hp
  ·rename_i wr sz els hr;obtain⟨hm,hi,he,gp,mF,hj,hk⟩:=hp;subst mF;have jn:els.getD i .any=els[i]:=by simp[List.getD,hi]
   simp only[AET,hr];rw[jn]at he gp hk⊢;have he:Ar els[i]=true∨AAW els[i]=true:=by simpa using he
   have hv:Ar Y=true∨AAW Y=true:=by simpa using hv
   have hk:Ar els[i]=true∨Ar Y=false:=by simpa using hk
   have lr:=h1.HI hr hm;have gw:=st.rel.CT r _ hr;simp only[OK]at gw;cases ku:G.BB r with
   |some a0=>simp only[ku]at gw;exact absurd gw.1 (by simp)
   |none=>
    simp only[ku]at gw;obtain⟨c,T0,g1,g2,g3,g4,g5⟩:=gw;obtain⟨u,u1,u2,u3,u4⟩:=g5 i hi;obtain⟨d1,d2,_⟩:=h2.cells hv;obtain⟨z,z1,z2,z3,z4,z5,z6⟩:=Xa u1 he h2 hv (j:=j) (by omega) hk;have te:a.eval x=.pointer (some ⟨G.BZ r,(G.cap r).2+(i * sz+j),none⟩):=by rw[lr];simp[Gh.addr,ku]
    have iw:(G.cap r).2+(i * sz+sz)≤c.size:=by
     have:(i+1) * sz≤(G.cap r).1 * sz:=Nat.mul_le_mul_right _ (by omega);rw[Nat.add_mul]at this;omega
    have hlen:(a.eval y).cells.size=t.size:=by omega
    have gl:=Gf (P:=P) (b:=G.BZ r) (off:=(G.cap r).2+(i * sz+j)) (T:=T0) (a.eval y).cells.toList 0 w c g1 (by simp;omega) (fun v hv=>by
     obtain⟨k,hk,rfl⟩:=List.mem_iff_getElem.1 hv;simpa using d2 k (by simpa using hk))
    have own1:AAJ G r (.row true sz els)=true:=by simp[AAJ,ku]
    have own2:AAJ G r (.row true sz (els.set i (MZ els[i] j Y)))=true:=by simp[AAJ,ku]
    refine⟨G,C5 w (G.BZ r) (.cells (AAh c ((G.cap r).2+(i * sz+j)) (a.eval y).cells.toList) T0 (0,0)),?_,?_⟩
    ·simp only[execOp,ho,te,Instr.storeAt,Instr.sureAddr,Sem.run_bind,Sem.run_pure,Result.andThen_ok,storeVar,BQ ht];simp only[hlen,ne_eq,not_true_eq_false,if_false];simp only[Nat.add_zero]at gl;simp[gl]
    ·refine st.rel.update hr own1 own2 (fun n' iz=>?_) (fun hm=>?_) (fun L=>?_)
     ·have cx:=AZ hr;have e1:lenOf (S.set r (.row true sz (els.set i (MZ els[i] j Y)))) r=some els.length:=by simp[lenOf,cx]
      rw[e1]at iz;cases iz;exact⟨els.length,by simp[lenOf,hr],Nat.le_refl _,fun _=>.inl (by simp only[AAf,hr];simp[cx])⟩
     ·have cx:=AZ hr;simp[AAN,cx]at hm
     ·simp only[OK,ku];have hb:=D3 g1;refine⟨_,T0,Ej hb,by rw[DO];exact g2,by simpa using g3,by simpa using g4,fun i' gj=>?_⟩;have th:i'<els.length:=by simpa using gj
      by_cases e:i'=i
      ·subst e;refine⟨z,by simpa using z1.later L,by omega,z3,fun k hk=>?_⟩;rw[DH _ _ _ _ (by simp;omega),z4 k,u4 k hk |>.symm];simp only[Array.length_toList];by_cases h3:j≤k∧k<j+(a.eval y).cells.size
       ·rw[if_pos (by omega),if_pos h3];simp only[Array.getElem?_toList];congr 1;omega
       ·rw[if_neg (by omega),if_neg h3]
      ·obtain⟨v',v1,v2,v3,v4⟩:=g5 i' th;refine⟨v',by simpa[List.getElem_set_ne (Ne.symm e)]using v1.later L,v2,v3,fun k hk=>?_⟩;rw[DH _ _ _ _ (by simp;omega),←v4 k hk,if_neg];simp only[Array.length_toList];intro⟨h3,h4⟩;rcases Nat.lt_or_ge i' i with h5|h5
       ·have:(i'+1) * sz≤i * sz:=Nat.mul_le_mul_right _ h5;rw[Nat.add_mul]at this;omega
       ·have:(i+1) * sz≤i' * sz:=Nat.mul_le_mul_right _ (by omega);rw[Nat.add_mul]at this;omega
  ·exact hp.elim
 ·exact hp.elim
end
end Go.Koi
