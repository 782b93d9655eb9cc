/-
  Part 2 of the proof that the law ChangeLeaves returns true for every input.
-/
import Derived.Test.YtflldgdbdipagaaGreatDoorG00
import Derived.Laws.Strings
import Derived.Laws.Small
set_option maxHeartbeats 64000000
set_option maxRecDepth 100000
open List renaming length->Z,getD->lg
open Go.Value renaming cells->aeV
open Bool renaming true->J,false->am
open Option renaming some->al,none->br
open Go renaming Operand->le,TypeId->c9,World->cl,Program->cP,Value->cL
namespace Go.Koi
def CP(P:Program)(n:Nat)(o:Oper)(tm:Tm)(S:Sg)(v:V)(S':Sg):Prop:=
 ∀G w a (next:Act->cl->Prop) Q,St P n G S w a tm->(∀cv g h,CV h S' g v cv->Rel P h S' g->Tr G S w h S' g->BH G S w h S' g->next (a.put o.dst cv) g)->o.wp P a w next Q
abbrev adI:=@Int.tmod_nonneg
abbrev abS:=@Int.fdiv_eq_ediv_of_nonneg
abbrev gI:=@Bool.eq_iff_iff
section
variable {P:Program} {n:Nat} {o:Oper} {tm:Tm} {S S':Sg} {v:V}
theorem CP.val(h:∀G w a,St P n G S w a tm->∃cv i g,(execOp a.eval o).run P w=.ok (.value cv) g/\CV i S' g v cv/\Rel P i S' g/\Tr G S w i S' g/\BH G S w i S' g):
  CP P n o tm S v S':=λG w a next Q st k=>by
 obtain⟨cv,i,g,h1,j,m,q,s⟩:=h G w a st;unfold Oper.wp;rw[h1];exact k cv g i j m q s
theorem CP.skip(h:∀G w a,St P n G S w a tm->∃i g,(execOp a.eval o).run P w=.ok .skip g/\Rel P i S' g/\Tr G S w i S' g/\BH G S w i S' g):
  CP P n o tm S .any S':=λG w a next Q st k=>by
 obtain⟨i,g,h1,j,m,q⟩:=h G w a st;unfold Oper.wp;rw[h1];exact k _ g i (.any _) j m q
theorem CP.pure(h:∀G w a,St P n G S w a tm->∃cv,(execOp a.eval o).run P w=.ok (.value cv) w/\CV G S w v cv):
  CP P n o tm S v S:=.val λG w a st=>by
 obtain⟨cv,h1,g⟩:=h G w a st;exact⟨cv,G,w,h1,g,st.rel,aep _ _ _,aev _ _ _⟩
theorem oA{x:le}(g:o.op=.move x):CP P n o tm S (ev tm x) S:=
 .pure λG w a st=>⟨a.eval x,by simp[execOp,g],BY st x⟩
theorem Yy{x:le}(g:o.op=.assign x):CP P n o tm S (ev tm x) S:=
 .pure λG w a st=>⟨a.eval x,by simp[execOp,g],BY st x⟩
theorem CV.bool{G:Gh}{w:cl}{b:Bool}{c:Value}(h:CV G S w (.d (.bool b)) c):c=.bool b:=by
 cases h with|d _ _ h=>cases h;rfl
theorem CV.int{G:Gh}{w:cl}{k:IntKind}{i:Int}{c:Value}(h:CV G S w (.d (.int k i)) c):c=.int k i:=by
 cases h with|d _ _ h=>cases h;rfl
theorem CV.IX{G:Gh}{w:cl}{k:IntKind}{i:Int}{c:Value}(h:CV G S w (.d (.int k i)) c):IX k i=true:=by
 cases h with|d _ _ h=>cases h;assumption
theorem fD{k:IntKind}{a b:Int}(h:IX k a=J):IX k (a.tmod b)=true:=by
 have h1:a.natAbs.mod b.natAbs<=a.natAbs:=Nat.mod_le _ _;have i:0<=a->0<=a.tmod b/\a.tmod b<=a:=λh=>by
  refine⟨adI b h,?_⟩;have:=Int.natAbs_tmod a b;have g:=adI b h;have j:(a.tmod b).natAbs<=a.natAbs:=by rw[this];exact Nat.mod_le _ _
  omega
 have g:a<=0->a<=a.tmod b/\a.tmod b<=0:=λh=>by
  have:=Int.natAbs_tmod a b;have j:(a.tmod b).natAbs<=a.natAbs:=by rw[this];exact Nat.mod_le _ _
  have m:(-a).tmod b= -(a.tmod b):=Int.neg_tmod ..;have q:0<=(-a).tmod b:=adI b (by omega);omega
 rcases Int.le_total 0 a with e|e
 .have:=i e;cases k<;>simp[Koi.IX]at h⊢ <;>omega
 .have:=g e;cases k<;>simp[Koi.IX]at h⊢ <;>omega
theorem gJ{k:IntKind}{a:Int}(m:Nat)(h:IX k a=J):IX k (a.fdiv (2 ^ m))=true:=by
 have g:(0:Int)<2 ^ m:=Int.pow_pos (by decide);rw[abS _ (by omega)];have i:0<=a->0<=a / 2 ^ m/\a / 2 ^ m<=a:=λh=>⟨Int.ediv_nonneg h (by omega),Int.ediv_le_self _ h⟩;have j:a<0->a<=a / 2 ^ m/\a / 2 ^ m<0:=λh=>by
  refine⟨?_,Int.ediv_neg_of_neg_of_pos h g⟩;have:a * 2 ^ m<=a * 1:=Int.mul_le_mul_of_nonpos_left (by omega) (by omega);exact(Int.le_ediv_iff_mul_le g).2 (by omega)
 rcases Int.lt_or_le a 0 with e|e
 .have:=j e;cases k<;>simp[Koi.IX]at h⊢ <;>omega
 .have:=i e;cases k<;>simp[Koi.IX]at h⊢ <;>omega
theorem CV.str{G:Gh}{w:cl}{s:ByteArray}{c:Value}(h:CV G S w (.d (.str s)) c):c=.string s/\s.size<=maxLen:=by
 cases h with|d _ _ h=>cases h;exact⟨rfl,‹_›⟩
def Xg(c:Bool)(x y:V):V:=
 match x,y with
 |.opt _ (.d (.bool p)),.d (.bool q)=>.d (.bool (bif c then p else q))
 |.d (.bool p),.opt _ (.d (.bool q))=>.d (.bool (bif c then p else q))
 |.d (.bool p),.d (.bool q)=>.d (.bool (bif c then p else q))
 |_,_=>.any
def O2(c:Bool)(x y:V):Prop:=
 match x,y with
 |.opt g (.d (.bool _)),.d (.bool _)=>c=J->g=J
 |.d (.bool _),.opt g (.d (.bool _))=>c=am->g=J
 |.d (.bool _),.d (.bool _)=>True
 |_,_=>False
theorem lR{c x y:le}{b:Bool}(k:o.op=.pick c x y)(m:strip (ev tm c)=.d (.bool b))(hn:need (ev tm c))(g:O2 b (ev tm x) (ev tm y)):
  CP P n o tm S (Xg b (ev tm x) (ev tm y)) S:=.pure λG w a st=>by
 have h1:=(BY st c).strip hn;rw[m]at h1;have h1:=h1.bool;have i:=BY st x;have j:=BY st y;refine⟨if b then a.eval x else a.eval y,by simp[execOp,k,h1,asBool],?_⟩;generalize ev tm x=X at *;generalize ev tm y=Y at *;unfold O2 at g;unfold Xg;split at g
 .cases b
  .have:=j.bool;simp[this];exact .d _ _ (.bool _)
  .cases i with|opt _ _ _ h _=>have:=(h (g rfl)).bool;simp[this];exact .d _ _ (.bool _)
 .cases b
  .cases j with|opt _ _ _ h _=>have:=(h (g rfl)).bool;simp[this];exact .d _ _ (.bool _)
  .have:=i.bool;simp[this];exact .d _ _ (.bool _)
 .have q:=i.bool;have s:=j.bool;cases b<;>simp[q,s]<;>exact .d _ _ (.bool _)
 .exact g.elim
def arith(op:BinOp)(k:IntKind)(a b:Int):V:=
 match op with
 |.add=>.d (.int k (k.wrap (a+b)))
 |.sub=>.d (.int k (k.wrap (a - b)))
 |.mul=>.d (.int k (k.wrap (a * b)))
 |.quo=>.d (.int k (k.wrap (a.tdiv b)))
 |.rem=>.d (.int k (a.tmod b))
 |.eql=>.d (.bool (a==b))
 |.neq=>.d (.bool (a !=b))
 |.lss=>.d (.bool (a<b))
 |.leq=>.d (.bool (a<=b))
 |.gtr=>.d (.bool (a>b))
 |.geq=>.d (.bool (a≥b))
 |.and=>.d (.int k (k.wrap (BitVec.ofInt k.bits a&&& BitVec.ofInt k.bits b).toNat))
 |.or=>.d (.int k (k.wrap (BitVec.ofInt k.bits a|||BitVec.ofInt k.bits b).toNat))
 |.shl=>.d (.int k (k.wrap (a * 2 ^ (min b.toNat k.bits))))
 |.shr=>.d (.int k (a.fdiv (2 ^ (min b.toNat k.bits))))
 |_=>.any
def KJ(op:BinOp)(b:Int):Prop:=
 match op with
 |.quo|.rem=>b≠0
 |.shl|.shr=>0<=b
 |.xor|.andNot=>False
 |_=>True
def MM(op:BinOp)(j k:IntKind):Prop:=
 match op with
 |.shl|.shr=>True
 |_=>j=k
mutual
def DY:D->D->Bool
 |.bool a,.bool b=>a==b
 |.int j a,.int k b=>j==k&&a==b
 |.str a,.str b=>decide (a=b)
 |.agg a,.agg b=>CS a b
 |_,_=>am
def CS:List D->List D->Bool
 |[],[]=>J
 |x::g,y::h=>DY x y&&CS g h
 |_,_=>am
end
def oO(op:BinOp)(x y:V):V:=
 match x,y with
 |.d (.int k a),.d (.int _ b)=>arith op k a b
 |.d (.str a),.d (.str b)=>match op with|.eql=>.d (.bool (decide (a=b)))|.neq=>.d (.bool (!decide (a=b)))|.add=>.d (.str (a++b))|_=>.any
 |_,_=>.any
def TW(op:BinOp)(x y:V):Prop:=
 match x,y with
 |.d (.int k _),.d (.int g b)=>MM op k g/\KJ op b
 |.d (.str a),.d (.str b)=>match op with|.eql|.neq=>True|.add=>a.size+b.size<=maxLen|_=>False
 |_,_=>False
theorem P8(a b:ByteArray):(a.toList==b.toList)=decide (a=b):=by
 have h1:(a.toList==b.toList)=decide (a.toList=b.toList):=by rw[gI];simp
 rw[h1];congr 1;rw[ByteArray.toList_eq,ByteArray.toList_eq];apply propext;constructor
 .intro h;cases a;cases b;simp[ByteArray.mk.injEq];exact ad4 h
 .rintro rfl;rfl
theorem sc{op:BinOp}{T U:c9}{x y:le}{k g:IntKind}{i j:Int}(s:o.op=.binOp op T x y U)(t:need (ev tm x))(u:need (ev tm y))
  (z:strip (ev tm x)=.d (.int k i)) (A:strip (ev tm y)=.d (.int g j)) (m:MM op k g) (h:KJ op j):CP P n o tm S (arith op k i j) S:=.pure λG w a st=>by
 have h1:=(BY st x).strip t;have q:=(BY st y).strip u;rw[z]at h1;rw[A]at q;simp[execOp,s,h1.int,q.int];have B:∀w,(eqGuard op T x y (.int k i) (.int g j)).run P w=.ok () w:=λw=>by cases op<;>simp[eqGuard]
 simp[B];cases op<;>simp[KJ]at h<;>simp[MM]at m<;>(try subst m)<;>
   first
   |exact h.elim
   |exact⟨_,by simp[binOp,Op.intArith,Op.intCmp,Op.intDiv,h];rfl,.d _ _ (by first|exact .int _ _ (Jy _ _)|exact .int _ _ (fD h1.IX)|exact .bool _)⟩
   |exact⟨_,by simp[binOp];rfl,.d _ _ (by first|exact .int _ _ (Jy _ _)|exact .bool _)⟩
   |exact⟨_,by simp[binOp,Op.shift,show ¬j<0 from by omega];rfl,.d _ _ (by first|exact .int _ _ (Jy _ _)|exact .int _ _ (gJ _ h1.IX)|exact .bool _)⟩
theorem rC{op:BinOp}{T U:c9}{x y:le}{p q:ByteArray}(i:o.op=.binOp op T x y U)(j:need (ev tm x))(k:need (ev tm y))
  (m:strip (ev tm x)=.d (.str p)) (s:strip (ev tm y)=.d (.str q)) (g:TW op (.d (.str p)) (.d (.str q))):
  CP P n o tm S (oO op (.d (.str p)) (.d (.str q))) S:=.pure λG w a st=>by
 have h1:=(BY st x).strip j;have h:=(BY st y).strip k;rw[m]at h1;rw[s]at h;simp[execOp,i,h1.str.1,h.str.1];have t:∀w,(eqGuard op T x y (.string p) (.string q)).run P w=.ok () w:=λw=>by cases op<;>simp[eqGuard]
 simp[t];cases op<;>simp[TW]at g<;>simp[oO];case eql=>exact⟨.bool (decide (p=q)),by simp[binOp,Op.stringOp,P8],.d _ _ (.bool _)⟩
 case neq=>exact⟨.bool (!decide (p=q)),by simp[binOp,Op.stringOp,P8],.d _ _ (.bool _)⟩
 case add=>
  refine⟨.string (p++q),?_,.d _ _ (.str _ (by simpa using g))⟩;have:¬(((p.size+q.size:Nat):Int)>IntKind.i64.max):=by
   unfold maxLen at g;have:IntKind.i64.max=9223372036854775807:=by decide
   omega
  simp only[binOp,Op.stringOp,a9 this];simp
 all_goals exact g.elim
theorem RH{neg:Bool}{T U:c9}{x y:le}{p q:Bool}{t:TI}(k:o.op=.binOp (if neg then .neq else .eql) T x y U)(m:need (ev tm x))(s:need (ev tm y))
  (u:strip (ev tm x)=.d (.bool p)) (z:strip (ev tm y)=.d (.bool q)) (A:ti P T=al t) (B:t.kind=.bool):
  CP P n o tm S (.d (.bool ((p==q)!=neg))) S:=.pure λG w a st=>by
 have h1:=(BY st x).strip m;have g:=(BY st y).strip s;rw[u]at h1;rw[z]at g;refine⟨.bool ((p==q)!=neg),?_,.d _ _ (.bool _)⟩;simp[execOp,k,h1.bool,g.bool];obtain⟨i,d,_,C,_,_,_,j⟩:=Ja A;have:d=.bool:=by rw[B]at j;cases d<;>simp[tk]at j⊢
 subst this;have h:=run_equal_bool (w:=w) T p q C;cases neg<;>simp[eqGuard,binOp,h]
theorem ry{T:c9}{x:le}{p:Bool}(g:o.op=.unOp .not T x)(h:need (ev tm x))(i:strip (ev tm x)=.d (.bool p)):
  CP P n o tm S (.d (.bool !p)) S:=.pure λG w a st=>by
 have h1:=(BY st x).strip h;rw[i]at h1;exact⟨.bool !p,by simp[execOp,g,h1.bool,Op.unary],.d _ _ (.bool _)⟩
theorem Wy{T U:c9}{x:le}{k j:IntKind}{i:Int}{t u:TI}(h:o.op=.convert T U x)(m:need (ev tm x))(q:strip (ev tm x)=.d (.int k i))
  (s:ti P T=al t) (z:ti P U=al u) (A:u.kind=.int j):CP P n o tm S (.d (.int j (j.wrap i))) S:=.pure λG w a st=>by
 have h1:=(BY st x).strip m;rw[q]at h1;obtain⟨d,B,_⟩:=An s w;obtain⟨e,C,g⟩:=An z w;have:e=.int j:=by rw[A]at g;cases e<;>simp[tk]at g⊢;exact g
 subst this;exact⟨.int j (j.wrap i),by simp[execOp,h,h1.int,convert,B,C,Conv.intToInt],.d _ _ (.int _ _ (Jy _ _))⟩
end
abbrev abF:=@Array.mem_iff_getElem
abbrev dl:=@List.getElem?_eq_getElem
abbrev wn:=@Array.getD_eq_getD_getElem?
section
variable {P:Program} {n:Nat} {o:Oper} {tm:Tm} {S S':Sg} {v:V}
theorem YJ{G:Gh}{w:cl}(R:Rel P G S w){r i:Nat}{wr:Bool}{sz:Nat}{els:List V}(M:S[r]?=al (.row wr sz els))(hi:i<Z els)
  (F:Ap els[i]=J\/Bu els[i]=J) (N:Z (Aj els[i])=sz):
  ∃v b k,CV G S w els[i] v/\v.cells.size=sz/\(∀x∈v.cells,one x=J)/\(∀j,G.addr r (i * sz+j)=.pointer (al ⟨b,k+j,br⟩))/\(∀j,j<sz->w.cell? ⟨b,k+j,br⟩=v.cells[j]?):=by
 have h:=R.DX r _ M;simp only[OK]at h;cases u:G.BJ r with
 |none=>
  simp only[u]at h;obtain⟨c,T,h1,H,h3,h4,Q⟩:=h;obtain⟨v,z,A,U,W⟩:=Q i hi;exact⟨v,G.Cf r,(G.cap r).2+i * sz,z,A,U,λj=>by simp[Gh.addr,u,q7],λj hj=>by rw[cell_of h1,q7];exact W j hj⟩
 |some a=>
  simp[u]at h;obtain⟨_,_,g,rfl,B⟩:=h;have C:i<Z g:=by simpa using hi
  generalize q:D.sl g=X at B;generalize hy:Value.slice a (Z g) (Z g)=Y at B;cases B with
  |nil a cap=>cases q;simp at C
  |sl s xs' b off cap K hI hl L h1 H=>
   cases q;injection hy with e1 e2 e3;subst e1;obtain⟨z,A⟩:=H i C;have t:CV G S w (V.d g[i]) (K i):=.d _ _ (h1 i C);have E:(g.map V.d)[i]=V.d g[i]:=by simp
   rw[E]at F N⊢;obtain⟨c1,c2,_⟩:=t.cells F;have:s=sz:=by omega
   subst this;refine⟨K i,b,off+i * s,t,z,λx q=>?_,λj=>by simp[Gh.addr,u,q7],A⟩;obtain⟨m,hm,rfl⟩:=abF.1 q;exact c2 m hm
  |_=>cases q
def QB(agg:Bool)(size:Nat)(e:V)(j:Nat):V:=
 if agg then
  if j=0/\Z (Aj e)=size/\Ap e=J then e else .agg (((Aj e).drop j).take size)
 else(Aj e).getD j .any
theorem P5{G:Gh}{w:cl}{e:V}{u:Value}{agg:Bool}{size j:Nat}(h:CV G S w e u)(z:Ap e=J\/Bu e=J)(hj:j+size<=Z (Aj e))
  (ha:agg=J\/size=1):CV G S w (QB agg size e j) (if agg then .agg (u.cells.extract j (j+size))else u.cells.getD j undef):=by
 obtain⟨c1,c2,s⟩:=h.cells z;unfold QB;cases agg with
 |true=>
  simp;split
  .rename_i A;obtain⟨rfl,F,t⟩:=A;have:u.cells.extract 0 (0+size)=u.cells:=by
    have:size=u.cells.size:=by omega
    rw[this];simp
   rw[this];have:Value.agg u.cells=u:=by
    cases h with
    |agg=>rfl
    |d d v B=>cases B<;>first|rfl|simp[Ap]at t
    |_=>simp[Ap]at t
   rw[this];exact h
  .refine .agg _ _ (by simp;omega) (λi hi=>?_) (λi hi=>?_)
   .have C:i<size:=by simp at hi;omega
    obtain⟨x,g,k⟩:=s (j+i) (by omega);have m:(((Aj e).drop j).take size)[i]=(Aj e)[j+i]'(by omega):=by simp
    rw[m];have q:(u.cells.extract j (j+size))[i]'(by simp;omega)=x:=by
     have:u.cells[j+i]'(by omega)=x:=by
      have:=g;rw[nu (by omega)]at this;simpa using this
     simp[this]
    rw[q];exact k
   .have C:i<size:=by simp at hi;omega
    simpa using c2 (j+i) (by omega)
 |false=>
  have E:size=1:=by simpa using ha
  subst E;simp only[su,li];obtain⟨x,g,k⟩:=s j (by omega);have m:(Aj e).getD j .any=(Aj e)[j]'(by omega):=by simp[lg,dl (show j<Z (Aj e) by omega)]
  have q:u.cells.getD j undef=x:=by simp[g]
  rw[m,q];exact k
theorem F4{T:c9}{t:TI}(h:ti P T=al t){w:cl}{b k j sz:Nat}{u:Value}(q:u.cells.size=sz)(hj:j+t.size<=sz)(ha:t.agg=J\/t.size=1)
  (m:∀j,j<sz->w.cell? ⟨b,k+j,br⟩=u.cells[j]?):
  (loadVar T ⟨b,k+j,br⟩).run P w=.ok (if t.agg then .agg (u.cells.extract j (j+t.size))else u.cells.getD j undef) w:=by
 unfold loadVar;simp only[l6,Mu h,lh];cases g:t.agg with
 |true=>
  simp only[kw,l6,Ba h,lh];rw[run_loadCells (u.cells.extract j (j+t.size)) (by simp;omega) (λi hi=>by
   rw[q7,m (j+i) (by omega)];simp only[Array.getElem?_extract];rw[b8 (by omega)])]
  simp
 |false=>
  have h1:t.size=1:=by simpa[g]using ha
  simp only[su,li];rw[run_load,m j (by omega)];have:j<u.cells.size:=by omega
  simp[nu this]
def JI(S:Sg)(p:V)(K:(h:Bool)->(r i j:Nat)->(sz:Nat)->(g:List V)->Prop):Prop:=
 match p with
 |.ptr r m i j=>
  match S[r]? with
  |some (.row h sz g)=>Z g=m/\i<Z g/\(Ap (g.getD i .any)||Bu (g.getD i .any))=J/\Z (Aj (g.getD i .any))=sz/\K h r i j sz g
  |_=>False
 |_=>False
def ZT(S:Sg)(p:V):V:=
 match p with
 |.ptr r _ i _=>
  match S[r]? with
  |some (.row _ _ g)=>g.getD i .any
  |_=>.any
 |_=>.any
def jj(p:V):Nat:=
 match p with
 |.ptr _ _ _ j=>j
 |_=>0
theorem CV.Kk{G:Gh}{w:cl}{r m i j:Nat}{p:Value}{wr:Bool}{sz:Nat}{els:List V}(h:CV G S w (.ptr r m i j) p)(g:S[r]?=al (.row wr sz els))(k:Z els=m):
  p=G.addr r (i * sz+j):=by
 cases h with
 |ptr _ _ _ _ _ q s h=>
  exact(h m (by simp[lenOf,g,k])).2 rfl sz (by simp[C0,g])
theorem nT{T:c9}{x:le}{t:TI}(C:o.op=.load T x)(E:need (ev tm x))(F:ti P T=al t)(ha:t.agg=J\/t.size=1)
  (h:JI S (strip (ev tm x)) λ_ _ _ j sz _=>j+t.size<=sz):CP P n o tm S (QB t.agg t.size (ZT S (strip (ev tm x))) (jj (strip (ev tm x)))) S:=.pure λG w a st=>by
 have h1:=(BY st x).strip E;generalize strip (ev tm x)=X at *;unfold JI at h;split at h
 .rename_i r m i j;split at h
  .rename_i Q sz g A;obtain⟨H,hi,q,B,hj⟩:=h;have s:g.getD i .any=g[i]:=by simp[lg,hi]
   rw[s]at q B;have q:Ap g[i]=J\/Bu g[i]=true:=by simpa using q
   obtain⟨u,b,k,K,L,R,M,N⟩:=YJ st.rel A hi q B;have z:=h1.Kk A H;rw[M j]at z;refine⟨if t.agg then .agg (u.cells.extract j (j+t.size))else u.cells.getD j undef,?_,?_⟩
   .simp[execOp,C,z,Instr.loadAt,Instr.sureAddr];simp[F4 F L hj ha N]
   .simp only[ZT,jj,A,s];exact P5 K q (by omega) ha
  .exact h.elim
 .exact h.elim
def Vo(agg:Bool)(size:Nat)(g:List D):V:=if agg then .d (.agg (g.take size))else .d (g.getD 0 (.bool am))
theorem dp{T:c9}{x:le}{t:TI}{g:List D}(q:o.op=.load T x)(s:need (ev tm x))(z:strip (ev tm x)=.DW g)(A:ti P T=al t)(ha:t.agg=J\/t.size=1)
  (K:t.size<=Z g):CP P n o tm S (Vo t.agg t.size g) S:=.pure λG w a st=>by
 have h1:=(BY st x).strip s;rw[z]at h1;generalize B:a.eval x=X at h1;cases h1 with
 |DW g b off C L h=>
  let u:Array Value:=((List.range (Z g)).map C).toArray;have E:(Value.agg u).cells.size=Z g:=by simp[aeV,u]
  refine⟨if t.agg then .agg (u.extract 0 (0+t.size))else u.getD 0 undef,?_,?_⟩
  .simp only[execOp,q,B,Instr.loadAt,Instr.sureAddr,l6,tp,lh];rw[show(⟨b,off,br⟩:Addr)=⟨b,off+0,br⟩from rfl];rw[F4 (u:=.agg u) (j:=0) A E (by omega) ha (λj hj=>by
    rw[(h j hj).1];simp[aeV,hj,u])]
   rfl
  .unfold Vo;cases k:t.agg with
   |true=>
    simp;refine .d _ _ (.agg _ _ (by simp[u]) (λi hi=>?_) (λi hi=>?_))
    .have F:i<t.size:=by simp at hi;omega
     simpa[u]using(h i (by omega)).2.1
    .have F:i<t.size:=by simp[u]at hi;omega
     simpa[u]using(h i (by omega)).2.2
   |false=>
    have h1:t.size=1:=by simpa[k]using ha
    simp only[su,li];have m:0<Z g:=by omega
    have H:g.getD 0 (.bool am)=g[0]:=by simp[lg,m]
    rw[H];have:=(h 0 m).2.1;refine .d _ _ ?_;simpa[u,wn,m]using this
end
abbrev L1:=@List.getElem?_map
abbrev WP:=@Option.map_eq_some_iff
abbrev acY:=@Prod.mk.injEq
section
variable {P:Program} {n:Nat} {o:Oper} {tm:Tm} {S S':Sg} {v:V}
def E0(P:Program)(T:c9)(f:Nat):Option (Nat×c9):=
 match ti P T with
 |some t=>match t.kind with
  |.struct g=>g[f]?
  |_=>br
 |none=>br
theorem OQ{T:c9}{f:Nat}{off:Nat}{U:c9}(h:E0 P T f=al (off,U))(w:cl):
  ∃g fl,(underlying T).run P w=.ok (.struct g) w/\g[f]?=al fl/\fl.offset=off/\fl.type=U:=by
 unfold E0 at h;split at h
 .rename_i t j;split at h
  .rename_i u k;obtain⟨d,m,i⟩:=An j w;rw[k]at i;cases d with
   |struct g=>
    simp[tk,TK.struct.injEq]at i;subst i;simp at h;obtain⟨fl,h1,q,s⟩:=h;exact⟨g,fl,m,by simpa using h1,q,s⟩
   |_=>simp[tk]at i
  .cases h
 .cases h
def ux(off:Nat)(p:V):V:=
 match p with
 |.ptr r m i j=>.ptr r m i (j+off)
 |.DW g=>.DW (g.drop off)
 |_=>.any
def Gn(S:Sg)(p:V):Prop:=
 match p with
 |.ptr r m i _=>match S[r]? with
  |some (.row _ _ g)=>Z g=m/\i<Z g
  |_=>False
 |.DW _=>True
 |_=>False
theorem Qm{G:Gh}{w:cl}(R:Rel P G S w){r i:Nat}{wr:Bool}{sz:Nat}{els:List V}(u:S[r]?=al (.row wr sz els))(hi:i<Z els):
  ∃b k,∀j,G.addr r j=.pointer (al ⟨b,k+j,br⟩):=by
 have h:=R.DX r _ u;simp[OK]at h;cases m:G.BJ r with
 |none=>exact⟨G.Cf r,(G.cap r).2,λj=>by simp[Gh.addr,m]⟩
 |some a=>
  simp[m]at h;obtain⟨_,_,g,rfl,q⟩:=h;have z:i<Z g:=by simpa using hi
  generalize s:D.sl g=X at q;generalize A:Value.slice a (Z g) (Z g)=Y at q;cases q with
  |nil a cap=>cases s;simp at z
  |sl B C b off cap F H K t h1 L=>
   injection A with E M N;subst E;exact⟨b,off,λj=>by simp[Gh.addr,m]⟩
  |_=>cases s
theorem Sn{T U:c9}{x:le}{f off:Nat}{u:TI}(H:o.op=.fieldAddr T x f)(K:need (ev tm x))(L:E0 P T f=al (off,U))(M:ti P U=al u)(N:u.size≠0)
  (g:Gn S (strip (ev tm x))):CP P n o tm S (ux off (strip (ev tm x))) S:=.pure λG w a st=>by
 have h1:=(BY st x).strip K;generalize strip (ev tm x)=X at *;obtain⟨fs,fl,Q,R,W,Y⟩:=OQ L w;have E:∀b k,a.eval x=.pointer (al ⟨b,k,br⟩)->(execOp a.eval o).run P w=.ok (.value (.pointer (al ⟨b,k+off,br⟩))) w:=λb k t=>by
  simp[execOp,H,t,Instr.fieldAt,Q,R,Instr.sureAddr,fieldPlace,Y,W,Ba M,a9 N,Gm,Sem.run_ite]
 unfold Gn at g;split at g
 .rename_i r m i j;split at g
  .rename_i wr sz els z;obtain⟨hm,hi⟩:=g;have q:=h1.Kk z hm;obtain⟨b,k,t⟩:=Qm st.rel z hi;rw[t]at q;refine⟨_,E _ _ q,?_⟩;cases h1 with
   |ptr _ _ _ _ _ h2 h3 h4=>
    refine .ptr _ _ _ _ _ rfl h3 λm' A=>⟨(h4 m' A).1,λe B s=>?_⟩;have:B=sz:=by simpa[C0,z]using s.symm
    subst this;rw[<-q7,t];simp[q7]
  .exact g.elim
 .rename_i F;generalize hX:a.eval x=X at h1;cases h1 with
  |DW F b k vs hI h=>
   refine⟨_,E _ _ hX,?_⟩;refine .DW _ _ _ (λj=>vs (off+j)) hI λj hj=>?_;have C:off+j<Z F:=by simp at hj;omega
   have:=h (off+j) C;simpa[q7]using this
 .exact g.elim
def BE:D->List D
 |.agg ds=>ds
 |d=>[d]
def vn(x:V)(i:Nat):V:=
 match x with
 |.d (.sl g)=>.DW (BE (g.getD i (.bool am)))
 |.full g=>.DW (BE (g.getD i (.bool am)))
 |.row r m=>.ptr r m i 0
 |_=>.any
def CR(S:Sg)(x:V)(i:Int)(sz:Nat):Prop:=
 match x with
 |.d (.sl g)=>0<=i/\i<Z g/\Z (BE (g.getD i.toNat (.bool am)))=sz/\oneD (g.getD i.toNat (.bool am))=J
 |.full g=>0<=i/\i<Z g/\Z (BE (g.getD i.toNat (.bool am)))=sz/\oneD (g.getD i.toNat (.bool am))=J
 |.row r m=>match S[r]? with
  |some (.row _ j h)=>Z h=m/\0<=i/\i<Z h/\j=sz
  |_=>False
 |_=>False
 where
 oneD:D->Bool
  |.CA _=>am
  |.raw v=>one v
  |_=>J
theorem CD.cells{I:Nat->Prop}{w:cl}{d:D}{v:Value}(h:CD I w d v)(t:CR.oneD d=J):v.cells.size=Z (BE d)/\∀i (h:i<Z (BE d)),∃u,v.cells[i]?=al u/\CD I w (BE d)[i] u/\one u=true:=by
 cases h with
 |agg ds g j h q=>exact⟨j,λi hi=>⟨g[i]'(by simp[BE]at hi;omega),by simp[aeV],h i hi,q i (by simp[BE]at hi;omega)⟩⟩
 |CA=>simp[CR.oneD]at t
 |raw v=>
  have z:one v=true:=t;rw[Kj z];refine⟨rfl,λi hi=>?_⟩;have:i=0:=by simp[BE]at hi;exact hi
  subst this;exact⟨v,rfl,.raw v,z⟩
 |bool b=>exact⟨rfl,λi hi=>by
  have:i=0:=by simp[BE]at hi;exact hi
  subst this;exact⟨_,rfl,.bool b,rfl⟩⟩
 |int k m A=>exact⟨rfl,λi hi=>by
  have:i=0:=by simp[BE]at hi;exact hi
  subst this;exact⟨_,rfl,.int k m A,rfl⟩⟩
 |str s j=>exact⟨rfl,λi hi=>by
  have:i=0:=by simp[BE]at hi;exact hi
  subst this;exact⟨_,rfl,.str s j,rfl⟩⟩
 |nil a c=>exact⟨rfl,λi hi=>by
  have:i=0:=by simp[BE]at hi;exact hi
  subst this;exact⟨_,rfl,.nil a c,rfl⟩⟩
 |sl sz B b off cap g C E F h1 G=>exact⟨rfl,λi hi=>by
  have:i=0:=by simp[BE]at hi;exact hi
  subst this;exact⟨_,rfl,.sl sz B b off cap g C E F h1 G,rfl⟩⟩
theorem pd{G:Gh}{w:cl}{xs:List D}{cv:Value}(h:CD G.I w (.sl xs) cv){i:Nat}(hi:i<Z xs)(m:CR.oneD xs[i]=J):
  ∃b off len cap,cv=.slice (al ⟨b,off,br⟩) len cap/\len=Z xs/\CV G S w (.DW (BE xs[i])) (.pointer (al ⟨b,off+i * Z (BE xs[i]),br⟩)):=by
 cases h with
 |nil=>simp at hi
 |sl sz xs b off cap g q C E h1 s=>
  obtain⟨c1,c2⟩:=(h1 i hi).cells m;obtain⟨F,t⟩:=s i hi;have z:Z (BE xs[i])=sz:=by omega
  refine⟨b,off,_,cap,rfl,rfl,.DW _ _ _ (λj=>(g i).cells.getD j undef) q λj hj=>?_⟩;obtain⟨u,k,A,B⟩:=c2 j hj;have e:(g i).cells.getD j undef=u:=by simp[k]
  rw[e,z,t j (by omega)];exact⟨k,A,B⟩
theorem TM{T:c9}{x y:le}{E:c9}{k:IntKind}{i:Int}{t e:TI}(ho:o.op=.indexAddr T x y)(M:need (ev tm x))(N:need (ev tm y))(ht:ti P T=al t)(hk:t.kind=.slice E)
  (he:ti P E=al e) (ey:strip (ev tm y)=.d (.int k i)) (u:CR S (strip (ev tm x)) i e.size):CP P n o tm S (vn (strip (ev tm x)) i.toNat) S:=.pure λG w a st=>by
 have h1:=(BY st x).strip M;have Q:=(BY st y).strip N;rw[ey]at Q;obtain⟨d,hd,R⟩:=An ht w;have U:d=.slice E:=by rw[hk]at R;cases d<;>simp[tk]at R⊢;exact R
 subst U;have W:∀b off len cap,a.eval x=.slice (al ⟨b,off,br⟩) len cap->0<=i->i<len->(execOp a.eval o).run P w=.ok (.value (.pointer (al ⟨b,off+i.toNat * e.size,br⟩))) w:=λb off len cap A h0 F=>by
  simp[execOp,ho,Q.int,A,Instr.indexAt,asIntOf,hd,Gm];rw[b8 ⟨h0,F⟩];simp[Ba he]
 generalize strip (ev tm x)=X at *;unfold CR at u;split at u
 .rename_i q;obtain⟨h0,F,B,g⟩:=u;have hi:i.toNat<Z q:=by omega
  have s:q.getD i.toNat (.bool am)=q[i.toNat]:=by simp[lg,hi]
  rw[s]at B g;have C:CD G.I w (.sl q) (a.eval x):=by cases h1 with|d _ _ h=>exact h
  obtain⟨b,off,len,cap,g1,g2,g3⟩:=pd (S:=S) C hi g;refine⟨_,W b off len cap g1 h0 (by omega),?_⟩;rw[<-B];simpa only[vn,s]using g3
 .rename_i q;obtain⟨h0,F,B,g⟩:=u;have hi:i.toNat<Z q:=by omega
  have s:q.getD i.toNat (.bool am)=q[i.toNat]:=by simp[lg,hi]
  rw[s]at B g;have C:CD G.I w (.sl q) (a.eval x):=by
   generalize a.eval x=X at h1;cases h1 with|full _ _ h=>exact h
  obtain⟨b,off,len,cap,g1,g2,g3⟩:=pd (S:=S) C hi g;refine⟨_,W b off len cap g1 h0 (by omega),?_⟩;rw[<-B];simpa only[vn,s]using g3
 .rename_i r m;split at u
  .rename_i wr sz els hr;obtain⟨hm,h0,F,B⟩:=u;subst B;have hi:i.toNat<Z els:=by omega
   have z:lenOf S r=al m:=by simp[lenOf,hr,hm]
   have zF:a.eval x=G.BP r m/\r<Z S:=by
    cases h1 with|row _ _ _ _ y7 h=>exact⟨(h m z).2 rfl,y7⟩
   obtain⟨zF,y7⟩:=zF;have zi:=st.rel.DX r _ hr;have key:∃b off cap,G.BP r m=.slice (al ⟨b,off,br⟩) m cap/\∀j,G.addr r j=.pointer (al ⟨b,off+j,br⟩):=by
    simp[OK]at zi;cases A:G.BJ r with
    |none=>exact⟨G.Cf r,(G.cap r).2,(G.cap r).1,by simp[Gh.BP,A],λj=>by simp[Gh.addr,A]⟩
    |some b=>
     simp[A]at zi;obtain⟨_,_,q,rfl,hc⟩:=zi;have ze:i.toNat<Z q:=by simpa using hi
     generalize M:D.sl q=X at hc;generalize N:Value.slice b (Z q) (Z q)=Y at hc;cases hc with
     |nil a cap=>cases M;simp at ze
     |sl H xs' b off cap vs hI F hcap h1 Q=>
      injection N with e1 e2 e3;subst e1;exact⟨b,off,m,by simp[Gh.BP,A],λj=>by simp[Gh.addr,A]⟩
     |_=>cases M
   obtain⟨b,off,cap,k1,k2⟩:=key;refine⟨_,W b off m cap (zF.trans k1) h0 (by omega),.ptr _ _ _ _ _ rfl y7 λm' K=>?_⟩;rw[z]at K;cases K;refine⟨ci _,λ_ H L=>?_⟩;have:H=e.size:=by simpa[C0,hr]using L.symm
   subst this;rw[k2];simp
  .exact u.elim
 .exact u.elim
end
section
variable {P:Program} {n:Nat} {o:Oper} {tm:Tm} {S S':Sg} {v:V}
theorem Ml{n:Nat}(h:n<=maxLen):IX .i64 n=true:=by
 simp[maxLen]at h;simp[IX];omega
theorem CD.len{I:Nat->Prop}{w:cl}{xs:List D}{v:Value}(h:CD I w (.sl xs) v):Z xs<=maxLen:=by
 cases h with
 |nil=>simp
 |sl sz xs b off cap i j g=>exact g
theorem Rel.rq{G:Gh}{w:cl}(R:Rel P G S w){r m:Nat}(h:lenOf S r=al m):m<=maxLen:=by
 unfold Koi.lenOf at h;split at h
 .rename_i j sz i g;cases h;have:=R.DX r _ g;simp only[OK]at this;split at this
  .obtain⟨c,T,_,_,_,h,_⟩:=this;exact h
  .obtain⟨_,h,_⟩:=this;exact h
 .rename_i k g;cases h;have:=R.DX r _ g;simp only[OK]at this;exact this.len
 .cases h
theorem aI{T:c9}{x:le}{c:Call}{xs:List D}{t:TI}{E:c9}(m:o.op=.call c)(q:c.callee=.builtin .len)(s:c.args=#[x])(u:c.argTypes=#[T])
  (z:need (ev tm x)) (A:strip (ev tm x)=.d (.sl xs)) (B:ti P T=al t) (C:t.kind=.slice E):CP P n o tm S (.d (.int .i64 (Z xs))) S:=.pure λG w a st=>by
 have h1:=(BY st x).strip z;rw[A]at h1;obtain⟨d,F,i⟩:=An B w;have j:d=.slice E:=by rw[C]at i;cases d<;>simp[tk]at i⊢;exact i
 subst j;have g:Z xs<=maxLen:=by cases h1 with|d _ _ h=>exact h.len
 have:∃k cap,a.eval x=.slice k (Z xs) cap:=by
  generalize a.eval x=X at h1;cases h1 with|d _ _ h=>cases h with
   |nil a c=>exact⟨a,c,rfl⟩
   |sl sz xs b off cap=>exact⟨_,cap,rfl⟩
 obtain⟨k,cap,H⟩:=this;refine⟨.int .i64 (Z xs),?_,.d _ _ (.int _ _ (Ml g))⟩;simp[execOp,m,resolve,q,s,u,H,invoke,builtin,Builtin.len_,F,goInt]
theorem Ui{T:c9}{x:le}{c:Call}{xs:List D}{t:TI}{E:c9}(j:o.op=.call c)(k:c.callee=.builtin .len)(m:c.args=#[x])(q:c.argTypes=#[T])
  (s:need (ev tm x)) (u:strip (ev tm x)=.full xs) (z:ti P T=al t) (A:t.kind=.slice E):CP P n o tm S (.d (.int .i64 (Z xs))) S:=.pure λG w a st=>by
 have h1:=(BY st x).strip s;rw[u]at h1;obtain⟨d,B,g⟩:=An z w;have i:d=.slice E:=by rw[A]at g;cases d<;>simp[tk]at g⊢;exact g
 subst i;generalize C:a.eval x=X at h1;cases h1 with
 |full _ F h=>
  refine⟨.int .i64 (Z xs),?_,.d _ _ (.int _ _ (Ml h.len))⟩;simp[execOp,j,resolve,k,m,q,C,invoke,builtin,Builtin.len_,B,goInt]
theorem W4{T:c9}{x:le}{c:Call}{r m:Nat}{t:TI}{E:c9}(s:o.op=.call c)(u:c.callee=.builtin .len)(z:c.args=#[x])(A:c.argTypes=#[T])
  (B:need (ev tm x)) (C:strip (ev tm x)=.row r m) (k:lenOf S r=al m) (F:ti P T=al t) (H:t.kind=.slice E):CP P n o tm S (.d (.int .i64 m)) S:=.pure λG w a st=>by
 have h1:=(BY st x).strip B;rw[C]at h1;obtain⟨d,K,g⟩:=An F w;have i:d=.slice E:=by rw[H]at g;cases d<;>simp[tk]at g⊢;exact g
 subst i;have j:a.eval x=G.BP r m:=by
  cases h1 with|row _ _ _ _ _ h=>exact(h m k).2 rfl
 have:∃q cap,a.eval x=.slice q m cap:=by
  rw[j];unfold Gh.BP;split<;>exact⟨_,_,rfl⟩
 obtain⟨q,cap,j⟩:=this;refine⟨.int .i64 m,?_,.d _ _ (.int _ _ (Ml (st.rel.rq k)))⟩;simp[execOp,s,resolve,u,z,A,j,invoke,builtin,Builtin.len_,K,goInt]
theorem Wq{T:c9}{x:le}{c:Call}{s:ByteArray}{t:TI}(i:o.op=.call c)(j:c.callee=.builtin .len)(k:c.args=#[x])(m:c.argTypes=#[T])
  (q:need (ev tm x)) (u:strip (ev tm x)=.d (.str s)) (z:ti P T=al t) (A:t.kind=.str):CP P n o tm S (.d (.int .i64 s.size)) S:=.pure λG w a st=>by
 have h1:=(BY st x).strip q;rw[u]at h1;obtain⟨d,B,h⟩:=An z w;have g:d=.string:=by rw[A]at h;cases d<;>simp[tk]at h⊢
 subst g;have C:=h1.str.1;have E:=h1.str.2;refine⟨.int .i64 s.size,?_,.d _ _ (.int _ _ (Ml E))⟩;simp[execOp,i,resolve,j,k,m,C,invoke,builtin,Builtin.len_,B,goInt]
theorem XE{x:le}{k:Nat}{vs:List V}(i:o.op=.extract x k)(j:need (ev tm x))(m:strip (ev tm x)=.CA vs)(g:k<Z vs):
  CP P n o tm S (vs.getD k .any) S:=.pure λG w a st=>by
 have h1:=(BY st x).strip j;rw[m]at h1;generalize q:a.eval x=X at h1;cases h1 with
 |CA u s t h=>
  refine⟨s[k],?_,?_⟩
  .simp[execOp,i,q,Instr.extract,t,g]
  .have:vs.getD k .any=vs[k]:=by simp[lg,g]
   rw[this];exact h k g
theorem Ub{x:le}{k:Nat}{vs:List D}(i:o.op=.extract x k)(j:need (ev tm x))(m:strip (ev tm x)=.d (.CA vs))(g:k<Z vs):
  CP P n o tm S (.d (vs.getD k (.bool am))) S:=.pure λG w a st=>by
 have h1:=(BY st x).strip j;rw[m]at h1;generalize q:a.eval x=X at h1;cases h1 with
 |d _ _ h1=>cases h1 with
  |CA u s t h=>
   refine⟨s[k],?_,?_⟩
   .simp[execOp,i,q,Instr.extract,t,g]
   .have:vs.getD k (.bool am)=vs[k]:=by simp[lg,g]
    rw[this];exact .d _ _ (h k g)
theorem UF{f:Fn}{as g:Array le}(j:o.op=.makeFunc f as g):CP P n o tm S (.fn f (as.toList.map (ev tm)) (g.toList.map (ev tm))) S:=.pure λG w a st=>by
 refine⟨.func f (as.map a.eval) (g.map a.eval),by simp[execOp,j,Instr.makeFunc],.fn _ _ _ _ _ (by simp) (by simp) (λi h=>?_) (λi h=>?_)⟩
 .simpa using BY st _
 .simpa using BY st _
theorem UA{x:le}{r m i j:Nat}(s:o.op=.nilCheck x)(t:need (ev tm x))(u:strip (ev tm x)=.ptr r m i j)(h:Gn S (.ptr r m i j)):CP P n o tm S (.ptr r m i j) S:=.pure λG w a st=>by
 have h1:=(BY st x).strip t;rw[u]at h1;simp only[Gn]at h;split at h
 .rename_i C sz z q;obtain⟨A,hi⟩:=h;have g:=h1.Kk q A;obtain⟨b,k,B⟩:=Qm st.rel q hi;rw[B]at g;exact⟨a.eval x,by simp[execOp,s,g],h1⟩
 .exact h.elim
theorem Sl{x:le}{g:List D}(i:o.op=.nilCheck x)(j:need (ev tm x))(k:strip (ev tm x)=.DW g):CP P n o tm S (.DW g) S:=.pure λG w a st=>by
 have h1:=(BY st x).strip j;rw[k]at h1;refine⟨a.eval x,?_,h1⟩;generalize m:a.eval x=X at h1;cases h1 with
 |DW g b off q s h=>simp[execOp,i,m]
theorem kE{T U:c9}{x:le}{f off:Nat}{u:TI}(s:o.op=.field T x f)(t:need (ev tm x))(z:E0 P T f=al (off,U))(k:ti P U=al u)
  (h:Ap (strip (ev tm x))=J) (hj:off+u.size<=Z (Aj (strip (ev tm x)))) (ha:u.agg=J\/u.size=1):
  CP P n o tm S (QB u.agg u.size (strip (ev tm x)) off) S:=.pure λG w a st=>by
 have h1:=(BY st x).strip t;obtain⟨H,fl,A,B,C,E⟩:=OQ z w;have i:=P5 h1 (.inl h) hj ha;obtain⟨c1,_,m⟩:=h1.cells (.inl h);generalize strip (ev tm x)=X at *;have g:∃j,a.eval x=.agg j:=by
  generalize a.eval x=Y at h1;cases h1 with
  |agg=>exact⟨_,rfl⟩
  |d d v F=>cases F<;>first|exact⟨_,rfl⟩|simp[Ap]at h
  |_=>simp[Ap]at h
 obtain⟨j,q⟩:=g;rw[q]at i c1 m;simp only[aeV]at i c1 m;refine⟨_,?_,i⟩;simp only[execOp,s,q,Instr.field,l6,A,lh,B,asAgg,tp,part,C,E,Mu k];cases g:u.agg with
 |true=>simp[Ba k]
 |false=>
  have h1:u.size=1:=by simpa[g]using ha
  simp only[su,li];have:off<j.size:=by omega
  simp[this]
end
abbrev adV:=@dif_pos
abbrev i9:=@Option.some.injEq
abbrev up:=@List.getElem_append_left
abbrev R2:=@List.getElem_append_right
abbrev i6:=@List.length_append
abbrev abM:=@List.length_take
abbrev abg:=@Nat.mul_le_mul_right
abbrev sw:=@Nat.add_mul
abbrev oi:=@List.mem_iff_getElem
abbrev ace:=@Array.length_toList
abbrev aci:=@Array.getElem?_toList
abbrev acu:=@List.getElem_set_ne
section
variable {P:Program} {n:Nat} {o:Oper} {tm:Tm} {S S':Sg} {v:V}
def Sd(e:V)(j:Nat)(x:V):V:=
 if Ap e then
  if j=0/\Z (Aj e)=Z (Aj x)/\Ap x=J then x
  else .agg ((Aj e).take j++Aj x++(Aj e).drop (j+Z (Aj x)))
 else x
theorem CV.Qg{G:Gh}{w:cl}{g:List V}{u:Array Value}(j:u.size=Z g)(h:∀i (h:i<Z g),∃x,u[i]?=al x/\CV G S w g[i] x)
  (k:∀i (h:i<u.size),Koi.one u[i]=J):CV G S w (.agg g) (.agg u):=.agg _ _ j (λi hi=>by
   obtain⟨x,h1,m⟩:=h i hi;have:u[i]'(by omega)=x:=by rw[nu (by omega)]at h1;simpa using h1
   rw[this];exact m) k
theorem pF{G:Gh}{w:cl}{e x:V}{u y:Value}{j:Nat}(h:CV G S w e u)(U:Ap e=J\/Bu e=J)(H:CV G S w x y)(K:Ap x=J\/Bu x=J)
  (hj:j+Z (Aj x)<=Z (Aj e)) (W:Ap e=J\/Ap x=am):
  ∃z,CV G S w (Sd e j x) z/\z.cells.size=u.cells.size/\(∀c∈z.cells,one c=J)/\(∀i,z.cells[i]?=if j<=i/\i<j+y.cells.size then y.cells[i - j]? else u.cells[i]?)/\(Ap (Sd e j x)=J\/Bu (Sd e j x)=J)/\Z (Aj (Sd e j x))=Z (Aj e):=by
 obtain⟨c1,c2,X⟩:=h.cells U;obtain⟨d1,d2,d3⟩:=H.cells K;have k:∀{z:Value},(∀i (h:i<z.cells.size),one z.cells[i]=J)->∀c∈z.cells,one c=true:=λL c A=>by
  obtain⟨i,hi,rfl⟩:=abF.1 A;exact L i hi
 have whole:j=0->Z (Aj e)=Z (Aj x)->∀i,y.cells[i]?=if j<=i/\i<j+y.cells.size then y.cells[i - j]? else u.cells[i]?:=λh0 h1 i=>by
  subst h0;by_cases hi:i<y.cells.size
  .rw[b8 (by omega)];simp
  .rw[a9 (by omega),WF (by omega),WF (by omega)]
 unfold Sd;split
 .rename_i m;split
  .rename_i A;obtain⟨h0,h1,_⟩:=A;exact⟨y,H,by omega,k d2,whole h0 h1,K,h1.symm⟩
  .let z:Array Value:=Array.ofFn (n:=u.cells.size) λi=>if j<=i.val/\i.val<j+y.cells.size then y.cells.getD (i.val - j) undef else u.cells.getD i.val undef;have L:z.size=u.cells.size:=by simp[z]
   have t:∀i,z[i]?=if j<=i/\i<j+y.cells.size then y.cells[i - j]? else u.cells[i]?:=λi=>by
    by_cases M:i<u.cells.size
    .simp only[z,Array.getElem?_ofFn,M,adV];by_cases s:j<=i/\i<j+y.cells.size
     .rw[b8 s,b8 s,nu (show i - j<y.cells.size by omega)];simp[show i - j<y.cells.size by omega]
     .rw[a9 s,a9 s,nu M];simp
    .rw[WF (by omega),a9 (by omega),WF (by omega)]
   have B:∀i (h:i<z.size),one z[i]=true:=λi hi=>by
    have h1:=t i;rw[nu hi]at h1;by_cases s:j<=i/\i<j+y.cells.size
    .rw[b8 s,nu (by omega)]at h1;simp at h1;rw[h1];exact d2 _ _
    .rw[a9 s,nu (by omega)]at h1;simp at h1;rw[h1];exact c2 _ _
   have g:Z ((Aj e).take j++Aj x++(Aj e).drop (j+Z (Aj x)))=Z (Aj e):=by simp;omega
   refine⟨.agg z,CV.Qg (by rw[L,g,c1]) (λi hi=>?_) B,L,?_,t,.inl rfl,g⟩
   .rw[g]at hi;rw[t];by_cases s:j<=i/\i<j+y.cells.size
    .rw[b8 s];obtain⟨q,N,Q⟩:=d3 (i - j) (by omega);refine⟨q,N,?_⟩;have:((Aj e).take j++Aj x++(Aj e).drop (j+Z (Aj x)))[i]'(by rw[g];exact hi)=(Aj x)[i - j]'(by omega):=by
      rw[up (by simp;omega),R2 (by simp;omega)];congr 1;simp;omega
     rw[this];exact Q
    .rw[a9 s];obtain⟨q,N,Q⟩:=X i hi;refine⟨q,N,?_⟩;have:((Aj e).take j++Aj x++(Aj e).drop (j+Z (Aj x)))[i]'(by rw[g];exact hi)=(Aj e)[i]:=by
      by_cases M:i<j
      .rw[up (by simp;omega),up (by simp;omega)];simp
      .rw[R2 (by simp;omega)];simp[List.getElem_drop];congr 1;omega
     rw[this];exact Q
   .intro c A;obtain⟨i,hi,rfl⟩:=abF.1 A;exact B i hi
 .rename_i m;have h1:Bu e=true:=U.resolve_left m;have C:=Kj (h.one h1);rw[C]at c1;simp at c1;have R:Bu x=true:=K.resolve_left (by simpa using W.resolve_left m);have E:=Kj (H.one R);have F:=d1;rw[E]at F;simp at F;have T:j=0:=by omega
  exact⟨y,H,by rw[C,E];simp,k d2,whole T (by omega),K,by omega⟩
def mV(S:Sg)(p:V)(x:V):Sg:=
 match p with
 |.ptr r _ i j=>
  match S[r]? with
  |some (.row h sz g)=>S.set r (.row h sz (g.set i (Sd (g.getD i .any) j x)))
  |_=>S
 |_=>S
theorem eB{T:c9}{x y:le}{t:TI}(ho:o.op=.store T x y)(hx:need (ev tm x))(hy:need (ev tm y))(ht:ti P T=al t)
  (A:JI S (strip (ev tm x)) λwr _ i j sz g=>wr=J/\j+t.size<=sz/\(Ap (g.getD i .any)||!Ap (strip (ev tm y)))=J)
  (B:(Ap (strip (ev tm y))||Bu (strip (ev tm y)))=J) (hs:Z (Aj (strip (ev tm y)))=t.size):
  CP P n o tm S .any (mV S (strip (ev tm x)) (strip (ev tm y))):=.skip λG w a st=>by
 have h1:=(BY st x).strip hx;have h2:=(BY st y).strip hy;generalize strip (ev tm x)=X at *;generalize strip (ev tm y)=Y at *;unfold JI at A;split at A
 .rename_i r m i j;split at A
  .rename_i wr sz g s;obtain⟨U,hi,Q,zg,W,hj,q⟩:=A;subst W;have hgd:g.getD i .any=g[i]:=by simp[lg,hi]
   simp only[mV,s];rw[hgd]at Q zg q⊢;have Q:Ap g[i]=J\/Bu g[i]=true:=by simpa using Q
   have B:Ap Y=J\/Bu Y=true:=by simpa using B
   have q:Ap g[i]=J\/Ap Y=false:=by simpa using q
   have hpv:=h1.Kk s U;have E:=st.rel.DX r _ s;simp only[OK]at E;cases h:G.BJ r with
   |some a0=>simp only[h]at E;exact absurd E.1 (by simp)
   |none=>
    simp only[h]at E;obtain⟨c,T0,g1,g2,g3,g4,g5⟩:=E;obtain⟨u,u1,u2,u3,u4⟩:=g5 i hi;obtain⟨d1,d2,_⟩:=h2.cells B;obtain⟨z,z1,z2,z3,z4,z5,z6⟩:=pF u1 Q h2 B (j:=j) (by omega) q;have F:a.eval x=.pointer (al ⟨G.Cf r,(G.cap r).2+(i * sz+j),br⟩):=by rw[hpv];simp[Gh.addr,h]
    have hfit:(G.cap r).2+(i * sz+sz)<=c.size:=by
     have:(i+1) * sz<=(G.cap r).1 * sz:=abg _ (by omega);rw[sw]at this;omega
    have H:(a.eval y).cells.size=t.size:=by omega
    have zc:=Jp (P:=P) (b:=G.Cf r) (off:=(G.cap r).2+(i * sz+j)) (T:=T0) (a.eval y).cells.toList 0 w c g1 (by simp;omega) (λv B=>by
     obtain⟨k,q,rfl⟩:=oi.1 B;simpa using d2 k (by simpa using q))
    have K:Bb G r (.row J sz g)=true:=by simp[Bb,h]
    have M:Bb G r (.row J sz (g.set i (Sd g[i] j Y)))=true:=by simp[Bb,h]
    refine⟨G,D1 w (G.Cf r) (.cells (C1 c ((G.cap r).2+(i * sz+j)) (a.eval y).cells.toList) T0 (0,0)),?_,?_⟩
    .simp[execOp,ho,F,Instr.storeAt,Instr.sureAddr,storeVar,Ba ht];simp[H];simp at zc;simp[zc]
    .refine st.rel.update s K M (λn' zK=>?_) (λU=>?_) (λL=>?_)
     .have R:=Ai s;have e1:lenOf (S.set r (.row J sz (g.set i (Sd g[i] j Y)))) r=al (Z g):=by simp[lenOf,R]
      rw[e1]at zK;cases zK;exact⟨Z g,by simp[lenOf,s],ci _,λ_=>.inl (by simp[C0,s];simp[R])⟩
     .have R:=Ai s;simp[Bn,R]at U
     .simp only[OK,h];have hb:=GK g1;refine⟨_,T0,Gk hb,by rw[Ea];exact g2,by simpa using g3,by simpa using g4,λC ze=>?_⟩;have N:C<Z g:=by simpa using ze
      by_cases e:C=i
      .subst e;refine⟨z,by simpa using z1.later L,by omega,z3,λk q=>?_⟩;rw[EF _ _ _ _ (by simp;omega),z4 k,u4 k q |>.symm];simp only[ace];by_cases h3:j<=k/\k<j+(a.eval y).cells.size
       .rw[b8 (by omega),b8 h3];simp only[aci];congr 1;omega
       .rw[a9 (by omega),a9 h3]
      .obtain⟨v',v1,v2,v3,v4⟩:=g5 C N;refine⟨v',by simpa[acu (ru e)]using v1.later L,v2,v3,λk q=>?_⟩;rw[EF _ _ _ _ (by simp;omega),<-v4 k q,a9];simp only[ace];intro⟨h3,h4⟩;rcases x3 C i with h5|h5
       .have:(C+1) * sz<=i * sz:=abg _ h5;rw[sw]at this;omega
       .have:(i+1) * sz<=C * sz:=abg _ (by omega);rw[sw]at this;omega
  .exact A.elim
 .exact A.elim
end
abbrev acj:=@List.foldl_cons
abbrev abn:=@List.getElem_cons_zero
abbrev mn:=@congrArg
abbrev adr:=@List.mapM_cons
abbrev rg:=@List.getElem_map
abbrev fd:=@List.mem_map
abbrev ol:=@Option.isSome_iff_exists
abbrev adt:=@Array.mem_of_getElem?
abbrev acI:=@Array.toList_map
abbrev acF:=@Option.map_some
section
variable {P:cP} {n:Nat} {o:Oper} {tm:Tm} {S S':Sg} {v:V}
theorem SC{G:Gh}{w:World}(R:Rel P G S w){T:c9}{e:V}{u:cL}(h:CV G S w e u)(s:(Ap e||Bu e)=J):
  ∃cv g q,(newVar T u).run P w=.ok cv g/\CV q (S++[.row J (Z (Aj e)) [e]]) g (.ptr (Z S) 1 0 0) (.pointer (al cv))/\Rel P q (S++[.row J (Z (Aj e)) [e]]) g/\Tr G S w q (S++[.row J (Z (Aj e)) [e]]) g/\BH G S w q (S++[.row J (Z (Aj e)) [e]]) g:=by
 have s:Ap e=J\/Bu e=true:=by simpa using s
 obtain⟨c1,c2,F⟩:=h.cells s;obtain⟨r1,r2,t⟩:=R.add 1 (.row J (Z (Aj e)) [e]) (.cells u.cells T (0,0)) (λL=>by
  have z:(G.at (Z S) w.heap.size 1 br).BJ (Z S)=none:=by simp[Gh.at]
  have hb:(G.at (Z S) w.heap.size 1 br).Cf (Z S)=w.heap.size:=by simp[Gh.at]
  have A:(G.at (Z S) w.heap.size 1 br).cap (Z S)=(1,0):=by simp[Gh.at]
  simp only[OK,z,hb,A];refine⟨u.cells,T,EK,by omega,by simp,by simp[maxLen],λi hi=>?_⟩;have:i=0:=by simp at hi;exact hi
  subst this;refine⟨u,by simpa using h.later L,c1,λx B=>?_,λj hj=>by simp⟩;obtain⟨k,C,rfl⟩:=abF.1 B;exact c2 k C)
 refine⟨⟨w.heap.size,0,br⟩,Bj w (.cells u.cells T (0,0)),_,by simp[newVar,newRow,Bj],?_,r1,r2,t⟩;refine .ptr _ _ _ _ _ rfl (by simp) λm E=>?_;have:m=1:=by simpa[lenOf]using E.symm
 subst this;refine⟨ci _,λ_ sz H=>?_⟩;simp[Gh.addr,Gh.at]
def gV(S:Sg)(e:V):Sg:=S++[.row J (Z (Aj e)) [e]]
theorem qv{T:c9}{x:Operand}(g:o.op=.box T x)(h:need (ev tm x))(i:(Ap (strip (ev tm x))||Bu (strip (ev tm x)))=J):
  CP P n o tm S (.ptr (Z S) 1 0 0) (gV S (strip (ev tm x))):=.val λG w a st=>by
 have h1:=(BY st x).strip h;obtain⟨cv,j,k,m,q,s,t,u⟩:=SC st.rel (T:=T) h1 i;exact⟨.pointer (al cv),k,j,by simp[execOp,g,Instr.box,m],q,s,t,u⟩
theorem kD{T:c9}{t:TI}{z:cL}(g:o.op=.alloc T)(h:ti P T=al t)(i:t.zero=al z)(j:(Ap (Og z)||Bu (Og z))=J):
  CP P n o tm S (.ptr (Z S) 1 0 0) (gV S (Og z)):=.val λG w a st=>by
 obtain⟨cv,k,m,q,s,u,A,B⟩:=SC st.rel (T:=T) (Ia G S w z) j;refine⟨.pointer (al cv),m,k,?_,s,u,A,B⟩;simp[execOp,g,Instr.alloc,ED h w i,q]
def MC(G:Gh)(S:Sg)(w:World)(g:List V)(u:Array cL):Prop:=
 u.size=Z g/\(∀i (h:i<u.size),one u[i]=J)/\∀i (h:i<Z g),∃x,u[i]?=al x/\CV G S w g[i] x
theorem CV.YT{G:Gh}{w:World}{e:V}{u:cL}(h:CV G S w e u)(g:Ap e=J\/Bu e=J):MC G S w (Aj e) u.cells:=h.cells g
theorem MC.agg{G:Gh}{w:World}{g:List V}{u:Array cL}(h:MC G S w g u):CV G S w (.agg g) (.agg u):=CV.Qg h.1 h.2.2 h.2.1
theorem MC.put{G:Gh}{w:World}{j ds:List V}{u y:Array cL}{k:Nat}(h:MC G S w j u)(A:MC G S w ds y)(C:k+Z ds<=Z j):
  MC G S w (j.take k++ds++j.drop (k+Z ds)) (C1 u k y.toList):=by
 obtain⟨c1,c2,B⟩:=h;obtain⟨d1,d2,d3⟩:=A;have g:Z (j.take k++ds++j.drop (k+Z ds))=Z j:=by simp;omega
 have z:∀i,(C1 u k y.toList)[i]?=if k<=i/\i<k+y.size then y[i - k]? else u[i]?:=λi=>by
  rw[EF _ _ _ _ (by simp;omega)];simp
 refine⟨by rw[Ea,g,c1],λi hi=>?_,λi hi=>?_⟩
 .have h1:=z i;rw[nu hi]at h1;rw[Ea]at hi;by_cases m:k<=i/\i<k+y.size
  .rw[b8 m,nu (by omega)]at h1;simp at h1;rw[h1];exact d2 _ _
  .rw[a9 m,nu hi]at h1;simp at h1;rw[h1];exact c2 _ _
 .rw[g]at hi;rw[z];by_cases m:k<=i/\i<k+y.size
  .rw[b8 m];obtain⟨q,s,t⟩:=d3 (i - k) (by omega);refine⟨q,s,?_⟩;have:(j.take k++ds++j.drop (k+Z ds))[i]'(by rw[g];exact hi)=ds[i - k]'(by omega):=by
    rw[up (by simp;omega),R2 (by simp;omega)];congr 1;simp;omega
   rw[this];exact t
  .rw[a9 m];obtain⟨q,s,t⟩:=B i hi;refine⟨q,s,?_⟩;have:(j.take k++ds++j.drop (k+Z ds))[i]'(by rw[g];exact hi)=j[i]:=by
    by_cases E:i<k
    .rw[up (by simp;omega),up (by simp;omega)];simp
    .rw[R2 (by simp;omega)];simp[List.getElem_drop];congr 1;omega
   rw[this];exact t
theorem R6(vs:List cL):∀(m k:Nat) (c:Array cL),((vs.zipIdx m).foldl (λg (p:cL×Nat)=>g.setIfInBounds (k+p.2) p.1) c)=C1 c (k+m) vs:=by
 induction vs with
 |nil=>intro m k c;rfl
 |cons v vs h=>intro m k c;simp[List.zipIdx_cons,C1];rw[h];rfl
def R1(place:Nat->Option (Nat×Nat)):List V->List (Nat×V)->List V
 |g,[]=>g
 |g,(i,x)::rest=>
  match place i with
  |some (off,size)=>R1 place (g.take off++Aj x++g.drop (off+size)) rest
  |none=>g
def Kz(place:Nat->Option (Nat×Nat))(len:Nat):List (Nat×V)->Prop
 |[]=>True
 |(i,x)::rest=>
  match place i with
  |some (off,size)=>Z (Aj x)=size/\off+size<=len/\(Ap x||Bu x)=J/\Kz place len rest
  |none=>False
theorem oH{G:Gh}{w:World}{place:Nat->Option (Nat×Nat)}(parts:List (Nat×V)):∀(g:List (Nat×cL)) (j:List V) (u:Array cL),MC G S w j u->Z parts=Z g->(∀i (h:i<Z parts) (R:i<Z g),parts[i].1=g[i].1/\CV G S w parts[i].2 g[i].2)->Kz place (Z j) parts->∃A,Instr.fill place u g=al A/\MC G S w (R1 place j parts) A:=by
 induction parts with
 |nil=>
  intro g j u h B _ _;cases g with
  |nil=>exact⟨u,rfl,h⟩
  |cons=>simp at B
 |cons p parts H=>
  intro g j u h B E s;cases g with
  |nil=>simp at B
  |cons q g=>
   obtain⟨i,x⟩:=p;obtain⟨T,y⟩:=q;have h0:=E 0 (by simp) (by simp);simp at h0;obtain⟨rfl,C⟩:=h0;simp[Kz]at s;simp only[Instr.fill,R1];cases t:place i with
   |none=>rw[t]at s;exact s.elim
   |some os=>
    obtain⟨off,size⟩:=os;rw[t]at s;obtain⟨p1,p2,K,L⟩:=s;have F:=C.YT (by simpa using K);have U:y.cells.size=size:=by rw[F.1,p1]
    have W:u.size=Z j:=h.1;simp only[];rw[a9 (by simp;omega)];have M:(y.cells.zipIdx.foldl (λj (p:cL×Nat)=>j.setIfInBounds (off+p.2) p.1) u)=C1 u off y.cells.toList:=by
     rw[<-Array.foldl_toList,Array.toList_zipIdx,R6];rfl
    have m:=h.put F (k:=off) (by omega);rw[p1]at m;have:=H g _ _ m (by simpa using B) (λk h1 X=>by have:=E (k+1) (by simp;omega) (by simp;omega);simpa using this)
     (by
      have e:Z (j.take off++Aj x++j.drop (off+size))=Z j:=by simp;omega
      rw[e];exact L)
    obtain⟨A,N,Q⟩:=this;exact⟨A,by rw[<-N];exact mn (λz=>Instr.fill place z g) M,Q⟩
def g9(P:cP)(T:c9):Option Nat:=
 match ti P T with
 |some t=>match t.kind with
  |.array _ e=>(ti P e).map (·.size)
  |_=>br
 |none=>br
def placeOf(P:cP)(T:c9)(i:Nat):Option (Nat×Nat):=
 match g9 P T with
 |some s=>al (i * s,s)
 |none=>match E0 P T i with
  |some (off,U)=>match ti P U with
   |some u=>al (off,u.size)
   |none=>br
  |none=>br
def MU(P:cP)(T:c9):Bool:=
 match ti P T with
 |some t=>match t.kind with
  |.struct g=>g.all λf=>(ti P f.2).isSome
  |.array _ e=>(ti P e).isSome
  |_=>false
 |none=>false
theorem Vs{w:World}(fs:List Field)(h:∀f∈fs,∃u,ti P f.type=al u):
  (fs.mapM (m:=Sem) λf=>do pure (f.offset,<-sizeOf f.type)).run P w=.ok (fs.map λf=>(f.offset,((ti P f.type).map (·.size)).getD 0)) w:=by
 induction fs with
 |nil=>simp
 |cons f fs j=>
  obtain⟨u,i⟩:=h f (by simp);have k:=j (λg q=>h g (by simp[q]));simp only[adr,l6,Ba i,lh,tp,k];simp[i]
theorem iY{T:c9}{parts:Array (Nat×Operand)}{t:TI}{z:cL}(F:o.op=.build T parts)(k:ti P T=al t)(H:t.zero=al z)(h:MU P T=J)
  (C:Ap (Og z)=J) (hn:∀p∈parts.toList,need (ev tm p.2))
  (N:Kz (placeOf P T) (Z (Aj (Og z))) (parts.toList.map λp=>(p.1,strip (ev tm p.2)))):
  CP P n o tm S (.agg (R1 (placeOf P T) (Aj (Og z)) (parts.toList.map λp=>(p.1,strip (ev tm p.2))))) S:=.pure λG w a st=>by
 have E:=(Ia G S w z).YT (.inl C);obtain⟨Q,K,R⟩:=oH (S:=S) (G:=G) (w:=w) (place:=placeOf P T) (parts.toList.map λp=>(p.1,strip (ev tm p.2))) (parts.toList.map λp=>(p.1,a.eval p.2)) _ _ E (by simp)
  (λi h1 X=>by
   simp[true_and];exact(BY st _).strip (hn _ (by simp)))
  N
 refine⟨.agg Q,?_,R.agg⟩;unfold MU at h;rw[k]at h;simp[]at h;obtain⟨d,L,j⟩:=An k w;cases s:t.kind with
 |struct Y=>
  rw[s]at h j;cases d with
  |struct q=>
   simp[tk,TK.struct.injEq]at j;subst j;have M:∀f∈q.toList,∃u,ti P f.type=al u:=λf U=>by
    have:=de.1 h (f.offset,f.type) (by simp only[fd];exact⟨f,U,rfl⟩);exact ol.1 this
   have A:(q.mapM (m:=Sem) λf=>do pure (f.offset,<-sizeOf f.type)).run P w=.ok (q.map λf=>(f.offset,((ti P f.type).map (·.size)).getD 0)) w:=by
    rw[Array.mapM_eq_mapM_toList];have:=Vs (P:=P) (w:=w) q.toList M;simp only[Sem.run_map,this,lh];congr 1;apply ad4;simp
   have g:(λi=>(q.map λf=>(f.offset,((ti P f.type).map (·.size)).getD 0))[i]?)=placeOf P T:=by
    funext i;simp only[placeOf,g9,E0,k,s];simp only[Array.getElem?_map,L1,aci];cases W:q[i]? with
    |none=>rfl
    |some f=>
     obtain⟨u,B⟩:=M f (by
      have:=adt W;simpa using this)
     simp[B]
   simp only[execOp,F,Instr.build,l6,ED k w H,lh,L,A];rw[g];simp only[acI,K];simp
  |_=>simp[tk]at j
 |array m e=>
  rw[s]at h j;cases d with
  |array m' e'=>
   simp[tk,TK.array.injEq]at j;obtain⟨rfl,rfl⟩:=j;obtain⟨u,B⟩:=ol.1 h;have g:(λi=>al (i * u.size,u.size))=placeOf P T:=by
    funext i;simp[placeOf,g9,k,s,B]
   simp[execOp,F,Instr.build,ED k w H,L,Ba B];rw[g];simp only[K];simp
  |_=>simp[tk]at j
 |_=>rw[s]at h;cases h
end
abbrev abJ:=@List.getElem_cons_succ
abbrev oj:=@List.length_map
abbrev abp:=@Array.getElem_toList
section
variable {P:cP} {n:Nat} {o:Oper} {tm:Tm} {S S':Sg} {v:V}
def CZ(S:Sg):V->Option D
 |.d d=>al d
 |.full g=>al (.sl g)
 |.row r m=>match S[r]? with
  |some (.BQ g)=>if Z g=m then al (.sl g)else br
  |_=>br
 |_=>br
def Ed(S:Sg):List V->Option (List D)
 |[]=>al []
 |x::g=>match CZ S x,Ed S g with
  |some d,al ds=>al (d::ds)
  |_,_=>br
def LS(S:Sg):V->Option D
 |.agg g=>(Ed S g).map .agg
 |v=>CZ S v
def LK(S:Sg):List V->Option (List D)
 |[]=>al []
 |x::g=>match LS S x,LK S g with
  |some d,al ds=>al (d::ds)
  |_,_=>br
def BC(S:Sg):V->Option D
 |.agg g=>(Ed S g).map .agg
 |.CA g=>(LK S g).map .CA
 |v=>CZ S v
theorem aY{xs:List V}:∀{ds:List D},LK S xs=al ds->Z ds=Z xs/\∀i (h:i<Z xs) (t:i<Z ds),LS S xs[i]=al ds[i]:=by
 induction xs with
 |nil=>intro ds h;simp[LK]at h;subst h;exact⟨rfl,λi h=>by simp at h⟩
 |cons x xs g=>
  intro ds h;simp[LK]at h;split at h
  .rename_i d j h1 k;cases h;obtain⟨m,q⟩:=g k;refine⟨by simp[m],λi hi s=>?_⟩;cases i with
   |zero=>simpa using h1
   |succ i=>simpa using q i (by simpa using hi) (by simpa using s)
  .cases h
theorem Vu{xs:List V}:∀{ds:List D},Ed S xs=al ds->Z ds=Z xs/\∀i (h:i<Z xs) (t:i<Z ds),CZ S xs[i]=al ds[i]:=by
 induction xs with
 |nil=>intro ds h;simp[Ed]at h;subst h;exact⟨rfl,λi h=>by simp at h⟩
 |cons x xs g=>
  intro ds h;simp[Ed]at h;split at h
  .rename_i d j h1 k;cases h;obtain⟨m,q⟩:=g k;refine⟨by simp[m],λi hi s=>?_⟩;cases i with
   |zero=>simpa using h1
   |succ i=>simpa using q i (by simpa using hi) (by simpa using s)
  .cases h
theorem CV.CZ{G:Gh}{w:World}(R:Rel P G S w){x:V}{d:D}{v:cL}(h:CV G S w x v)(g:CZ S x=al d):CD G.I w d v:=by
 cases h with
 |d q v h=>simp[Koi.CZ]at g;subst g;exact h
 |full k a h=>simp[Koi.CZ]at g;subst g;exact h
 |row r m v s t h=>
  simp[Koi.CZ]at g;split at g
  .rename_i k i;split at g
   .rename_i j;simp at g;subst g;have:=R.DX r _ i;simp[OK]at this;rw[(h m (by simp[lenOf,i,j])).2 rfl,<-j];exact this
   .cases g
  .cases g
 |_=>simp[Koi.CZ]at g
theorem CV.LS{G:Gh}{w:World}(R:Rel P G S w){x:V}{d:D}{v:cL}(h:CV G S w x v)(g:LS S x=al d):CD G.I w d v:=by
 cases h with
 |agg u z A h j=>
  simp[Koi.LS]at g;obtain⟨ds,h1,rfl⟩:=g;obtain⟨B,k⟩:=Vu h1;exact .agg _ _ (by omega) (λi hi=>(h i (by omega)).CZ R (k i (by omega) hi)) j
 |d q v h=>exact(CV.d q v h).CZ R g
 |full s a h=>exact(CV.full s a h).CZ R g
 |row r m v j t h=>exact(CV.row r m v j t h).CZ R g
 |_=>simp[Koi.LS,Koi.CZ]at g
theorem CV.BC{G:Gh}{w:World}(R:Rel P G S w){x:V}{d:D}{v:cL}(h:CV G S w x v)(g:BC S x=al d):CD G.I w d v:=by
 cases h with
 |agg q s t h j=>
  simp[Koi.BC]at g;obtain⟨ds,h1,rfl⟩:=g;obtain⟨u,k⟩:=Vu h1;exact .agg _ _ (by omega) (λi hi=>(h i (by omega)).CZ R (k i (by omega) hi)) j
 |CA q s t h=>
  simp[Koi.BC]at g;obtain⟨ds,h1,rfl⟩:=g;obtain⟨u,k⟩:=aY h1;exact .CA _ _ (by omega) (λi hi=>(h i (by omega)).LS R (k i (by omega) hi))
 |d z v h=>exact(CV.d z v h).CZ R g
 |full A a h=>exact(CV.full A a h).CZ R g
 |row r m v j B h=>exact(CV.row r m v j B h).CZ R g
 |_=>simp[Koi.BC,Koi.CZ]at g
def J3(S:Sg):Nat->List (Nat×V)->Option (List D)
 |_,[]=>al []
 |k,(i,x)::rest=>if i=k then match BC S x,J3 S (k+1) rest with
   |some d,al ds=>al (d::ds)
   |_,_=>br
  else br
theorem WD(g:List (Nat×V)):∀(k:Nat) (ds:List D),J3 S k g=al ds->Z ds=Z g/\∀i (h:i<Z g) (z:i<Z ds),g[i].1=k+i/\BC S g[i].2=al ds[i]:=by
 induction g with
 |nil=>intro k ds h;simp[J3]at h;subst h;exact⟨rfl,λi h=>by simp at h⟩
 |cons p g m=>
  intro k ds h;obtain⟨A,x⟩:=p;simp only[J3]at h;split at h
  .rename_i j;split at h
   .rename_i d q h1 s;cases h;obtain⟨t,u⟩:=m _ _ s;refine⟨by simp[t],λi hi w=>?_⟩;cases i with
    |zero=>exact⟨by simpa using j,by simpa using h1⟩
    |succ i=>
     obtain⟨a,b⟩:=u i (by simpa using hi) (by simpa using w);exact⟨by simp;omega,by simpa using b⟩
   .cases h
  .cases h
def FR(size:Nat):List (Nat×V)->Prop
 |[]=>True
 |(_,x)::rest=>Z (Aj x)=size/\(Ap x||Bu x)=J/\FR size rest
theorem J7{size:Nat}:∀(g:List (Nat×V)),FR size g->∀i (h:i<Z g),Z (Aj g[i].2)=size/\(Ap g[i].2||Bu g[i].2)=J
 |(_,x)::rest,h,0,_=>⟨h.1,h.2.1⟩
 |(_,x)::rest,h,i+1,hi=>by simpa using J7 rest h.2.2 i (by simpa using hi)
theorem RQ{size len:Nat}(g:List (Nat×cL)):∀(k:Nat) (u:Array cL),u.size=len * size->k+Z g<=len->(∀i (h:i<Z g),g[i].1=k+i/\g[i].2.cells.size=size)->∃s,Instr.fill (λi=>al (i * size,size)) u g=al s/\s.size=u.size/\(∀i (h:i<Z g) j,j<size->s[(k+i) * size+j]?=g[i].2.cells[j]?)/\(∀m,m<k * size->s[m]?=u[m]?):=by
 induction g with
 |nil=>intro k u t w _;exact⟨u,rfl,rfl,λi h=>by simp at h,λm _=>rfl⟩
 |cons p g E=>
  intro k u t w A;obtain⟨q,y⟩:=p;have h0:=A 0 (by simp);simp at h0;obtain⟨rfl,M⟩:=h0;simp at w;have B:q * size+size<=u.size:=by
   have:(q+1) * size<=len * size:=abg _ (by omega);rw[sw]at this;omega
  simp only[Instr.fill];rw[a9 (by simp;omega)];have F:(y.cells.zipIdx.foldl (λG (p:cL×Nat)=>G.setIfInBounds (q * size+p.2) p.1) u)=C1 u (q * size) y.cells.toList:=by
   rw[<-Array.foldl_toList,Array.toList_zipIdx,R6];rfl
  obtain⟨s,H,K,L,C⟩:=E (q+1) (C1 u (q * size) y.cells.toList) (by rw[Ea];exact t) (by omega) (λi hi=>by
   have:=A (i+1) (by simp;omega);simp at this;exact⟨by omega,this.2⟩)
  refine⟨s,by rw[<-H];exact mn (λz=>Instr.fill _ z g) F,by rw[K,Ea],λi hi j hj=>?_,λm N=>?_⟩
  .cases i with
   |zero=>
    simp;rw[C _ (by rw[sw];omega),EF _ _ _ _ (by simp;omega),b8 (by simp;omega)];simp
   |succ i=>
    have:=L i (by simpa using hi) j hj;simp;rw[<-this,show q+(i+1)=q+1+i from by omega]
  .rw[C m (by rw[sw];omega),EF _ _ _ _ (by simp;omega),a9 (by omega)]
theorem Q9{T E:c9}{len:Nat}{parts:Array (Nat×Operand)}{t e:TI}{z:cL}{ds:List D}(U:o.op=.buildSlice T len parts)(W:ti P T=al t)(B:t.kind=.slice E)
  (Q:ti P E=al e) (X:e.zero=al z) (hn:∀p∈parts.toList,need (ev tm p.2)) (u:parts.size=len)
  (Y:J3 S 0 (parts.toList.map λp=>(p.1,strip (ev tm p.2)))=al ds) (hs:FR e.size (parts.toList.map λp=>(p.1,strip (ev tm p.2))))
  (hm:len * e.size<=2 ^ 24) (hml:len<=maxLen):CP P n o tm S (.full ds) S:=.val λG w a st=>by
 obtain⟨d,hd,C⟩:=An W w;have F:d=.slice E:=by rw[B]at C;cases d<;>simp[tk]at C⊢;exact C
 subst F;obtain⟨l1,l2⟩:=WD _ _ _ Y;simp only[oj,ace]at l1 l2;have g:∀i (h:i<parts.size),CV G S w (strip (ev tm parts[i].2)) (a.eval parts[i].2):=λi hi=>(BY st _).strip (hn _ (by simp));have R:∀i (h:i<parts.size),(a.eval parts[i].2).cells.size=e.size/\∀x∈(a.eval parts[i].2).cells,one x=true:=λi hi=>by
  have:=J7 _ hs i (by simpa using hi);simp only[rg,abp]at this;obtain⟨c1,c2,_⟩:=(g i hi).cells (by simpa using this.2);refine⟨by omega,λx hx=>?_⟩;obtain⟨k,B,rfl⟩:=abF.1 hx;exact c2 k B
 let s:Array cL:=if len * e.size=0 then #[]else z.cells;let base:Array cL:=(Array.range (len * e.size)).map (s[·% s.size]!);obtain⟨H,A,e2,e3,_⟩:=RQ (size:=e.size) (len:=len) (parts.toList.map λp=>(p.1,a.eval p.2)) 0 base (by simp[base]) (by simp[u]) (λi hi=>by
  have m:i<parts.size:=by simpa using hi
  simp only[rg,abp];have:=(l2 i m (by omega)).1;simp only[rg,abp]at this;exact⟨this,(R i m).1⟩)
 obtain⟨r1,r2,K⟩:=st.rel.rX (.cells H E (0,0));refine⟨.slice (al ⟨w.heap.size,0,br⟩) len len,G.iF w.heap.size,Bj w (.cells H E (0,0)),?_,?_,r1,r2,K⟩
 .simp only[execOp,U,Instr.buildSlice,l6,hd,lh,Ba Q];rw[a9 (by omega)];simp only[base]at A;by_cases h0:len * e.size=0
  .have q:s=#[]:=by simp[s,h0]
   rw[q]at A;simp only[b8 h0,l6,tp,lh,acI,A];simp[newRow,Bj]
  .have q:s=z.cells:=by simp[s,h0]
   rw[q]at A;simp only[a9 h0,l6,ED Q w X,tp,lh,acI,A];simp[newRow,Bj]
 .have L:CD (G.iF w.heap.size).I (Bj w (.cells H E (0,0))) (.sl ds) (.slice (al ⟨w.heap.size,0,br⟩) (Z ds) (Z ds)):=by
   refine .sl e.size ds w.heap.size 0 (Z ds) (λi=>a.eval (parts.getD i (0,.const undef)).2) (.inr rfl) (by omega) (ci _) (λi hi=>?_) (λi hi=>?_)
   .have m:i<parts.size:=by omega
    have M:parts.getD i (0,.const undef)=parts[i]:=by simp[m]
    rw[M];have:=(l2 i m hi).2;simp only[rg,abp]at this;exact((g i m).BC st.rel this).mono K.I K.EV
   .have m:i<parts.size:=by omega
    have M:parts.getD i (0,.const undef)=parts[i]:=by simp[m]
    rw[M];refine⟨(R i m).1,λj hj=>?_⟩;rw[cell_of EK];have:=e3 i (by simpa using m) j hj;simpa using this
  have N:len=Z ds:=by omega
  rw[N];exact .full _ _ L
end
def qM(c x y:V):V:=match c with|.d (.bool b)=>Xg b x y|_=>.any
def eF(c x y:V):Prop:=match c with|.d (.bool b)=>O2 b x y|_=>False
def O0(P:cP)(T:c9):Bool:=match ti P T with|some t=>(match t.kind with|.bool=>J|_=>false)|none=>false
def Nu(P:cP)(T:c9):Bool:=match ti P T with|some t=>(match t.kind with|.str=>J|_=>false)|none=>false
def BB(P:cP)(T:c9):Option c9:=match ti P T with|some t=>(match t.kind with|.slice e=>al e|_=>br)|none=>br
def intKind(P:cP)(T:c9):Option IntKind:=match ti P T with|some t=>(match t.kind with|.int k=>al k|_=>br)|none=>br
def DH(P:cP)(T:c9):Option Nat:=(ti P T).map (·.size)
def Nn(P:cP)(T:c9):Bool:=match ti P T with|some t=>t.agg|none=>false
def Gg(P:cP)(T:c9):Option V:=match ti P T with|some t=>t.zero.map Og|none=>br
def vl(x y:V)(op:BinOp):V:=
 match x,y with
 |.d (.int k a),.d (.int _ b)=>arith op k a b
 |.d (.bool a),.d (.bool b)=>match op with|.eql=>.d (.bool ((a==b)!=false))|.neq=>.d (.bool ((a==b)!=J))|_=>.any
 |.d (.str a),.d (.str b)=>oO op (.d (.str a)) (.d (.str b))
 |_,_=>.any
def sG(P:cP)(T:c9)(x y:V)(op:BinOp):Prop:=
 match x,y with
 |.d (.int k _),.d (.int g b)=>MM op k g/\KJ op b
 |.d (.bool _),.d (.bool _)=>O0 P T=J/\(match op with|.eql|.neq=>True|_=>False)
 |.d (.str a),.d (.str b)=>TW op (.d (.str a)) (.d (.str b))
 |_,_=>False
def vu(x:V):V:=match x with|.d (.bool b)=>.d (.bool !b)|_=>.any
def rL(x:V):Prop:=match x with|.d (.bool _)=>True|_=>False
def dY(P:cP)(U:c9)(x:V):V:=
 match x with
 |.d (.int _ i)=>match intKind P U with|some k=>.d (.int k (k.wrap i))|none=>.any
 |_=>.any
def ff(P:cP)(T U:c9)(x:V):Prop:=
 match x with
 |.d (.int _ _)=>(DH P T).isSome=J/\(intKind P U).isSome=J
 |_=>False
def LP(agg:Bool)(size:Nat)(S:Sg)(p:V):V:=
 match p with
 |.ptr r m i j=>QB agg size (ZT S (.ptr r m i j)) j
 |.DW g=>Vo agg size g
 |_=>.any
def OH(agg:Bool)(size:Nat)(S:Sg)(p:V):Prop:=
 (agg||size==1)=J/\match p with
 |.ptr r m i j=>JI S (.ptr r m i j) λ_ _ _ j sz _=>j+size<=sz
 |.DW g=>size<=Z g
 |_=>False
def Hl(x:V):Int:=match x with|.d (.int _ i)=>i|_=>0
def Hy(x:V):Prop:=match x with|.d (.int _ _)=>True|_=>False
def vE(x:V)(k:Nat):V:=match x with|.CA g=>g.getD k .any|.d (.CA g)=>.d (g.getD k (.bool false))|_=>.any
def sC(x:V)(k:Nat):Prop:=match x with|.CA g=>k<Z g|.d (.CA g)=>k<Z g|_=>False
def eL(S:Sg)(x:V):Prop:=match x with|.ptr r m i j=>Gn S (.ptr r m i j)|.DW _=>True|_=>False
def rE(x:V):V:=
 match x with
 |.d (.sl g)=>.d (.int .i64 (Z g))
 |.full g=>.d (.int .i64 (Z g))
 |.row _ m=>.d (.int .i64 m)
 |.d (.str s)=>.d (.int .i64 s.size)
 |_=>.any
def rJ(P:cP)(T:c9)(S:Sg)(x:V):Prop:=
 match x with
 |.d (.sl _)=>(BB P T).isSome=J
 |.full _=>(BB P T).isSome=J
 |.row r m=>lenOf S r=al m/\(BB P T).isSome=J
 |.d (.str _)=>Nu P T=J
 |_=>False
def p7(x:Option (List D)):V:=match x with|some ds=>.full ds|none=>.any
def Cj(tm:Tm)(g:Array (Nat×Operand)):List (Nat×V):=g.toList.map λp=>(p.1,strip (ev tm p.2))
def JM(tm:Tm):List (Nat×Operand)->Prop
 |[]=>True
 |p::g=>need (ev tm p.2)/\JM tm g
theorem JO{tm:Tm}:∀{g:List (Nat×Operand)},JM tm g->∀p∈g,need (ev tm p.2)
 |p::g,h,q,i=>by
  cases i with
  |head=>exact h.1
  |tail _ i=>exact JO h.2 q i
def EL(c:Call):Operand:=c.args.toList.headD (.const undef)
def OT(c:Call):c9:=c.argTypes.toList.headD 0
def Hz(P:cP)(op:Op)(tm:Tm)(S:Sg):V:=
 match op with
 |.move x=>ev tm x
 |.assign x=>ev tm x
 |.pick c x y=>qM (strip (ev tm c)) (ev tm x) (ev tm y)
 |.binOp b _ x y _=>vl (strip (ev tm x)) (strip (ev tm y)) b
 |.unOp .not _ x=>vu (strip (ev tm x))
 |.convert _ U x=>dY P U (strip (ev tm x))
 |.load T x=>LP (Nn P T) ((DH P T).getD 0) S (strip (ev tm x))
 |.fieldAddr T x f=>ux (((E0 P T f).map (·.1)).getD 0) (strip (ev tm x))
 |.field T x f=>QB (((E0 P T f).map λp=>Nn P p.2).getD false) (((E0 P T f).map λp=>(DH P p.2).getD 0).getD 0) (strip (ev tm x)) (((E0 P T f).map (·.1)).getD 0)
 |.indexAddr _ x y=>vn (strip (ev tm x)) (Hl (strip (ev tm y))).toNat
 |.extract x k=>vE (strip (ev tm x)) k
 |.nilCheck x=>strip (ev tm x)
 |.build T g=>.agg (R1 (placeOf P T) (Aj ((Gg P T).getD .any)) (Cj tm g))
 |.buildSlice _ _ g=>p7 (J3 S 0 (Cj tm g))
 |.makeFunc f as h=>.fn f (as.toList.map (ev tm)) (h.toList.map (ev tm))
 |.call c=>match c.callee with
  |.builtin .len=>rE (strip (ev tm (EL c)))
  |_=>.any
 |_=>.any
def Hm(P:cP)(op:Op)(tm:Tm)(S:Sg):Prop:=
 match op with
 |.move _=>True
 |.assign _=>True
 |.pick c x y=>need (ev tm c)/\eF (strip (ev tm c)) (ev tm x) (ev tm y)
 |.binOp b T x y _=>need (ev tm x)/\need (ev tm y)/\sG P T (strip (ev tm x)) (strip (ev tm y)) b
 |.unOp .not _ x=>need (ev tm x)/\rL (strip (ev tm x))
 |.convert T U x=>need (ev tm x)/\ff P T U (strip (ev tm x))
 |.load T x=>need (ev tm x)/\(DH P T).isSome=J/\OH (Nn P T) ((DH P T).getD 0) S (strip (ev tm x))
 |.fieldAddr T x f=>need (ev tm x)/\(match E0 P T f with|some p=>(match DH P p.2 with|some s=>s≠0|none=>False)|none=>False)/\Gn S (strip (ev tm x))
 |.field T x f=>need (ev tm x)/\Ap (strip (ev tm x))=J/\(match E0 P T f with|some p=>(match DH P p.2 with|some s=>p.1+s<=Z (Aj (strip (ev tm x)))/\(Nn P p.2||s==1)=J|none=>False)|none=>False)
 |.indexAddr T x y=>need (ev tm x)/\need (ev tm y)/\Hy (strip (ev tm y))/\(match BB P T with|some E=>(match DH P E with|some s=>CR S (strip (ev tm x)) (Hl (strip (ev tm y))) s|none=>False)|none=>False)
 |.extract x k=>need (ev tm x)/\sC (strip (ev tm x)) k
 |.nilCheck x=>need (ev tm x)/\eL S (strip (ev tm x))
 |.build T g=>JM tm g.toList/\MU P T=J/\(match Gg P T with|some z=>Ap z=J/\Kz (placeOf P T) (Z (Aj z)) (Cj tm g)|none=>False)
 |.buildSlice T len g=>JM tm g.toList/\g.size=len/\(J3 S 0 (Cj tm g)).isSome=J/\(match BB P T with|some E=>(match DH P E with|some s=>(Gg P E).isSome=J/\FR s (Cj tm g)/\len * s<=2 ^ 24/\len<=maxLen|none=>False)|none=>False)
 |.makeFunc ..=>True
 |.call c=>match c.callee with
  |.builtin .len=>c.args=#[EL c]/\c.argTypes=#[OT c]/\need (ev tm (EL c))/\rJ P (OT c) S (strip (ev tm (EL c)))
  |_=>False
 |_=>False
theorem CB{P:cP}{T:c9}{s:Nat}(h:DH P T=al s):∃t,ti P T=al t/\t.size=s/\Nn P T=t.agg:=by
 simp[DH]at h;obtain⟨t,h1,g⟩:=h;exact⟨t,h1,g,by simp[Nn,h1]⟩
theorem A8{P:cP}{T E:c9}(h:BB P T=al E):∃t,ti P T=al t/\t.kind=.slice E:=by
 unfold BB at h;split at h
 .rename_i t g;split at h
  .rename_i e i;cases h;exact⟨t,g,i⟩
  .cases h
 .cases h
theorem JL{P:cP}{T:c9}{k:IntKind}(h:intKind P T=al k):∃t,ti P T=al t/\t.kind=.int k:=by
 unfold intKind at h;split at h
 .rename_i t g;split at h
  .rename_i e i;cases h;exact⟨t,g,i⟩
  .cases h
 .cases h
theorem SW{P:cP}{T:c9}(h:O0 P T=J):∃t,ti P T=al t/\t.kind=.bool:=by
 unfold O0 at h;split at h
 .rename_i t g;split at h
  .rename_i i;exact⟨t,g,i⟩
  .cases h
 .cases h
theorem KN{P:cP}{T:c9}(h:Nu P T=J):∃t,ti P T=al t/\t.kind=.str:=by
 unfold Nu at h;split at h
 .rename_i t g;split at h
  .rename_i i;exact⟨t,g,i⟩
  .cases h
 .cases h
theorem Em{P:cP}{T:c9}{z:V}(h:Gg P T=al z):∃t u,ti P T=al t/\t.zero=al u/\Og u=z:=by
 unfold Gg at h;split at h
 .rename_i t g;simp at h;obtain⟨u,h1,i⟩:=h;exact⟨t,u,g,h1,i⟩
 .cases h
abbrev K2:=@Option.getD_some
section
variable {P:cP} {n:Nat} {o:Oper} {tm:Tm} {S S':Sg} {v:V}
theorem sN(h:Hm P o.op tm S):CP P n o tm S (Hz P o.op tm S) S:=by
 generalize C:o.op=op at h;cases op<;>simp[Hm]at h<;>simp[Hz];case move x=>exact oA C
 case assign x=>exact Yy C
 case pick c x y=>
  obtain⟨h1,g⟩:=h;unfold eF at g;split at g
  .rename_i b hb;rw[hb];exact lR C hb h1 g
  .exact g.elim
 case build T ps=>
  obtain⟨h1,g,A⟩:=h;split at A
  .rename_i z R;obtain⟨t,u,F,G,M⟩:=Em R;subst M;rw[R];exact iY C F G g A.1 (JO h1) A.2
  .exact A.elim
 case buildSlice T len ps=>
  obtain⟨h1,g,A,B⟩:=h;split at B
  .rename_i E L;split at B
   .rename_i s H;obtain⟨B,X,h6,h7⟩:=B;obtain⟨ds,N⟩:=ol.1 A;obtain⟨t,F,G⟩:=A8 L;obtain⟨e,f1,f2,_⟩:=CB H;obtain⟨z,R⟩:=ol.1 B;obtain⟨t',u,Y,g2,g3⟩:=Em R;rw[f1]at Y;cases Y;rw[N];subst f2;exact Q9 C F G f1 g2 (JO h1) g N X h6 h7
   .exact B.elim
  .exact B.elim
 case load T x=>
  obtain⟨h1,g,A,B⟩:=h;obtain⟨s,H⟩:=ol.1 g;obtain⟨t,F,G,M⟩:=CB H;rw[H]at A B⊢;rw[M]at A⊢;simp at A B⊢;subst G;have ha:t.agg=J\/t.size=1:=by simpa using A
  split at B
  .rename_i r m i j w;rw[w];have:=nT (P:=P) (n:=n) (S:=S) C h1 F ha (by rw[w];exact B);rw[w]at this;exact this
  .rename_i cs w;rw[w];exact dp C h1 w F ha B
  .exact B.elim
 case nilCheck x=>
  obtain⟨h1,g⟩:=h;unfold eL at g;split at g
  .rename_i r m i j w;rw[w];exact UA C h1 w g
  .rename_i cs w;rw[w];exact Sl C h1 w
  .exact g.elim
 case binOp b T x y U=>
  obtain⟨h1,g,A⟩:=h;unfold sG at A;split at A
  .rename_i k i k' j w K;obtain⟨B,A⟩:=A;rw[w,K];exact sc C h1 g w K B A
  .rename_i p q w K;obtain⟨A,B⟩:=A;obtain⟨t,F,G⟩:=SW A;rw[w,K];split at B
   .exact RH (neg:=false) C h1 g w K F G
   .exact RH (neg:=true) C h1 g w K F G
   .exact B.elim
  .rename_i p q w K;rw[w,K];exact rC C h1 g w K A
  .exact A.elim
 case unOp b T x=>
  cases b<;>simp only at h⊢;case not=>
   obtain⟨h1,g⟩:=h;unfold rL at g;split at g
   .rename_i p w;rw[w];exact ry C h1 w
   .exact g.elim
 case convert T U x=>
  obtain⟨h1,g⟩:=h;unfold ff at g;split at g
  .rename_i k i w;obtain⟨g,A⟩:=g;obtain⟨s,H⟩:=ol.1 g;obtain⟨t,F,_,_⟩:=CB H;obtain⟨j,hj⟩:=ol.1 A;obtain⟨u,f1,f2⟩:=JL hj;rw[w];simp[dY,hj];exact Wy C h1 w F f1 f2
  .exact g.elim
 case makeFunc f as bs=>exact UF C
 case fieldAddr T x f=>
  obtain⟨h1,g,A⟩:=h;split at g
  .rename_i p Q;split at g
   .rename_i s H;obtain⟨t,F,G,_⟩:=CB H;rw[Q];exact Sn C h1 Q F (by omega) A
   .exact g.elim
  .exact g.elim
 case field T x f=>
  obtain⟨h1,g,A⟩:=h;split at A
  .rename_i p Q;split at A
   .rename_i s H;obtain⟨t,F,G,M⟩:=CB H;obtain⟨A,B⟩:=A;rw[Q];simp[H,M];subst G;rw[M]at B;exact kE C h1 Q F g A (by simpa using B)
   .exact A.elim
  .exact A.elim
 case indexAddr T x y=>
  obtain⟨h1,g,A,B⟩:=h;split at B
  .rename_i E L;split at B
   .rename_i s H;obtain⟨t,F,G⟩:=A8 L;obtain⟨e,f1,f2,_⟩:=CB H;unfold Hy at A;split at A
    .rename_i k i K;rw[K]at B⊢;simp[Hl]at B⊢;subst f2;exact TM C h1 g F G f1 K B
    .exact A.elim
   .exact B.elim
  .exact B.elim
 case extract x k=>
  obtain⟨h1,g⟩:=h;unfold sC at g;split at g
  .rename_i vs w;rw[w];exact XE C h1 w g
  .rename_i vs w;rw[w];exact Ub C h1 w g
  .exact g.elim
 case call c=>
  split at h
  .rename_i W;obtain⟨h1,g,A,B⟩:=h;unfold rJ at B;split at B
   .rename_i xs w;obtain⟨E,L⟩:=ol.1 B;obtain⟨t,F,G⟩:=A8 L;rw[w];exact aI C W h1 g A w F G
   .rename_i xs w;obtain⟨E,L⟩:=ol.1 B;obtain⟨t,F,G⟩:=A8 L;rw[w];exact Ui C W h1 g A w F G
   .rename_i r m w;obtain⟨B,X⟩:=B;obtain⟨E,L⟩:=ol.1 X;obtain⟨t,F,G⟩:=A8 L;rw[w];exact W4 C W h1 g A w B F G
   .rename_i s w;obtain⟨t,F,G⟩:=KN B;rw[w];exact Wq C W h1 g A w F G
   .exact B.elim
  .exact h.elim
end
abbrev gc:=@List.mem_append
abbrev acR:=@Nat.mul_comm
abbrev pm:=@Nat.mod_lt
abbrev adJ:=@List.length_pos_iff
section
variable {P:cP} {n:Nat} {o:Oper} {tm:Tm} {S S':Sg} {v:V}
def Ic(S:Sg)(x:V):Option (List V):=
 match x with
 |.d (.sl h)=>al (h.map .d)
 |.full h=>al (h.map .d)
 |.row r m=>match S[r]? with
  |some (.row _ _ g)=>if Z g=m then al g else br
  |some (.BQ i)=>if Z i=m then al (i.map .d)else br
  |_=>br
 |_=>br
def Ac(sz:Nat)(g:List V):Prop:=∀y∈g,Z (Aj y)=sz/\(Ap y||Bu y)=J
@[simp] theorem uE(sz:Nat):Ac sz []:=λy h=>by simp at h
@[simp] theorem rj(sz:Nat)(y:V)(g:List V):Ac sz (y::g)↔(Z (Aj y)=sz/\(Ap y||Bu y)=J)/\Ac sz g:=by
 simp[Ac]
@[simp] theorem nb(sz:Nat)(xs i:List V):Ac sz (xs++i)↔Ac sz xs/\Ac sz i:=by
 simp[Ac];exact⟨λh=>⟨λy g=>h y (.inl g),λy g=>h y (.inr g)⟩,λh y g=>g.elim (h.1 y) (h.2 y)⟩
@[simp] theorem td{α:Type}(sz:Nat)(f:α->V)(g:List α):Ac sz (g.map f)↔∀y∈g,Z (Aj (f y))=sz/\(Ap (f y)||Bu (f y))=true:=by
 simp[Ac]
structure bf(G:Gh)(S:Sg)(w:World)(sz:Nat)(ys:List V)(us:List cL)(c:Array cL)(k0:Nat):Prop where
 len:Z us=Z ys
 cv:∀i (h:i<Z ys) (h':i<Z us),CV G S w ys[i] us[i]/\us[i].cells.size=sz/\∀x∈us[i].cells,one x=J
 at_:∀i (h:i<Z us) j,j<sz->c[k0+i * sz+j]?=us[i].cells[j]?
theorem FZ{i j sz m:Nat}(hi:i<m)(hj:j<sz):i * sz+j<m * sz:=by
 have:(i+1) * sz<=m * sz:=abg _ hi;rw[sw]at this;omega
theorem Uc{w:World}{b off sz m:Nat}{us:List cL}(z:Z us=m)(A:∀i (h:i<Z us),us[i].cells.size=sz)
  (h:∀i (h:i<Z us) j,j<sz->w.cell? ⟨b,off+i * sz+j,br⟩=us[i].cells[j]?):
  ∃c,(∀g,g.heap=w.heap->(loadCells ⟨b,off,br⟩ (m * sz)).run P g=.ok c g)/\c.size=m * sz/\∀i (h:i<Z us) j,j<sz->c[i * sz+j]?=us[i].cells[j]?:=by
 have key:∀k,k<m * sz->∃x,w.cell? ⟨b,off+k,br⟩=al x:=λk t=>by
  have B:0<sz:=by
   rcases Nat.eq_zero_or_pos sz with h0|h0
   .subst h0;simp at t
   .exact h0
  have hi:k / sz<Z us:=by rw[z];exact Nat.div_lt_of_lt_mul (by rw[acR];exact t)
  have hj:k % sz<sz:=pm _ B;have e:k / sz * sz+k % sz=k:=by rw[acR];exact Nat.div_add_mod k sz
  have:=h (k / sz) hi (k % sz) hj;rw[q7,e]at this;have C:=A (k / sz) hi;refine⟨us[k / sz].cells[k % sz]'(by omega),?_⟩;rw[this,nu (by omega)]
 refine⟨Array.ofFn (n:=m * sz) λk=>(w.cell? ⟨b,off+k.val,br⟩).getD undef,λg q=>?_,by simp,λi hi j hj=>?_⟩
 .refine run_loadCells _ (by simp) λj hj=>?_;rw[Km (w:=w) (by rw[q])];obtain⟨x,s⟩:=key j hj;simp[s,hj]
 .have u:i * sz+j<m * sz:=FZ (by omega) hj;have:=h i hi j hj;rw[q7]at this;obtain⟨x,s⟩:=key _ u;simp[u];rw[<-this,s];rfl
theorem Hb{G:Gh}{w:World}{g:List D}{cv:cL}{sz:Nat}(h:CD G.I w (.sl g) cv)(E:Ac sz (g.map .d)):
  ∃us c,(∀q,(Builtin.lenOf cv).run P q=.ok (Z g) q)/\(∀q,q.heap=w.heap->(Builtin.firstCells sz (Z g) cv).run P q=.ok c q)/\c.size=Z g * sz/\bf G S w sz (g.map .d) us c 0:=by
 cases h with
 |nil a cap=>
  refine⟨[],#[],λ_=>by simp[Builtin.lenOf],λq _=>?_,by simp,⟨rfl,λi h=>by simp at h,λi h=>by simp at h⟩⟩;cases a<;>simp[Builtin.firstCells,loadCells,loadCellsFrom]
 |sl z Q b off cap s R T U h1 C=>
  have u:∀i (h:i<Z g),CV G S w (.d g[i]) (s i)/\(s i).cells.size=sz/\(∀x∈(s i).cells,one x=J)/\z=sz:=λi hi=>by
   have t:CV G S w (.d g[i]) (s i):=.d _ _ (h1 i hi);have F:=E (.d g[i]) (by simp);obtain⟨c1,c2,_⟩:=t.cells (by simpa using F.2);refine⟨t,by omega,λx H=>?_,?_⟩
   .obtain⟨k,K,rfl⟩:=abF.1 H;exact c2 k K
   .have:=(C i hi).1;omega
  obtain⟨c,L,M,N⟩:=Uc (P:=P) (w:=w) (b:=b) (off:=off) (sz:=sz) (m:=Z g) (us:=(List.range (Z g)).map s) (by simp)
   (λi hi=>by simp at hi;simpa using(u i hi).2.1)
   (λi hi j hj=>by
    simp at hi;have:=(C i hi).2 j (by have:=(u i hi).2.2.2;omega);rw[(u i hi).2.2.2]at this;simpa using this)
  refine⟨(List.range (Z g)).map s,c,λ_=>by simp[Builtin.lenOf],λq A=>by simp[Builtin.firstCells,L q A],M,⟨by simp,λi hi W=>?_,λi hi j hj=>by rw[wl];exact N i hi j hj⟩⟩;have B:i<Z g:=by simpa using hi
  have:=u i B;simp[List.getElem_range];exact⟨this.1,this.2.1,this.2.2.1⟩
theorem Yf{G:Gh}{w:World}(R:Rel P G S w){r:Nat}{wr:Bool}{sz:Nat}{els:List V}(z:S[r]?=al (.row wr sz els))(A:Ac sz els):
  ∃us c,(∀g,(Builtin.lenOf (G.BP r (Z els))).run P g=.ok (Z els) g)/\(∀g,g.heap=w.heap->(Builtin.firstCells sz (Z els) (G.BP r (Z els))).run P g=.ok c g)/\c.size=Z els * sz/\bf G S w sz els us c 0:=by
 have q:=R.DX r _ z;simp only[OK]at q;cases s:G.BJ r with
 |none=>
  simp only[s]at q;obtain⟨c,T,B,L,M,N,u⟩:=q;let us:List cL:=(List.range (Z els)).map λi=>if h:i<Z els then(u i h).choose else undef;have k:∀i (h:i<Z els),CV G S w els[i] (us[i]'(by simp[us];exact h))/\(us[i]'(by simp[us];exact h)).cells.size=sz/\(∀x∈(us[i]'(by simp[us];exact h)).cells,one x=J)/\∀j,j<sz->c[(G.cap r).2+(i * sz+j)]?=(us[i]'(by simp[us];exact h)).cells[j]?:=λi hi=>by
   have:=(u i hi).choose_spec;simpa[us,hi]using this
  obtain⟨C,E,F,H⟩:=Uc (P:=P) (w:=w) (b:=G.Cf r) (off:=(G.cap r).2) (sz:=sz) (m:=Z els) (us:=us) (by simp[us])
   (λi hi=>(k i (by simpa[us]using hi)).2.1)
   (λi hi j hj=>by
    rw[cell_of B,q7];exact(k i (by simpa[us]using hi)).2.2.2 j hj)
  refine⟨us,C,λ_=>by simp[Gh.BP,s,Builtin.lenOf],λg t=>by simp[Gh.BP,s,Builtin.firstCells,E g t],F,⟨by simp[us],λi hi Q=>?_,λi hi j hj=>by rw[wl];exact H i hi j hj⟩⟩;have:=k i hi;exact⟨this.1,this.2.1,this.2.2.1⟩
 |some a=>
  simp[s]at q;obtain⟨_,_,U,rfl,K⟩:=q;have:=Hb (P:=P) (S:=S) K A;simpa[Gh.BP,s]using this
theorem sU{G:Gh}{w:World}(R:Rel P G S w){x:V}{cv:cL}{t:List V}{sz:Nat}(h:CV G S w x cv)(g:Ic S x=al t)(z:Ac sz t):
  ∃L c,(∀k,(Builtin.lenOf cv).run P k=.ok (Z t) k)/\(∀k,k.heap=w.heap->(Builtin.firstCells sz (Z t) cv).run P k=.ok c k)/\c.size=Z t * sz/\bf G S w sz t L c 0:=by
 cases h with
 |d d v h=>
  cases d<;>simp[Ic,reduceCtorEq]at g;subst g;simpa using Hb (P:=P) (S:=S) h z
 |full H a h=>
  simp[Ic]at g;subst g;simpa using Hb (P:=P) (S:=S) h z
 |row r m v U W h=>
  simp[Ic]at g;split at g
  .rename_i X E q hS;split at g
   .rename_i A;simp at g;subst g;have F:=(h m (by simp[lenOf,hS,A])).2 rfl;subst A;rw[F];have s:=R.DX r _ hS;by_cases K:q=[]
    .subst K;refine⟨[],#[],λk=>?_,λk _=>?_,by simp,⟨rfl,λi h=>by simp at h,λi h=>by simp at h⟩⟩
     .unfold Gh.BP;split<;>simp[Builtin.lenOf]
     .unfold Gh.BP;split
      .simp[Builtin.firstCells,loadCells,loadCellsFrom]
      .rename_i a _;cases a<;>simp[Builtin.firstCells,loadCells,loadCellsFrom]
    .have B:0<Z q:=adJ.2 K;have C:E=sz\/G.BJ r≠none:=by
      cases j:G.BJ r with
      |some a=>exact .inr (by simp)
      |none=>
       left;simp only[OK,j]at s;obtain⟨c,T,Y,g2,g3,g4,M⟩:=s;obtain⟨u,N,u2,u3,u4⟩:=M 0 B;have:=z q[0] (by simp);obtain⟨c1,_⟩:=N.cells (by simpa using this.2);omega
     rcases C with e|e
     .subst e;exact Yf R hS z
     .cases j:G.BJ r with
      |none=>exact absurd j e
      |some a=>
       simp[OK,j]at s;obtain⟨_,_,H,rfl,Q⟩:=s;have:=Hb (P:=P) (S:=S) Q z;simpa[Gh.BP,j]using this
   .cases g
  .rename_i H hS;split at g
   .rename_i A;simp at g;subst g;have F:=(h m (by simp[lenOf,hS,A])).2 rfl;subst A;rw[F];have s:=R.DX r _ hS;simp[OK]at s;have:=Hb (P:=P) (S:=S) s z;simpa using this
   .cases g
  .cases g
 |_=>simp[Ic]at g
end
end Go.Koi
