/-
  Part 2 of the proof that the law ChangeRestricts returns true for every input.
-/
import Derived.Test.YtbpjppgjnkklnaaGreatDoorG00
import Derived.Laws.Strings
import Derived.Laws.Small
set_option maxHeartbeats 64000000
set_option maxRecDepth 100000
open List renaming length->Z,getD->i5
open Go.Value renaming cells->aeV
open Bool renaming true->J,false->ap
open Option renaming some->am,none->bi
namespace Go.Koi
open Go renaming Operand->kt,TypeId->ea,World->cR,Program->cP,Value->de
def CR(P:Program)(n:Nat)(o:Oper)(tm:Tm)(S:Sg)(v:V)(S':Sg):Prop:=
 ∀G w a (next:Act->cR->Prop) Q,St P n G S w a tm->(∀cv g h,CV h S' g v cv->Rel P h S' g->Tr G S w h S' g->BA G S w h S' g->next (a.put o.dst cv) g)->o.wp P a w next Q
abbrev adE:=@Int.tmod_nonneg
abbrev abO:=@Int.fdiv_eq_ediv_of_nonneg
abbrev gI:=@Bool.eq_iff_iff
section
variable {P:Program} {n:Nat} {o:Oper} {tm:Tm} {S S':Sg} {v:V}
theorem CR.val(h:∀G w a,St P n G S w a tm->∃cv i g,(execOp a.eval o).run P w=.ok (.value cv) g/\CV i S' g v cv/\Rel P i S' g/\Tr G S w i S' g/\BA G S w i S' g):
  CR P n o tm S v S':=λG w a next Q st k=>by
 obtain⟨cv,i,g,j,m,q,u,A⟩:=h G w a st;unfold Oper.wp;rw[j];exact k cv g i m q u A
theorem CR.skip(h:∀G w a,St P n G S w a tm->∃i g,(execOp a.eval o).run P w=.ok .skip g/\Rel P i S' g/\Tr G S w i S' g/\BA G S w i S' g):
  CR P n o tm S .any S':=λG w a next Q st k=>by
 obtain⟨i,g,j,m,q,u⟩:=h G w a st;unfold Oper.wp;rw[j];exact k _ g i (.any _) m q u
theorem CR.pure(h:∀G w a,St P n G S w a tm->∃cv,(execOp a.eval o).run P w=.ok (.value cv) w/\CV G S w v cv):
  CR P n o tm S v S:=.val λG w a st=>by
 obtain⟨cv,g,i⟩:=h G w a st;exact⟨cv,G,w,g,i,st.rel,tv _ _ _,aer _ _ _⟩
theorem lW{x:kt}(g:o.op=.move x):CR P n o tm S (ev tm x) S:=
 .pure λG w a st=>⟨a.eval x,by simp[execOp,g],BS st x⟩
theorem bB{x:kt}(g:o.op=.assign x):CR P n o tm S (ev tm x) S:=
 .pure λG w a st=>⟨a.eval x,by simp[execOp,g],BS st x⟩
theorem CV.bool{G:Gh}{w:cR}{b:Bool}{c:Value}(h:CV G S w (.d (.bool b)) c):c=.bool b:=by
 cases h with|d _ _ h=>cases h;rfl
theorem CV.int{G:Gh}{w:cR}{k:IntKind}{i:Int}{c:Value}(h:CV G S w (.d (.int k i)) c):c=.int k i:=by
 cases h with|d _ _ h=>cases h;rfl
theorem CV.GZ{G:Gh}{w:cR}{k:IntKind}{i:Int}{c:Value}(h:CV G S w (.d (.int k i)) c):GZ k i=true:=by
 cases h with|d _ _ h=>cases h;assumption
theorem jY{k:IntKind}{a b:Int}(h:GZ k a=J):GZ k (a.tmod b)=true:=by
 have m:a.natAbs.mod b.natAbs<=a.natAbs:=Nat.mod_le _ _;have i:0<=a->0<=a.tmod b/\a.tmod b<=a:=λh=>by
  refine⟨adE b h,?_⟩;have:=Int.natAbs_tmod a b;have g:=adE b h;have j:(a.tmod b).natAbs<=a.natAbs:=by rw[this];exact Nat.mod_le _ _
  omega
 have g:a<=0->a<=a.tmod b/\a.tmod b<=0:=λh=>by
  have:=Int.natAbs_tmod a b;have j:(a.tmod b).natAbs<=a.natAbs:=by rw[this];exact Nat.mod_le _ _
  have q:(-a).tmod b= -(a.tmod b):=Int.neg_tmod ..;have u:0<=(-a).tmod b:=adE b (by omega);omega
 rcases Int.le_total 0 a with e|e
 .have:=i e;cases k<;>simp[Koi.GZ]at h⊢ <;>omega
 .have:=g e;cases k<;>simp[Koi.GZ]at h⊢ <;>omega
theorem dF{k:IntKind}{a:Int}(m:Nat)(h:GZ k a=J):GZ k (a.fdiv (2 ^ m))=true:=by
 have g:(0:Int)<2 ^ m:=Int.pow_pos (by decide);rw[abO _ (by omega)];have i:0<=a->0<=a / 2 ^ m/\a / 2 ^ m<=a:=λh=>⟨Int.ediv_nonneg h (by omega),Int.ediv_le_self _ h⟩;have j:a<0->a<=a / 2 ^ m/\a / 2 ^ m<0:=λh=>by
  refine⟨?_,Int.ediv_neg_of_neg_of_pos h g⟩;have:a * 2 ^ m<=a * 1:=Int.mul_le_mul_of_nonpos_left (by omega) (by omega);exact(Int.le_ediv_iff_mul_le g).2 (by omega)
 rcases Int.lt_or_le a 0 with e|e
 .have:=j e;cases k<;>simp[Koi.GZ]at h⊢ <;>omega
 .have:=i e;cases k<;>simp[Koi.GZ]at h⊢ <;>omega
theorem CV.str{G:Gh}{w:cR}{s:ByteArray}{c:Value}(h:CV G S w (.d (.str s)) c):c=.string s/\s.size<=maxLen:=by
 cases h with|d _ _ h=>cases h;exact⟨rfl,‹_›⟩
def Xa(c:Bool)(x y:V):V:=
 match x,y with
 |.opt _ (.d (.bool p)),.d (.bool q)=>.d (.bool (bif c then p else q))
 |.d (.bool p),.opt _ (.d (.bool q))=>.d (.bool (bif c then p else q))
 |.d (.bool p),.d (.bool q)=>.d (.bool (bif c then p else q))
 |_,_=>.any
def OW(c:Bool)(x y:V):Prop:=
 match x,y with
 |.opt g (.d (.bool _)),.d (.bool _)=>c=J->g=J
 |.d (.bool _),.opt g (.d (.bool _))=>c=ap->g=J
 |.d (.bool _),.d (.bool _)=>True
 |_,_=>False
theorem mY{c x y:kt}{b:Bool}(m:o.op=.pick c x y)(q:strip (ev tm c)=.d (.bool b))(u:need (ev tm c))(g:OW b (ev tm x) (ev tm y)):
  CR P n o tm S (Xa b (ev tm x) (ev tm y)) S:=.pure λG w a st=>by
 have i:=(BS st c).strip u;rw[q]at i;have i:=i.bool;have j:=BS st x;have k:=BS st y;refine⟨if b then a.eval x else a.eval y,by simp[execOp,m,i,asBool],?_⟩;generalize ev tm x=X at *;generalize ev tm y=Y at *;unfold OW at g;unfold Xa;split at g
 .cases b
  .have:=k.bool;simp[this];exact .d _ _ (.bool _)
  .cases j with|opt _ _ _ h _=>have:=(h (g rfl)).bool;simp[this];exact .d _ _ (.bool _)
 .cases b
  .cases k with|opt _ _ _ h _=>have:=(h (g rfl)).bool;simp[this];exact .d _ _ (.bool _)
  .have:=j.bool;simp[this];exact .d _ _ (.bool _)
 .have A:=j.bool;have B:=k.bool;cases b<;>simp[A,B]<;>exact .d _ _ (.bool _)
 .exact g.elim
def arith(op:BinOp)(k:IntKind)(a b:Int):V:=
 match op with
 |.add=>.d (.int k (k.wrap (a+b)))
 |.sub=>.d (.int k (k.wrap (a - b)))
 |.mul=>.d (.int k (k.wrap (a * b)))
 |.quo=>.d (.int k (k.wrap (a.tdiv b)))
 |.rem=>.d (.int k (a.tmod b))
 |.eql=>.d (.bool (a==b))
 |.neq=>.d (.bool (a !=b))
 |.lss=>.d (.bool (a<b))
 |.leq=>.d (.bool (a<=b))
 |.gtr=>.d (.bool (a>b))
 |.geq=>.d (.bool (a≥b))
 |.and=>.d (.int k (k.wrap (BitVec.ofInt k.bits a&&& BitVec.ofInt k.bits b).toNat))
 |.or=>.d (.int k (k.wrap (BitVec.ofInt k.bits a|||BitVec.ofInt k.bits b).toNat))
 |.shl=>.d (.int k (k.wrap (a * 2 ^ (min b.toNat k.bits))))
 |.shr=>.d (.int k (a.fdiv (2 ^ (min b.toNat k.bits))))
 |_=>.any
def JX(op:BinOp)(b:Int):Prop:=
 match op with
 |.quo|.rem=>b≠0
 |.shl|.shr=>0<=b
 |.xor|.andNot=>False
 |_=>True
def L6(op:BinOp)(j k:IntKind):Prop:=
 match op with
 |.shl|.shr=>True
 |_=>j=k
mutual
def DZ:D->D->Bool
 |.bool a,.bool b=>a==b
 |.int j a,.int k b=>j==k&&a==b
 |.str a,.str b=>decide (a=b)
 |.agg a,.agg b=>CT a b
 |_,_=>ap
def CT:List D->List D->Bool
 |[],[]=>J
 |x::g,y::h=>DZ x y&&CT g h
 |_,_=>ap
end
def nR(op:BinOp)(x y:V):V:=
 match x,y with
 |.d (.int k a),.d (.int _ b)=>arith op k a b
 |.d (.str a),.d (.str b)=>match op with|.eql=>.d (.bool (decide (a=b)))|.neq=>.d (.bool (!decide (a=b)))|.add=>.d (.str (a++b))|_=>.any
 |_,_=>.any
def TR(op:BinOp)(x y:V):Prop:=
 match x,y with
 |.d (.int k _),.d (.int g b)=>L6 op k g/\JX op b
 |.d (.str a),.d (.str b)=>match op with|.eql|.neq=>True|.add=>a.size+b.size<=maxLen|_=>False
 |_,_=>False
theorem PO(a b:ByteArray):(a.toList==b.toList)=decide (a=b):=by
 have g:(a.toList==b.toList)=decide (a.toList=b.toList):=by rw[gI];simp
 rw[g];congr 1;rw[ByteArray.toList_eq,ByteArray.toList_eq];apply propext;constructor
 .intro h;cases a;cases b;simp[ByteArray.mk.injEq];exact ad1 h
 .rintro rfl;rfl
theorem tR{op:BinOp}{T U:ea}{x y:kt}{k h:IntKind}{i j:Int}(A:o.op=.binOp op T x y U)(B:need (ev tm x))(C:need (ev tm y))
  (E:strip (ev tm x)=.d (.int k i)) (F:strip (ev tm y)=.d (.int h j)) (q:L6 op k h) (m:JX op j):CR P n o tm S (arith op k i j) S:=.pure λG w a st=>by
 have g:=(BS st x).strip B;have u:=(BS st y).strip C;rw[E]at g;rw[F]at u;simp[execOp,A,g.int,u.int];have H:∀w,(eqGuard op T x y (.int k i) (.int h j)).run P w=.ok () w:=λw=>by cases op<;>simp[eqGuard]
 simp[H];cases op<;>simp[JX]at m<;>simp[L6]at q<;>(try subst q)<;>
   first
   |exact m.elim
   |exact⟨_,by simp[binOp,Op.intArith,Op.intCmp,Op.intDiv,m];rfl,.d _ _ (by first|exact .int _ _ (Jd _ _)|exact .int _ _ (jY g.GZ)|exact .bool _)⟩
   |exact⟨_,by simp[binOp];rfl,.d _ _ (by first|exact .int _ _ (Jd _ _)|exact .bool _)⟩
   |exact⟨_,by simp[binOp,Op.shift,show ¬j<0 from by omega];rfl,.d _ _ (by first|exact .int _ _ (Jd _ _)|exact .int _ _ (dF _ g.GZ)|exact .bool _)⟩
theorem sY{op:BinOp}{T U:ea}{x y:kt}{p q:ByteArray}(j:o.op=.binOp op T x y U)(k:need (ev tm x))(m:need (ev tm y))
  (u:strip (ev tm x)=.d (.str p)) (A:strip (ev tm y)=.d (.str q)) (g:TR op (.d (.str p)) (.d (.str q))):
  CR P n o tm S (nR op (.d (.str p)) (.d (.str q))) S:=.pure λG w a st=>by
 have h:=(BS st x).strip k;have i:=(BS st y).strip m;rw[u]at h;rw[A]at i;simp[execOp,j,h.str.1,i.str.1];have B:∀w,(eqGuard op T x y (.string p) (.string q)).run P w=.ok () w:=λw=>by cases op<;>simp[eqGuard]
 simp[B];cases op<;>simp[TR]at g<;>simp[nR];case eql=>exact⟨.bool (decide (p=q)),by simp[binOp,Op.stringOp,PO],.d _ _ (.bool _)⟩
 case neq=>exact⟨.bool (!decide (p=q)),by simp[binOp,Op.stringOp,PO],.d _ _ (.bool _)⟩
 case add=>
  refine⟨.string (p++q),?_,.d _ _ (.str _ (by simpa using g))⟩;have:¬(((p.size+q.size:Nat):Int)>IntKind.i64.max):=by
   unfold maxLen at g;have:IntKind.i64.max=9223372036854775807:=by decide
   omega
  simp only[binOp,Op.stringOp,bv this];simp
 all_goals exact g.elim
theorem RA{neg:Bool}{T U:ea}{x y:kt}{p q:Bool}{t:TI}(m:o.op=.binOp (if neg then .neq else .eql) T x y U)(u:need (ev tm x))(A:need (ev tm y))
  (B:strip (ev tm x)=.d (.bool p)) (C:strip (ev tm y)=.d (.bool q)) (E:ti P T=am t) (F:t.kind=.bool):
  CR P n o tm S (.d (.bool ((p==q)!=neg))) S:=.pure λG w a st=>by
 have g:=(BS st x).strip u;have j:=(BS st y).strip A;rw[B]at g;rw[C]at j;refine⟨.bool ((p==q)!=neg),?_,.d _ _ (.bool _)⟩;simp[execOp,m,g.bool,j.bool];obtain⟨i,d,_,H,_,_,_,k⟩:=H4 E;have:d=.bool:=by rw[F]at k;cases d<;>simp[tk]at k⊢
 subst this;have h:=run_equal_bool (w:=w) T p q H;cases neg<;>simp[eqGuard,binOp,h]
theorem rV{T:ea}{x:kt}{p:Bool}(h:o.op=.unOp .not T x)(i:need (ev tm x))(j:strip (ev tm x)=.d (.bool p)):
  CR P n o tm S (.d (.bool !p)) S:=.pure λG w a st=>by
 have g:=(BS st x).strip i;rw[j]at g;exact⟨.bool !p,by simp[execOp,h,g.bool,Op.unary],.d _ _ (.bool _)⟩
theorem Wq{T U:ea}{x:kt}{k j:IntKind}{i:Int}{t u:TI}(m:o.op=.convert T U x)(q:need (ev tm x))(A:strip (ev tm x)=.d (.int k i))
  (B:ti P T=am t) (C:ti P U=am u) (E:u.kind=.int j):CR P n o tm S (.d (.int j (j.wrap i))) S:=.pure λG w a st=>by
 have h:=(BS st x).strip q;rw[A]at h;obtain⟨d,F,_⟩:=An B w;obtain⟨e,H,g⟩:=An C w;have:e=.int j:=by rw[E]at g;cases e<;>simp[tk]at g⊢;exact g
 subst this;exact⟨.int j (j.wrap i),by simp[execOp,m,h.int,convert,F,H,Conv.intToInt],.d _ _ (.int _ _ (Jd _ _))⟩
end
abbrev abD:=@Array.mem_iff_getElem
abbrev ej:=@List.getElem?_eq_getElem
abbrev rg:=@Array.getD_eq_getD_getElem?
section
variable {P:Program} {n:Nat} {o:Oper} {tm:Tm} {S S':Sg} {v:V}
theorem Xl{G:Gh}{w:cR}(R:Rel P G S w){r i:Nat}{wr:Bool}{sz:Nat}{els:List V}(W:S[r]?=am (.row wr sz els))(hi:i<Z els)
  (M:Ap els[i]=J\/Bp els[i]=J) (zp:Z (Ae els[i])=sz):
  ∃v b k,CV G S w els[i] v/\v.cells.size=sz/\(∀x∈v.cells,one x=J)/\(∀j,G.addr r (i * sz+j)=.pointer (am ⟨b,k+j,bi⟩))/\(∀j,j<sz->w.cell? ⟨b,k+j,bi⟩=v.cells[j]?):=by
 have h:=R.Da r _ W;simp only[OK]at h;cases B:G.BG r with
 |none=>
  simp only[B]at h;obtain⟨c,T,C,N,h3,h4,h5⟩:=h;obtain⟨v,E,F,g3,g4⟩:=h5 i hi;exact⟨v,G.CP r,(G.cap r).2+i * sz,E,F,g3,λj=>by simp[Gh.addr,B,py],λj hj=>by rw[cell_of C,py];exact g4 j hj⟩
 |some a=>
  simp[B]at h;obtain⟨_,_,g,rfl,H⟩:=h;have K:i<Z g:=by simpa using hi
  generalize q:D.sl g=X at H;generalize hy:Value.slice a (Z g) (Z g)=Y at H;cases H with
  |nil a cap=>cases q;simp at K
  |sl u xs' b off cap Q hI hl U C N=>
   cases q;injection hy with e1 e2 e3;subst e1;obtain⟨E,F⟩:=N i K;have A:CV G S w (V.d g[i]) (Q i):=.d _ _ (C i K);have L:(g.map V.d)[i]=V.d g[i]:=by simp
   rw[L]at M zp⊢;obtain⟨c1,c2,_⟩:=A.cells M;have:u=sz:=by omega
   subst this;refine⟨Q i,b,off+i * u,A,E,λx q=>?_,λj=>by simp[Gh.addr,B,py],F⟩;obtain⟨m,hm,rfl⟩:=abD.1 q;exact c2 m hm
  |_=>cases q
def Pv(agg:Bool)(size:Nat)(e:V)(j:Nat):V:=
 if agg then
  if j=0/\Z (Ae e)=size/\Ap e=J then e else .agg (((Ae e).drop j).take size)
 else(Ae e).getD j .any
theorem P6{G:Gh}{w:cR}{e:V}{u:Value}{agg:Bool}{size j:Nat}(h:CV G S w e u)(B:Ap e=J\/Bp e=J)(hj:j+size<=Z (Ae e))
  (ha:agg=J\/size=1):CV G S w (Pv agg size e j) (if agg then .agg (u.cells.extract j (j+size))else u.cells.getD j undef):=by
 obtain⟨c1,C,q⟩:=h.cells B;unfold Pv;cases agg with
 |true=>
  simp;split
  .rename_i E;obtain⟨rfl,L,A⟩:=E;have:u.cells.extract 0 (0+size)=u.cells:=by
    have:size=u.cells.size:=by omega
    rw[this];simp
   rw[this];have:Value.agg u.cells=u:=by
    cases h with
    |agg=>rfl
    |d d v F=>cases F<;>first|rfl|simp[Ap]at A
    |_=>simp[Ap]at A
   rw[this];exact h
  .refine .agg _ _ (by simp;omega) (λi hi=>?_) (λi hi=>?_)
   .have H:i<size:=by simp at hi;omega
    obtain⟨x,x1,g⟩:=q (j+i) (by omega);have k:(((Ae e).drop j).take size)[i]=(Ae e)[j+i]'(by omega):=by simp
    rw[k];have m:(u.cells.extract j (j+size))[i]'(by simp;omega)=x:=by
     have:u.cells[j+i]'(by omega)=x:=by
      have:=x1;rw[ll (by omega)]at this;simpa using this
     simp[this]
    rw[m];exact g
   .have H:i<size:=by simp at hi;omega
    simpa using C (j+i) (by omega)
 |false=>
  have K:size=1:=by simpa using ha
  subst K;simp only[ob,jw];obtain⟨x,x1,g⟩:=q j (by omega);have k:(Ae e).getD j .any=(Ae e)[j]'(by omega):=by simp[i5,ej (show j<Z (Ae e) by omega)]
  have m:u.cells.getD j undef=x:=by simp[x1]
  rw[k,m];exact g
theorem Fw{T:ea}{t:TI}(h:ti P T=am t){w:cR}{b k j sz:Nat}{u:Value}(q:u.cells.size=sz)(hj:j+t.size<=sz)(ha:t.agg=J\/t.size=1)
  (m:∀j,j<sz->w.cell? ⟨b,k+j,bi⟩=u.cells[j]?):
  (loadVar T ⟨b,k+j,bi⟩).run P w=.ok (if t.agg then .agg (u.cells.extract j (j+t.size))else u.cells.getD j undef) w:=by
 unfold loadVar;simp only[ls,Mg h,kv];cases g:t.agg with
 |true=>
  simp only[ip,ls,Bg h,kv];rw[run_loadCells (u.cells.extract j (j+t.size)) (by simp;omega) (λi hi=>by
   rw[py,m (j+i) (by omega)];simp only[Array.getElem?_extract];rw[ca (by omega)])]
  simp
 |false=>
  have A:t.size=1:=by simpa[g]using ha
  simp only[ob,jw];rw[run_load,m j (by omega)];have:j<u.cells.size:=by omega
  simp[ll this]
def JA(S:Sg)(p:V)(K:(h:Bool)->(r i j:Nat)->(sz:Nat)->(g:List V)->Prop):Prop:=
 match p with
 |.ptr r m i j=>
  match S[r]? with
  |some (.row h sz g)=>Z g=m/\i<Z g/\(Ap (g.getD i .any)||Bp (g.getD i .any))=J/\Z (Ae (g.getD i .any))=sz/\K h r i j sz g
  |_=>False
 |_=>False
def Yw(S:Sg)(p:V):V:=
 match p with
 |.ptr r _ i _=>
  match S[r]? with
  |some (.row _ _ g)=>g.getD i .any
  |_=>.any
 |_=>.any
def eZ(p:V):Nat:=
 match p with
 |.ptr _ _ _ j=>j
 |_=>0
theorem CV.KV{G:Gh}{w:cR}{r m i j:Nat}{p:Value}{wr:Bool}{sz:Nat}{els:List V}(h:CV G S w (.ptr r m i j) p)(g:S[r]?=am (.row wr sz els))(k:Z els=m):
  p=G.addr r (i * sz+j):=by
 cases h with
 |ptr _ _ _ _ _ q u h=>
  exact(h m (by simp[lenOf,g,k])).2 rfl sz (by simp[C1,g])
theorem mq{T:ea}{x:kt}{t:TI}(F:o.op=.load T x)(H:need (ev tm x))(K:ti P T=am t)(ha:t.agg=J\/t.size=1)
  (h:JA S (strip (ev tm x)) λ_ _ _ j sz _=>j+t.size<=sz):CR P n o tm S (Pv t.agg t.size (Yw S (strip (ev tm x))) (eZ (strip (ev tm x)))) S:=.pure λG w a st=>by
 have L:=(BS st x).strip H;generalize strip (ev tm x)=X at *;unfold JA at h;split at h
 .rename_i r m i j;split at h
  .rename_i W sz g C;obtain⟨M,hi,q,E,hj⟩:=h;have A:g.getD i .any=g[i]:=by simp[i5,hi]
   rw[A]at q E;have q:Ap g[i]=J\/Bp g[i]=true:=by simpa using q
   obtain⟨u,b,k,N,Q,Y,R,U⟩:=Xl st.rel C hi q E;have B:=L.KV C M;rw[R j]at B;refine⟨if t.agg then .agg (u.cells.extract j (j+t.size))else u.cells.getD j undef,?_,?_⟩
   .simp[execOp,F,B,Instr.loadAt,Instr.sureAddr];simp[Fw K Q hj ha U]
   .simp only[Yw,eZ,C,A];exact P6 N q (by omega) ha
  .exact h.elim
 .exact h.elim
def Ux(agg:Bool)(size:Nat)(g:List D):V:=if agg then .d (.agg (g.take size))else .d (g.getD 0 (.bool ap))
theorem eW{T:ea}{x:kt}{t:TI}{g:List D}(A:o.op=.load T x)(B:need (ev tm x))(C:strip (ev tm x)=.DW g)(E:ti P T=am t)(ha:t.agg=J\/t.size=1)
  (N:t.size<=Z g):CR P n o tm S (Ux t.agg t.size g) S:=.pure λG w a st=>by
 have m:=(BS st x).strip B;rw[C]at m;generalize F:a.eval x=X at m;cases m with
 |DW g b off H Q h=>
  let u:Array Value:=((List.range (Z g)).map H).toArray;have K:(Value.agg u).cells.size=Z g:=by simp[aeV,u]
  refine⟨if t.agg then .agg (u.extract 0 (0+t.size))else u.getD 0 undef,?_,?_⟩
  .simp only[execOp,A,F,Instr.loadAt,Instr.sureAddr,ls,pc,kv];rw[show(⟨b,off,bi⟩:Addr)=⟨b,off+0,bi⟩from rfl];rw[Fw (u:=.agg u) (j:=0) E K (by omega) ha (λj hj=>by
    rw[(h j hj).1];simp[aeV,hj,u])]
   rfl
  .unfold Ux;cases k:t.agg with
   |true=>
    simp;refine .d _ _ (.agg _ _ (by simp[u]) (λi hi=>?_) (λi hi=>?_))
    .have L:i<t.size:=by simp at hi;omega
     simpa[u]using(h i (by omega)).2.1
    .have L:i<t.size:=by simp[u]at hi;omega
     simpa[u]using(h i (by omega)).2.2
   |false=>
    have m:t.size=1:=by simpa[k]using ha
    simp only[ob,jw];have q:0<Z g:=by omega
    have M:g.getD 0 (.bool ap)=g[0]:=by simp[i5,q]
    rw[M];have:=(h 0 q).2.1;refine .d _ _ ?_;simpa[u,rg,q]using this
end
abbrev abL:=@List.getElem?_map
abbrev In:=@Option.map_eq_some_iff
abbrev ac7:=@Prod.mk.injEq
section
variable {P:Program} {n:Nat} {o:Oper} {tm:Tm} {S S':Sg} {v:V}
def AN(P:Program)(T:ea)(f:Nat):Option (Nat×ea):=
 match ti P T with
 |some t=>match t.kind with
  |.struct g=>g[f]?
  |_=>bi
 |none=>bi
theorem Nj{T:ea}{f:Nat}{off:Nat}{U:ea}(h:AN P T f=am (off,U))(w:cR):
  ∃g fl,(underlying T).run P w=.ok (.struct g) w/\g[f]?=am fl/\fl.offset=off/\fl.type=U:=by
 unfold AN at h;split at h
 .rename_i t j;split at h
  .rename_i B k;obtain⟨d,m,i⟩:=An j w;rw[k]at i;cases d with
   |struct g=>
    simp[tk,TK.struct.injEq]at i;subst i;simp at h;obtain⟨fl,q,u,A⟩:=h;exact⟨g,fl,m,by simpa using q,u,A⟩
   |_=>simp[tk]at i
  .cases h
 .cases h
def vS(off:Nat)(p:V):V:=
 match p with
 |.ptr r m i j=>.ptr r m i (j+off)
 |.DW g=>.DW (g.drop off)
 |_=>.any
def Gg(S:Sg)(p:V):Prop:=
 match p with
 |.ptr r m i _=>match S[r]? with
  |some (.row _ _ g)=>Z g=m/\i<Z g
  |_=>False
 |.DW _=>True
 |_=>False
theorem Oh{G:Gh}{w:cR}(R:Rel P G S w){r i:Nat}{wr:Bool}{sz:Nat}{els:List V}(B:S[r]?=am (.row wr sz els))(hi:i<Z els):
  ∃b k,∀j,G.addr r j=.pointer (am ⟨b,k+j,bi⟩):=by
 have h:=R.Da r _ B;simp[OK]at h;cases m:G.BG r with
 |none=>exact⟨G.CP r,(G.cap r).2,λj=>by simp[Gh.addr,m]⟩
 |some a=>
  simp[m]at h;obtain⟨_,_,g,rfl,q⟩:=h;have C:i<Z g:=by simpa using hi
  generalize u:D.sl g=X at q;generalize E:Value.slice a (Z g) (Z g)=Y at q;cases q with
  |nil a cap=>cases u;simp at C
  |sl F H b off cap L M N A Q T=>
   injection E with K U W;subst K;exact⟨b,off,λj=>by simp[Gh.addr,m]⟩
  |_=>cases u
theorem SE{T U:ea}{x:kt}{f off:Nat}{u:TI}(N:o.op=.fieldAddr T x f)(Q:need (ev tm x))(R:AN P T f=am (off,U))(W:ti P U=am u)(Y:u.size≠0)
  (g:Gg S (strip (ev tm x))):CR P n o tm S (vS off (strip (ev tm x))) S:=.pure λG w a st=>by
 have B:=(BS st x).strip Q;generalize strip (ev tm x)=X at *;obtain⟨fs,fl,e1,e2,e3,e4⟩:=Nj R w;have L:∀b k,a.eval x=.pointer (am ⟨b,k,bi⟩)->(execOp a.eval o).run P w=.ok (.value (.pointer (am ⟨b,k+off,bi⟩))) w:=λb k C=>by
  simp[execOp,N,C,Instr.fieldAt,e1,e2,Instr.sureAddr,fieldPlace,e4,e3,Bg W,bv Y,GR,Sem.run_ite]
 unfold Gg at g;split at g
 .rename_i r m i j;split at g
  .rename_i wr sz els E;obtain⟨hm,hi⟩:=g;have q:=B.KV E hm;obtain⟨b,k,C⟩:=Oh st.rel E hi;rw[C]at q;refine⟨_,L _ _ q,?_⟩;cases B with
   |ptr _ _ _ _ _ h2 h3 h4=>
    refine .ptr _ _ _ _ _ rfl h3 λm' F=>⟨(h4 m' F).1,λe H A=>?_⟩;have:H=sz:=by simpa[C1,E]using A.symm
    subst this;rw[<-py,C];simp[py]
  .exact g.elim
 .rename_i M;generalize hX:a.eval x=X at B;cases B with
  |DW M b k vs hI h=>
   refine⟨_,L _ _ hX,?_⟩;refine .DW _ _ _ (λj=>vs (off+j)) hI λj hj=>?_;have K:off+j<Z M:=by simp at hj;omega
   have:=h (off+j) K;simpa[py]using this
 .exact g.elim
def BE:D->List D
 |.agg ds=>ds
 |d=>[d]
def vV(x:V)(i:Nat):V:=
 match x with
 |.d (.sl g)=>.DW (BE (g.getD i (.bool ap)))
 |.full g=>.DW (BE (g.getD i (.bool ap)))
 |.row r m=>.ptr r m i 0
 |_=>.any
def CL(S:Sg)(x:V)(i:Int)(sz:Nat):Prop:=
 match x with
 |.d (.sl g)=>0<=i/\i<Z g/\Z (BE (g.getD i.toNat (.bool ap)))=sz/\oneD (g.getD i.toNat (.bool ap))=J
 |.full g=>0<=i/\i<Z g/\Z (BE (g.getD i.toNat (.bool ap)))=sz/\oneD (g.getD i.toNat (.bool ap))=J
 |.row r m=>match S[r]? with
  |some (.row _ j h)=>Z h=m/\0<=i/\i<Z h/\j=sz
  |_=>False
 |_=>False
 where
 oneD:D->Bool
  |.CX _=>ap
  |.raw v=>one v
  |_=>J
theorem CD.cells{I:Nat->Prop}{w:cR}{d:D}{v:Value}(h:CD I w d v)(A:CL.oneD d=J):v.cells.size=Z (BE d)/\∀i (h:i<Z (BE d)),∃u,v.cells[i]?=am u/\CD I w (BE d)[i] u/\one u=true:=by
 cases h with
 |agg ds g j h q=>exact⟨j,λi hi=>⟨g[i]'(by simp[BE]at hi;omega),by simp[aeV],h i hi,q i (by simp[BE]at hi;omega)⟩⟩
 |CX=>simp[CL.oneD]at A
 |raw v=>
  have B:one v=true:=A;rw[KF B];refine⟨rfl,λi hi=>?_⟩;have:i=0:=by simp[BE]at hi;exact hi
  subst this;exact⟨v,rfl,.raw v,B⟩
 |bool b=>exact⟨rfl,λi hi=>by
  have:i=0:=by simp[BE]at hi;exact hi
  subst this;exact⟨_,rfl,.bool b,rfl⟩⟩
 |int k m C=>exact⟨rfl,λi hi=>by
  have:i=0:=by simp[BE]at hi;exact hi
  subst this;exact⟨_,rfl,.int k m C,rfl⟩⟩
 |str s j=>exact⟨rfl,λi hi=>by
  have:i=0:=by simp[BE]at hi;exact hi
  subst this;exact⟨_,rfl,.str s j,rfl⟩⟩
 |nil a c=>exact⟨rfl,λi hi=>by
  have:i=0:=by simp[BE]at hi;exact hi
  subst this;exact⟨_,rfl,.nil a c,rfl⟩⟩
 |sl sz E b off cap g F G H K L=>exact⟨rfl,λi hi=>by
  have:i=0:=by simp[BE]at hi;exact hi
  subst this;exact⟨_,rfl,.sl sz E b off cap g F G H K L,rfl⟩⟩
theorem o7{G:Gh}{w:cR}{xs:List D}{cv:Value}(h:CD G.I w (.sl xs) cv){i:Nat}(hi:i<Z xs)(m:CL.oneD xs[i]=J):
  ∃b off len cap,cv=.slice (am ⟨b,off,bi⟩) len cap/\len=Z xs/\CV G S w (.DW (BE xs[i])) (.pointer (am ⟨b,off+i * Z (BE xs[i]),bi⟩)):=by
 cases h with
 |nil=>simp at hi
 |sl sz xs b off cap g q L M A B=>
  obtain⟨c1,C⟩:=(A i hi).cells m;obtain⟨N,E⟩:=B i hi;have F:Z (BE xs[i])=sz:=by omega
  refine⟨b,off,_,cap,rfl,rfl,.DW _ _ _ (λj=>(g i).cells.getD j undef) q λj hj=>?_⟩;obtain⟨u,k,H,K⟩:=C j hj;have e:(g i).cells.getD j undef=u:=by simp[k]
  rw[e,F,E j (by omega)];exact⟨k,H,K⟩
theorem Sd{T:ea}{x y:kt}{E:ea}{k:IntKind}{i:Int}{t e:TI}(ho:o.op=.indexAddr T x y)(U:need (ev tm x))(W:need (ev tm y))(ht:ti P T=am t)(hk:t.kind=.slice E)
  (he:ti P E=am e) (ey:strip (ev tm y)=.d (.int k i)) (B:CL S (strip (ev tm x)) i e.size):CR P n o tm S (vV (strip (ev tm x)) i.toNat) S:=.pure λG w a st=>by
 have L:=(BS st x).strip U;have h2:=(BS st y).strip W;rw[ey]at h2;obtain⟨d,hd,zr⟩:=An ht w;have hdE:d=.slice E:=by rw[hk]at zr;cases d<;>simp[tk]at zr⊢;exact zr
 subst hdE;have zm:∀b off len cap,a.eval x=.slice (am ⟨b,off,bi⟩) len cap->0<=i->i<len->(execOp a.eval o).run P w=.ok (.value (.pointer (am ⟨b,off+i.toNat * e.size,bi⟩))) w:=λb off len cap F h0 M=>by
  simp[execOp,ho,h2.int,F,Instr.indexAt,asIntOf,hd,GR];rw[ca ⟨h0,M⟩];simp[Bg he]
 generalize strip (ev tm x)=X at *;unfold CL at B;split at B
 .rename_i q;obtain⟨h0,M,H,g⟩:=B;have hi:i.toNat<Z q:=by omega
  have u:q.getD i.toNat (.bool ap)=q[i.toNat]:=by simp[i5,hi]
  rw[u]at H g;have K:CD G.I w (.sl q) (a.eval x):=by cases L with|d _ _ h=>exact h
  obtain⟨b,off,len,cap,g1,g2,g3⟩:=o7 (S:=S) K hi g;refine⟨_,zm b off len cap g1 h0 (by omega),?_⟩;rw[<-H];simpa only[vV,u]using g3
 .rename_i q;obtain⟨h0,M,H,g⟩:=B;have hi:i.toNat<Z q:=by omega
  have u:q.getD i.toNat (.bool ap)=q[i.toNat]:=by simp[i5,hi]
  rw[u]at H g;have K:CD G.I w (.sl q) (a.eval x):=by
   generalize a.eval x=X at L;cases L with|full _ _ h=>exact h
  obtain⟨b,off,len,cap,g1,g2,g3⟩:=o7 (S:=S) K hi g;refine⟨_,zm b off len cap g1 h0 (by omega),?_⟩;rw[<-H];simpa only[vV,u]using g3
 .rename_i r m;split at B
  .rename_i wr sz els hr;obtain⟨hm,h0,M,H⟩:=B;subst H;have hi:i.toNat<Z els:=by omega
   have C:lenOf S r=am m:=by simp[lenOf,hr,hm]
   have A:a.eval x=G.BU r m/\r<Z S:=by
    cases L with|row _ _ _ _ zg h=>exact⟨(h m C).2 rfl,zg⟩
   obtain⟨A,zg⟩:=A;have zq:=st.rel.Da r _ hr;have key:∃b off cap,G.BU r m=.slice (am ⟨b,off,bi⟩) m cap/\∀j,G.addr r j=.pointer (am ⟨b,off+j,bi⟩):=by
    simp[OK]at zq;cases F:G.BG r with
    |none=>exact⟨G.CP r,(G.cap r).2,(G.cap r).1,by simp[Gh.BU,F],λj=>by simp[Gh.addr,F]⟩
    |some b=>
     simp[F]at zq;obtain⟨_,_,q,rfl,hc⟩:=zq;have zo:i.toNat<Z q:=by simpa using hi
     generalize U:D.sl q=X at hc;generalize W:Value.slice b (Z q) (Z q)=Y at hc;cases hc with
     |nil a cap=>cases U;simp at zo
     |sl N xs' b off cap vs hI M hcap L h2=>
      injection W with e1 e2 e3;subst e1;exact⟨b,off,m,by simp[Gh.BU,F],λj=>by simp[Gh.addr,F]⟩
     |_=>cases U
   obtain⟨b,off,cap,k1,k2⟩:=key;refine⟨_,zm b off m cap (A.trans k1) h0 (by omega),.ptr _ _ _ _ _ rfl zg λm' Q=>?_⟩;rw[C]at Q;cases Q;refine⟨c9 _,λ_ N R=>?_⟩;have:N=e.size:=by simpa[C1,hr]using R.symm
   subst this;rw[k2];simp
  .exact B.elim
 .exact B.elim
end
section
variable {P:Program} {n:Nat} {o:Oper} {tm:Tm} {S S':Sg} {v:V}
theorem Me{n:Nat}(h:n<=maxLen):GZ .i64 n=true:=by
 simp[maxLen]at h;simp[GZ];omega
theorem CD.len{I:Nat->Prop}{w:cR}{xs:List D}{v:Value}(h:CD I w (.sl xs) v):Z xs<=maxLen:=by
 cases h with
 |nil=>simp
 |sl sz xs b off cap i j g=>exact g
theorem Rel.rN{G:Gh}{w:cR}(R:Rel P G S w){r m:Nat}(h:lenOf S r=am m):m<=maxLen:=by
 unfold Koi.lenOf at h;split at h
 .rename_i j sz i g;cases h;have:=R.Da r _ g;simp only[OK]at this;split at this
  .obtain⟨c,T,_,_,_,h,_⟩:=this;exact h
  .obtain⟨_,h,_⟩:=this;exact h
 .rename_i k g;cases h;have:=R.Da r _ g;simp only[OK]at this;exact this.len
 .cases h
theorem ak{T:ea}{x:kt}{c:Call}{xs:List D}{t:TI}{E:ea}(m:o.op=.call c)(q:c.callee=.builtin .len)(u:c.args=#[x])(A:c.argTypes=#[T])
  (B:need (ev tm x)) (C:strip (ev tm x)=.d (.sl xs)) (F:ti P T=am t) (H:t.kind=.slice E):CR P n o tm S (.d (.int .i64 (Z xs))) S:=.pure λG w a st=>by
 have i:=(BS st x).strip B;rw[C]at i;obtain⟨d,K,j⟩:=An F w;have k:d=.slice E:=by rw[H]at j;cases d<;>simp[tk]at j⊢;exact j
 subst k;have g:Z xs<=maxLen:=by cases i with|d _ _ h=>exact h.len
 have:∃a0 cap,a.eval x=.slice a0 (Z xs) cap:=by
  generalize a.eval x=X at i;cases i with|d _ _ h=>cases h with
   |nil a c=>exact⟨a,c,rfl⟩
   |sl sz xs b off cap=>exact⟨_,cap,rfl⟩
 obtain⟨a0,cap,L⟩:=this;refine⟨.int .i64 (Z xs),?_,.d _ _ (.int _ _ (Me g))⟩;simp[execOp,m,resolve,q,u,A,L,invoke,builtin,Builtin.len_,K,goInt]
theorem Ti{T:ea}{x:kt}{c:Call}{xs:List D}{t:TI}{E:ea}(k:o.op=.call c)(m:c.callee=.builtin .len)(q:c.args=#[x])(u:c.argTypes=#[T])
  (A:need (ev tm x)) (B:strip (ev tm x)=.full xs) (C:ti P T=am t) (F:t.kind=.slice E):CR P n o tm S (.d (.int .i64 (Z xs))) S:=.pure λG w a st=>by
 have g:=(BS st x).strip A;rw[B]at g;obtain⟨d,H,i⟩:=An C w;have j:d=.slice E:=by rw[F]at i;cases d<;>simp[tk]at i⊢;exact i
 subst j;generalize K:a.eval x=X at g;cases g with
 |full _ a0 h=>
  refine⟨.int .i64 (Z xs),?_,.d _ _ (.int _ _ (Me h.len))⟩;simp[execOp,k,resolve,m,q,u,K,invoke,builtin,Builtin.len_,H,goInt]
theorem XJ{T:ea}{x:kt}{c:Call}{r m:Nat}{t:TI}{E:ea}(u:o.op=.call c)(A:c.callee=.builtin .len)(B:c.args=#[x])(C:c.argTypes=#[T])
  (F:need (ev tm x)) (H:strip (ev tm x)=.row r m) (k:lenOf S r=am m) (K:ti P T=am t) (L:t.kind=.slice E):CR P n o tm S (.d (.int .i64 m)) S:=.pure λG w a st=>by
 have q:=(BS st x).strip F;rw[H]at q;obtain⟨d,M,g⟩:=An K w;have i:d=.slice E:=by rw[L]at g;cases d<;>simp[tk]at g⊢;exact g
 subst i;have j:a.eval x=G.BU r m:=by
  cases q with|row _ _ _ _ _ h=>exact(h m k).2 rfl
 have:∃a0 cap,a.eval x=.slice a0 m cap:=by
  rw[j];unfold Gh.BU;split<;>exact⟨_,_,rfl⟩
 obtain⟨a0,cap,j⟩:=this;refine⟨.int .i64 m,?_,.d _ _ (.int _ _ (Me (st.rel.rN k)))⟩;simp[execOp,u,resolve,A,B,C,j,invoke,builtin,Builtin.len_,M,goInt]
theorem WJ{T:ea}{x:kt}{c:Call}{s:ByteArray}{t:TI}(j:o.op=.call c)(k:c.callee=.builtin .len)(m:c.args=#[x])(q:c.argTypes=#[T])
  (u:need (ev tm x)) (A:strip (ev tm x)=.d (.str s)) (B:ti P T=am t) (C:t.kind=.str):CR P n o tm S (.d (.int .i64 s.size)) S:=.pure λG w a st=>by
 have g:=(BS st x).strip u;rw[A]at g;obtain⟨d,E,i⟩:=An B w;have h:d=.string:=by rw[C]at i;cases d<;>simp[tk]at i⊢
 subst h;have F:=g.str.1;have H:=g.str.2;refine⟨.int .i64 s.size,?_,.d _ _ (.int _ _ (Me H))⟩;simp[execOp,j,resolve,k,m,q,F,invoke,builtin,Builtin.len_,E,goInt]
theorem Wv{x:kt}{k:Nat}{vs:List V}(j:o.op=.extract x k)(m:need (ev tm x))(q:strip (ev tm x)=.CX vs)(g:k<Z vs):
  CR P n o tm S (vs.getD k .any) S:=.pure λG w a st=>by
 have i:=(BS st x).strip m;rw[q]at i;generalize u:a.eval x=X at i;cases i with
 |CX C A B h=>
  refine⟨A[k],?_,?_⟩
  .simp[execOp,j,u,Instr.extract,B,g]
  .have:vs.getD k .any=vs[k]:=by simp[i5,g]
   rw[this];exact h k g
theorem Uv{x:kt}{k:Nat}{vs:List D}(j:o.op=.extract x k)(m:need (ev tm x))(q:strip (ev tm x)=.d (.CX vs))(i:k<Z vs):
  CR P n o tm S (.d (vs.getD k (.bool ap))) S:=.pure λG w a st=>by
 have g:=(BS st x).strip m;rw[q]at g;generalize u:a.eval x=X at g;cases g with
 |d _ _ g=>cases g with
  |CX C A B h=>
   refine⟨A[k],?_,?_⟩
   .simp[execOp,j,u,Instr.extract,B,i]
   .have:vs.getD k (.bool ap)=vs[k]:=by simp[i5,i]
    rw[this];exact .d _ _ (h k i)
theorem VB{f:Fn}{as g:Array kt}(j:o.op=.makeFunc f as g):CR P n o tm S (.fn f (as.toList.map (ev tm)) (g.toList.map (ev tm))) S:=.pure λG w a st=>by
 refine⟨.func f (as.map a.eval) (g.map a.eval),by simp[execOp,j,Instr.makeFunc],.fn _ _ _ _ _ (by simp) (by simp) (λi h=>?_) (λi h=>?_)⟩
 .simpa using BS st _
 .simpa using BS st _
theorem Ur{x:kt}{r m i j:Nat}(A:o.op=.nilCheck x)(B:need (ev tm x))(C:strip (ev tm x)=.ptr r m i j)(h:Gg S (.ptr r m i j)):CR P n o tm S (.ptr r m i j) S:=.pure λG w a st=>by
 have q:=(BS st x).strip B;rw[C]at q;simp only[Gg]at h;split at h
 .rename_i K sz E u;obtain⟨F,hi⟩:=h;have g:=q.KV u F;obtain⟨b,k,H⟩:=Oh st.rel u hi;rw[H]at g;exact⟨a.eval x,by simp[execOp,A,g],q⟩
 .exact h.elim
theorem Sy{x:kt}{i:List D}(j:o.op=.nilCheck x)(k:need (ev tm x))(m:strip (ev tm x)=.DW i):CR P n o tm S (.DW i) S:=.pure λG w a st=>by
 have g:=(BS st x).strip k;rw[m]at g;refine⟨a.eval x,?_,g⟩;generalize q:a.eval x=X at g;cases g with
 |DW i b off u A h=>simp[execOp,j,q]
theorem gP{T U:ea}{x:kt}{f off:Nat}{u:TI}(B:o.op=.field T x f)(C:need (ev tm x))(E:AN P T f=am (off,U))(m:ti P U=am u)
  (i:Ap (strip (ev tm x))=J) (hj:off+u.size<=Z (Ae (strip (ev tm x)))) (ha:u.agg=J\/u.size=1):
  CR P n o tm S (Pv u.agg u.size (strip (ev tm x)) off) S:=.pure λG w a st=>by
 have h:=(BS st x).strip C;obtain⟨N,fl,F,H,K,L⟩:=Nj E w;have j:=P6 h (.inl i) hj ha;obtain⟨c1,_,q⟩:=h.cells (.inl i);generalize strip (ev tm x)=X at *;have g:∃k,a.eval x=.agg k:=by
  generalize a.eval x=Y at h;cases h with
  |agg=>exact⟨_,rfl⟩
  |d d v M=>cases M<;>first|exact⟨_,rfl⟩|simp[Ap]at i
  |_=>simp[Ap]at i
 obtain⟨k,A⟩:=g;rw[A]at j c1 q;simp only[aeV]at j c1 q;refine⟨_,?_,j⟩;simp only[execOp,B,A,Instr.field,ls,F,kv,H,asAgg,pc,part,K,L,Mg m];cases g:u.agg with
 |true=>simp[Bg m]
 |false=>
  have h:u.size=1:=by simpa[g]using ha
  simp only[ob,jw];have:off<k.size:=by omega
  simp[this]
end
abbrev NE:=@dif_pos
abbrev j3:=@Option.some.injEq
abbrev oi:=@List.getElem_append_left
abbrev wn:=@List.getElem_append_right
abbrev jp:=@List.length_append
abbrev ac2:=@List.length_take
abbrev At:=@Nat.mul_le_mul_right
abbrev oE:=@Nat.add_mul
abbrev lm:=@List.mem_iff_getElem
abbrev ab6:=@Array.length_toList
abbrev acb:=@Array.getElem?_toList
abbrev acA:=@List.getElem_set_ne
section
variable {P:Program} {n:Nat} {o:Oper} {tm:Tm} {S S':Sg} {v:V}
def TU(e:V)(j:Nat)(x:V):V:=
 if Ap e then
  if j=0/\Z (Ae e)=Z (Ae x)/\Ap x=J then x
  else .agg ((Ae e).take j++Ae x++(Ae e).drop (j+Z (Ae x)))
 else x
theorem CV.PH{G:Gh}{w:cR}{g:List V}{u:Array Value}(k:u.size=Z g)(h:∀i (h:i<Z g),∃x,u[i]?=am x/\CV G S w g[i] x)
  (m:∀i (h:i<u.size),Koi.one u[i]=J):CV G S w (.agg g) (.agg u):=.agg _ _ k (λi hi=>by
   obtain⟨x,j,q⟩:=h i hi;have:u[i]'(by omega)=x:=by rw[ll (by omega)]at j;simpa using j
   rw[this];exact q) m
theorem nw{G:Gh}{w:cR}{e x:V}{u y:Value}{j:Nat}(h:CV G S w e u)(Y:Ap e=J\/Bp e=J)(M:CV G S w x y)(N:Ap x=J\/Bp x=J)
  (hj:j+Z (Ae x)<=Z (Ae e)) (hk:Ap e=J\/Ap x=ap):
  ∃z,CV G S w (TU e j x) z/\z.cells.size=u.cells.size/\(∀c∈z.cells,one c=J)/\(∀i,z.cells[i]?=if j<=i/\i<j+y.cells.size then y.cells[i - j]? else u.cells[i]?)/\(Ap (TU e j x)=J\/Bp (TU e j x)=J)/\Z (Ae (TU e j x))=Z (Ae e):=by
 obtain⟨c1,c2,c3⟩:=h.cells Y;obtain⟨d1,d2,d3⟩:=M.cells N;have k:∀{z:Value},(∀i (h:i<z.cells.size),one z.cells[i]=J)->∀c∈z.cells,one c=true:=λQ c E=>by
  obtain⟨i,hi,rfl⟩:=abD.1 E;exact Q i hi
 have whole:j=0->Z (Ae e)=Z (Ae x)->∀i,y.cells[i]?=if j<=i/\i<j+y.cells.size then y.cells[i - j]? else u.cells[i]?:=λh0 m i=>by
  subst h0;by_cases hi:i<y.cells.size
  .rw[ca (by omega)];simp
  .rw[bv (by omega),H1 (by omega),H1 (by omega)]
 unfold TU;split
 .rename_i A;split
  .rename_i E;obtain⟨h0,m,_⟩:=E;exact⟨y,M,by omega,k d2,whole h0 m,N,m.symm⟩
  .let z:Array Value:=Array.ofFn (n:=u.cells.size) λi=>if j<=i.val/\i.val<j+y.cells.size then y.cells.getD (i.val - j) undef else u.cells.getD i.val undef;have Q:z.size=u.cells.size:=by simp[z]
   have C:∀i,z[i]?=if j<=i/\i<j+y.cells.size then y.cells[i - j]? else u.cells[i]?:=λi=>by
    by_cases R:i<u.cells.size
    .simp only[z,Array.getElem?_ofFn,R,NE];by_cases B:j<=i/\i<j+y.cells.size
     .rw[ca B,ca B,ll (show i - j<y.cells.size by omega)];simp[show i - j<y.cells.size by omega]
     .rw[bv B,bv B,ll R];simp
    .rw[H1 (by omega),bv (by omega),H1 (by omega)]
   have F:∀i (h:i<z.size),one z[i]=true:=λi hi=>by
    have m:=C i;rw[ll hi]at m;by_cases B:j<=i/\i<j+y.cells.size
    .rw[ca B,ll (by omega)]at m;simp at m;rw[m];exact d2 _ _
    .rw[bv B,ll (by omega)]at m;simp at m;rw[m];exact c2 _ _
   have g:Z ((Ae e).take j++Ae x++(Ae e).drop (j+Z (Ae x)))=Z (Ae e):=by simp;omega
   refine⟨.agg z,CV.PH (by rw[Q,g,c1]) (λi hi=>?_) F,Q,?_,C,.inl rfl,g⟩
   .rw[g]at hi;rw[C];by_cases B:j<=i/\i<j+y.cells.size
    .rw[ca B];obtain⟨q,T,U⟩:=d3 (i - j) (by omega);refine⟨q,T,?_⟩;have:((Ae e).take j++Ae x++(Ae e).drop (j+Z (Ae x)))[i]'(by rw[g];exact hi)=(Ae x)[i - j]'(by omega):=by
      rw[oi (by simp;omega),wn (by simp;omega)];congr 1;simp;omega
     rw[this];exact U
    .rw[bv B];obtain⟨q,T,U⟩:=c3 i hi;refine⟨q,T,?_⟩;have:((Ae e).take j++Ae x++(Ae e).drop (j+Z (Ae x)))[i]'(by rw[g];exact hi)=(Ae e)[i]:=by
      by_cases R:i<j
      .rw[oi (by simp;omega),oi (by simp;omega)];simp
      .rw[wn (by simp;omega)];simp[List.getElem_drop];congr 1;omega
     rw[this];exact U
   .intro c E;obtain⟨i,hi,rfl⟩:=abD.1 E;exact F i hi
 .rename_i A;have m:Bp e=true:=Y.resolve_left A;have H:=KF (h.one m);rw[H]at c1;simp at c1;have W:Bp x=true:=N.resolve_left (by simpa using hk.resolve_left A);have K:=KF (M.one W);have L:=d1;rw[K]at L;simp at L;have X:j=0:=by omega
  exact⟨y,M,by rw[H,K];simp,k d2,whole X (by omega),N,by omega⟩
def lj(S:Sg)(p:V)(x:V):Sg:=
 match p with
 |.ptr r _ i j=>
  match S[r]? with
  |some (.row h sz g)=>S.set r (.row h sz (g.set i (TU (g.getD i .any) j x)))
  |_=>S
 |_=>S
theorem dI{T:ea}{x y:kt}{t:TI}(ho:o.op=.store T x y)(hx:need (ev tm x))(hy:need (ev tm y))(ht:ti P T=am t)
  (B:JA S (strip (ev tm x)) λwr _ i j sz g=>wr=J/\j+t.size<=sz/\(Ap (g.getD i .any)||!Ap (strip (ev tm y)))=J)
  (C:(Ap (strip (ev tm y))||Bp (strip (ev tm y)))=J) (hs:Z (Ae (strip (ev tm y)))=t.size):
  CR P n o tm S .any (lj S (strip (ev tm x)) (strip (ev tm y))):=.skip λG w a st=>by
 have h1:=(BS st x).strip hx;have h2:=(BS st y).strip hy;generalize strip (ev tm x)=X at *;generalize strip (ev tm y)=Y at *;unfold JA at B;split at B
 .rename_i r m i j;split at B
  .rename_i wr sz g A;obtain⟨hm,hi,U,zp,hwr,hj,q⟩:=B;subst hwr;have hgd:g.getD i .any=g[i]:=by simp[i5,hi]
   simp only[lj,A];rw[hgd]at U zp q⊢;have U:Ap g[i]=J\/Bp g[i]=true:=by simpa using U
   have C:Ap Y=J\/Bp Y=true:=by simpa using C
   have q:Ap g[i]=J\/Ap Y=false:=by simpa using q
   have hpv:=h1.KV A hm;have F:=st.rel.Da r _ A;simp only[OK]at F;cases h:G.BG r with
   |some a0=>simp only[h]at F;exact absurd F.1 (by simp)
   |none=>
    simp only[h]at F;obtain⟨c,T0,g1,g2,g3,g4,g5⟩:=F;obtain⟨u,u1,u2,u3,u4⟩:=g5 i hi;obtain⟨d1,d2,_⟩:=h2.cells C;obtain⟨z,z1,z2,z3,z4,z5,z6⟩:=nw u1 U h2 C (j:=j) (by omega) q;have H:a.eval x=.pointer (am ⟨G.CP r,(G.cap r).2+(i * sz+j),bi⟩):=by rw[hpv];simp[Gh.addr,h]
    have hfit:(G.cap r).2+(i * sz+sz)<=c.size:=by
     have:(i+1) * sz<=(G.cap r).1 * sz:=At _ (by omega);rw[oE]at this;omega
    have K:(a.eval y).cells.size=t.size:=by omega
    have zm:=J0 (P:=P) (b:=G.CP r) (off:=(G.cap r).2+(i * sz+j)) (T:=T0) (a.eval y).cells.toList 0 w c g1 (by simp;omega) (λv C=>by
     obtain⟨k,q,rfl⟩:=lm.1 C;simpa using d2 k (by simpa using q))
    have M:Ba G r (.row J sz g)=true:=by simp[Ba,h]
    have N:Ba G r (.row J sz (g.set i (TU g[i] j Y)))=true:=by simp[Ba,h]
    refine⟨G,D2 w (G.CP r) (.cells (putCells c ((G.cap r).2+(i * sz+j)) (a.eval y).cells.toList) T0 (0,0)),?_,?_⟩
    .simp[execOp,ho,H,Instr.storeAt,Instr.sureAddr,storeVar,Bg ht];simp[K];simp at zm;simp[zm]
    .refine st.rel.update A M N (λn' Q=>?_) (λhm=>?_) (λL=>?_)
     .have W:=Ag A;have e1:lenOf (S.set r (.row J sz (g.set i (TU g[i] j Y)))) r=am (Z g):=by simp[lenOf,W]
      rw[e1]at Q;cases Q;exact⟨Z g,by simp[lenOf,A],c9 _,λ_=>.inl (by simp[C1,A];simp[W])⟩
     .have W:=Ag A;simp[isMap,W]at hm
     .simp only[OK,h];have hb:=F8 g1;refine⟨_,T0,GQ hb,by rw[Eb];exact g2,by simpa using g3,by simpa using g4,λE zo=>?_⟩;have R:E<Z g:=by simpa using zo
      by_cases e:E=i
      .subst e;refine⟨z,by simpa using z1.later L,by omega,z3,λk q=>?_⟩;rw[ET _ _ _ _ (by simp;omega),z4 k,u4 k q |>.symm];simp only[ab6];by_cases h3:j<=k/\k<j+(a.eval y).cells.size
       .rw[ca (by omega),ca h3];simp only[acb];congr 1;omega
       .rw[bv (by omega),bv h3]
      .obtain⟨v',v1,v2,v3,v4⟩:=g5 E R;refine⟨v',by simpa[acA (n7 e)]using v1.later L,v2,v3,λk q=>?_⟩;rw[ET _ _ _ _ (by simp;omega),<-v4 k q,bv];simp only[ab6];intro⟨h3,h4⟩;rcases s9 E i with h5|h5
       .have:(E+1) * sz<=i * sz:=At _ h5;rw[oE]at this;omega
       .have:(i+1) * sz<=E * sz:=At _ (by omega);rw[oE]at this;omega
  .exact B.elim
 .exact B.elim
end
abbrev adG:=@List.foldl_cons
abbrev wv:=@List.getElem_cons_zero
abbrev l5:=@congrArg
abbrev ado:=@List.mapM_cons
abbrev m6:=@List.getElem_map
abbrev g7:=@List.mem_map
abbrev md:=@Option.isSome_iff_exists
abbrev acL:=@Array.mem_of_getElem?
abbrev acE:=@Array.toList_map
abbrev acn:=@Option.map_some
section
variable {P:cP} {n:Nat} {o:Oper} {tm:Tm} {S S':Sg} {v:V}
theorem Qo{G:Gh}{w:World}(R:Rel P G S w){T:ea}{e:V}{u:de}(h:CV G S w e u)(A:(Ap e||Bp e)=J):
  ∃cv g q,(newVar T u).run P w=.ok cv g/\CV q (S++[.row J (Z (Ae e)) [e]]) g (.ptr (Z S) 1 0 0) (.pointer (am cv))/\Rel P q (S++[.row J (Z (Ae e)) [e]]) g/\Tr G S w q (S++[.row J (Z (Ae e)) [e]]) g/\BA G S w q (S++[.row J (Z (Ae e)) [e]]) g:=by
 have A:Ap e=J\/Bp e=true:=by simpa using A
 obtain⟨c1,B,N⟩:=h.cells A;obtain⟨r1,r2,C⟩:=R.add 1 (.row J (Z (Ae e)) [e]) (.cells u.cells T (0,0)) (λL=>by
  have E:(G.at (Z S) w.heap.size 1 bi).BG (Z S)=none:=by simp[Gh.at]
  have hb:(G.at (Z S) w.heap.size 1 bi).CP (Z S)=w.heap.size:=by simp[Gh.at]
  have F:(G.at (Z S) w.heap.size 1 bi).cap (Z S)=(1,0):=by simp[Gh.at]
  simp only[OK,E,hb,F];refine⟨u.cells,T,EV,by omega,by simp,by simp[maxLen],λi hi=>?_⟩;have:i=0:=by simp at hi;exact hi
  subst this;refine⟨u,by simpa using h.later L,c1,λx H=>?_,λj hj=>by simp⟩;obtain⟨k,K,rfl⟩:=abD.1 H;exact B k K)
 refine⟨⟨w.heap.size,0,bi⟩,Bl w (.cells u.cells T (0,0)),_,by simp[newVar,newRow,Bl],?_,r1,r2,C⟩;refine .ptr _ _ _ _ _ rfl (by simp) λm M=>?_;have:m=1:=by simpa[lenOf]using M.symm
 subst this;refine⟨c9 _,λ_ sz Q=>?_⟩;simp[Gh.addr,Gh.at]
def iM(S:Sg)(e:V):Sg:=S++[.row J (Z (Ae e)) [e]]
theorem rX{T:ea}{x:Operand}(g:o.op=.box T x)(h:need (ev tm x))(i:(Ap (strip (ev tm x))||Bp (strip (ev tm x)))=J):
  CR P n o tm S (.ptr (Z S) 1 0 0) (iM S (strip (ev tm x))):=.val λG w a st=>by
 have j:=(BS st x).strip h;obtain⟨cv,k,m,q,u,A,B,C⟩:=Qo st.rel (T:=T) j i;exact⟨.pointer (am cv),m,k,by simp[execOp,g,Instr.box,q],u,A,B,C⟩
theorem jF{T:ea}{t:TI}{z:de}(g:o.op=.alloc T)(h:ti P T=am t)(i:t.zero=am z)(j:(Ap (OQ z)||Bp (OQ z))=J):
  CR P n o tm S (.ptr (Z S) 1 0 0) (iM S (OQ z)):=.val λG w a st=>by
 obtain⟨cv,k,m,q,u,A,B,C⟩:=Qo st.rel (T:=T) (IH G S w z) j;refine⟨.pointer (am cv),m,k,?_,u,A,B,C⟩;simp[execOp,g,Instr.alloc,EG h w i,q]
def MM(G:Gh)(S:Sg)(w:World)(g:List V)(u:Array de):Prop:=
 u.size=Z g/\(∀i (h:i<u.size),one u[i]=J)/\∀i (h:i<Z g),∃x,u[i]?=am x/\CV G S w g[i] x
theorem CV.Xf{G:Gh}{w:World}{e:V}{u:de}(h:CV G S w e u)(g:Ap e=J\/Bp e=J):MM G S w (Ae e) u.cells:=h.cells g
theorem MM.agg{G:Gh}{w:World}{g:List V}{u:Array de}(h:MM G S w g u):CV G S w (.agg g) (.agg u):=CV.PH h.1 h.2.2 h.2.1
theorem MM.put{G:Gh}{w:World}{j ds:List V}{u y:Array de}{k:Nat}(h:MM G S w j u)(F:MM G S w ds y)(L:k+Z ds<=Z j):
  MM G S w (j.take k++ds++j.drop (k+Z ds)) (putCells u k y.toList):=by
 obtain⟨c1,H,K⟩:=h;obtain⟨d1,d2,d3⟩:=F;have g:Z (j.take k++ds++j.drop (k+Z ds))=Z j:=by simp;omega
 have m:∀i,(putCells u k y.toList)[i]?=if k<=i/\i<k+y.size then y[i - k]? else u[i]?:=λi=>by
  rw[ET _ _ _ _ (by simp;omega)];simp
 refine⟨by rw[Eb,g,c1],λi hi=>?_,λi hi=>?_⟩
 .have A:=m i;rw[ll hi]at A;rw[Eb]at hi;by_cases B:k<=i/\i<k+y.size
  .rw[ca B,ll (by omega)]at A;simp at A;rw[A];exact d2 _ _
  .rw[bv B,ll hi]at A;simp at A;rw[A];exact H _ _
 .rw[g]at hi;rw[m];by_cases B:k<=i/\i<k+y.size
  .rw[ca B];obtain⟨q,C,E⟩:=d3 (i - k) (by omega);refine⟨q,C,?_⟩;have:(j.take k++ds++j.drop (k+Z ds))[i]'(by rw[g];exact hi)=ds[i - k]'(by omega):=by
    rw[oi (by simp;omega),wn (by simp;omega)];congr 1;simp;omega
   rw[this];exact E
  .rw[bv B];obtain⟨q,C,E⟩:=K i hi;refine⟨q,C,?_⟩;have:(j.take k++ds++j.drop (k+Z ds))[i]'(by rw[g];exact hi)=j[i]:=by
    by_cases M:i<k
    .rw[oi (by simp;omega),oi (by simp;omega)];simp
    .rw[wn (by simp;omega)];simp[List.getElem_drop];congr 1;omega
   rw[this];exact E
theorem Qy(vs:List de):∀(m k:Nat) (c:Array de),((vs.zipIdx m).foldl (λg (p:de×Nat)=>g.setIfInBounds (k+p.2) p.1) c)=putCells c (k+m) vs:=by
 induction vs with
 |nil=>intro m k c;rfl
 |cons v vs h=>intro m k c;simp[List.zipIdx_cons,putCells];rw[h];rfl
def Qm(place:Nat->Option (Nat×Nat)):List V->List (Nat×V)->List V
 |g,[]=>g
 |g,(i,x)::rest=>
  match place i with
  |some (off,size)=>Qm place (g.take off++Ae x++g.drop (off+size)) rest
  |none=>g
def KL(place:Nat->Option (Nat×Nat))(len:Nat):List (Nat×V)->Prop
 |[]=>True
 |(i,x)::rest=>
  match place i with
  |some (off,size)=>Z (Ae x)=size/\off+size<=len/\(Ap x||Bp x)=J/\KL place len rest
  |none=>False
theorem lK{G:Gh}{w:World}{place:Nat->Option (Nat×Nat)}(parts:List (Nat×V)):∀(g:List (Nat×de)) (j:List V) (u:Array de),MM G S w j u->Z parts=Z g->(∀i (h:i<Z parts) (U:i<Z g),parts[i].1=g[i].1/\CV G S w parts[i].2 g[i].2)->KL place (Z j) parts->∃C,Instr.fill place u g=am C/\MM G S w (Qm place j parts) C:=by
 induction parts with
 |nil=>
  intro g j u h E _ _;cases g with
  |nil=>exact⟨u,rfl,h⟩
  |cons=>simp at E
 |cons p parts L=>
  intro g j u h E H A;cases g with
  |nil=>simp at E
  |cons q g=>
   obtain⟨i,x⟩:=p;obtain⟨W,y⟩:=q;have h0:=H 0 (by simp) (by simp);simp at h0;obtain⟨rfl,F⟩:=h0;simp[KL]at A;simp only[Instr.fill,Qm];cases B:place i with
   |none=>rw[B]at A;exact A.elim
   |some os=>
    obtain⟨off,size⟩:=os;rw[B]at A;obtain⟨p1,p2,M,N⟩:=A;have K:=F.Xf (by simpa using M);have X:y.cells.size=size:=by rw[K.1,p1]
    have Y:u.size=Z j:=h.1;simp only[];rw[bv (by simp;omega)];have Q:(y.cells.zipIdx.foldl (λj (p:de×Nat)=>j.setIfInBounds (off+p.2) p.1) u)=putCells u off y.cells.toList:=by
     rw[<-Array.foldl_toList,Array.toList_zipIdx,Qy];rfl
    have m:=h.put K (k:=off) (by omega);rw[p1]at m;have:=L g _ _ m (by simpa using E) (λk h1 h2=>by have:=H (k+1) (by simp;omega) (by simp;omega);simpa using this)
     (by
      have e:Z (j.take off++Ae x++j.drop (off+size))=Z j:=by simp;omega
      rw[e];exact N)
    obtain⟨C,R,T⟩:=this;exact⟨C,by rw[<-R];exact l5 (λz=>Instr.fill place z g) Q,T⟩
def cu(P:cP)(T:ea):Option Nat:=
 match ti P T with
 |some t=>match t.kind with
  |.array _ e=>(ti P e).map (·.size)
  |_=>bi
 |none=>bi
def placeOf(P:cP)(T:ea)(i:Nat):Option (Nat×Nat):=
 match cu P T with
 |some s=>am (i * s,s)
 |none=>match AN P T i with
  |some (off,U)=>match ti P U with
   |some u=>am (off,u.size)
   |none=>bi
  |none=>bi
def A1(P:cP)(T:ea):Bool:=
 match ti P T with
 |some t=>match t.kind with
  |.struct g=>g.all λf=>(ti P f.2).isSome
  |.array _ e=>(ti P e).isSome
  |_=>false
 |none=>false
theorem Up{w:World}(fs:List Field)(h:∀f∈fs,∃u,ti P f.type=am u):
  (fs.mapM (m:=Sem) λf=>do pure (f.offset,<-sizeOf f.type)).run P w=.ok (fs.map λf=>(f.offset,((ti P f.type).map (·.size)).getD 0)) w:=by
 induction fs with
 |nil=>simp
 |cons f fs j=>
  obtain⟨u,i⟩:=h f (by simp);have k:=j (λg q=>h g (by simp[q]));simp only[ado,ls,Bg i,kv,pc,k];simp[i]
theorem iV{T:ea}{parts:Array (Nat×Operand)}{t:TI}{z:de}(H:o.op=.build T parts)(q:ti P T=am t)(K:t.zero=am z)(j:A1 P T=J)
  (E:Ap (OQ z)=J) (Q:∀p∈parts.toList,need (ev tm p.2))
  (R:KL (placeOf P T) (Z (Ae (OQ z))) (parts.toList.map λp=>(p.1,strip (ev tm p.2)))):
  CR P n o tm S (.agg (Qm (placeOf P T) (Ae (OQ z)) (parts.toList.map λp=>(p.1,strip (ev tm p.2))))) S:=.pure λG w a st=>by
 have F:=(IH G S w z).Xf (.inl E);obtain⟨U,L,W⟩:=lK (S:=S) (G:=G) (w:=w) (place:=placeOf P T) (parts.toList.map λp=>(p.1,strip (ev tm p.2))) (parts.toList.map λp=>(p.1,a.eval p.2)) _ _ F (by simp)
  (λi h1 h2=>by
   simp[true_and];exact(BS st _).strip (Q _ (by simp)))
  R
 refine⟨.agg U,?_,W.agg⟩;unfold A1 at j;rw[q]at j;simp[]at j;obtain⟨d,M,k⟩:=An q w;cases h:t.kind with
 |struct fs=>
  rw[h]at j k;cases d with
  |struct A=>
   simp[tk,TK.struct.injEq]at k;subst k;have N:∀f∈A.toList,∃u,ti P f.type=am u:=λf X=>by
    have:=ed.1 j (f.offset,f.type) (by simp only[g7];exact⟨f,X,rfl⟩);exact md.1 this
   have B:(A.mapM (m:=Sem) λf=>do pure (f.offset,<-sizeOf f.type)).run P w=.ok (A.map λf=>(f.offset,((ti P f.type).map (·.size)).getD 0)) w:=by
    rw[Array.mapM_eq_mapM_toList];have:=Up (P:=P) (w:=w) A.toList N;simp only[Sem.run_map,this,kv];congr 1;apply ad1;simp
   have g:(λi=>(A.map λf=>(f.offset,((ti P f.type).map (·.size)).getD 0))[i]?)=placeOf P T:=by
    funext i;simp only[placeOf,cu,AN,q,h];simp only[Array.getElem?_map,abL,acb];cases Y:A[i]? with
    |none=>rfl
    |some f=>
     obtain⟨u,C⟩:=N f (by
      have:=acL Y;simpa using this)
     simp[C]
   simp only[execOp,H,Instr.build,ls,EG q w K,kv,M,B];rw[g];simp only[acE,L];simp
  |_=>simp[tk]at k
 |array m e=>
  rw[h]at j k;cases d with
  |array m' e'=>
   simp[tk,TK.array.injEq]at k;obtain⟨rfl,rfl⟩:=k;obtain⟨u,C⟩:=md.1 j;have g:(λi=>am (i * u.size,u.size))=placeOf P T:=by
    funext i;simp[placeOf,cu,q,h,C]
   simp[execOp,H,Instr.build,EG q w K,M,Bg C];rw[g];simp only[L];simp
  |_=>simp[tk]at k
 |_=>rw[h]at j;cases j
end
abbrev Kf:=@List.getElem_cons_succ
abbrev y3:=@List.length_map
abbrev QQ:=@Array.getElem_toList
section
variable {P:cP} {n:Nat} {o:Oper} {tm:Tm} {S S':Sg} {v:V}
def B4(S:Sg):V->Option D
 |.d d=>am d
 |.full g=>am (.sl g)
 |.row r m=>match S[r]? with
  |some (.BT g)=>if Z g=m then am (.sl g)else bi
  |_=>bi
 |_=>bi
def DL(S:Sg):List V->Option (List D)
 |[]=>am []
 |x::g=>match B4 S x,DL S g with
  |some d,am ds=>am (d::ds)
  |_,_=>bi
def Ht(S:Sg):V->Option D
 |.agg g=>(DL S g).map .agg
 |v=>B4 S v
def F5(S:Sg):List V->Option (List D)
 |[]=>am []
 |x::g=>match Ht S x,F5 S g with
  |some d,am ds=>am (d::ds)
  |_,_=>bi
def BO(S:Sg):V->Option D
 |.agg g=>(DL S g).map .agg
 |.CX g=>(F5 S g).map .CX
 |v=>B4 S v
theorem Yy{xs:List V}:∀{ds:List D},F5 S xs=am ds->Z ds=Z xs/\∀i (h:i<Z xs) (A:i<Z ds),Ht S xs[i]=am ds[i]:=by
 induction xs with
 |nil=>intro ds h;simp[F5]at h;subst h;exact⟨rfl,λi h=>by simp at h⟩
 |cons x xs g=>
  intro ds h;simp[F5]at h;split at h
  .rename_i d j k m;cases h;obtain⟨q,u⟩:=g m;refine⟨by simp[q],λi hi w=>?_⟩;cases i with
   |zero=>simpa using k
   |succ i=>simpa using u i (by simpa using hi) (by simpa using w)
  .cases h
theorem Tc{xs:List V}:∀{ds:List D},DL S xs=am ds->Z ds=Z xs/\∀i (h:i<Z xs) (A:i<Z ds),B4 S xs[i]=am ds[i]:=by
 induction xs with
 |nil=>intro ds h;simp[DL]at h;subst h;exact⟨rfl,λi h=>by simp at h⟩
 |cons x xs g=>
  intro ds h;simp[DL]at h;split at h
  .rename_i d j k m;cases h;obtain⟨q,u⟩:=g m;refine⟨by simp[q],λi hi w=>?_⟩;cases i with
   |zero=>simpa using k
   |succ i=>simpa using u i (by simpa using hi) (by simpa using w)
  .cases h
theorem CV.B4{G:Gh}{w:World}(R:Rel P G S w){x:V}{d:D}{v:de}(h:CV G S w x v)(g:B4 S x=am d):CD G.I w d v:=by
 cases h with
 |d q v h=>simp[Koi.B4]at g;subst g;exact h
 |full k a h=>simp[Koi.B4]at g;subst g;exact h
 |row r m v u A h=>
  simp[Koi.B4]at g;split at g
  .rename_i k i;split at g
   .rename_i j;simp at g;subst g;have:=R.Da r _ i;simp[OK]at this;rw[(h m (by simp[lenOf,i,j])).2 rfl,<-j];exact this
   .cases g
  .cases g
 |_=>simp[Koi.B4]at g
theorem CV.Ht{G:Gh}{w:World}(R:Rel P G S w){x:V}{d:D}{v:de}(h:CV G S w x v)(g:Ht S x=am d):CD G.I w d v:=by
 cases h with
 |agg C E F h j=>
  simp[Koi.Ht]at g;obtain⟨ds,k,rfl⟩:=g;obtain⟨H,q⟩:=Tc k;exact .agg _ _ (by omega) (λi hi=>(h i (by omega)).B4 R (q i (by omega) hi)) j
 |d u v h=>exact(CV.d u v h).B4 R g
 |full A a h=>exact(CV.full A a h).B4 R g
 |row r m v j B h=>exact(CV.row r m v j B h).B4 R g
 |_=>simp[Koi.Ht,Koi.B4]at g
theorem CV.BO{G:Gh}{w:World}(R:Rel P G S w){x:V}{d:D}{v:de}(h:CV G S w x v)(g:BO S x=am d):CD G.I w d v:=by
 cases h with
 |agg u A B h j=>
  simp[Koi.BO]at g;obtain⟨ds,k,rfl⟩:=g;obtain⟨C,q⟩:=Tc k;exact .agg _ _ (by omega) (λi hi=>(h i (by omega)).B4 R (q i (by omega) hi)) j
 |CX u A B h=>
  simp[Koi.BO]at g;obtain⟨ds,k,rfl⟩:=g;obtain⟨C,q⟩:=Yy k;exact .CX _ _ (by omega) (λi hi=>(h i (by omega)).Ht R (q i (by omega) hi))
 |d E v h=>exact(CV.d E v h).B4 R g
 |full F a h=>exact(CV.full F a h).B4 R g
 |row r m v j H h=>exact(CV.row r m v j H h).B4 R g
 |_=>simp[Koi.BO,Koi.B4]at g
def Jx(S:Sg):Nat->List (Nat×V)->Option (List D)
 |_,[]=>am []
 |k,(i,x)::rest=>if i=k then match BO S x,Jx S (k+1) rest with
   |some d,am ds=>am (d::ds)
   |_,_=>bi
  else bi
theorem Vo(g:List (Nat×V)):∀(k:Nat) (ds:List D),Jx S k g=am ds->Z ds=Z g/\∀i (h:i<Z g) (E:i<Z ds),g[i].1=k+i/\BO S g[i].2=am ds[i]:=by
 induction g with
 |nil=>intro k ds h;simp[Jx]at h;subst h;exact⟨rfl,λi h=>by simp at h⟩
 |cons p g m=>
  intro k ds h;obtain⟨F,x⟩:=p;simp only[Jx]at h;split at h
  .rename_i j;split at h
   .rename_i d q u w;cases h;obtain⟨A,B⟩:=m _ _ w;refine⟨by simp[A],λi hi C=>?_⟩;cases i with
    |zero=>exact⟨by simpa using j,by simpa using u⟩
    |succ i=>
     obtain⟨a,b⟩:=B i (by simpa using hi) (by simpa using C);exact⟨by simp;omega,by simpa using b⟩
   .cases h
  .cases h
def F2(size:Nat):List (Nat×V)->Prop
 |[]=>True
 |(_,x)::rest=>Z (Ae x)=size/\(Ap x||Bp x)=J/\F2 size rest
theorem Jk{size:Nat}:∀(g:List (Nat×V)),F2 size g->∀i (h:i<Z g),Z (Ae g[i].2)=size/\(Ap g[i].2||Bp g[i].2)=J
 |(_,x)::rest,h,0,_=>⟨h.1,h.2.1⟩
 |(_,x)::rest,h,i+1,hi=>by simpa using Jk rest h.2.2 i (by simpa using hi)
theorem RO{size len:Nat}(g:List (Nat×de)):∀(k:Nat) (u:Array de),u.size=len * size->k+Z g<=len->(∀i (h:i<Z g),g[i].1=k+i/\g[i].2.cells.size=size)->∃w,Instr.fill (λi=>am (i * size,size)) u g=am w/\w.size=u.size/\(∀i (h:i<Z g) j,j<size->w[(k+i) * size+j]?=g[i].2.cells[j]?)/\(∀m,m<k * size->w[m]?=u[m]?):=by
 induction g with
 |nil=>intro k u A B _;exact⟨u,rfl,rfl,λi h=>by simp at h,λm _=>rfl⟩
 |cons p g G=>
  intro k u A B C;obtain⟨q,y⟩:=p;have h0:=C 0 (by simp);simp at h0;obtain⟨rfl,Q⟩:=h0;simp at B;have E:q * size+size<=u.size:=by
   have:(q+1) * size<=len * size:=At _ (by omega);rw[oE]at this;omega
  simp only[Instr.fill];rw[bv (by simp;omega)];have H:(y.cells.zipIdx.foldl (λK (p:de×Nat)=>K.setIfInBounds (q * size+p.2) p.1) u)=putCells u (q * size) y.cells.toList:=by
   rw[<-Array.foldl_toList,Array.toList_zipIdx,Qy];rfl
  obtain⟨w,L,M,N,F⟩:=G (q+1) (putCells u (q * size) y.cells.toList) (by rw[Eb];exact A) (by omega) (λi hi=>by
   have:=C (i+1) (by simp;omega);simp at this;exact⟨by omega,this.2⟩)
  refine⟨w,by rw[<-L];exact l5 (λz=>Instr.fill _ z g) H,by rw[M,Eb],λi hi j hj=>?_,λm R=>?_⟩
  .cases i with
   |zero=>
    simp;rw[F _ (by rw[oE];omega),ET _ _ _ _ (by simp;omega),ca (by simp;omega)];simp
   |succ i=>
    have:=N i (by simpa using hi) j hj;simp;rw[<-this,show q+(i+1)=q+1+i from by omega]
  .rw[F m (by rw[oE];omega),ET _ _ _ _ (by simp;omega),bv (by omega)]
theorem QS{T E:ea}{len:Nat}{parts:Array (Nat×Operand)}{t e:TI}{z:de}{ds:List D}(W:o.op=.buildSlice T len parts)(X:ti P T=am t)(C:t.kind=.slice E)
  (R:ti P E=am e) (Y:e.zero=am z) (hn:∀p∈parts.toList,need (ev tm p.2)) (A:parts.size=len)
  (hp:Jx S 0 (parts.toList.map λp=>(p.1,strip (ev tm p.2)))=am ds) (hs:F2 e.size (parts.toList.map λp=>(p.1,strip (ev tm p.2))))
  (hm:len * e.size<=2 ^ 24) (hml:len<=maxLen):CR P n o tm S (.full ds) S:=.val λG w a st=>by
 obtain⟨d,hd,F⟩:=An X w;have H:d=.slice E:=by rw[C]at F;cases d<;>simp[tk]at F⊢;exact F
 subst H;obtain⟨l1,l2⟩:=Vo _ _ _ hp;simp only[y3,ab6]at l1 l2;have g:∀i (h:i<parts.size),CV G S w (strip (ev tm parts[i].2)) (a.eval parts[i].2):=λi hi=>(BS st _).strip (hn _ (by simp));have U:∀i (h:i<parts.size),(a.eval parts[i].2).cells.size=e.size/\∀x∈(a.eval parts[i].2).cells,one x=true:=λi hi=>by
  have:=Jk _ hs i (by simpa using hi);simp only[m6,QQ]at this;obtain⟨c1,c2,_⟩:=(g i hi).cells (by simpa using this.2);refine⟨by omega,λx hx=>?_⟩;obtain⟨k,C,rfl⟩:=abD.1 hx;exact c2 k C
 let u:Array de:=if len * e.size=0 then #[]else z.cells;let base:Array de:=(Array.range (len * e.size)).map (u[·% u.size]!);obtain⟨K,B,e2,e3,_⟩:=RO (size:=e.size) (len:=len) (parts.toList.map λp=>(p.1,a.eval p.2)) 0 base (by simp[base]) (by simp[A]) (λi hi=>by
  have m:i<parts.size:=by simpa using hi
  simp only[m6,QQ];have:=(l2 i m (by omega)).1;simp only[m6,QQ]at this;exact⟨this,(U i m).1⟩)
 obtain⟨r1,r2,L⟩:=st.rel.rB (.cells K E (0,0));refine⟨.slice (am ⟨w.heap.size,0,bi⟩) len len,G.fU w.heap.size,Bl w (.cells K E (0,0)),?_,?_,r1,r2,L⟩
 .simp only[execOp,W,Instr.buildSlice,ls,hd,kv,Bg R];rw[bv (by omega)];simp only[base]at B;by_cases h0:len * e.size=0
  .have q:u=#[]:=by simp[u,h0]
   rw[q]at B;simp only[ca h0,ls,pc,kv,acE,B];simp[newRow,Bl]
  .have q:u=z.cells:=by simp[u,h0]
   rw[q]at B;simp only[bv h0,ls,EG R w Y,pc,kv,acE,B];simp[newRow,Bl]
 .have M:CD (G.fU w.heap.size).I (Bl w (.cells K E (0,0))) (.sl ds) (.slice (am ⟨w.heap.size,0,bi⟩) (Z ds) (Z ds)):=by
   refine .sl e.size ds w.heap.size 0 (Z ds) (λi=>a.eval (parts.getD i (0,.const undef)).2) (.inr rfl) (by omega) (c9 _) (λi hi=>?_) (λi hi=>?_)
   .have m:i<parts.size:=by omega
    have N:parts.getD i (0,.const undef)=parts[i]:=by simp[m]
    rw[N];have:=(l2 i m hi).2;simp only[m6,QQ]at this;exact((g i m).BO st.rel this).mono L.I L.DB
   .have m:i<parts.size:=by omega
    have N:parts.getD i (0,.const undef)=parts[i]:=by simp[m]
    rw[N];refine⟨(U i m).1,λj hj=>?_⟩;rw[cell_of EV];have:=e3 i (by simpa using m) j hj;simpa using this
  have Q:len=Z ds:=by omega
  rw[Q];exact .full _ _ M
end
def pX(c x y:V):V:=match c with|.d (.bool b)=>Xa b x y|_=>.any
def eG(c x y:V):Prop:=match c with|.d (.bool b)=>OW b x y|_=>False
def Oe(P:cP)(T:ea):Bool:=match ti P T with|some t=>(match t.kind with|.bool=>J|_=>false)|none=>false
def NT(P:cP)(T:ea):Bool:=match ti P T with|some t=>(match t.kind with|.str=>J|_=>false)|none=>false
def Al(P:cP)(T:ea):Option ea:=match ti P T with|some t=>(match t.kind with|.slice e=>am e|_=>bi)|none=>bi
def intKind(P:cP)(T:ea):Option IntKind:=match ti P T with|some t=>(match t.kind with|.int k=>am k|_=>bi)|none=>bi
def Am(P:cP)(T:ea):Option Nat:=(ti P T).map (·.size)
def A9(P:cP)(T:ea):Bool:=match ti P T with|some t=>t.agg|none=>false
def As(P:cP)(T:ea):Option V:=match ti P T with|some t=>t.zero.map OQ|none=>bi
def uj(x y:V)(op:BinOp):V:=
 match x,y with
 |.d (.int k a),.d (.int _ b)=>arith op k a b
 |.d (.bool a),.d (.bool b)=>match op with|.eql=>.d (.bool ((a==b)!=false))|.neq=>.d (.bool ((a==b)!=J))|_=>.any
 |.d (.str a),.d (.str b)=>nR op (.d (.str a)) (.d (.str b))
 |_,_=>.any
def sE(P:cP)(T:ea)(x y:V)(op:BinOp):Prop:=
 match x,y with
 |.d (.int k _),.d (.int g b)=>L6 op k g/\JX op b
 |.d (.bool _),.d (.bool _)=>Oe P T=J/\(match op with|.eql|.neq=>True|_=>False)
 |.d (.str a),.d (.str b)=>TR op (.d (.str a)) (.d (.str b))
 |_,_=>False
def vG(x:V):V:=match x with|.d (.bool b)=>.d (.bool !b)|_=>.any
def qH(x:V):Prop:=match x with|.d (.bool _)=>True|_=>False
def iN(P:cP)(U:ea)(x:V):V:=
 match x with
 |.d (.int _ i)=>match intKind P U with|some k=>.d (.int k (k.wrap i))|none=>.any
 |_=>.any
def fM(P:cP)(T U:ea)(x:V):Prop:=
 match x with
 |.d (.int _ _)=>(Am P T).isSome=J/\(intKind P U).isSome=J
 |_=>False
def Kw(agg:Bool)(size:Nat)(S:Sg)(p:V):V:=
 match p with
 |.ptr r m i j=>Pv agg size (Yw S (.ptr r m i j)) j
 |.DW g=>Ux agg size g
 |_=>.any
def Nc(agg:Bool)(size:Nat)(S:Sg)(p:V):Prop:=
 (agg||size==1)=J/\match p with
 |.ptr r m i j=>JA S (.ptr r m i j) λ_ _ _ j sz _=>j+size<=sz
 |.DW g=>size<=Z g
 |_=>False
def Hi(x:V):Int:=match x with|.d (.int _ i)=>i|_=>0
def HN(x:V):Prop:=match x with|.d (.int _ _)=>True|_=>False
def ue(x:V)(k:Nat):V:=match x with|.CX g=>g.getD k .any|.d (.CX g)=>.d (g.getD k (.bool false))|_=>.any
def qq(x:V)(k:Nat):Prop:=match x with|.CX g=>k<Z g|.d (.CX g)=>k<Z g|_=>False
def cg(S:Sg)(x:V):Prop:=match x with|.ptr r m i j=>Gg S (.ptr r m i j)|.DW _=>True|_=>False
def qp(x:V):V:=
 match x with
 |.d (.sl g)=>.d (.int .i64 (Z g))
 |.full g=>.d (.int .i64 (Z g))
 |.row _ m=>.d (.int .i64 m)
 |.d (.str s)=>.d (.int .i64 s.size)
 |_=>.any
def si(P:cP)(T:ea)(S:Sg)(x:V):Prop:=
 match x with
 |.d (.sl _)=>(Al P T).isSome=J
 |.full _=>(Al P T).isSome=J
 |.row r m=>lenOf S r=am m/\(Al P T).isSome=J
 |.d (.str _)=>NT P T=J
 |_=>False
def qA(x:Option (List D)):V:=match x with|some ds=>.full ds|none=>.any
def Cl(tm:Tm)(g:Array (Nat×Operand)):List (Nat×V):=g.toList.map λp=>(p.1,strip (ev tm p.2))
def I2(tm:Tm):List (Nat×Operand)->Prop
 |[]=>True
 |p::g=>need (ev tm p.2)/\I2 tm g
theorem I5{tm:Tm}:∀{g:List (Nat×Operand)},I2 tm g->∀p∈g,need (ev tm p.2)
 |p::g,h,q,i=>by
  cases i with
  |head=>exact h.1
  |tail _ i=>exact I5 h.2 q i
def EN(c:Call):Operand:=c.args.toList.headD (.const undef)
def OE(c:Call):ea:=c.argTypes.toList.headD 0
def HT(P:cP)(op:Op)(tm:Tm)(S:Sg):V:=
 match op with
 |.move x=>ev tm x
 |.assign x=>ev tm x
 |.pick c x y=>pX (strip (ev tm c)) (ev tm x) (ev tm y)
 |.binOp b _ x y _=>uj (strip (ev tm x)) (strip (ev tm y)) b
 |.unOp .not _ x=>vG (strip (ev tm x))
 |.convert _ U x=>iN P U (strip (ev tm x))
 |.load T x=>Kw (A9 P T) ((Am P T).getD 0) S (strip (ev tm x))
 |.fieldAddr T x f=>vS (((AN P T f).map (·.1)).getD 0) (strip (ev tm x))
 |.field T x f=>Pv (((AN P T f).map λp=>A9 P p.2).getD false) (((AN P T f).map λp=>(Am P p.2).getD 0).getD 0) (strip (ev tm x)) (((AN P T f).map (·.1)).getD 0)
 |.indexAddr _ x y=>vV (strip (ev tm x)) (Hi (strip (ev tm y))).toNat
 |.extract x k=>ue (strip (ev tm x)) k
 |.nilCheck x=>strip (ev tm x)
 |.build T g=>.agg (Qm (placeOf P T) (Ae ((As P T).getD .any)) (Cl tm g))
 |.buildSlice _ _ g=>qA (Jx S 0 (Cl tm g))
 |.makeFunc f as h=>.fn f (as.toList.map (ev tm)) (h.toList.map (ev tm))
 |.call c=>match c.callee with
  |.builtin .len=>qp (strip (ev tm (EN c)))
  |_=>.any
 |_=>.any
def Hn(P:cP)(op:Op)(tm:Tm)(S:Sg):Prop:=
 match op with
 |.move _=>True
 |.assign _=>True
 |.pick c x y=>need (ev tm c)/\eG (strip (ev tm c)) (ev tm x) (ev tm y)
 |.binOp b T x y _=>need (ev tm x)/\need (ev tm y)/\sE P T (strip (ev tm x)) (strip (ev tm y)) b
 |.unOp .not _ x=>need (ev tm x)/\qH (strip (ev tm x))
 |.convert T U x=>need (ev tm x)/\fM P T U (strip (ev tm x))
 |.load T x=>need (ev tm x)/\(Am P T).isSome=J/\Nc (A9 P T) ((Am P T).getD 0) S (strip (ev tm x))
 |.fieldAddr T x f=>need (ev tm x)/\(match AN P T f with|some p=>(match Am P p.2 with|some s=>s≠0|none=>False)|none=>False)/\Gg S (strip (ev tm x))
 |.field T x f=>need (ev tm x)/\Ap (strip (ev tm x))=J/\(match AN P T f with|some p=>(match Am P p.2 with|some s=>p.1+s<=Z (Ae (strip (ev tm x)))/\(A9 P p.2||s==1)=J|none=>False)|none=>False)
 |.indexAddr T x y=>need (ev tm x)/\need (ev tm y)/\HN (strip (ev tm y))/\(match Al P T with|some E=>(match Am P E with|some s=>CL S (strip (ev tm x)) (Hi (strip (ev tm y))) s|none=>False)|none=>False)
 |.extract x k=>need (ev tm x)/\qq (strip (ev tm x)) k
 |.nilCheck x=>need (ev tm x)/\cg S (strip (ev tm x))
 |.build T g=>I2 tm g.toList/\A1 P T=J/\(match As P T with|some z=>Ap z=J/\KL (placeOf P T) (Z (Ae z)) (Cl tm g)|none=>False)
 |.buildSlice T len g=>I2 tm g.toList/\g.size=len/\(Jx S 0 (Cl tm g)).isSome=J/\(match Al P T with|some E=>(match Am P E with|some s=>(As P E).isSome=J/\F2 s (Cl tm g)/\len * s<=2 ^ 24/\len<=maxLen|none=>False)|none=>False)
 |.makeFunc ..=>True
 |.call c=>match c.callee with
  |.builtin .len=>c.args=#[EN c]/\c.argTypes=#[OE c]/\need (ev tm (EN c))/\si P (OE c) S (strip (ev tm (EN c)))
  |_=>False
 |_=>False
theorem CO{P:cP}{T:ea}{s:Nat}(h:Am P T=am s):∃t,ti P T=am t/\t.size=s/\A9 P T=t.agg:=by
 simp[Am]at h;obtain⟨t,g,i⟩:=h;exact⟨t,g,i,by simp[A9,g]⟩
theorem A4{P:cP}{T E:ea}(h:Al P T=am E):∃t,ti P T=am t/\t.kind=.slice E:=by
 unfold Al at h;split at h
 .rename_i t g;split at h
  .rename_i e i;cases h;exact⟨t,g,i⟩
  .cases h
 .cases h
theorem Il{P:cP}{T:ea}{k:IntKind}(h:intKind P T=am k):∃t,ti P T=am t/\t.kind=.int k:=by
 unfold intKind at h;split at h
 .rename_i t g;split at h
  .rename_i e i;cases h;exact⟨t,g,i⟩
  .cases h
 .cases h
theorem Sp{P:cP}{T:ea}(h:Oe P T=J):∃t,ti P T=am t/\t.kind=.bool:=by
 unfold Oe at h;split at h
 .rename_i t g;split at h
  .rename_i i;exact⟨t,g,i⟩
  .cases h
 .cases h
theorem Jj{P:cP}{T:ea}(h:NT P T=J):∃t,ti P T=am t/\t.kind=.str:=by
 unfold NT at h;split at h
 .rename_i t g;split at h
  .rename_i i;exact⟨t,g,i⟩
  .cases h
 .cases h
theorem Ey{P:cP}{T:ea}{z:V}(h:As P T=am z):∃t u,ti P T=am t/\t.zero=am u/\OQ u=z:=by
 unfold As at h;split at h
 .rename_i t g;simp at h;obtain⟨u,i,j⟩:=h;exact⟨t,u,g,i,j⟩
 .cases h
abbrev up:=@Option.getD_some
section
variable {P:cP} {n:Nat} {o:Oper} {tm:Tm} {S S':Sg} {v:V}
theorem qx(h:Hn P o.op tm S):CR P n o tm S (HT P o.op tm S) S:=by
 generalize F:o.op=op at h;cases op<;>simp[Hn]at h<;>simp[HT];case move x=>exact lW F
 case assign x=>exact bB F
 case pick c x y=>
  obtain⟨C,g⟩:=h;unfold eG at g;split at g
  .rename_i b hb;rw[hb];exact mY F hb C g
  .exact g.elim
 case build T ps=>
  obtain⟨C,g,A⟩:=h;split at A
  .rename_i z W;obtain⟨t,u,G,H,N⟩:=Ey W;subst N;rw[W];exact iV F G H g A.1 (I5 C) A.2
  .exact A.elim
 case buildSlice T len ps=>
  obtain⟨C,g,A,B⟩:=h;split at B
  .rename_i E M;split at B
   .rename_i s K;obtain⟨B,Y,h6,h7⟩:=B;obtain⟨ds,Q⟩:=md.1 A;obtain⟨t,G,H⟩:=A4 M;obtain⟨e,f1,f2,_⟩:=CO K;obtain⟨z,W⟩:=md.1 B;obtain⟨t',u,g1,g2,g3⟩:=Ey W;rw[f1]at g1;cases g1;rw[Q];subst f2;exact QS F G H f1 g2 (I5 C) g Q Y h6 h7
   .exact B.elim
  .exact B.elim
 case load T x=>
  obtain⟨C,g,A,B⟩:=h;obtain⟨s,K⟩:=md.1 g;obtain⟨t,G,H,N⟩:=CO K;rw[K]at A B⊢;rw[N]at A⊢;simp at A B⊢;subst H;have ha:t.agg=J\/t.size=1:=by simpa using A
  split at B
  .rename_i r m i j w;rw[w];have:=mq (P:=P) (n:=n) (S:=S) F C G ha (by rw[w];exact B);rw[w]at this;exact this
  .rename_i cs w;rw[w];exact eW F C w G ha B
  .exact B.elim
 case nilCheck x=>
  obtain⟨C,g⟩:=h;unfold cg at g;split at g
  .rename_i r m i j w;rw[w];exact Ur F C w g
  .rename_i cs w;rw[w];exact Sy F C w
  .exact g.elim
 case binOp b T x y U=>
  obtain⟨C,g,A⟩:=h;unfold sE at A;split at A
  .rename_i k i k' j w L;obtain⟨B,A⟩:=A;rw[w,L];exact tR F C g w L B A
  .rename_i p q w L;obtain⟨A,B⟩:=A;obtain⟨t,G,H⟩:=Sp A;rw[w,L];split at B
   .exact RA (neg:=false) F C g w L G H
   .exact RA (neg:=true) F C g w L G H
   .exact B.elim
  .rename_i p q w L;rw[w,L];exact sY F C g w L A
  .exact A.elim
 case unOp b T x=>
  cases b<;>simp only at h⊢;case not=>
   obtain⟨C,g⟩:=h;unfold qH at g;split at g
   .rename_i p w;rw[w];exact rV F C w
   .exact g.elim
 case convert T U x=>
  obtain⟨C,g⟩:=h;unfold fM at g;split at g
  .rename_i k i w;obtain⟨g,A⟩:=g;obtain⟨s,K⟩:=md.1 g;obtain⟨t,G,_,_⟩:=CO K;obtain⟨j,hj⟩:=md.1 A;obtain⟨u,f1,f2⟩:=Il hj;rw[w];simp[iN,hj];exact Wq F C w G f1 f2
  .exact g.elim
 case makeFunc f as bs=>exact VB F
 case fieldAddr T x f=>
  obtain⟨C,g,A⟩:=h;split at g
  .rename_i p R;split at g
   .rename_i s K;obtain⟨t,G,H,_⟩:=CO K;rw[R];exact SE F C R G (by omega) A
   .exact g.elim
  .exact g.elim
 case field T x f=>
  obtain⟨C,g,A⟩:=h;split at A
  .rename_i p R;split at A
   .rename_i s K;obtain⟨t,G,H,N⟩:=CO K;obtain⟨A,B⟩:=A;rw[R];simp[K,N];subst H;rw[N]at B;exact gP F C R G g A (by simpa using B)
   .exact A.elim
  .exact A.elim
 case indexAddr T x y=>
  obtain⟨C,g,A,B⟩:=h;split at B
  .rename_i E M;split at B
   .rename_i s K;obtain⟨t,G,H⟩:=A4 M;obtain⟨e,f1,f2,_⟩:=CO K;unfold HN at A;split at A
    .rename_i k i L;rw[L]at B⊢;simp[Hi]at B⊢;subst f2;exact Sd F C g G H f1 L B
    .exact A.elim
   .exact B.elim
  .exact B.elim
 case extract x k=>
  obtain⟨C,g⟩:=h;unfold qq at g;split at g
  .rename_i vs w;rw[w];exact Wv F C w g
  .rename_i vs w;rw[w];exact Uv F C w g
  .exact g.elim
 case call c=>
  split at h
  .rename_i X;obtain⟨C,g,A,B⟩:=h;unfold si at B;split at B
   .rename_i xs w;obtain⟨E,M⟩:=md.1 B;obtain⟨t,G,H⟩:=A4 M;rw[w];exact ak F X C g A w G H
   .rename_i xs w;obtain⟨E,M⟩:=md.1 B;obtain⟨t,G,H⟩:=A4 M;rw[w];exact Ti F X C g A w G H
   .rename_i r m w;obtain⟨B,Y⟩:=B;obtain⟨E,M⟩:=md.1 Y;obtain⟨t,G,H⟩:=A4 M;rw[w];exact XJ F X C g A w B G H
   .rename_i s w;obtain⟨t,G,H⟩:=Jj B;rw[w];exact WJ F X C g A w G H
   .exact B.elim
  .exact h.elim
end
abbrev fi:=@List.mem_append
abbrev acM:=@Nat.mul_comm
abbrev i7:=@Nat.mod_lt
abbrev acI:=@List.getElem_range
abbrev adH:=@List.length_pos_iff
section
variable {P:cP} {n:Nat} {o:Oper} {tm:Tm} {S S':Sg} {v:V}
def II(S:Sg)(x:V):Option (List V):=
 match x with
 |.d (.sl h)=>am (h.map .d)
 |.full h=>am (h.map .d)
 |.row r m=>match S[r]? with
  |some (.row _ _ g)=>if Z g=m then am g else bi
  |some (.BT i)=>if Z i=m then am (i.map .d)else bi
  |_=>bi
 |_=>bi
def Ac(sz:Nat)(g:List V):Prop:=∀y∈g,Z (Ae y)=sz/\(Ap y||Bp y)=J
@[simp] theorem tV(sz:Nat):Ac sz []:=λy h=>by simp at h
@[simp] theorem sN(sz:Nat)(y:V)(g:List V):Ac sz (y::g)↔(Z (Ae y)=sz/\(Ap y||Bp y)=J)/\Ac sz g:=by
 simp[Ac]
@[simp] theorem nL(sz:Nat)(xs i:List V):Ac sz (xs++i)↔Ac sz xs/\Ac sz i:=by
 simp[Ac];exact⟨λh=>⟨λy g=>h y (.inl g),λy g=>h y (.inr g)⟩,λh y g=>g.elim (h.1 y) (h.2 y)⟩
@[simp] theorem uS{α:Type}(sz:Nat)(f:α->V)(g:List α):Ac sz (g.map f)↔∀y∈g,Z (Ae (f y))=sz/\(Ap (f y)||Bp (f y))=true:=by
 simp[Ac]
structure bk(G:Gh)(S:Sg)(w:World)(sz:Nat)(ys:List V)(us:List de)(c:Array de)(k0:Nat):Prop where
 len:Z us=Z ys
 cv:∀i (h:i<Z ys) (h':i<Z us),CV G S w ys[i] us[i]/\us[i].cells.size=sz/\∀x∈us[i].cells,one x=J
 at_:∀i (h:i<Z us) j,j<sz->c[k0+i * sz+j]?=us[i].cells[j]?
theorem FT{i j sz m:Nat}(hi:i<m)(hj:j<sz):i * sz+j<m * sz:=by
 have:(i+1) * sz<=m * sz:=At _ hi;rw[oE]at this;omega
theorem UA{w:World}{b off sz m:Nat}{us:List de}(C:Z us=m)(E:∀i (h:i<Z us),us[i].cells.size=sz)
  (h:∀i (h:i<Z us) j,j<sz->w.cell? ⟨b,off+i * sz+j,bi⟩=us[i].cells[j]?):
  ∃c,(∀g,g.heap=w.heap->(loadCells ⟨b,off,bi⟩ (m * sz)).run P g=.ok c g)/\c.size=m * sz/\∀i (h:i<Z us) j,j<sz->c[i * sz+j]?=us[i].cells[j]?:=by
 have key:∀k,k<m * sz->∃x,w.cell? ⟨b,off+k,bi⟩=am x:=λk A=>by
  have F:0<sz:=by
   rcases Nat.eq_zero_or_pos sz with h0|h0
   .subst h0;simp at A
   .exact h0
  have hi:k / sz<Z us:=by rw[C];exact Nat.div_lt_of_lt_mul (by rw[acM];exact A)
  have hj:k % sz<sz:=i7 _ F;have e:k / sz * sz+k % sz=k:=by rw[acM];exact Nat.div_add_mod k sz
  have:=h (k / sz) hi (k % sz) hj;rw[py,e]at this;have G:=E (k / sz) hi;refine⟨us[k / sz].cells[k % sz]'(by omega),?_⟩;rw[this,ll (by omega)]
 refine⟨Array.ofFn (n:=m * sz) λk=>(w.cell? ⟨b,off+k.val,bi⟩).getD undef,λg q=>?_,by simp,λi hi j hj=>?_⟩
 .refine run_loadCells _ (by simp) λj hj=>?_;rw[FA (w:=w) (by rw[q])];obtain⟨x,u⟩:=key j hj;simp[u,hj]
 .have B:i * sz+j<m * sz:=FT (by omega) hj;have:=h i hi j hj;rw[py]at this;obtain⟨x,u⟩:=key _ B;simp[B];rw[<-this,u];rfl
theorem HI{G:Gh}{w:World}{g:List D}{cv:de}{sz:Nat}(h:CD G.I w (.sl g) cv)(K:Ac sz (g.map .d)):
  ∃us c,(∀u,(Builtin.lenOf cv).run P u=.ok (Z g) u)/\(∀u,u.heap=w.heap->(Builtin.firstCells sz (Z g) cv).run P u=.ok c u)/\c.size=Z g * sz/\bk G S w sz (g.map .d) us c 0:=by
 cases h with
 |nil a cap=>
  refine⟨[],#[],λ_=>by simp[Builtin.lenOf],λu _=>?_,by simp,⟨rfl,λi h=>by simp at h,λi h=>by simp at h⟩⟩;cases a<;>simp[Builtin.firstCells,loadCells,loadCellsFrom]
 |sl C X b off cap A Y hl hc L H=>
  have q:∀i (h:i<Z g),CV G S w (.d g[i]) (A i)/\(A i).cells.size=sz/\(∀x∈(A i).cells,one x=J)/\C=sz:=λi hi=>by
   have B:CV G S w (.d g[i]) (A i):=.d _ _ (L i hi);have M:=K (.d g[i]) (by simp);obtain⟨c1,N,_⟩:=B.cells (by simpa using M.2);refine⟨B,by omega,λx Q=>?_,?_⟩
   .obtain⟨k,R,rfl⟩:=abD.1 Q;exact N k R
   .have:=(H i hi).1;omega
  obtain⟨c,T,U,W⟩:=UA (P:=P) (w:=w) (b:=b) (off:=off) (sz:=sz) (m:=Z g) (us:=(List.range (Z g)).map A) (by simp)
   (λi hi=>by simp at hi;simpa using(q i hi).2.1)
   (λi hi j hj=>by
    simp at hi;have:=(H i hi).2 j (by have:=(q i hi).2.2.2;omega);rw[(q i hi).2.2.2]at this;simpa using this)
  refine⟨(List.range (Z g)).map A,c,λ_=>by simp[Builtin.lenOf],λu E=>by simp[Builtin.firstCells,T u E],U,⟨by simp,λi hi zo=>?_,λi hi j hj=>by rw[sn];exact W i hi j hj⟩⟩;have F:i<Z g:=by simpa using hi
  have:=q i F;simp;exact⟨this.1,this.2.1,this.2.2.1⟩
theorem YI{G:Gh}{w:World}(R:Rel P G S w){r:Nat}{wr:Bool}{sz:Nat}{els:List V}(C:S[r]?=am (.row wr sz els))(E:Ac sz els):
  ∃us c,(∀g,(Builtin.lenOf (G.BU r (Z els))).run P g=.ok (Z els) g)/\(∀g,g.heap=w.heap->(Builtin.firstCells sz (Z els) (G.BU r (Z els))).run P g=.ok c g)/\c.size=Z els * sz/\bk G S w sz els us c 0:=by
 have q:=R.Da r _ C;simp only[OK]at q;cases u:G.BG r with
 |none=>
  simp only[u]at q;obtain⟨c,T,F,Q,U,W,B⟩:=q;let us:List de:=(List.range (Z els)).map λi=>if h:i<Z els then(B i h).choose else undef;have k:∀i (h:i<Z els),CV G S w els[i] (us[i]'(by simp[us];exact h))/\(us[i]'(by simp[us];exact h)).cells.size=sz/\(∀x∈(us[i]'(by simp[us];exact h)).cells,one x=J)/\∀j,j<sz->c[(G.cap r).2+(i * sz+j)]?=(us[i]'(by simp[us];exact h)).cells[j]?:=λi hi=>by
   have:=(B i hi).choose_spec;simpa[us,hi]using this
  obtain⟨H,K,L,M⟩:=UA (P:=P) (w:=w) (b:=G.CP r) (off:=(G.cap r).2) (sz:=sz) (m:=Z els) (us:=us) (by simp[us])
   (λi hi=>(k i (by simpa[us]using hi)).2.1)
   (λi hi j hj=>by
    rw[cell_of F,py];exact(k i (by simpa[us]using hi)).2.2.2 j hj)
  refine⟨us,H,λ_=>by simp[Gh.BU,u,Builtin.lenOf],λg A=>by simp[Gh.BU,u,Builtin.firstCells,K g A],L,⟨by simp[us],λi hi X=>?_,λi hi j hj=>by rw[sn];exact M i hi j hj⟩⟩;have:=k i hi;exact⟨this.1,this.2.1,this.2.2.1⟩
 |some a=>
  simp[u]at q;obtain⟨_,_,Y,rfl,N⟩:=q;have:=HI (P:=P) (S:=S) N E;simpa[Gh.BU,u]using this
theorem rQ{G:Gh}{w:World}(R:Rel P G S w){x:V}{cv:de}{B:List V}{sz:Nat}(h:CV G S w x cv)(g:II S x=am B)(C:Ac sz B):
  ∃Q c,(∀k,(Builtin.lenOf cv).run P k=.ok (Z B) k)/\(∀k,k.heap=w.heap->(Builtin.firstCells sz (Z B) cv).run P k=.ok c k)/\c.size=Z B * sz/\bk G S w sz B Q c 0:=by
 cases h with
 |d d v h=>
  cases d<;>simp[II,reduceCtorEq]at g;subst g;simpa using HI (P:=P) (S:=S) h C
 |full M a h=>
  simp[II]at g;subst g;simpa using HI (P:=P) (S:=S) h C
 |row r m v Y hr h=>
  simp[II]at g;split at g
  .rename_i wr K q hS;split at g
   .rename_i E;simp at g;subst g;have L:=(h m (by simp[lenOf,hS,E])).2 rfl;subst E;rw[L];have A:=R.Da r _ hS;by_cases N:q=[]
    .subst N;refine⟨[],#[],λk=>?_,λk _=>?_,by simp,⟨rfl,λi h=>by simp at h,λi h=>by simp at h⟩⟩
     .unfold Gh.BU;split<;>simp[Builtin.lenOf]
     .unfold Gh.BU;split
      .simp[Builtin.firstCells,loadCells,loadCellsFrom]
      .rename_i a _;cases a<;>simp[Builtin.firstCells,loadCells,loadCellsFrom]
    .have F:0<Z q:=adH.2 N;have H:K=sz\/G.BG r≠none:=by
      cases j:G.BG r with
      |some a=>exact .inr (by simp)
      |none=>
       left;simp only[OK,j]at A;obtain⟨c,T,g1,g2,g3,g4,U⟩:=A;obtain⟨u,W,u2,u3,u4⟩:=U 0 F;have:=C q[0] (by simp);obtain⟨c1,_⟩:=W.cells (by simpa using this.2);omega
     rcases H with e|e
     .subst e;exact YI R hS C
     .cases j:G.BG r with
      |none=>exact absurd j e
      |some a=>
       simp[OK,j]at A;obtain⟨_,_,M,rfl,X⟩:=A;have:=HI (P:=P) (S:=S) X C;simpa[Gh.BU,j]using this
   .cases g
  .rename_i M hS;split at g
   .rename_i E;simp at g;subst g;have L:=(h m (by simp[lenOf,hS,E])).2 rfl;subst E;rw[L];have A:=R.Da r _ hS;simp[OK]at A;have:=HI (P:=P) (S:=S) A C;simpa using this
   .cases g
  .cases g
 |_=>simp[II]at g
end
end Go.Koi
