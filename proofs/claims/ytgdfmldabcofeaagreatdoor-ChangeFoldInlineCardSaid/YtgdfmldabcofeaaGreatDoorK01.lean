/-
  Part 2 of the proof that the law ChangeFoldInline returns true for every input.
-/
import Derived.Test.YtgdfmldabcofeaaGreatDoorK00
import Derived.Laws.Strings
import Derived.Laws.Small
set_option maxHeartbeats 64000000
set_option maxRecDepth 100000
namespace Go.Koi
open Go renaming Operand->gs,TypeId->ce,World->cf,Program->b8,Value->bn
def Cf(P:Program)(n:Nat)(o:Oper)(tm:Tm)(S:Sg)(v:V)(S':Sg):Prop:=
 ∀G w a (next:Act->cf->Prop) Q,St P n G S w a tm->(∀cv g h,CV h S' g v cv->Rel P h S' g->Tr G S w h S' g->BL G S w h S' g->next (a.put o.dst cv) g)->o.wp P a w next Q
abbrev adI:=@Int.tmod_nonneg
abbrev acx:=@Int.fdiv_eq_ediv_of_nonneg
abbrev eg:=@Bool.eq_iff_iff
section
variable {P:Program} {n:Nat} {o:Oper} {tm:Tm} {S S':Sg} {v:V}
theorem Cf.val(h:∀G w a,St P n G S w a tm->∃cv i g,(execOp a.eval o).run P w=.ok (.value cv) g/\CV i S' g v cv/\Rel P i S' g/\Tr G S w i S' g/\BL G S w i S' g):
  Cf P n o tm S v S':=λG w a next Q st k=>by
 obtain⟨cv,i,g,h1,j,m,q,s⟩:=h G w a st;unfold Oper.wp;rw[h1];exact k cv g i j m q s
theorem Cf.skip(h:∀G w a,St P n G S w a tm->∃i g,(execOp a.eval o).run P w=.ok .skip g/\Rel P i S' g/\Tr G S w i S' g/\BL G S w i S' g):
  Cf P n o tm S .any S':=λG w a next Q st k=>by
 obtain⟨i,g,h1,j,m,q⟩:=h G w a st;unfold Oper.wp;rw[h1];exact k _ g i (.any _) j m q
theorem Cf.pure(h:∀G w a,St P n G S w a tm->∃cv,(execOp a.eval o).run P w=.ok (.value cv) w/\CV G S w v cv):
  Cf P n o tm S v S:=.val λG w a st=>by
 obtain⟨cv,h1,g⟩:=h G w a st;exact⟨cv,G,w,h1,g,st.rel,yL _ _ _,z0 _ _ _⟩
theorem kT{x:gs}(g:o.op=.move x):Cf P n o tm S (ev tm x) S:=
 .pure λG w a st=>⟨a.eval x,by simp[execOp,g],BV st x⟩
theorem Yj{x:gs}(g:o.op=.assign x):Cf P n o tm S (ev tm x) S:=
 .pure λG w a st=>⟨a.eval x,by simp[execOp,g],BV st x⟩
theorem CV.bool{G:Gh}{w:cf}{b:Bool}{c:Value}(h:CV G S w (.d (.bool b)) c):c=.bool b:=by
 cases h with|d _ _ h=>cases h;rfl
theorem CV.int{G:Gh}{w:cf}{k:IntKind}{i:Int}{c:Value}(h:CV G S w (.d (.int k i)) c):c=.int k i:=by
 cases h with|d _ _ h=>cases h;rfl
theorem CV.IL{G:Gh}{w:cf}{k:IntKind}{i:Int}{c:Value}(h:CV G S w (.d (.int k i)) c):IL k i=true:=by
 cases h with|d _ _ h=>cases h;assumption
theorem ew{k:IntKind}{a b:Int}(h:IL k a=true):IL k (a.tmod b)=true:=by
 have h1:a.natAbs.mod b.natAbs<=a.natAbs:=Nat.mod_le _ _;have i:0<=a->0<=a.tmod b/\a.tmod b<=a:=λh=>by
  refine⟨adI b h,?_⟩;have:=Int.natAbs_tmod a b;have g:=adI b h;have j:(a.tmod b).natAbs<=a.natAbs:=by rw[this];exact Nat.mod_le _ _
  omega
 have g:a<=0->a<=a.tmod b/\a.tmod b<=0:=λh=>by
  have:=Int.natAbs_tmod a b;have j:(a.tmod b).natAbs<=a.natAbs:=by rw[this];exact Nat.mod_le _ _
  have m:(-a).tmod b= -(a.tmod b):=Int.neg_tmod ..;have q:0<=(-a).tmod b:=adI b (by omega);omega
 rcases Int.le_total 0 a with e|e
 .have:=i e;cases k<;>simp[Koi.IL]at h⊢ <;>omega
 .have:=g e;cases k<;>simp[Koi.IL]at h⊢ <;>omega
theorem dj{k:IntKind}{a:Int}(m:Nat)(h:IL k a=true):IL k (a.fdiv (2 ^ m))=true:=by
 have g:(0:Int)<2 ^ m:=Int.pow_pos (by decide);rw[acx _ (by omega)];have i:0<=a->0<=a / 2 ^ m/\a / 2 ^ m<=a:=λh=>⟨Int.ediv_nonneg h (by omega),Int.ediv_le_self _ h⟩;have j:a<0->a<=a / 2 ^ m/\a / 2 ^ m<0:=λh=>by
  refine⟨?_,Int.ediv_neg_of_neg_of_pos h g⟩;have:a * 2 ^ m<=a * 1:=Int.mul_le_mul_of_nonpos_left (by omega) (by omega);exact(Int.le_ediv_iff_mul_le g).2 (by omega)
 rcases Int.lt_or_le a 0 with e|e
 .have:=j e;cases k<;>simp[Koi.IL]at h⊢ <;>omega
 .have:=i e;cases k<;>simp[Koi.IL]at h⊢ <;>omega
theorem CV.str{G:Gh}{w:cf}{s:ByteArray}{c:Value}(h:CV G S w (.d (.str s)) c):c=.string s/\s.size<=maxLen:=by
 cases h with|d _ _ h=>cases h;exact⟨rfl,‹_›⟩
def Xz(c:Bool)(x y:V):V:=
 match x,y with
 |.opt _ (.d (.bool p)),.d (.bool q)=>.d (.bool (bif c then p else q))
 |.d (.bool p),.opt _ (.d (.bool q))=>.d (.bool (bif c then p else q))
 |.d (.bool p),.d (.bool q)=>.d (.bool (bif c then p else q))
 |_,_=>.any
def OS(c:Bool)(x y:V):Prop:=
 match x,y with
 |.opt g (.d (.bool _)),.d (.bool _)=>c=true->g=true
 |.d (.bool _),.opt g (.d (.bool _))=>c=false->g=true
 |.d (.bool _),.d (.bool _)=>True
 |_,_=>False
theorem lB{c x y:gs}{b:Bool}(k:o.op=.pick c x y)(m:strip (ev tm c)=.d (.bool b))(hn:need (ev tm c))(g:OS b (ev tm x) (ev tm y)):
  Cf P n o tm S (Xz b (ev tm x) (ev tm y)) S:=.pure λG w a st=>by
 have h1:=(BV st c).strip hn;rw[m]at h1;have h1:=h1.bool;have i:=BV st x;have j:=BV st y;refine⟨if b then a.eval x else a.eval y,by simp[execOp,k,h1,asBool],?_⟩;generalize ev tm x=X at *;generalize ev tm y=Y at *;unfold OS at g;unfold Xz;split at g
 .cases b
  .have:=j.bool;simp[this];exact .d _ _ (.bool _)
  .cases i with|opt _ _ _ h _=>have:=(h (g rfl)).bool;simp[this];exact .d _ _ (.bool _)
 .cases b
  .cases j with|opt _ _ _ h _=>have:=(h (g rfl)).bool;simp[this];exact .d _ _ (.bool _)
  .have:=i.bool;simp[this];exact .d _ _ (.bool _)
 .have q:=i.bool;have s:=j.bool;cases b<;>simp[q,s]<;>exact .d _ _ (.bool _)
 .exact g.elim
def arith(op:BinOp)(k:IntKind)(a b:Int):V:=
 match op with
 |.add=>.d (.int k (k.wrap (a+b)))
 |.sub=>.d (.int k (k.wrap (a - b)))
 |.mul=>.d (.int k (k.wrap (a * b)))
 |.quo=>.d (.int k (k.wrap (a.tdiv b)))
 |.rem=>.d (.int k (a.tmod b))
 |.eql=>.d (.bool (a==b))
 |.neq=>.d (.bool (a !=b))
 |.lss=>.d (.bool (a<b))
 |.leq=>.d (.bool (a<=b))
 |.gtr=>.d (.bool (a>b))
 |.geq=>.d (.bool (a≥b))
 |.and=>.d (.int k (k.wrap (BitVec.ofInt k.bits a&&& BitVec.ofInt k.bits b).toNat))
 |.or=>.d (.int k (k.wrap (BitVec.ofInt k.bits a|||BitVec.ofInt k.bits b).toNat))
 |.shl=>.d (.int k (k.wrap (a * 2 ^ (min b.toNat k.bits))))
 |.shr=>.d (.int k (a.fdiv (2 ^ (min b.toNat k.bits))))
 |_=>.any
def KD(op:BinOp)(b:Int):Prop:=
 match op with
 |.quo|.rem=>b≠0
 |.shl|.shr=>0<=b
 |.xor|.andNot=>False
 |_=>True
def Lf(op:BinOp)(j k:IntKind):Prop:=
 match op with
 |.shl|.shr=>True
 |_=>j=k
mutual
def De:D->D->Bool
 |.bool a,.bool b=>a==b
 |.int j a,.int k b=>j==k&&a==b
 |.str a,.str b=>decide (a=b)
 |.agg a,.agg b=>Cg a b
 |_,_=>false
def Cg:List D->List D->Bool
 |[],[]=>true
 |x::g,y::h=>De x y&&Cg g h
 |_,_=>false
end
def ln(op:BinOp)(x y:V):V:=
 match x,y with
 |.d (.int k a),.d (.int _ b)=>arith op k a b
 |.d (.str a),.d (.str b)=>match op with|.eql=>.d (.bool (decide (a=b)))|.neq=>.d (.bool (!decide (a=b)))|.add=>.d (.str (a++b))|_=>.any
 |_,_=>.any
def Sj(op:BinOp)(x y:V):Prop:=
 match x,y with
 |.d (.int k _),.d (.int g b)=>Lf op k g/\KD op b
 |.d (.str a),.d (.str b)=>match op with|.eql|.neq=>True|.add=>a.size+b.size<=maxLen|_=>False
 |_,_=>False
theorem Ou(a b:ByteArray):(a.toList==b.toList)=decide (a=b):=by
 have h1:(a.toList==b.toList)=decide (a.toList=b.toList):=by rw[eg];simp
 rw[h1];congr 1;rw[ByteArray.toList_eq,ByteArray.toList_eq];apply propext;constructor
 .intro h;cases a;cases b;simp[ByteArray.mk.injEq];exact ad5 h
 .rintro rfl;rfl
theorem pZ{op:BinOp}{T U:ce}{x y:gs}{k g:IntKind}{i j:Int}(s:o.op=.binOp op T x y U)(t:need (ev tm x))(u:need (ev tm y))
  (z:strip (ev tm x)=.d (.int k i)) (A:strip (ev tm y)=.d (.int g j)) (m:Lf op k g) (h:KD op j):Cf P n o tm S (arith op k i j) S:=.pure λG w a st=>by
 have h1:=(BV st x).strip t;have q:=(BV st y).strip u;rw[z]at h1;rw[A]at q;simp[execOp,s,h1.int,q.int];have B:∀w,(eqGuard op T x y (.int k i) (.int g j)).run P w=.ok () w:=λw=>by cases op<;>simp[eqGuard]
 simp[B];cases op<;>simp[KD]at h<;>simp[Lf]at m<;>(try subst m)<;>
   first
   |exact h.elim
   |exact⟨_,by simp[binOp,Op.intArith,Op.intCmp,Op.intDiv,h];rfl,.d _ _ (by first|exact .int _ _ (Je _ _)|exact .int _ _ (ew h1.IL)|exact .bool _)⟩
   |exact⟨_,by simp[binOp];rfl,.d _ _ (by first|exact .int _ _ (Je _ _)|exact .bool _)⟩
   |exact⟨_,by simp[binOp,Op.shift,show ¬j<0 from by omega];rfl,.d _ _ (by first|exact .int _ _ (Je _ _)|exact .int _ _ (dj _ h1.IL)|exact .bool _)⟩
theorem oN{op:BinOp}{T U:ce}{x y:gs}{p q:ByteArray}(i:o.op=.binOp op T x y U)(j:need (ev tm x))(k:need (ev tm y))
  (m:strip (ev tm x)=.d (.str p)) (s:strip (ev tm y)=.d (.str q)) (g:Sj op (.d (.str p)) (.d (.str q))):
  Cf P n o tm S (ln op (.d (.str p)) (.d (.str q))) S:=.pure λG w a st=>by
 have h1:=(BV st x).strip j;have h:=(BV st y).strip k;rw[m]at h1;rw[s]at h;simp[execOp,i,h1.str.1,h.str.1];have t:∀w,(eqGuard op T x y (.string p) (.string q)).run P w=.ok () w:=λw=>by cases op<;>simp[eqGuard]
 simp[t];cases op<;>simp[Sj]at g<;>simp[ln];case eql=>exact⟨.bool (decide (p=q)),by simp[binOp,Op.stringOp,Ou],.d _ _ (.bool _)⟩
 case neq=>exact⟨.bool (!decide (p=q)),by simp[binOp,Op.stringOp,Ou],.d _ _ (.bool _)⟩
 case add=>
  refine⟨.string (p++q),?_,.d _ _ (.str _ (by simpa using g))⟩;have:¬(((p.size+q.size:Nat):Int)>IntKind.i64.max):=by
   unfold maxLen at g;have:IntKind.i64.max=9223372036854775807:=by decide
   omega
  simp only[binOp,Op.stringOp,ao this];simp
 all_goals exact g.elim
theorem Q7{neg:Bool}{T U:ce}{x y:gs}{p q:Bool}{t:TI}(k:o.op=.binOp (if neg then .neq else .eql) T x y U)(m:need (ev tm x))(s:need (ev tm y))
  (u:strip (ev tm x)=.d (.bool p)) (z:strip (ev tm y)=.d (.bool q)) (A:ti P T=some t) (B:t.kind=.bool):
  Cf P n o tm S (.d (.bool ((p==q)!=neg))) S:=.pure λG w a st=>by
 have h1:=(BV st x).strip m;have g:=(BV st y).strip s;rw[u]at h1;rw[z]at g;refine⟨.bool ((p==q)!=neg),?_,.d _ _ (.bool _)⟩;simp[execOp,k,h1.bool,g.bool];obtain⟨i,d,_,C,_,_,_,j⟩:=I4 A;have:d=.bool:=by rw[B]at j;cases d<;>simp[tk]at j⊢
 subst this;have h:=run_equal_bool (w:=w) T p q C;cases neg<;>simp[eqGuard,binOp,h]
theorem oP{T:ce}{x:gs}{p:Bool}(g:o.op=.unOp .not T x)(h:need (ev tm x))(i:strip (ev tm x)=.d (.bool p)):
  Cf P n o tm S (.d (.bool !p)) S:=.pure λG w a st=>by
 have h1:=(BV st x).strip h;rw[i]at h1;exact⟨.bool !p,by simp[execOp,g,h1.bool,Op.unary],.d _ _ (.bool _)⟩
theorem WV{T U:ce}{x:gs}{k j:IntKind}{i:Int}{t u:TI}(h:o.op=.convert T U x)(m:need (ev tm x))(q:strip (ev tm x)=.d (.int k i))
  (s:ti P T=some t) (z:ti P U=some u) (A:u.kind=.int j):Cf P n o tm S (.d (.int j (j.wrap i))) S:=.pure λG w a st=>by
 have h1:=(BV st x).strip m;rw[q]at h1;obtain⟨d,B,_⟩:=An s w;obtain⟨e,C,g⟩:=An z w;have:e=.int j:=by rw[A]at g;cases e<;>simp[tk]at g⊢;exact g
 subst this;exact⟨.int j (j.wrap i),by simp[execOp,h,h1.int,convert,B,C,Conv.intToInt],.d _ _ (.int _ _ (Je _ _))⟩
end
abbrev EQ:=@Array.mem_iff_getElem
abbrev ci:=@List.getElem?_eq_getElem
abbrev pi:=@Array.getD_eq_getD_getElem?
section
variable {P:Program} {n:Nat} {o:Oper} {tm:Tm} {S S':Sg} {v:V}
theorem XL{G:Gh}{w:cf}(R:Rel P G S w){r i:Nat}{wr:Bool}{sz:Nat}{els:List V}(K:S[r]?=some (.row wr sz els))(hi:i<els.length)
  (E:At els[i]=true\/Bw els[i]=true) (L:(Ai els[i]).length=sz):
  ∃v b k,CV G S w els[i] v/\v.cells.size=sz/\(∀x∈v.cells,one x=true)/\(∀j,G.addr r (i * sz+j)=.pointer (some ⟨b,k+j,none⟩))/\(∀j,j<sz->w.cell? ⟨b,k+j,none⟩=v.cells[j]?):=by
 have h:=R.DG r _ K;simp only[OK]at h;cases t:G.BB r with
 |none=>
  simp only[t]at h;obtain⟨c,T,h1,F,h3,h4,M⟩:=h;obtain⟨v,u,z,N,Q⟩:=M i hi;exact⟨v,G.B3 r,(G.cap r).2+i * sz,u,z,N,λj=>by simp[Gh.addr,t,nl],λj hj=>by rw[cell_of h1,nl];exact Q j hj⟩
 |some a=>
  simp[t]at h;obtain⟨_,_,g,rfl,A⟩:=h;have B:i<g.length:=by simpa using hi
  generalize q:D.sl g=X at A;generalize U:Value.slice a g.length g.length=Y at A;cases A with
  |nil a cap=>cases q;simp at B
  |sl s W b off cap H hI hl zb h1 F=>
   cases q;injection U with Z e2 e3;subst Z;obtain⟨u,z⟩:=F i B;have J:CV G S w (V.d g[i]) (H i):=.d _ _ (h1 i B);have C:(g.map V.d)[i]=V.d g[i]:=by simp
   rw[C]at E L⊢;obtain⟨c1,c2,_⟩:=J.cells E;have:s=sz:=by omega
   subst this;refine⟨H i,b,off+i * s,J,u,λx q=>?_,λj=>by simp[Gh.addr,t,nl],z⟩;obtain⟨m,hm,rfl⟩:=EQ.1 q;exact c2 m hm
  |_=>cases q
def Pk(agg:Bool)(size:Nat)(e:V)(j:Nat):V:=
 if agg then
  if j=0/\(Ai e).length=size/\At e=true then e else .agg (((Ai e).drop j).take size)
 else(Ai e).getD j .any
theorem PQ{G:Gh}{w:cf}{e:V}{u:Value}{agg:Bool}{size j:Nat}(h:CV G S w e u)(z:At e=true\/Bw e=true)(hj:j+size<=(Ai e).length)
  (ha:agg=true\/size=1):CV G S w (Pk agg size e j) (if agg then .agg (u.cells.extract j (j+size))else u.cells.getD j undef):=by
 obtain⟨c1,A,s⟩:=h.cells z;unfold Pk;cases agg with
 |true=>
  simp;split
  .rename_i B;obtain⟨rfl,H,t⟩:=B;have:u.cells.extract 0 (0+size)=u.cells:=by
    have:size=u.cells.size:=by omega
    rw[this];simp
   rw[this];have:Value.agg u.cells=u:=by
    cases h with
    |agg=>rfl
    |d d v C=>cases C<;>first|rfl|simp[At]at t
    |_=>simp[At]at t
   rw[this];exact h
  .refine .agg _ _ (by simp;omega) (λi hi=>?_) (λi hi=>?_)
   .have E:i<size:=by simp at hi;omega
    obtain⟨x,g,k⟩:=s (j+i) (by omega);have m:(((Ai e).drop j).take size)[i]=(Ai e)[j+i]'(by omega):=by simp
    rw[m];have q:(u.cells.extract j (j+size))[i]'(by simp;omega)=x:=by
     have:u.cells[j+i]'(by omega)=x:=by
      have:=g;rw[i9 (by omega)]at this;simpa using this
     simp[this]
    rw[q];exact k
   .have E:i<size:=by simp at hi;omega
    simpa using A (j+i) (by omega)
 |false=>
  have F:size=1:=by simpa using ha
  subst F;simp only[lh,fc];obtain⟨x,g,k⟩:=s j (by omega);have m:(Ai e).getD j .any=(Ai e)[j]'(by omega):=by simp[List.getD,ci (show j<(Ai e).length by omega)]
  have q:u.cells.getD j undef=x:=by simp[g]
  rw[m,q];exact k
theorem Fo{T:ce}{t:TI}(g:ti P T=some t){w:cf}{b k j sz:Nat}{u:Value}(hs:u.cells.size=sz)(hj:j+t.size<=sz)(ha:t.agg=true\/t.size=1)
  (h:∀j,j<sz->w.cell? ⟨b,k+j,none⟩=u.cells[j]?):
  (loadVar T ⟨b,k+j,none⟩).run P w=.ok (if t.agg then .agg (u.cells.extract j (j+t.size))else u.cells.getD j undef) w:=by
 unfold loadVar;simp only[gI,L5 g,ge];cases m:t.agg with
 |true=>
  simp only[er,gI,Bi g,ge];rw[run_loadCells (u.cells.extract j (j+t.size)) (by simp;omega) (λi hi=>by
   rw[nl,h (j+i) (by omega)];simp only[Array.getElem?_extract];rw[ap (by omega)])]
  simp
 |false=>
  have h1:t.size=1:=by simpa[m]using ha
  simp only[lh,fc];rw[run_load,h j (by omega)];have:j<u.cells.size:=by omega
  simp[i9 this]
def JA(S:Sg)(p:V)(K:(h:Bool)->(r i j:Nat)->(sz:Nat)->(g:List V)->Prop):Prop:=
 match p with
 |.ptr r m i j=>
  match S[r]? with
  |some (.row h sz g)=>g.length=m/\i<g.length/\(At (g.getD i .any)||Bw (g.getD i .any))=true/\(Ai (g.getD i .any)).length=sz/\K h r i j sz g
  |_=>False
 |_=>False
def YQ(S:Sg)(p:V):V:=
 match p with
 |.ptr r _ i _=>
  match S[r]? with
  |some (.row _ _ g)=>g.getD i .any
  |_=>.any
 |_=>.any
def dC(p:V):Nat:=
 match p with
 |.ptr _ _ _ j=>j
 |_=>0
theorem CV.Ka{G:Gh}{w:cf}{r m i j:Nat}{p:Value}{wr:Bool}{sz:Nat}{els:List V}(h:CV G S w (.ptr r m i j) p)(g:S[r]?=some (.row wr sz els))(k:els.length=m):
  p=G.addr r (i * sz+j):=by
 cases h with
 |ptr _ _ _ _ _ q s h=>
  exact(h m (by simp[lenOf,g,k])).2 rfl sz (by simp[C0,g])
theorem mG{T:ce}{x:gs}{t:TI}(C:o.op=.load T x)(E:need (ev tm x))(F:ti P T=some t)(ha:t.agg=true\/t.size=1)
  (h:JA S (strip (ev tm x)) λ_ _ _ j sz _=>j+t.size<=sz):Cf P n o tm S (Pk t.agg t.size (YQ S (strip (ev tm x))) (dC (strip (ev tm x)))) S:=.pure λG w a st=>by
 have h1:=(BV st x).strip E;generalize strip (ev tm x)=X at *;unfold JA at h;split at h
 .rename_i r m i j;split at h
  .rename_i N sz g s;obtain⟨H,hi,q,z,hj⟩:=h;have A:g.getD i .any=g[i]:=by simp[List.getD,hi]
   rw[A]at q z;have q:At g[i]=true\/Bw g[i]=true:=by simpa using q
   obtain⟨u,b,k,J,K,Q,L,M⟩:=XL st.rel s hi q z;have B:=h1.Ka s H;rw[L j]at B;refine⟨if t.agg then .agg (u.cells.extract j (j+t.size))else u.cells.getD j undef,?_,?_⟩
   .simp[execOp,C,B,Instr.loadAt,Instr.sureAddr];simp[Fo F K hj ha M]
   .simp only[YQ,dC,s,A];exact PQ J q (by omega) ha
  .exact h.elim
 .exact h.elim
def TB(agg:Bool)(size:Nat)(g:List D):V:=if agg then .d (.agg (g.take size))else .d (g.getD 0 (.bool false))
theorem ia{T:ce}{x:gs}{t:TI}{g:List D}(m:o.op=.load T x)(q:need (ev tm x))(s:strip (ev tm x)=.DX g)(z:ti P T=some t)(ha:t.agg=true\/t.size=1)
  (J:t.size<=g.length):Cf P n o tm S (TB t.agg t.size g) S:=.pure λG w a st=>by
 have h1:=(BV st x).strip q;rw[s]at h1;generalize A:a.eval x=X at h1;cases h1 with
 |DX g b off B K h=>
  let u:Array Value:=((List.range g.length).map B).toArray;have C:(Value.agg u).cells.size=g.length:=by simp[Value.cells,u]
  refine⟨if t.agg then .agg (u.extract 0 (0+t.size))else u.getD 0 undef,?_,?_⟩
  .simp only[execOp,m,A,Instr.loadAt,Instr.sureAddr,gI,l6,ge];rw[show(⟨b,off,none⟩:Addr)=⟨b,off+0,none⟩from rfl];rw[Fo (u:=.agg u) (j:=0) z C (by omega) ha (λj hj=>by
    rw[(h j hj).1];simp[Value.cells,hj,u])]
   rfl
  .unfold TB;cases E:t.agg with
   |true=>
    simp;refine .d _ _ (.agg _ _ (by simp[u]) (λi hi=>?_) (λi hi=>?_))
    .have F:i<t.size:=by simp at hi;omega
     simpa[u]using(h i (by omega)).2.1
    .have F:i<t.size:=by simp[u]at hi;omega
     simpa[u]using(h i (by omega)).2.2
   |false=>
    have h1:t.size=1:=by simpa[E]using ha
    simp only[lh,fc];have k:0<g.length:=by omega
    have H:g.getD 0 (.bool false)=g[0]:=by simp[List.getD,k]
    rw[H];have:=(h 0 k).2.1;refine .d _ _ ?_;simpa[u,pi,k]using this
end
abbrev xi:=@List.getElem?_map
abbrev wL:=@Option.map_eq_some_iff
abbrev GE:=@Prod.mk.injEq
section
variable {P:Program} {n:Nat} {o:Oper} {tm:Tm} {S S':Sg} {v:V}
def AQ(P:Program)(T:ce)(f:Nat):Option (Nat×ce):=
 match ti P T with
 |some t=>match t.kind with
  |.struct g=>g[f]?
  |_=>none
 |none=>none
theorem Nn{T:ce}{f:Nat}{off:Nat}{U:ce}(h:AQ P T f=some (off,U))(w:cf):
  ∃g fl,(underlying T).run P w=.ok (.struct g) w/\g[f]?=some fl/\fl.offset=off/\fl.type=U:=by
 unfold AQ at h;split at h
 .rename_i t j;split at h
  .rename_i u k;obtain⟨d,m,i⟩:=An j w;rw[k]at i;cases d with
   |struct g=>
    simp[tk,TK.struct.injEq]at i;subst i;simp at h;obtain⟨fl,h1,q,s⟩:=h;exact⟨g,fl,m,by simpa using h1,q,s⟩
   |_=>simp[tk]at i
  .cases h
 .cases h
def sD(off:Nat)(p:V):V:=
 match p with
 |.ptr r m i j=>.ptr r m i (j+off)
 |.DX g=>.DX (g.drop off)
 |_=>.any
def GU(S:Sg)(p:V):Prop:=
 match p with
 |.ptr r m i _=>match S[r]? with
  |some (.row _ _ g)=>g.length=m/\i<g.length
  |_=>False
 |.DX _=>True
 |_=>False
theorem Ph{G:Gh}{w:cf}(R:Rel P G S w){r i:Nat}{wr:Bool}{sz:Nat}{els:List V}(t:S[r]?=some (.row wr sz els))(hi:i<els.length):
  ∃b k,∀j,G.addr r j=.pointer (some ⟨b,k+j,none⟩):=by
 have h:=R.DG r _ t;simp[OK]at h;cases m:G.BB r with
 |none=>exact⟨G.B3 r,(G.cap r).2,λj=>by simp[Gh.addr,m]⟩
 |some a=>
  simp[m]at h;obtain⟨_,_,g,rfl,q⟩:=h;have u:i<g.length:=by simpa using hi
  generalize s:D.sl g=X at q;generalize z:Value.slice a g.length g.length=Y at q;cases q with
  |nil a cap=>cases s;simp at u
  |sl A B b off cap E F H J h1 K=>
   injection z with C L M;subst C;exact⟨b,off,λj=>by simp[Gh.addr,m]⟩
  |_=>cases s
theorem Rq{T U:ce}{x:gs}{f off:Nat}{u:TI}(E:o.op=.fieldAddr T x f)(F:need (ev tm x))(H:AQ P T f=some (off,U))(J:ti P U=some u)(K:u.size≠0)
  (g:GU S (strip (ev tm x))):Cf P n o tm S (sD off (strip (ev tm x))) S:=.pure λG w a st=>by
 have h1:=(BV st x).strip F;generalize strip (ev tm x)=X at *;obtain⟨fs,fl,L,M,N,Q⟩:=Nn H w;have A:∀b k,a.eval x=.pointer (some ⟨b,k,none⟩)->(execOp a.eval o).run P w=.ok (.value (.pointer (some ⟨b,k+off,none⟩))) w:=λb k s=>by
  simp[execOp,E,s,Instr.fieldAt,L,M,Instr.sureAddr,fieldPlace,Q,N,Bi J,ao K,Gf,Sem.run_ite]
 unfold GU at g;split at g
 .rename_i r m i j;split at g
  .rename_i wr sz R t;obtain⟨W,hi⟩:=g;have B:=h1.Ka t W;obtain⟨b,k,s⟩:=Ph st.rel t hi;rw[s]at B;refine⟨_,A _ _ B,?_⟩;cases h1 with
   |ptr _ _ _ _ _ h2 Y Z=>
    refine .ptr _ _ _ _ _ rfl Y λm' wO=>⟨(Z m' wO).1,λe z q=>?_⟩;have:z=sz:=by simpa[C0,t]using q.symm
    subst this;rw[<-nl,s];simp[nl]
  .exact g.elim
 .rename_i C;generalize hX:a.eval x=X at h1;cases h1 with
  |DX C b k vs hI h=>
   refine⟨_,A _ _ hX,?_⟩;refine .DX _ _ _ (λj=>vs (off+j)) hI λj hj=>?_;have xe:off+j<C.length:=by simp at hj;omega
   have:=h (off+j) xe;simpa[nl]using this
 .exact g.elim
def BN:D->List D
 |.agg ds=>ds
 |d=>[d]
def rX(x:V)(i:Nat):V:=
 match x with
 |.d (.sl g)=>.DX (BN (g.getD i (.bool false)))
 |.full g=>.DX (BN (g.getD i (.bool false)))
 |.row r m=>.ptr r m i 0
 |_=>.any
def CZ(S:Sg)(x:V)(i:Int)(sz:Nat):Prop:=
 match x with
 |.d (.sl g)=>0<=i/\i<g.length/\(BN (g.getD i.toNat (.bool false))).length=sz/\oneD (g.getD i.toNat (.bool false))=true
 |.full g=>0<=i/\i<g.length/\(BN (g.getD i.toNat (.bool false))).length=sz/\oneD (g.getD i.toNat (.bool false))=true
 |.row r m=>match S[r]? with
  |some (.row _ j h)=>h.length=m/\0<=i/\i<h.length/\j=sz
  |_=>False
 |_=>False
 where
 oneD:D->Bool
  |.Cb _=>false
  |.raw v=>one v
  |_=>true
theorem CD.cells{I:Nat->Prop}{w:cf}{d:D}{v:Value}(h:CD I w d v)(t:CZ.oneD d=true):v.cells.size=(BN d).length/\∀i (h:i<(BN d).length),∃u,v.cells[i]?=some u/\CD I w (BN d)[i] u/\one u=true:=by
 cases h with
 |agg ds g j h q=>exact⟨j,λi hi=>⟨g[i]'(by simp[BN]at hi;omega),by simp[Value.cells],h i hi,q i (by simp[BN]at hi;omega)⟩⟩
 |Cb=>simp[CZ.oneD]at t
 |raw v=>
  have z:one v=true:=t;rw[Kb z];refine⟨rfl,λi hi=>?_⟩;have:i=0:=by simp[BN]at hi;exact hi
  subst this;exact⟨v,rfl,.raw v,z⟩
 |bool b=>exact⟨rfl,λi hi=>by
  have:i=0:=by simp[BN]at hi;exact hi
  subst this;exact⟨_,rfl,.bool b,rfl⟩⟩
 |int k m A=>exact⟨rfl,λi hi=>by
  have:i=0:=by simp[BN]at hi;exact hi
  subst this;exact⟨_,rfl,.int k m A,rfl⟩⟩
 |str s j=>exact⟨rfl,λi hi=>by
  have:i=0:=by simp[BN]at hi;exact hi
  subst this;exact⟨_,rfl,.str s j,rfl⟩⟩
 |nil a c=>exact⟨rfl,λi hi=>by
  have:i=0:=by simp[BN]at hi;exact hi
  subst this;exact⟨_,rfl,.nil a c,rfl⟩⟩
 |sl sz B b off cap g C E F h1 G=>exact⟨rfl,λi hi=>by
  have:i=0:=by simp[BN]at hi;exact hi
  subst this;exact⟨_,rfl,.sl sz B b off cap g C E F h1 G,rfl⟩⟩
theorem nE{G:Gh}{w:cf}{xs:List D}{cv:Value}(h:CD G.I w (.sl xs) cv){i:Nat}(hi:i<xs.length)(m:CZ.oneD xs[i]=true):
  ∃b off len cap,cv=.slice (some ⟨b,off,none⟩) len cap/\len=xs.length/\CV G S w (.DX (BN xs[i])) (.pointer (some ⟨b,off+i * (BN xs[i]).length,none⟩)):=by
 cases h with
 |nil=>simp at hi
 |sl sz xs b off cap g q E F h1 s=>
  obtain⟨c1,t⟩:=(h1 i hi).cells m;obtain⟨H,z⟩:=s i hi;have A:(BN xs[i]).length=sz:=by omega
  refine⟨b,off,_,cap,rfl,rfl,.DX _ _ _ (λj=>(g i).cells.getD j undef) q λj hj=>?_⟩;obtain⟨u,k,B,C⟩:=t j hj;have e:(g i).cells.getD j undef=u:=by simp[k]
  rw[e,A,z j (by omega)];exact⟨k,B,C⟩
theorem Rc{T:ce}{x y:gs}{E:ce}{k:IntKind}{i:Int}{t e:TI}(ho:o.op=.indexAddr T x y)(J:need (ev tm x))(K:need (ev tm y))(ht:ti P T=some t)(hk:t.kind=.slice E)
  (he:ti P E=some e) (ey:strip (ev tm y)=.d (.int k i)) (q:CZ S (strip (ev tm x)) i e.size):Cf P n o tm S (rX (strip (ev tm x)) i.toNat) S:=.pure λG w a st=>by
 have h1:=(BV st x).strip J;have L:=(BV st y).strip K;rw[ey]at L;obtain⟨d,hd,M⟩:=An ht w;have N:d=.slice E:=by rw[hk]at M;cases d<;>simp[tk]at M⊢;exact M
 subst N;have Q:∀b off len cap,a.eval x=.slice (some ⟨b,off,none⟩) len cap->0<=i->i<len->(execOp a.eval o).run P w=.ok (.value (.pointer (some ⟨b,off+i.toNat * e.size,none⟩))) w:=λb off len cap u h0 A=>by
  simp[execOp,ho,L.int,u,Instr.indexAt,asIntOf,hd,Gf];rw[ap ⟨h0,A⟩];simp[Bi he]
 generalize strip (ev tm x)=X at *;unfold CZ at q;split at q
 .rename_i g;obtain⟨h0,A,z,B⟩:=q;have hi:i.toNat<g.length:=by omega
  have C:g.getD i.toNat (.bool false)=g[i.toNat]:=by simp[List.getD,hi]
  rw[C]at z B;have R:CD G.I w (.sl g) (a.eval x):=by cases h1 with|d _ _ h=>exact h
  obtain⟨b,off,len,cap,U,g2,W⟩:=nE (S:=S) R hi B;refine⟨_,Q b off len cap U h0 (by omega),?_⟩;rw[<-z];simpa only[rX,C]using W
 .rename_i g;obtain⟨h0,A,z,B⟩:=q;have hi:i.toNat<g.length:=by omega
  have C:g.getD i.toNat (.bool false)=g[i.toNat]:=by simp[List.getD,hi]
  rw[C]at z B;have R:CD G.I w (.sl g) (a.eval x):=by
   generalize a.eval x=X at h1;cases h1 with|full _ _ h=>exact h
  obtain⟨b,off,len,cap,U,g2,W⟩:=nE (S:=S) R hi B;refine⟨_,Q b off len cap U h0 (by omega),?_⟩;rw[<-z];simpa only[rX,C]using W
 .rename_i r m;split at q
  .rename_i wr sz Z hr;obtain⟨hm,h0,A,z⟩:=q;subst z;have hi:i.toNat<Z.length:=by omega
   have s:lenOf S r=some m:=by simp[lenOf,hr,hm]
   have wh:a.eval x=G.BZ r m/\r<S.length:=by
    cases h1 with|row _ _ _ _ vc h=>exact⟨(h m s).2 rfl,vc⟩
   obtain⟨wh,vc⟩:=wh;have vp:=st.rel.DG r _ hr;have key:∃b off cap,G.BZ r m=.slice (some ⟨b,off,none⟩) m cap/\∀j,G.addr r j=.pointer (some ⟨b,off+j,none⟩):=by
    simp[OK]at vp;cases u:G.BB r with
    |none=>exact⟨G.B3 r,(G.cap r).2,(G.cap r).1,by simp[Gh.BZ,u],λj=>by simp[Gh.addr,u]⟩
    |some b=>
     simp[u]at vp;obtain⟨_,_,g,rfl,hc⟩:=vp;have vo:i.toNat<g.length:=by simpa using hi
     generalize J:D.sl g=X at hc;generalize K:Value.slice b g.length g.length=Y at hc;cases hc with
     |nil a cap=>cases J;simp at vo
     |sl F xs' b off cap vs hI A zb h1 L=>
      injection K with e1 e2 e3;subst e1;exact⟨b,off,m,by simp[Gh.BZ,u],λj=>by simp[Gh.addr,u]⟩
     |_=>cases J
   obtain⟨b,off,cap,k1,k2⟩:=key;refine⟨_,Q b off m cap (wh.trans k1) h0 (by omega),.ptr _ _ _ _ _ rfl vc λm' wO=>?_⟩;rw[s]at wO;cases wO;refine⟨br _,λ_ F H=>?_⟩;have:F=e.size:=by simpa[C0,hr]using H.symm
   subst this;rw[k2];simp
  .exact q.elim
 .exact q.elim
end
section
variable {P:Program} {n:Nat} {o:Oper} {tm:Tm} {S S':Sg} {v:V}
theorem MZ{n:Nat}(h:n<=maxLen):IL .i64 n=true:=by
 simp[maxLen]at h;simp[IL];omega
theorem CD.len{I:Nat->Prop}{w:cf}{xs:List D}{v:Value}(h:CD I w (.sl xs) v):xs.length<=maxLen:=by
 cases h with
 |nil=>simp
 |sl sz xs b off cap i j g=>exact g
theorem Rel.pN{G:Gh}{w:cf}(R:Rel P G S w){r m:Nat}(h:lenOf S r=some m):m<=maxLen:=by
 unfold Koi.lenOf at h;split at h
 .rename_i j sz i g;cases h;have:=R.DG r _ g;simp only[OK]at this;split at this
  .obtain⟨c,T,_,_,_,h,_⟩:=this;exact h
  .obtain⟨_,h,_⟩:=this;exact h
 .rename_i k g;cases h;have:=R.DG r _ g;simp only[OK]at this;exact this.len
 .cases h
theorem ZL{T:ce}{x:gs}{c:Call}{xs:List D}{t:TI}{E:ce}(m:o.op=.call c)(q:c.callee=.builtin .len)(s:c.args=#[x])(u:c.argTypes=#[T])
  (z:need (ev tm x)) (A:strip (ev tm x)=.d (.sl xs)) (B:ti P T=some t) (C:t.kind=.slice E):Cf P n o tm S (.d (.int .i64 xs.length)) S:=.pure λG w a st=>by
 have h1:=(BV st x).strip z;rw[A]at h1;obtain⟨d,F,i⟩:=An B w;have j:d=.slice E:=by rw[C]at i;cases d<;>simp[tk]at i⊢;exact i
 subst j;have g:xs.length<=maxLen:=by cases h1 with|d _ _ h=>exact h.len
 have:∃k cap,a.eval x=.slice k xs.length cap:=by
  generalize a.eval x=X at h1;cases h1 with|d _ _ h=>cases h with
   |nil a c=>exact⟨a,c,rfl⟩
   |sl sz xs b off cap=>exact⟨_,cap,rfl⟩
 obtain⟨k,cap,H⟩:=this;refine⟨.int .i64 xs.length,?_,.d _ _ (.int _ _ (MZ g))⟩;simp[execOp,m,resolve,q,s,u,H,invoke,builtin,Builtin.len_,F,goInt]
theorem Tn{T:ce}{x:gs}{c:Call}{xs:List D}{t:TI}{E:ce}(j:o.op=.call c)(k:c.callee=.builtin .len)(m:c.args=#[x])(q:c.argTypes=#[T])
  (s:need (ev tm x)) (u:strip (ev tm x)=.full xs) (z:ti P T=some t) (A:t.kind=.slice E):Cf P n o tm S (.d (.int .i64 xs.length)) S:=.pure λG w a st=>by
 have h1:=(BV st x).strip s;rw[u]at h1;obtain⟨d,B,g⟩:=An z w;have i:d=.slice E:=by rw[A]at g;cases d<;>simp[tk]at g⊢;exact g
 subst i;generalize C:a.eval x=X at h1;cases h1 with
 |full _ F h=>
  refine⟨.int .i64 xs.length,?_,.d _ _ (.int _ _ (MZ h.len))⟩;simp[execOp,j,resolve,k,m,q,C,invoke,builtin,Builtin.len_,B,goInt]
theorem We{T:ce}{x:gs}{c:Call}{r m:Nat}{t:TI}{E:ce}(s:o.op=.call c)(u:c.callee=.builtin .len)(z:c.args=#[x])(A:c.argTypes=#[T])
  (B:need (ev tm x)) (C:strip (ev tm x)=.row r m) (k:lenOf S r=some m) (F:ti P T=some t) (H:t.kind=.slice E):Cf P n o tm S (.d (.int .i64 m)) S:=.pure λG w a st=>by
 have h1:=(BV st x).strip B;rw[C]at h1;obtain⟨d,J,g⟩:=An F w;have i:d=.slice E:=by rw[H]at g;cases d<;>simp[tk]at g⊢;exact g
 subst i;have j:a.eval x=G.BZ r m:=by
  cases h1 with|row _ _ _ _ _ h=>exact(h m k).2 rfl
 have:∃q cap,a.eval x=.slice q m cap:=by
  rw[j];unfold Gh.BZ;split<;>exact⟨_,_,rfl⟩
 obtain⟨q,cap,j⟩:=this;refine⟨.int .i64 m,?_,.d _ _ (.int _ _ (MZ (st.rel.pN k)))⟩;simp[execOp,s,resolve,u,z,A,j,invoke,builtin,Builtin.len_,J,goInt]
theorem WE{T:ce}{x:gs}{c:Call}{s:ByteArray}{t:TI}(i:o.op=.call c)(j:c.callee=.builtin .len)(k:c.args=#[x])(m:c.argTypes=#[T])
  (q:need (ev tm x)) (u:strip (ev tm x)=.d (.str s)) (z:ti P T=some t) (A:t.kind=.str):Cf P n o tm S (.d (.int .i64 s.size)) S:=.pure λG w a st=>by
 have h1:=(BV st x).strip q;rw[u]at h1;obtain⟨d,B,h⟩:=An z w;have g:d=.string:=by rw[A]at h;cases d<;>simp[tk]at h⊢
 subst g;have C:=h1.str.1;have E:=h1.str.2;refine⟨.int .i64 s.size,?_,.d _ _ (.int _ _ (MZ E))⟩;simp[execOp,i,resolve,j,k,m,C,invoke,builtin,Builtin.len_,B,goInt]
theorem V7{x:gs}{k:Nat}{vs:List V}(i:o.op=.extract x k)(j:need (ev tm x))(m:strip (ev tm x)=.Cb vs)(g:k<vs.length):
  Cf P n o tm S (vs.getD k .any) S:=.pure λG w a st=>by
 have h1:=(BV st x).strip j;rw[m]at h1;generalize q:a.eval x=X at h1;cases h1 with
 |Cb u s t h=>
  refine⟨s[k],?_,?_⟩
  .simp[execOp,i,q,Instr.extract,t,g]
  .have:vs.getD k .any=vs[k]:=by simp[List.getD,g]
   rw[this];exact h k g
theorem UL{x:gs}{k:Nat}{vs:List D}(i:o.op=.extract x k)(j:need (ev tm x))(m:strip (ev tm x)=.d (.Cb vs))(g:k<vs.length):
  Cf P n o tm S (.d (vs.getD k (.bool false))) S:=.pure λG w a st=>by
 have h1:=(BV st x).strip j;rw[m]at h1;generalize q:a.eval x=X at h1;cases h1 with
 |d _ _ h1=>cases h1 with
  |Cb u s t h=>
   refine⟨s[k],?_,?_⟩
   .simp[execOp,i,q,Instr.extract,t,g]
   .have:vs.getD k (.bool false)=vs[k]:=by simp[List.getD,g]
    rw[this];exact .d _ _ (h k g)
theorem Tx{f:Fn}{as g:Array gs}(j:o.op=.makeFunc f as g):Cf P n o tm S (.fn f (as.toList.map (ev tm)) (g.toList.map (ev tm))) S:=.pure λG w a st=>by
 refine⟨.func f (as.map a.eval) (g.map a.eval),by simp[execOp,j,Instr.makeFunc],.fn _ _ _ _ _ (by simp) (by simp) (λi h=>?_) (λi h=>?_)⟩
 .simpa using BV st _
 .simpa using BV st _
theorem TZ{x:gs}{r m i j:Nat}(s:o.op=.nilCheck x)(t:need (ev tm x))(u:strip (ev tm x)=.ptr r m i j)(g:GU S (.ptr r m i j)):Cf P n o tm S (.ptr r m i j) S:=.pure λG w a st=>by
 have h1:=(BV st x).strip t;rw[u]at h1;simp only[GU]at g;split at g
 .rename_i C sz z h;obtain⟨A,hi⟩:=g;have q:=h1.Ka h A;obtain⟨b,k,B⟩:=Ph st.rel h hi;rw[B]at q;exact⟨a.eval x,by simp[execOp,s,q],h1⟩
 .exact g.elim
theorem Sp{x:gs}{g:List D}(i:o.op=.nilCheck x)(j:need (ev tm x))(k:strip (ev tm x)=.DX g):Cf P n o tm S (.DX g) S:=.pure λG w a st=>by
 have h1:=(BV st x).strip j;rw[k]at h1;refine⟨a.eval x,?_,h1⟩;generalize m:a.eval x=X at h1;cases h1 with
 |DX g b off q s h=>simp[execOp,i,m]
theorem dg{T U:ce}{x:gs}{f off:Nat}{u:TI}(s:o.op=.field T x f)(t:need (ev tm x))(z:AQ P T f=some (off,U))(k:ti P U=some u)
  (g:At (strip (ev tm x))=true) (hj:off+u.size<=(Ai (strip (ev tm x))).length) (ha:u.agg=true\/u.size=1):
  Cf P n o tm S (Pk u.agg u.size (strip (ev tm x)) off) S:=.pure λG w a st=>by
 have h1:=(BV st x).strip t;obtain⟨H,fl,A,B,C,E⟩:=Nn z w;have h:=PQ h1 (.inl g) hj ha;obtain⟨c1,_,m⟩:=h1.cells (.inl g);generalize strip (ev tm x)=X at *;have i:∃j,a.eval x=.agg j:=by
  generalize a.eval x=Y at h1;cases h1 with
  |agg=>exact⟨_,rfl⟩
  |d d v F=>cases F<;>first|exact⟨_,rfl⟩|simp[At]at g
  |_=>simp[At]at g
 obtain⟨j,q⟩:=i;rw[q]at h c1 m;simp only[Value.cells]at h c1 m;refine⟨_,?_,h⟩;simp only[execOp,s,q,Instr.field,gI,A,ge,B,asAgg,l6,part,C,E,L5 k];cases i:u.agg with
 |true=>simp[Bi k]
 |false=>
  have h1:u.size=1:=by simpa[i]using ha
  simp only[lh,fc];have:off<j.size:=by omega
  simp[this]
end
abbrev x0:=@dif_pos
abbrev fd:=@Option.some.injEq
abbrev lg:=@List.getElem_append_left
abbrev rg:=@List.getElem_append_right
abbrev eN:=@List.length_append
abbrev up:=@List.length_take
abbrev wT:=@Nat.mul_le_mul_right
abbrev nc:=@Nat.add_mul
abbrev jp:=@List.mem_iff_getElem
abbrev x3:=@Array.length_toList
abbrev H1:=@Array.getElem?_toList
abbrev acs:=@List.getElem_set_ne
section
variable {P:Program} {n:Nat} {o:Oper} {tm:Tm} {S S':Sg} {v:V}
def SD(e:V)(j:Nat)(x:V):V:=
 if At e then
  if j=0/\(Ai e).length=(Ai x).length/\At x=true then x
  else .agg ((Ai e).take j++Ai x++(Ai e).drop (j+(Ai x).length))
 else x
theorem CV.Ov{G:Gh}{w:cf}{g:List V}{u:Array Value}(hs:u.size=g.length)(h:∀i (h:i<g.length),∃x,u[i]?=some x/\CV G S w g[i] x)
  (j:∀i (h:i<u.size),Koi.one u[i]=true):CV G S w (.agg g) (.agg u):=.agg _ _ hs (λi hi=>by
   obtain⟨x,h1,k⟩:=h i hi;have:u[i]'(by omega)=x:=by rw[i9 (by omega)]at h1;simpa using h1
   rw[this];exact k) j
theorem lU{G:Gh}{w:cf}{e x:V}{u y:Value}{j:Nat}(h:CV G S w e u)(T:At e=true\/Bw e=true)(F:CV G S w x y)(H:At x=true\/Bw x=true)
  (hj:j+(Ai x).length<=(Ai e).length) (U:At e=true\/At x=false):
  ∃z,CV G S w (SD e j x) z/\z.cells.size=u.cells.size/\(∀c∈z.cells,one c=true)/\(∀i,z.cells[i]?=if j<=i/\i<j+y.cells.size then y.cells[i - j]? else u.cells[i]?)/\(At (SD e j x)=true\/Bw (SD e j x)=true)/\(Ai (SD e j x)).length=(Ai e).length:=by
 obtain⟨c1,W,X⟩:=h.cells T;obtain⟨d1,d2,d3⟩:=F.cells H;have k:∀{z:Value},(∀i (h:i<z.cells.size),one z.cells[i]=true)->∀c∈z.cells,one c=true:=λJ c t=>by
  obtain⟨i,hi,rfl⟩:=EQ.1 t;exact J i hi
 have whole:j=0->(Ai e).length=(Ai x).length->∀i,y.cells[i]?=if j<=i/\i<j+y.cells.size then y.cells[i - j]? else u.cells[i]?:=λh0 h1 i=>by
  subst h0;by_cases hi:i<y.cells.size
  .rw[ap (by omega)];simp
  .rw[ao (by omega),wE (by omega),wE (by omega)]
 unfold SD;split
 .rename_i K;split
  .rename_i t;obtain⟨h0,h1,_⟩:=t;exact⟨y,F,by omega,k d2,whole h0 h1,H,h1.symm⟩
  .let z:Array Value:=Array.ofFn (n:=u.cells.size) λi=>if j<=i.val/\i.val<j+y.cells.size then y.cells.getD (i.val - j) undef else u.cells.getD i.val undef;have J:z.size=u.cells.size:=by simp[z]
   have s:∀i,z[i]?=if j<=i/\i<j+y.cells.size then y.cells[i - j]? else u.cells[i]?:=λi=>by
    by_cases L:i<u.cells.size
    .simp only[z,Array.getElem?_ofFn,L,x0];by_cases m:j<=i/\i<j+y.cells.size
     .rw[ap m,ap m,i9 (show i - j<y.cells.size by omega)];simp[show i - j<y.cells.size by omega]
     .rw[ao m,ao m,i9 L];simp
    .rw[wE (by omega),ao (by omega),wE (by omega)]
   have A:∀i (h:i<z.size),one z[i]=true:=λi hi=>by
    have h1:=s i;rw[i9 hi]at h1;by_cases m:j<=i/\i<j+y.cells.size
    .rw[ap m,i9 (by omega)]at h1;simp at h1;rw[h1];exact d2 _ _
    .rw[ao m,i9 (by omega)]at h1;simp at h1;rw[h1];exact W _ _
   have g:((Ai e).take j++Ai x++(Ai e).drop (j+(Ai x).length)).length=(Ai e).length:=by simp;omega
   refine⟨.agg z,CV.Ov (by rw[J,g,c1]) (λi hi=>?_) A,J,?_,s,.inl rfl,g⟩
   .rw[g]at hi;rw[s];by_cases m:j<=i/\i<j+y.cells.size
    .rw[ap m];obtain⟨q,M,N⟩:=d3 (i - j) (by omega);refine⟨q,M,?_⟩;have:((Ai e).take j++Ai x++(Ai e).drop (j+(Ai x).length))[i]'(by rw[g];exact hi)=(Ai x)[i - j]'(by omega):=by
      rw[lg (by simp;omega),rg (by simp;omega)];congr 1;simp;omega
     rw[this];exact N
    .rw[ao m];obtain⟨q,M,N⟩:=X i hi;refine⟨q,M,?_⟩;have:((Ai e).take j++Ai x++(Ai e).drop (j+(Ai x).length))[i]'(by rw[g];exact hi)=(Ai e)[i]:=by
      by_cases L:i<j
      .rw[lg (by simp;omega),lg (by simp;omega)];simp
      .rw[rg (by simp;omega)];simp[List.getElem_drop];congr 1;omega
     rw[this];exact N
   .intro c t;obtain⟨i,hi,rfl⟩:=EQ.1 t;exact A i hi
 .rename_i K;have h1:Bw e=true:=T.resolve_left K;have B:=Kb (h.one h1);rw[B]at c1;simp at c1;have Q:Bw x=true:=H.resolve_left (by simpa using U.resolve_left K);have C:=Kb (F.one Q);have E:=d1;rw[C]at E;simp at E;have R:j=0:=by omega
  exact⟨y,F,by rw[B,C];simp,k d2,whole R (by omega),H,by omega⟩
def mT(S:Sg)(p:V)(x:V):Sg:=
 match p with
 |.ptr r _ i j=>
  match S[r]? with
  |some (.row h sz g)=>S.set r (.row h sz (g.set i (SD (g.getD i .any) j x)))
  |_=>S
 |_=>S
theorem dp{T:ce}{x y:gs}{t:TI}(ho:o.op=.store T x y)(hx:need (ev tm x))(hy:need (ev tm y))(ht:ti P T=some t)
  (s:JA S (strip (ev tm x)) λZ _ i j sz g=>Z=true/\j+t.size<=sz/\(At (g.getD i .any)||!At (strip (ev tm y)))=true)
  (A:(At (strip (ev tm y))||Bw (strip (ev tm y)))=true) (hs:(Ai (strip (ev tm y))).length=t.size):
  Cf P n o tm S .any (mT S (strip (ev tm x)) (strip (ev tm y))):=.skip λG w a st=>by
 have h1:=(BV st x).strip hx;have h2:=(BV st y).strip hy;generalize strip (ev tm x)=X at *;generalize strip (ev tm y)=Y at *;unfold JA at s;split at s
 .rename_i r m i j;split at s
  .rename_i Z sz g q;obtain⟨R,hi,N,vr,zc,hj,h⟩:=s;subst zc;have xy:g.getD i .any=g[i]:=by simp[List.getD,hi]
   simp only[mT,q];rw[xy]at N vr h⊢;have N:At g[i]=true\/Bw g[i]=true:=by simpa using N
   have A:At Y=true\/Bw Y=true:=by simpa using A
   have h:At g[i]=true\/At Y=false:=by simpa using h
   have zU:=h1.Ka q R;have E:=st.rel.DG r _ q;simp only[OK]at E;cases B:G.BB r with
   |some a0=>simp only[B]at E;exact absurd E.1 (by simp)
   |none=>
    simp only[B]at E;obtain⟨c,U,g1,g2,g3,g4,g5⟩:=E;obtain⟨u,u1,u2,u3,u4⟩:=g5 i hi;obtain⟨d1,d2,_⟩:=h2.cells A;obtain⟨z,z1,z2,z3,z4,z5,z6⟩:=lU u1 N h2 A (j:=j) (by omega) h;have F:a.eval x=.pointer (some ⟨G.B3 r,(G.cap r).2+(i * sz+j),none⟩):=by rw[zU];simp[Gh.addr,B]
    have v7:(G.cap r).2+(i * sz+sz)<=c.size:=by
     have:(i+1) * sz<=(G.cap r).1 * sz:=wT _ (by omega);rw[nc]at this;omega
    have H:(a.eval y).cells.size=t.size:=by omega
    have vm:=Jo (P:=P) (b:=G.B3 r) (off:=(G.cap r).2+(i * sz+j)) (T:=U) (a.eval y).cells.toList 0 w c g1 (by simp;omega) (λv A=>by
     obtain⟨k,h,rfl⟩:=jp.1 A;simpa using d2 k (by simpa using h))
    have J:BQ G r (.row true sz g)=true:=by simp[BQ,B]
    have K:BQ G r (.row true sz (g.set i (SD g[i] j Y)))=true:=by simp[BQ,B]
    refine⟨G,D0 w (G.B3 r) (.cells (DA c ((G.cap r).2+(i * sz+j)) (a.eval y).cells.toList) U (0,0)),?_,?_⟩
    .simp[execOp,ho,F,Instr.storeAt,Instr.sureAddr,storeVar,Bi ht];simp[H];simp at vm;simp[vm]
    .refine st.rel.update q J K (λn' wg=>?_) (λR=>?_) (λL=>?_)
     .have Q:=AZ q;have e1:lenOf (S.set r (.row true sz (g.set i (SD g[i] j Y)))) r=some g.length:=by simp[lenOf,Q]
      rw[e1]at wg;cases wg;exact⟨g.length,by simp[lenOf,q],br _,λ_=>.inl (by simp[C0,q];simp[Q])⟩
     .have Q:=AZ q;simp[Bb,Q]at R
     .simp only[OK,B];have hb:=FG g1;refine⟨_,U,GP hb,by rw[Ea];exact g2,by simpa using g3,by simpa using g4,λC vo=>?_⟩;have M:C<g.length:=by simpa using vo
      by_cases e:C=i
      .subst e;refine⟨z,by simpa using z1.later L,by omega,z3,λk h=>?_⟩;rw[EL _ _ _ _ (by simp;omega),z4 k,u4 k h |>.symm];simp only[x3];by_cases W:j<=k/\k<j+(a.eval y).cells.size
       .rw[ap (by omega),ap W];simp only[H1];congr 1;omega
       .rw[ao (by omega),ao W]
      .obtain⟨v',v1,v2,v3,v4⟩:=g5 C M;refine⟨v',by simpa[acs (le e)]using v1.later L,v2,v3,λk h=>?_⟩;rw[EL _ _ _ _ (by simp;omega),<-v4 k h,ao];simp only[x3];intro⟨W,h4⟩;rcases pu C i with h5|h5
       .have:(C+1) * sz<=i * sz:=wT _ h5;rw[nc]at this;omega
       .have:(i+1) * sz<=C * sz:=wT _ (by omega);rw[nc]at this;omega
  .exact s.elim
 .exact s.elim
end
abbrev Fr:=@List.foldl_cons
abbrev zd:=@List.getElem_cons_zero
abbrev i6:=@congrArg
abbrev adp:=@List.mapM_cons
abbrev kt:=@List.getElem_map
abbrev eo:=@List.mem_map
abbrev jw:=@Option.isSome_iff_exists
abbrev ac1:=@Array.mem_of_getElem?
abbrev acR:=@Array.toList_map
abbrev acK:=@Option.map_some
section
variable {P:b8} {n:Nat} {o:Oper} {tm:Tm} {S S':Sg} {v:V}
theorem Q1{G:Gh}{w:World}(R:Rel P G S w){T:ce}{e:V}{u:bn}(h:CV G S w e u)(s:(At e||Bw e)=true):
  ∃cv g q,(newVar T u).run P w=.ok cv g/\CV q (S++[.row true (Ai e).length [e]]) g (.ptr S.length 1 0 0) (.pointer (some cv))/\Rel P q (S++[.row true (Ai e).length [e]]) g/\Tr G S w q (S++[.row true (Ai e).length [e]]) g/\BL G S w q (S++[.row true (Ai e).length [e]]) g:=by
 have s:At e=true\/Bw e=true:=by simpa using s
 obtain⟨c1,t,H⟩:=h.cells s;obtain⟨r1,r2,z⟩:=R.add 1 (.row true (Ai e).length [e]) (.cells u.cells T (0,0)) (λL=>by
  have A:(G.at S.length w.heap.size 1 none).BB S.length=none:=by simp[Gh.at]
  have hb:(G.at S.length w.heap.size 1 none).B3 S.length=w.heap.size:=by simp[Gh.at]
  have B:(G.at S.length w.heap.size 1 none).cap S.length=(1,0):=by simp[Gh.at]
  simp only[OK,A,hb,B];refine⟨u.cells,T,D2,by omega,by simp,by simp[maxLen],λi hi=>?_⟩;have:i=0:=by simp at hi;exact hi
  subst this;refine⟨u,by simpa using h.later L,c1,λx C=>?_,λj hj=>by simp⟩;obtain⟨k,E,rfl⟩:=EQ.1 C;exact t k E)
 refine⟨⟨w.heap.size,0,none⟩,Bn w (.cells u.cells T (0,0)),_,by simp[newVar,newRow,Bn],?_,r1,r2,z⟩;refine .ptr _ _ _ _ _ rfl (by simp) λm F=>?_;have:m=1:=by simpa[lenOf]using F.symm
 subst this;refine⟨br _,λ_ sz J=>?_⟩;simp[Gh.addr,Gh.at]
def fj(S:Sg)(e:V):Sg:=S++[.row true (Ai e).length [e]]
theorem oI{T:ce}{x:Operand}(g:o.op=.box T x)(h:need (ev tm x))(i:(At (strip (ev tm x))||Bw (strip (ev tm x)))=true):
  Cf P n o tm S (.ptr S.length 1 0 0) (fj S (strip (ev tm x))):=.val λG w a st=>by
 have h1:=(BV st x).strip h;obtain⟨cv,j,k,m,q,s,t,u⟩:=Q1 st.rel (T:=T) h1 i;exact⟨.pointer (some cv),k,j,by simp[execOp,g,Instr.box,m],q,s,t,u⟩
theorem dM{T:ce}{t:TI}{z:bn}(g:o.op=.alloc T)(h:ti P T=some t)(i:t.zero=some z)(j:(At (OC z)||Bw (OC z))=true):
  Cf P n o tm S (.ptr S.length 1 0 0) (fj S (OC z)):=.val λG w a st=>by
 obtain⟨cv,k,m,q,s,u,A,B⟩:=Q1 st.rel (T:=T) (IJ G S w z) j;refine⟨.pointer (some cv),m,k,?_,s,u,A,B⟩;simp[execOp,g,Instr.alloc,EH h w i,q]
def MV(G:Gh)(S:Sg)(w:World)(g:List V)(u:Array bn):Prop:=
 u.size=g.length/\(∀i (h:i<u.size),one u[i]=true)/\∀i (h:i<g.length),∃x,u[i]?=some x/\CV G S w g[i] x
theorem CV.XC{G:Gh}{w:World}{e:V}{u:bn}(h:CV G S w e u)(g:At e=true\/Bw e=true):MV G S w (Ai e) u.cells:=h.cells g
theorem MV.agg{G:Gh}{w:World}{g:List V}{u:Array bn}(h:MV G S w g u):CV G S w (.agg g) (.agg u):=CV.Ov h.1 h.2.2 h.2.1
theorem MV.put{G:Gh}{w:World}{j ds:List V}{u y:Array bn}{k:Nat}(h:MV G S w j u)(A:MV G S w ds y)(E:k+ds.length<=j.length):
  MV G S w (j.take k++ds++j.drop (k+ds.length)) (DA u k y.toList):=by
 obtain⟨c1,B,C⟩:=h;obtain⟨d1,d2,d3⟩:=A;have g:(j.take k++ds++j.drop (k+ds.length)).length=j.length:=by simp;omega
 have z:∀i,(DA u k y.toList)[i]?=if k<=i/\i<k+y.size then y[i - k]? else u[i]?:=λi=>by
  rw[EL _ _ _ _ (by simp;omega)];simp
 refine⟨by rw[Ea,g,c1],λi hi=>?_,λi hi=>?_⟩
 .have h1:=z i;rw[i9 hi]at h1;rw[Ea]at hi;by_cases m:k<=i/\i<k+y.size
  .rw[ap m,i9 (by omega)]at h1;simp at h1;rw[h1];exact d2 _ _
  .rw[ao m,i9 hi]at h1;simp at h1;rw[h1];exact B _ _
 .rw[g]at hi;rw[z];by_cases m:k<=i/\i<k+y.size
  .rw[ap m];obtain⟨q,s,t⟩:=d3 (i - k) (by omega);refine⟨q,s,?_⟩;have:(j.take k++ds++j.drop (k+ds.length))[i]'(by rw[g];exact hi)=ds[i - k]'(by omega):=by
    rw[lg (by simp;omega),rg (by simp;omega)];congr 1;simp;omega
   rw[this];exact t
  .rw[ao m];obtain⟨q,s,t⟩:=C i hi;refine⟨q,s,?_⟩;have:(j.take k++ds++j.drop (k+ds.length))[i]'(by rw[g];exact hi)=j[i]:=by
    by_cases F:i<k
    .rw[lg (by simp;omega),lg (by simp;omega)];simp
    .rw[rg (by simp;omega)];simp[List.getElem_drop];congr 1;omega
   rw[this];exact t
theorem RA(vs:List bn):∀(m k:Nat) (c:Array bn),((vs.zipIdx m).foldl (λg (p:bn×Nat)=>g.setIfInBounds (k+p.2) p.1) c)=DA c (k+m) vs:=by
 induction vs with
 |nil=>intro m k c;rfl
 |cons v vs h=>intro m k c;simp[List.zipIdx_cons,DA];rw[h];rfl
def RQ(place:Nat->Option (Nat×Nat)):List V->List (Nat×V)->List V
 |g,[]=>g
 |g,(i,x)::rest=>
  match place i with
  |some (off,size)=>RQ place (g.take off++Ai x++g.drop (off+size)) rest
  |none=>g
def KO(place:Nat->Option (Nat×Nat))(len:Nat):List (Nat×V)->Prop
 |[]=>True
 |(i,x)::rest=>
  match place i with
  |some (off,size)=>(Ai x).length=size/\off+size<=len/\(At x||Bw x)=true/\KO place len rest
  |none=>False
theorem j7{G:Gh}{w:World}{place:Nat->Option (Nat×Nat)}(parts:List (Nat×V)):∀(g:List (Nat×bn)) (j:List V) (u:Array bn),MV G S w j u->parts.length=g.length->(∀i (h:i<parts.length) (Q:i<g.length),parts[i].1=g[i].1/\CV G S w parts[i].2 g[i].2)->KO place j.length parts->∃s,Instr.fill place u g=some s/\MV G S w (RQ place j parts) s:=by
 induction parts with
 |nil=>
  intro g j u h t _ _;cases g with
  |nil=>exact⟨u,rfl,h⟩
  |cons=>simp at t
 |cons p parts H=>
  intro g j u h t B m;cases g with
  |nil=>simp at t
  |cons q g=>
   obtain⟨i,x⟩:=p;obtain⟨R,y⟩:=q;have h0:=B 0 (by simp) (by simp);simp at h0;obtain⟨rfl,A⟩:=h0;simp[KO]at m;simp only[Instr.fill,RQ];cases C:place i with
   |none=>rw[C]at m;exact m.elim
   |some os=>
    obtain⟨off,size⟩:=os;rw[C]at m;obtain⟨p1,p2,J,K⟩:=m;have E:=A.XC (by simpa using J);have T:y.cells.size=size:=by rw[E.1,p1]
    have U:u.size=j.length:=h.1;simp only[];rw[ao (by simp;omega)];have L:(y.cells.zipIdx.foldl (λj (p:bn×Nat)=>j.setIfInBounds (off+p.2) p.1) u)=DA u off y.cells.toList:=by
     rw[<-Array.foldl_toList,Array.toList_zipIdx,RA];rfl
    have F:=h.put E (k:=off) (by omega);rw[p1]at F;have:=H g _ _ F (by simpa using t) (λk h1 W=>by have:=B (k+1) (by simp;omega) (by simp;omega);simpa using this)
     (by
      have e:(j.take off++Ai x++j.drop (off+size)).length=j.length:=by simp;omega
      rw[e];exact K)
    obtain⟨s,M,N⟩:=this;exact⟨s,by rw[<-M];exact i6 (λz=>Instr.fill place z g) L,N⟩
def dy(P:b8)(T:ce):Option Nat:=
 match ti P T with
 |some t=>match t.kind with
  |.array _ e=>(ti P e).map (·.size)
  |_=>none
 |none=>none
def placeOf(P:b8)(T:ce)(i:Nat):Option (Nat×Nat):=
 match dy P T with
 |some s=>some (i * s,s)
 |none=>match AQ P T i with
  |some (off,U)=>match ti P U with
   |some u=>some (off,u.size)
   |none=>none
  |none=>none
def BD(P:b8)(T:ce):Bool:=
 match ti P T with
 |some t=>match t.kind with
  |.struct g=>g.all λf=>(ti P f.2).isSome
  |.array _ e=>(ti P e).isSome
  |_=>false
 |none=>false
theorem Uo{w:World}(fs:List Field)(h:∀f∈fs,∃u,ti P f.type=some u):
  (fs.mapM (m:=Sem) λf=>do pure (f.offset,<-sizeOf f.type)).run P w=.ok (fs.map λf=>(f.offset,((ti P f.type).map (·.size)).getD 0)) w:=by
 induction fs with
 |nil=>simp
 |cons f fs j=>
  obtain⟨u,i⟩:=h f (by simp);have k:=j (λg q=>h g (by simp[q]));simp only[adp,gI,Bi i,ge,l6,k];simp[i]
theorem bg{T:ce}{parts:Array (Nat×Operand)}{t:TI}{z:bn}(F:o.op=.build T parts)(k:ti P T=some t)(H:t.zero=some z)(h:BD P T=true)
  (C:At (OC z)=true) (hn:∀p∈parts.toList,need (ev tm p.2))
  (M:KO (placeOf P T) (Ai (OC z)).length (parts.toList.map λp=>(p.1,strip (ev tm p.2)))):
  Cf P n o tm S (.agg (RQ (placeOf P T) (Ai (OC z)) (parts.toList.map λp=>(p.1,strip (ev tm p.2))))) S:=.pure λG w a st=>by
 have E:=(IJ G S w z).XC (.inl C);obtain⟨N,J,Q⟩:=j7 (S:=S) (G:=G) (w:=w) (place:=placeOf P T) (parts.toList.map λp=>(p.1,strip (ev tm p.2))) (parts.toList.map λp=>(p.1,a.eval p.2)) _ _ E (by simp)
  (λi h1 W=>by
   simp[true_and];exact(BV st _).strip (hn _ (by simp)))
  M
 refine⟨.agg N,?_,Q.agg⟩;unfold BD at h;rw[k]at h;simp[]at h;obtain⟨d,K,j⟩:=An k w;cases s:t.kind with
 |struct X=>
  rw[s]at h j;cases d with
  |struct q=>
   simp[tk,TK.struct.injEq]at j;subst j;have L:∀f∈q.toList,∃u,ti P f.type=some u:=λf R=>by
    have:=cl.1 h (f.offset,f.type) (by simp only[eo];exact⟨f,R,rfl⟩);exact jw.1 this
   have A:(q.mapM (m:=Sem) λf=>do pure (f.offset,<-sizeOf f.type)).run P w=.ok (q.map λf=>(f.offset,((ti P f.type).map (·.size)).getD 0)) w:=by
    rw[Array.mapM_eq_mapM_toList];have:=Uo (P:=P) (w:=w) q.toList L;simp only[Sem.run_map,this,ge];congr 1;apply ad5;simp
   have g:(λi=>(q.map λf=>(f.offset,((ti P f.type).map (·.size)).getD 0))[i]?)=placeOf P T:=by
    funext i;simp only[placeOf,dy,AQ,k,s];simp only[Array.getElem?_map,xi,H1];cases U:q[i]? with
    |none=>rfl
    |some f=>
     obtain⟨u,B⟩:=L f (by
      have:=ac1 U;simpa using this)
     simp[B]
   simp only[execOp,F,Instr.build,gI,EH k w H,ge,K,A];rw[g];simp only[acR,J];simp
  |_=>simp[tk]at j
 |array m e=>
  rw[s]at h j;cases d with
  |array Y Z=>
   simp[tk,TK.array.injEq]at j;obtain⟨rfl,rfl⟩:=j;obtain⟨u,B⟩:=jw.1 h;have g:(λi=>some (i * u.size,u.size))=placeOf P T:=by
    funext i;simp[placeOf,dy,k,s,B]
   simp[execOp,F,Instr.build,EH k w H,K,Bi B];rw[g];simp only[J];simp
  |_=>simp[tk]at j
 |_=>rw[s]at h;cases h
end
abbrev Hs:=@List.getElem_cons_succ
abbrev li:=@List.length_map
abbrev tg:=@Array.getElem_toList
section
variable {P:b8} {n:Nat} {o:Oper} {tm:Tm} {S S':Sg} {v:V}
def CF(S:Sg):V->Option D
 |.d d=>some d
 |.full g=>some (.sl g)
 |.row r m=>match S[r]? with
  |some (.BY g)=>if g.length=m then some (.sl g)else none
  |_=>none
 |_=>none
def Dx(S:Sg):List V->Option (List D)
 |[]=>some []
 |x::g=>match CF S x,Dx S g with
  |some d,some ds=>some (d::ds)
  |_,_=>none
def LF(S:Sg):V->Option D
 |.agg g=>(Dx S g).map .agg
 |v=>CF S v
def Kx(S:Sg):List V->Option (List D)
 |[]=>some []
 |x::g=>match LF S x,Kx S g with
  |some d,some ds=>some (d::ds)
  |_,_=>none
def Ba(S:Sg):V->Option D
 |.agg g=>(Dx S g).map .agg
 |.Cb g=>(Kx S g).map .Cb
 |v=>CF S v
theorem Zv{xs:List V}:∀{ds:List D},Kx S xs=some ds->ds.length=xs.length/\∀i (h:i<xs.length) (t:i<ds.length),LF S xs[i]=some ds[i]:=by
 induction xs with
 |nil=>intro ds h;simp[Kx]at h;subst h;exact⟨rfl,λi h=>by simp at h⟩
 |cons x xs g=>
  intro ds h;simp[Kx]at h;split at h
  .rename_i d j h1 k;cases h;obtain⟨m,q⟩:=g k;refine⟨by simp[m],λi hi s=>?_⟩;cases i with
   |zero=>simpa using h1
   |succ i=>simpa using q i (by simpa using hi) (by simpa using s)
  .cases h
theorem TU{xs:List V}:∀{ds:List D},Dx S xs=some ds->ds.length=xs.length/\∀i (h:i<xs.length) (t:i<ds.length),CF S xs[i]=some ds[i]:=by
 induction xs with
 |nil=>intro ds h;simp[Dx]at h;subst h;exact⟨rfl,λi h=>by simp at h⟩
 |cons x xs g=>
  intro ds h;simp[Dx]at h;split at h
  .rename_i d j h1 k;cases h;obtain⟨m,q⟩:=g k;refine⟨by simp[m],λi hi s=>?_⟩;cases i with
   |zero=>simpa using h1
   |succ i=>simpa using q i (by simpa using hi) (by simpa using s)
  .cases h
theorem CV.CF{G:Gh}{w:World}(R:Rel P G S w){x:V}{d:D}{v:bn}(h:CV G S w x v)(g:CF S x=some d):CD G.I w d v:=by
 cases h with
 |d q v h=>simp[Koi.CF]at g;subst g;exact h
 |full k a h=>simp[Koi.CF]at g;subst g;exact h
 |row r m v s t h=>
  simp[Koi.CF]at g;split at g
  .rename_i k i;split at g
   .rename_i j;simp at g;subst g;have:=R.DG r _ i;simp[OK]at this;rw[(h m (by simp[lenOf,i,j])).2 rfl,<-j];exact this
   .cases g
  .cases g
 |_=>simp[Koi.CF]at g
theorem CV.LF{G:Gh}{w:World}(R:Rel P G S w){x:V}{d:D}{v:bn}(h:CV G S w x v)(g:LF S x=some d):CD G.I w d v:=by
 cases h with
 |agg u z A h j=>
  simp[Koi.LF]at g;obtain⟨ds,h1,rfl⟩:=g;obtain⟨B,k⟩:=TU h1;exact .agg _ _ (by omega) (λi hi=>(h i (by omega)).CF R (k i (by omega) hi)) j
 |d q v h=>exact(CV.d q v h).CF R g
 |full s a h=>exact(CV.full s a h).CF R g
 |row r m v j t h=>exact(CV.row r m v j t h).CF R g
 |_=>simp[Koi.LF,Koi.CF]at g
theorem CV.Ba{G:Gh}{w:World}(R:Rel P G S w){x:V}{d:D}{v:bn}(h:CV G S w x v)(g:Ba S x=some d):CD G.I w d v:=by
 cases h with
 |agg q s t h j=>
  simp[Koi.Ba]at g;obtain⟨ds,h1,rfl⟩:=g;obtain⟨u,k⟩:=TU h1;exact .agg _ _ (by omega) (λi hi=>(h i (by omega)).CF R (k i (by omega) hi)) j
 |Cb q s t h=>
  simp[Koi.Ba]at g;obtain⟨ds,h1,rfl⟩:=g;obtain⟨u,k⟩:=Zv h1;exact .Cb _ _ (by omega) (λi hi=>(h i (by omega)).LF R (k i (by omega) hi))
 |d z v h=>exact(CV.d z v h).CF R g
 |full A a h=>exact(CV.full A a h).CF R g
 |row r m v j B h=>exact(CV.row r m v j B h).CF R g
 |_=>simp[Koi.Ba,Koi.CF]at g
def Jb(S:Sg):Nat->List (Nat×V)->Option (List D)
 |_,[]=>some []
 |k,(i,x)::rest=>if i=k then match Ba S x,Jb S (k+1) rest with
   |some d,some ds=>some (d::ds)
   |_,_=>none
  else none
theorem Wg(g:List (Nat×V)):∀(k:Nat) (ds:List D),Jb S k g=some ds->ds.length=g.length/\∀i (h:i<g.length) (z:i<ds.length),g[i].1=k+i/\Ba S g[i].2=some ds[i]:=by
 induction g with
 |nil=>intro k ds h;simp[Jb]at h;subst h;exact⟨rfl,λi h=>by simp at h⟩
 |cons p g m=>
  intro k ds h;obtain⟨A,x⟩:=p;simp only[Jb]at h;split at h
  .rename_i j;split at h
   .rename_i d q h1 s;cases h;obtain⟨t,u⟩:=m _ _ s;refine⟨by simp[t],λi hi w=>?_⟩;cases i with
    |zero=>exact⟨by simpa using j,by simpa using h1⟩
    |succ i=>
     obtain⟨a,b⟩:=u i (by simpa using hi) (by simpa using w);exact⟨by simp;omega,by simpa using b⟩
   .cases h
  .cases h
def FD(size:Nat):List (Nat×V)->Prop
 |[]=>True
 |(_,x)::rest=>(Ai x).length=size/\(At x||Bw x)=true/\FD size rest
theorem Jg{size:Nat}:∀(g:List (Nat×V)),FD size g->∀i (h:i<g.length),(Ai g[i].2).length=size/\(At g[i].2||Bw g[i].2)=true
 |(_,x)::rest,h,0,_=>⟨h.1,h.2.1⟩
 |(_,x)::rest,h,i+1,hi=>by simpa using Jg rest h.2.2 i (by simpa using hi)
theorem RE{size len:Nat}(g:List (Nat×bn)):∀(k:Nat) (u:Array bn),u.size=len * size->k+g.length<=len->(∀i (h:i<g.length),g[i].1=k+i/\g[i].2.cells.size=size)->∃s,Instr.fill (λi=>some (i * size,size)) u g=some s/\s.size=u.size/\(∀i (h:i<g.length) j,j<size->s[(k+i) * size+j]?=g[i].2.cells[j]?)/\(∀m,m<k * size->s[m]?=u[m]?):=by
 induction g with
 |nil=>intro k u t w _;exact⟨u,rfl,rfl,λi h=>by simp at h,λm _=>rfl⟩
 |cons p g C=>
  intro k u t w A;obtain⟨q,y⟩:=p;have h0:=A 0 (by simp);simp at h0;obtain⟨rfl,K⟩:=h0;simp at w;have L:q * size+size<=u.size:=by
   have:(q+1) * size<=len * size:=wT _ (by omega);rw[nc]at this;omega
  simp only[Instr.fill];rw[ao (by simp;omega)];have E:(y.cells.zipIdx.foldl (λF (p:bn×Nat)=>F.setIfInBounds (q * size+p.2) p.1) u)=DA u (q * size) y.cells.toList:=by
   rw[<-Array.foldl_toList,Array.toList_zipIdx,RA];rfl
  obtain⟨s,G,H,J,B⟩:=C (q+1) (DA u (q * size) y.cells.toList) (by rw[Ea];exact t) (by omega) (λi hi=>by
   have:=A (i+1) (by simp;omega);simp at this;exact⟨by omega,this.2⟩)
  refine⟨s,by rw[<-G];exact i6 (λz=>Instr.fill _ z g) E,by rw[H,Ea],λi hi j hj=>?_,λm M=>?_⟩
  .cases i with
   |zero=>
    simp;rw[B _ (by rw[nc];omega),EL _ _ _ _ (by simp;omega),ap (by simp;omega)];simp
   |succ i=>
    have:=J i (by simpa using hi) j hj;simp;rw[<-this,show q+(i+1)=q+1+i from by omega]
  .rw[B m (by rw[nc];omega),EL _ _ _ _ (by simp;omega),ao (by omega)]
theorem QY{T E:ce}{len:Nat}{parts:Array (Nat×Operand)}{t e:TI}{z:bn}{ds:List D}(N:o.op=.buildSlice T len parts)(Q:ti P T=some t)(A:t.kind=.slice E)
  (K:ti P E=some e) (R:e.zero=some z) (hn:∀p∈parts.toList,need (ev tm p.2)) (s:parts.size=len)
  (U:Jb S 0 (parts.toList.map λp=>(p.1,strip (ev tm p.2)))=some ds) (hs:FD e.size (parts.toList.map λp=>(p.1,strip (ev tm p.2))))
  (hm:len * e.size<=2 ^ 24) (W:len<=maxLen):Cf P n o tm S (.full ds) S:=.val λG w a st=>by
 obtain⟨d,X,B⟩:=An Q w;have C:d=.slice E:=by rw[A]at B;cases d<;>simp[tk]at B⊢;exact B
 subst C;obtain⟨l1,l2⟩:=Wg _ _ _ U;simp only[li,x3]at l1 l2;have L:∀i (h:i<parts.size),CV G S w (strip (ev tm parts[i].2)) (a.eval parts[i].2):=λi hi=>(BV st _).strip (hn _ (by simp));have M:∀i (h:i<parts.size),(a.eval parts[i].2).cells.size=e.size/\∀x∈(a.eval parts[i].2).cells,one x=true:=λi hi=>by
  have:=Jg _ hs i (by simpa using hi);simp only[kt,tg]at this;obtain⟨c1,Y,_⟩:=(L i hi).cells (by simpa using this.2);refine⟨by omega,λx Z=>?_⟩;obtain⟨k,A,rfl⟩:=EQ.1 Z;exact Y k A
 let q:Array bn:=if len * e.size=0 then #[]else z.cells;let base:Array bn:=(Array.range (len * e.size)).map (q[·% q.size]!);obtain⟨F,u,e2,e3,_⟩:=RE (size:=e.size) (len:=len) (parts.toList.map λp=>(p.1,a.eval p.2)) 0 base (by simp[base]) (by simp[s]) (λi hi=>by
  have g:i<parts.size:=by simpa using hi
  simp only[kt,tg];have:=(l2 i g (by omega)).1;simp only[kt,tg]at this;exact⟨this,(M i g).1⟩)
 obtain⟨r1,r2,H⟩:=st.rel.ni (.cells F E (0,0));refine⟨.slice (some ⟨w.heap.size,0,none⟩) len len,G.Y9 w.heap.size,Bn w (.cells F E (0,0)),?_,?_,r1,r2,H⟩
 .simp only[execOp,N,Instr.buildSlice,gI,X,ge,Bi K];rw[ao (by omega)];simp only[base]at u;by_cases h0:len * e.size=0
  .have m:q=#[]:=by simp[q,h0]
   rw[m]at u;simp only[ap h0,gI,l6,ge,acR,u];simp[newRow,Bn]
  .have m:q=z.cells:=by simp[q,h0]
   rw[m]at u;simp only[ao h0,gI,EH K w R,l6,ge,acR,u];simp[newRow,Bn]
 .have xa:CD (G.Y9 w.heap.size).I (Bn w (.cells F E (0,0))) (.sl ds) (.slice (some ⟨w.heap.size,0,none⟩) ds.length ds.length):=by
   refine .sl e.size ds w.heap.size 0 ds.length (λi=>a.eval (parts.getD i (0,.const undef)).2) (.inr rfl) (by omega) (br _) (λi hi=>?_) (λi hi=>?_)
   .have g:i<parts.size:=by omega
    have J:parts.getD i (0,.const undef)=parts[i]:=by simp[g]
    rw[J];have:=(l2 i g hi).2;simp only[kt,tg]at this;exact((L i g).Ba st.rel this).mono H.I H.Dz
   .have g:i<parts.size:=by omega
    have J:parts.getD i (0,.const undef)=parts[i]:=by simp[g]
    rw[J];refine⟨(M i g).1,λj hj=>?_⟩;rw[cell_of D2];have:=e3 i (by simpa using g) j hj;simpa using this
  have yh:len=ds.length:=by omega
  rw[yh];exact .full _ _ xa
end
def mj(c x y:V):V:=match c with|.d (.bool b)=>Xz b x y|_=>.any
def eA(c x y:V):Prop:=match c with|.d (.bool b)=>OS b x y|_=>False
def OX(P:b8)(T:ce):Bool:=match ti P T with|some t=>(match t.kind with|.bool=>true|_=>false)|none=>false
def My(P:b8)(T:ce):Bool:=match ti P T with|some t=>(match t.kind with|.str=>true|_=>false)|none=>false
def As(P:b8)(T:ce):Option ce:=match ti P T with|some t=>(match t.kind with|.slice e=>some e|_=>none)|none=>none
def intKind(P:b8)(T:ce):Option IntKind:=match ti P T with|some t=>(match t.kind with|.int k=>some k|_=>none)|none=>none
def Aq(P:b8)(T:ce):Option Nat:=(ti P T).map (·.size)
def BI(P:b8)(T:ce):Bool:=match ti P T with|some t=>t.agg|none=>false
def Ax(P:b8)(T:ce):Option V:=match ti P T with|some t=>t.zero.map OC|none=>none
def rO(x y:V)(op:BinOp):V:=
 match x,y with
 |.d (.int k a),.d (.int _ b)=>arith op k a b
 |.d (.bool a),.d (.bool b)=>match op with|.eql=>.d (.bool ((a==b)!=false))|.neq=>.d (.bool ((a==b)!=true))|_=>.any
 |.d (.str a),.d (.str b)=>ln op (.d (.str a)) (.d (.str b))
 |_,_=>.any
def pg(P:b8)(T:ce)(x y:V)(op:BinOp):Prop:=
 match x,y with
 |.d (.int k _),.d (.int g b)=>Lf op k g/\KD op b
 |.d (.bool _),.d (.bool _)=>OX P T=true/\(match op with|.eql|.neq=>True|_=>False)
 |.d (.str a),.d (.str b)=>Sj op (.d (.str a)) (.d (.str b))
 |_,_=>False
def r9(x:V):V:=match x with|.d (.bool b)=>.d (.bool !b)|_=>.any
def ow(x:V):Prop:=match x with|.d (.bool _)=>True|_=>False
def gA(P:b8)(U:ce)(x:V):V:=
 match x with
 |.d (.int _ i)=>match intKind P U with|some k=>.d (.int k (k.wrap i))|none=>.any
 |_=>.any
def iI(P:b8)(T U:ce)(x:V):Prop:=
 match x with
 |.d (.int _ _)=>(Aq P T).isSome=true/\(intKind P U).isSome=true
 |_=>False
def Kt(agg:Bool)(size:Nat)(S:Sg)(p:V):V:=
 match p with
 |.ptr r m i j=>Pk agg size (YQ S (.ptr r m i j)) j
 |.DX g=>TB agg size g
 |_=>.any
def Nl(agg:Bool)(size:Nat)(S:Sg)(p:V):Prop:=
 (agg||size==1)=true/\match p with
 |.ptr r m i j=>JA S (.ptr r m i j) λ_ _ _ j sz _=>j+size<=sz
 |.DX g=>size<=g.length
 |_=>False
def HS(x:V):Int:=match x with|.d (.int _ i)=>i|_=>0
def HX(x:V):Prop:=match x with|.d (.int _ _)=>True|_=>False
def ry(x:V)(k:Nat):V:=match x with|.Cb g=>g.getD k .any|.d (.Cb g)=>.d (g.getD k (.bool false))|_=>.any
def pa(x:V)(k:Nat):Prop:=match x with|.Cb g=>k<g.length|.d (.Cb g)=>k<g.length|_=>False
def bY(S:Sg)(x:V):Prop:=match x with|.ptr r m i j=>GU S (.ptr r m i j)|.DX _=>True|_=>False
def oZ(x:V):V:=
 match x with
 |.d (.sl g)=>.d (.int .i64 g.length)
 |.full g=>.d (.int .i64 g.length)
 |.row _ m=>.d (.int .i64 m)
 |.d (.str s)=>.d (.int .i64 s.size)
 |_=>.any
def oX(P:b8)(T:ce)(S:Sg)(x:V):Prop:=
 match x with
 |.d (.sl _)=>(As P T).isSome=true
 |.full _=>(As P T).isSome=true
 |.row r m=>lenOf S r=some m/\(As P T).isSome=true
 |.d (.str _)=>My P T=true
 |_=>False
def mo(x:Option (List D)):V:=match x with|some ds=>.full ds|none=>.any
def Cv(tm:Tm)(g:Array (Nat×Operand)):List (Nat×V):=g.toList.map λp=>(p.1,strip (ev tm p.2))
def JD(tm:Tm):List (Nat×Operand)->Prop
 |[]=>True
 |p::g=>need (ev tm p.2)/\JD tm g
theorem I8{tm:Tm}:∀{g:List (Nat×Operand)},JD tm g->∀p∈g,need (ev tm p.2)
 |p::g,h,q,i=>by
  cases i with
  |head=>exact h.1
  |tail _ i=>exact I8 h.2 q i
def ES(c:Call):Operand:=c.args.toList.headD (.const undef)
def N5(c:Call):ce:=c.argTypes.toList.headD 0
def HO(P:b8)(op:Op)(tm:Tm)(S:Sg):V:=
 match op with
 |.move x=>ev tm x
 |.assign x=>ev tm x
 |.pick c x y=>mj (strip (ev tm c)) (ev tm x) (ev tm y)
 |.binOp b _ x y _=>rO (strip (ev tm x)) (strip (ev tm y)) b
 |.unOp .not _ x=>r9 (strip (ev tm x))
 |.convert _ U x=>gA P U (strip (ev tm x))
 |.load T x=>Kt (BI P T) ((Aq P T).getD 0) S (strip (ev tm x))
 |.fieldAddr T x f=>sD (((AQ P T f).map (·.1)).getD 0) (strip (ev tm x))
 |.field T x f=>Pk (((AQ P T f).map λp=>BI P p.2).getD false) (((AQ P T f).map λp=>(Aq P p.2).getD 0).getD 0) (strip (ev tm x)) (((AQ P T f).map (·.1)).getD 0)
 |.indexAddr _ x y=>rX (strip (ev tm x)) (HS (strip (ev tm y))).toNat
 |.extract x k=>ry (strip (ev tm x)) k
 |.nilCheck x=>strip (ev tm x)
 |.build T g=>.agg (RQ (placeOf P T) (Ai ((Ax P T).getD .any)) (Cv tm g))
 |.buildSlice _ _ g=>mo (Jb S 0 (Cv tm g))
 |.makeFunc f as h=>.fn f (as.toList.map (ev tm)) (h.toList.map (ev tm))
 |.call c=>match c.callee with
  |.builtin .len=>oZ (strip (ev tm (ES c)))
  |_=>.any
 |_=>.any
def Hi(P:b8)(op:Op)(tm:Tm)(S:Sg):Prop:=
 match op with
 |.move _=>True
 |.assign _=>True
 |.pick c x y=>need (ev tm c)/\eA (strip (ev tm c)) (ev tm x) (ev tm y)
 |.binOp b T x y _=>need (ev tm x)/\need (ev tm y)/\pg P T (strip (ev tm x)) (strip (ev tm y)) b
 |.unOp .not _ x=>need (ev tm x)/\ow (strip (ev tm x))
 |.convert T U x=>need (ev tm x)/\iI P T U (strip (ev tm x))
 |.load T x=>need (ev tm x)/\(Aq P T).isSome=true/\Nl (BI P T) ((Aq P T).getD 0) S (strip (ev tm x))
 |.fieldAddr T x f=>need (ev tm x)/\(match AQ P T f with|some p=>(match Aq P p.2 with|some s=>s≠0|none=>False)|none=>False)/\GU S (strip (ev tm x))
 |.field T x f=>need (ev tm x)/\At (strip (ev tm x))=true/\(match AQ P T f with|some p=>(match Aq P p.2 with|some s=>p.1+s<=(Ai (strip (ev tm x))).length/\(BI P p.2||s==1)=true|none=>False)|none=>False)
 |.indexAddr T x y=>need (ev tm x)/\need (ev tm y)/\HX (strip (ev tm y))/\(match As P T with|some E=>(match Aq P E with|some s=>CZ S (strip (ev tm x)) (HS (strip (ev tm y))) s|none=>False)|none=>False)
 |.extract x k=>need (ev tm x)/\pa (strip (ev tm x)) k
 |.nilCheck x=>need (ev tm x)/\bY S (strip (ev tm x))
 |.build T g=>JD tm g.toList/\BD P T=true/\(match Ax P T with|some z=>At z=true/\KO (placeOf P T) (Ai z).length (Cv tm g)|none=>False)
 |.buildSlice T len g=>JD tm g.toList/\g.size=len/\(Jb S 0 (Cv tm g)).isSome=true/\(match As P T with|some E=>(match Aq P E with|some s=>(Ax P E).isSome=true/\FD s (Cv tm g)/\len * s<=2 ^ 24/\len<=maxLen|none=>False)|none=>False)
 |.makeFunc ..=>True
 |.call c=>match c.callee with
  |.builtin .len=>c.args=#[ES c]/\c.argTypes=#[N5 c]/\need (ev tm (ES c))/\oX P (N5 c) S (strip (ev tm (ES c)))
  |_=>False
 |_=>False
theorem CM{P:b8}{T:ce}{s:Nat}(h:Aq P T=some s):∃t,ti P T=some t/\t.size=s/\BI P T=t.agg:=by
 simp[Aq]at h;obtain⟨t,h1,g⟩:=h;exact⟨t,h1,g,by simp[BI,h1]⟩
theorem BJ{P:b8}{T E:ce}(h:As P T=some E):∃t,ti P T=some t/\t.kind=.slice E:=by
 unfold As at h;split at h
 .rename_i t g;split at h
  .rename_i e i;cases h;exact⟨t,g,i⟩
  .cases h
 .cases h
theorem I1{P:b8}{T:ce}{k:IntKind}(h:intKind P T=some k):∃t,ti P T=some t/\t.kind=.int k:=by
 unfold intKind at h;split at h
 .rename_i t g;split at h
  .rename_i e i;cases h;exact⟨t,g,i⟩
  .cases h
 .cases h
theorem SC{P:b8}{T:ce}(h:OX P T=true):∃t,ti P T=some t/\t.kind=.bool:=by
 unfold OX at h;split at h
 .rename_i t g;split at h
  .rename_i i;exact⟨t,g,i⟩
  .cases h
 .cases h
theorem Jz{P:b8}{T:ce}(h:My P T=true):∃t,ti P T=some t/\t.kind=.str:=by
 unfold My at h;split at h
 .rename_i t g;split at h
  .rename_i i;exact⟨t,g,i⟩
  .cases h
 .cases h
theorem Eo{P:b8}{T:ce}{z:V}(h:Ax P T=some z):∃t u,ti P T=some t/\t.zero=some u/\OC u=z:=by
 unfold Ax at h;split at h
 .rename_i t g;simp at h;obtain⟨u,h1,i⟩:=h;exact⟨t,u,g,h1,i⟩
 .cases h
abbrev ut:=@Option.getD_some
section
variable {P:b8} {n:Nat} {o:Oper} {tm:Tm} {S S':Sg} {v:V}
theorem pv(h:Hi P o.op tm S):Cf P n o tm S (HO P o.op tm S) S:=by
 generalize C:o.op=op at h;cases op<;>simp[Hi]at h<;>simp[HO];case move x=>exact kT C
 case assign x=>exact Yj C
 case pick c x y=>
  obtain⟨h1,g⟩:=h;unfold eA at g;split at g
  .rename_i b hb;rw[hb];exact lB C hb h1 g
  .exact g.elim
 case build T Y=>
  obtain⟨h1,g,A⟩:=h;split at A
  .rename_i z Q;obtain⟨t,u,F,G,L⟩:=Eo Q;subst L;rw[Q];exact bg C F G g A.1 (I8 h1) A.2
  .exact A.elim
 case buildSlice T len Y=>
  obtain⟨h1,g,A,B⟩:=h;split at B
  .rename_i E K;split at B
   .rename_i s H;obtain⟨B,W,Z,h7⟩:=B;obtain⟨ds,M⟩:=jw.1 A;obtain⟨t,F,G⟩:=BJ K;obtain⟨e,f1,f2,_⟩:=CM H;obtain⟨z,Q⟩:=jw.1 B;obtain⟨t',u,X,g2,g3⟩:=Eo Q;rw[f1]at X;cases X;rw[M];subst f2;exact QY C F G f1 g2 (I8 h1) g M W Z h7
   .exact B.elim
  .exact B.elim
 case load T x=>
  obtain⟨h1,g,A,B⟩:=h;obtain⟨s,H⟩:=jw.1 g;obtain⟨t,F,G,L⟩:=CM H;rw[H]at A B⊢;rw[L]at A⊢;simp at A B⊢;subst G;have ha:t.agg=true\/t.size=1:=by simpa using A
  split at B
  .rename_i r m i j w;rw[w];have:=mG (P:=P) (n:=n) (S:=S) C h1 F ha (by rw[w];exact B);rw[w]at this;exact this
  .rename_i cs w;rw[w];exact ia C h1 w F ha B
  .exact B.elim
 case nilCheck x=>
  obtain⟨h1,g⟩:=h;unfold bY at g;split at g
  .rename_i r m i j w;rw[w];exact TZ C h1 w g
  .rename_i cs w;rw[w];exact Sp C h1 w
  .exact g.elim
 case binOp b T x y U=>
  obtain⟨h1,g,A⟩:=h;unfold pg at A;split at A
  .rename_i k i k' j w J;obtain⟨B,A⟩:=A;rw[w,J];exact pZ C h1 g w J B A
  .rename_i p q w J;obtain⟨A,B⟩:=A;obtain⟨t,F,G⟩:=SC A;rw[w,J];split at B
   .exact Q7 (neg:=false) C h1 g w J F G
   .exact Q7 (neg:=true) C h1 g w J F G
   .exact B.elim
  .rename_i p q w J;rw[w,J];exact oN C h1 g w J A
  .exact A.elim
 case unOp b T x=>
  cases b<;>simp only at h⊢;case not=>
   obtain⟨h1,g⟩:=h;unfold ow at g;split at g
   .rename_i p w;rw[w];exact oP C h1 w
   .exact g.elim
 case convert T U x=>
  obtain⟨h1,g⟩:=h;unfold iI at g;split at g
  .rename_i k i w;obtain⟨g,A⟩:=g;obtain⟨s,H⟩:=jw.1 g;obtain⟨t,F,_,_⟩:=CM H;obtain⟨j,hj⟩:=jw.1 A;obtain⟨u,f1,f2⟩:=I1 hj;rw[w];simp[gA,hj];exact WV C h1 w F f1 f2
  .exact g.elim
 case makeFunc f as bs=>exact Tx C
 case fieldAddr T x f=>
  obtain⟨h1,g,A⟩:=h;split at g
  .rename_i p N;split at g
   .rename_i s H;obtain⟨t,F,G,_⟩:=CM H;rw[N];exact Rq C h1 N F (by omega) A
   .exact g.elim
  .exact g.elim
 case field T x f=>
  obtain⟨h1,g,A⟩:=h;split at A
  .rename_i p N;split at A
   .rename_i s H;obtain⟨t,F,G,L⟩:=CM H;obtain⟨A,B⟩:=A;rw[N];simp[H,L];subst G;rw[L]at B;exact dg C h1 N F g A (by simpa using B)
   .exact A.elim
  .exact A.elim
 case indexAddr T x y=>
  obtain⟨h1,g,A,B⟩:=h;split at B
  .rename_i E K;split at B
   .rename_i s H;obtain⟨t,F,G⟩:=BJ K;obtain⟨e,f1,f2,_⟩:=CM H;unfold HX at A;split at A
    .rename_i k i J;rw[J]at B⊢;simp[HS]at B⊢;subst f2;exact Rc C h1 g F G f1 J B
    .exact A.elim
   .exact B.elim
  .exact B.elim
 case extract x k=>
  obtain⟨h1,g⟩:=h;unfold pa at g;split at g
  .rename_i vs w;rw[w];exact V7 C h1 w g
  .rename_i vs w;rw[w];exact UL C h1 w g
  .exact g.elim
 case call c=>
  split at h
  .rename_i R;obtain⟨h1,g,A,B⟩:=h;unfold oX at B;split at B
   .rename_i xs w;obtain⟨E,K⟩:=jw.1 B;obtain⟨t,F,G⟩:=BJ K;rw[w];exact ZL C R h1 g A w F G
   .rename_i xs w;obtain⟨E,K⟩:=jw.1 B;obtain⟨t,F,G⟩:=BJ K;rw[w];exact Tn C R h1 g A w F G
   .rename_i r m w;obtain⟨B,W⟩:=B;obtain⟨E,K⟩:=jw.1 W;obtain⟨t,F,G⟩:=BJ K;rw[w];exact We C R h1 g A w B F G
   .rename_i s w;obtain⟨t,F,G⟩:=Jz B;rw[w];exact WE C R h1 g A w F G
   .exact B.elim
  .exact h.elim
end
abbrev dl:=@List.mem_append
abbrev R1:=@Nat.mul_comm
abbrev gc:=@Nat.mod_lt
abbrev adR:=@List.getElem_range
abbrev adK:=@List.length_pos_iff
section
variable {P:b8} {n:Nat} {o:Oper} {tm:Tm} {S S':Sg} {v:V}
def IC(S:Sg)(x:V):Option (List V):=
 match x with
 |.d (.sl h)=>some (h.map .d)
 |.full h=>some (h.map .d)
 |.row r m=>match S[r]? with
  |some (.row _ _ g)=>if g.length=m then some g else none
  |some (.BY i)=>if i.length=m then some (i.map .d)else none
  |_=>none
 |_=>none
def Ah(sz:Nat)(g:List V):Prop:=∀y∈g,(Ai y).length=sz/\(At y||Bw y)=true
@[simp] theorem qZ(sz:Nat):Ah sz []:=λy h=>by simp at h
@[simp] theorem py(sz:Nat)(y:V)(g:List V):Ah sz (y::g)↔((Ai y).length=sz/\(At y||Bw y)=true)/\Ah sz g:=by
 simp[Ah]
@[simp] theorem kq(sz:Nat)(xs i:List V):Ah sz (xs++i)↔Ah sz xs/\Ah sz i:=by
 simp[Ah];exact⟨λh=>⟨λy g=>h y (.inl g),λy g=>h y (.inr g)⟩,λh y g=>g.elim (h.1 y) (h.2 y)⟩
@[simp] theorem qq{α:Type}(sz:Nat)(f:α->V)(g:List α):Ah sz (g.map f)↔∀y∈g,(Ai (f y)).length=sz/\(At (f y)||Bw (f y))=true:=by
 simp[Ah]
structure aV(G:Gh)(S:Sg)(w:World)(sz:Nat)(ys:List V)(us:List bn)(c:Array bn)(k0:Nat):Prop where
 len:us.length=ys.length
 cv:∀i (h:i<ys.length) (h':i<us.length),CV G S w ys[i] us[i]/\us[i].cells.size=sz/\∀x∈us[i].cells,one x=true
 at_:∀i (h:i<us.length) j,j<sz->c[k0+i * sz+j]?=us[i].cells[j]?
theorem FL{i j sz m:Nat}(hi:i<m)(hj:j<sz):i * sz+j<m * sz:=by
 have:(i+1) * sz<=m * sz:=wT _ hi;rw[nc]at this;omega
theorem Ty{w:World}{b off sz m:Nat}{us:List bn}(z:us.length=m)(hs:∀i (h:i<us.length),us[i].cells.size=sz)
  (h:∀i (h:i<us.length) j,j<sz->w.cell? ⟨b,off+i * sz+j,none⟩=us[i].cells[j]?):
  ∃c,(∀g,g.heap=w.heap->(loadCells ⟨b,off,none⟩ (m * sz)).run P g=.ok c g)/\c.size=m * sz/\∀i (h:i<us.length) j,j<sz->c[i * sz+j]?=us[i].cells[j]?:=by
 have key:∀k,k<m * sz->∃x,w.cell? ⟨b,off+k,none⟩=some x:=λk t=>by
  have A:0<sz:=by
   rcases Nat.eq_zero_or_pos sz with h0|h0
   .subst h0;simp at t
   .exact h0
  have hi:k / sz<us.length:=by rw[z];exact Nat.div_lt_of_lt_mul (by rw[R1];exact t)
  have hj:k % sz<sz:=gc _ A;have e:k / sz * sz+k % sz=k:=by rw[R1];exact Nat.div_add_mod k sz
  have:=h (k / sz) hi (k % sz) hj;rw[nl,e]at this;have B:=hs (k / sz) hi;refine⟨us[k / sz].cells[k % sz]'(by omega),?_⟩;rw[this,i9 (by omega)]
 refine⟨Array.ofFn (n:=m * sz) λk=>(w.cell? ⟨b,off+k.val,none⟩).getD undef,λg q=>?_,by simp,λi hi j hj=>?_⟩
 .refine run_loadCells _ (by simp) λj hj=>?_;rw[KP (w:=w) (by rw[q])];obtain⟨x,s⟩:=key j hj;simp[s,hj]
 .have u:i * sz+j<m * sz:=FL (by omega) hj;have:=h i hi j hj;rw[nl]at this;obtain⟨x,s⟩:=key _ u;simp[u];rw[<-this,s];rfl
theorem HM{G:Gh}{w:World}{g:List D}{cv:bn}{sz:Nat}(h:CD G.I w (.sl g) cv)(hs:Ah sz (g.map .d)):
  ∃us c,(∀q,(Builtin.lenOf cv).run P q=.ok g.length q)/\(∀q,q.heap=w.heap->(Builtin.firstCells sz g.length cv).run P q=.ok c q)/\c.size=g.length * sz/\aV G S w sz (g.map .d) us c 0:=by
 cases h with
 |nil a cap=>
  refine⟨[],#[],λ_=>by simp[Builtin.lenOf],λq _=>?_,by simp,⟨rfl,λi h=>by simp at h,λi h=>by simp at h⟩⟩;cases a<;>simp[Builtin.firstCells,loadCells,loadCellsFrom]
 |sl u N b off cap s Q R T h1 A=>
  have t:∀i (h:i<g.length),CV G S w (.d g[i]) (s i)/\(s i).cells.size=sz/\(∀x∈(s i).cells,one x=true)/\u=sz:=λi hi=>by
   have B:CV G S w (.d g[i]) (s i):=.d _ _ (h1 i hi);have C:=hs (.d g[i]) (by simp);obtain⟨c1,E,_⟩:=B.cells (by simpa using C.2);refine⟨B,by omega,λx F=>?_,?_⟩
   .obtain⟨k,H,rfl⟩:=EQ.1 F;exact E k H
   .have:=(A i hi).1;omega
  obtain⟨c,J,K,L⟩:=Ty (P:=P) (w:=w) (b:=b) (off:=off) (sz:=sz) (m:=g.length) (us:=(List.range g.length).map s) (by simp)
   (λi hi=>by simp at hi;simpa using(t i hi).2.1)
   (λi hi j hj=>by
    simp at hi;have:=(A i hi).2 j (by have:=(t i hi).2.2.2;omega);rw[(t i hi).2.2.2]at this;simpa using this)
  refine⟨(List.range g.length).map s,c,λ_=>by simp[Builtin.lenOf],λq z=>by simp[Builtin.firstCells,J q z],K,⟨by simp,λi hi U=>?_,λi hi j hj=>by rw[va];exact L i hi j hj⟩⟩;have M:i<g.length:=by simpa using hi
  have:=t i M;simp;exact⟨this.1,this.2.1,this.2.2.1⟩
theorem Ww{G:Gh}{w:World}(R:Rel P G S w){r:Nat}{wr:Bool}{sz:Nat}{els:List V}(z:S[r]?=some (.row wr sz els))(hs:Ah sz els):
  ∃us c,(∀g,(Builtin.lenOf (G.BZ r els.length)).run P g=.ok els.length g)/\(∀g,g.heap=w.heap->(Builtin.firstCells sz els.length (G.BZ r els.length)).run P g=.ok c g)/\c.size=els.length * sz/\aV G S w sz els us c 0:=by
 have q:=R.DG r _ z;simp only[OK]at q;cases s:G.BB r with
 |none=>
  simp only[s]at q;obtain⟨c,T,A,J,K,L,u⟩:=q;let us:List bn:=(List.range els.length).map λi=>if h:i<els.length then(u i h).choose else undef;have k:∀i (h:i<els.length),CV G S w els[i] (us[i]'(by simp[us];exact h))/\(us[i]'(by simp[us];exact h)).cells.size=sz/\(∀x∈(us[i]'(by simp[us];exact h)).cells,one x=true)/\∀j,j<sz->c[(G.cap r).2+(i * sz+j)]?=(us[i]'(by simp[us];exact h)).cells[j]?:=λi hi=>by
   have:=(u i hi).choose_spec;simpa[us,hi]using this
  obtain⟨B,C,E,F⟩:=Ty (P:=P) (w:=w) (b:=G.B3 r) (off:=(G.cap r).2) (sz:=sz) (m:=els.length) (us:=us) (by simp[us])
   (λi hi=>(k i (by simpa[us]using hi)).2.1)
   (λi hi j hj=>by
    rw[cell_of A,nl];exact(k i (by simpa[us]using hi)).2.2.2 j hj)
  refine⟨us,B,λ_=>by simp[Gh.BZ,s,Builtin.lenOf],λg t=>by simp[Gh.BZ,s,Builtin.firstCells,C g t],E,⟨by simp[us],λi hi M=>?_,λi hi j hj=>by rw[va];exact F i hi j hj⟩⟩;have:=k i hi;exact⟨this.1,this.2.1,this.2.2.1⟩
 |some a=>
  simp[s]at q;obtain⟨_,_,N,rfl,H⟩:=q;have:=HM (P:=P) (S:=S) H hs;simpa[Gh.BZ,s]using this
theorem pH{G:Gh}{w:World}(R:Rel P G S w){x:V}{cv:bn}{s:List V}{sz:Nat}(h:CV G S w x cv)(g:IC S x=some s)(hs:Ah sz s):
  ∃J c,(∀j,(Builtin.lenOf cv).run P j=.ok s.length j)/\(∀j,j.heap=w.heap->(Builtin.firstCells sz s.length cv).run P j=.ok c j)/\c.size=s.length * sz/\aV G S w sz s J c 0:=by
 cases h with
 |d d v h=>
  cases d<;>simp[IC,reduceCtorEq]at g;subst g;simpa using HM (P:=P) (S:=S) h hs
 |full F a h=>
  simp[IC]at g;subst g;simpa using HM (P:=P) (S:=S) h hs
 |row r m v N Q h=>
  simp[IC]at g;split at g
  .rename_i U C k hS;split at g
   .rename_i t;simp at g;subst g;have E:=(h m (by simp[lenOf,hS,t])).2 rfl;subst t;rw[E];have q:=R.DG r _ hS;by_cases H:k=[]
    .subst H;refine⟨[],#[],λj=>?_,λj _=>?_,by simp,⟨rfl,λi h=>by simp at h,λi h=>by simp at h⟩⟩
     .unfold Gh.BZ;split<;>simp[Builtin.lenOf]
     .unfold Gh.BZ;split
      .simp[Builtin.firstCells,loadCells,loadCellsFrom]
      .rename_i a _;cases a<;>simp[Builtin.firstCells,loadCells,loadCellsFrom]
    .have z:0<k.length:=adK.2 H;have A:C=sz\/G.BB r≠none:=by
      cases B:G.BB r with
      |some a=>exact .inr (by simp)
      |none=>
       left;simp only[OK,B]at q;obtain⟨c,T,W,X,Y,Z,K⟩:=q;obtain⟨u,L,u2,u3,u4⟩:=K 0 z;have:=hs k[0] (by simp);obtain⟨c1,_⟩:=L.cells (by simpa using this.2);omega
     rcases A with e|e
     .subst e;exact Ww R hS hs
     .cases B:G.BB r with
      |none=>exact absurd B e
      |some a=>
       simp[OK,B]at q;obtain⟨_,_,F,rfl,M⟩:=q;have:=HM (P:=P) (S:=S) M hs;simpa[Gh.BZ,B]using this
   .cases g
  .rename_i F hS;split at g
   .rename_i t;simp at g;subst g;have E:=(h m (by simp[lenOf,hS,t])).2 rfl;subst t;rw[E];have q:=R.DG r _ hS;simp[OK]at q;have:=HM (P:=P) (S:=S) q hs;simpa using this
   .cases g
  .cases g
 |_=>simp[IC]at g
end
end Go.Koi
