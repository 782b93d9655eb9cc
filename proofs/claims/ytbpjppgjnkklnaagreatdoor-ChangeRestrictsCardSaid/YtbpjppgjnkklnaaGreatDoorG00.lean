/-
  Part 1 of the proof that the law ChangeRestricts returns true for every input.
-/
import Derived.Calls
import Derived.Orders
import Derived.Laws.Sem
import Derived.KernelRfl
import GoSem.ClaimData
set_option maxHeartbeats 64000000
set_option maxRecDepth 100000
open List renaming length->Z
open Bool renaming true->J,false->ap
open Option renaming some->am,none->bi
namespace Go.Koi
open Go renaming Program->cP,TypeId->ea,Value->de,World->cR
inductive D where
 |bool (b:Bool)
 |int (k:IntKind) (n:Int)
 |str (s:ByteArray)
 |sl (xs:List D)
 |agg (cs:List D)
 |CX (vs:List D)
 |raw (v:de)
inductive V where
 |any
 |d (d:D)
 |full (xs:List D)
 |row (r n:Nat)
 |ptr (r n i j:Nat)
 |DW (cs:List D)
 |map (r:Nat)
 |fn (f:Fn) (first caps:List V)
 |agg (cs:List V)
 |CX (vs:List V)
 |opt (g:Bool) (v:V)
inductive O where
 |row (wr:Bool) (sz:Nat) (els:List V)
 |BT (xs:List D)
 |map (es:List (D×V))
 |dead
def GZ:IntKind->Int->Bool
 |.i8,n=>decide (-128<=n)&&decide (n<=127)
 |.i16,n=>decide (-32768<=n)&&decide (n<=32767)
 |.i32,n=>decide (-2147483648<=n)&&decide (n<=2147483647)
 |.i64,n=>decide (-9223372036854775808<=n)&&decide (n<=9223372036854775807)
 |.u8,n=>decide (0<=n)&&decide (n<=255)
 |.u16,n=>decide (0<=n)&&decide (n<=65535)
 |.u32,n=>decide (0<=n)&&decide (n<=4294967295)
 |.u64,n=>decide (0<=n)&&decide (n<=18446744073709551615)
theorem Vm(k:IntKind)(n:Int):(Lit.int k n).wf=GZ k n:=by
 cases k<;>simp[Lit.wf,GZ,IntKind.min,IntKind.max,IntKind.signed,IntKind.bits]
theorem Jd(k:IntKind)(e:Int):GZ k (k.wrap e)=true:=by
 cases k<;>simp[GZ,IntKind.wrap,IntKind.signed,IntKind.bits]<;>(try split)<;>omega
def one:de->Bool
 |.agg _=>ap
 |.tuple _=>ap
 |_=>J
inductive CD(I:Nat->Prop)(w:cR):D->de->Prop
 |bool (b:Bool):CD I w (.bool b) (.bool b)
 |int (k:IntKind) (n:Int) (h:GZ k n=J):CD I w (.int k n) (.int k n)
 |str (s:ByteArray) (h:s.size<=maxLen):CD I w (.str s) (.string s)
 |nil (a:Option Addr) (cap:Nat):CD I w (.sl []) (.slice a 0 cap)
 |sl (sz:Nat) (xs:List D) (b off cap:Nat) (vs:Nat->de) (hI:I b) (hl:Z xs<=maxLen) (hc:Z xs<=cap)
   (h1:∀i (h:i<Z xs),CD I w xs[i] (vs i))
   (h2:∀i,i<Z xs->(vs i).cells.size=sz/\∀j,j<sz->w.cell? ⟨b,off+i * sz+j,bi⟩=(vs i).cells[j]?):
   CD I w (.sl xs) (.slice (am ⟨b,off,bi⟩) (Z xs) cap)
 |agg (ds:List D) (vs:Array de) (hs:vs.size=Z ds)
   (h:∀i (h:i<Z ds),CD I w ds[i] (vs[i]'(by omega)))
   (ho:∀i (h:i<vs.size),one vs[i]=J):CD I w (.agg ds) (.agg vs)
 |CX (ds:List D) (vs:Array de) (hs:vs.size=Z ds)
   (h:∀i (h:i<Z ds),CD I w ds[i] (vs[i]'(by omega))):CD I w (.CX ds) (.tuple vs)
 |raw (v:de):CD I w (.raw v) v
structure Gh where
 I:Nat->Prop
 CP:Nat->Nat
 cap:Nat->Nat×Nat
 BG:Nat->Option (Option Addr)
abbrev Sg:=List O
def lenOf(S:Sg)(r:Nat):Option Nat:=
 match S[r]? with
 |some (.row _ _ g)=>am (Z g)
 |some (.BT h)=>am (Z h)
 |_=>bi
def C1(S:Sg)(r:Nat):Option Nat:=
 match S[r]? with
 |some (.row _ sz _)=>am sz
 |_=>bi
def isMap(S:Sg)(r:Nat):Bool:=
 match S[r]? with
 |some (.map _)=>J
 |_=>ap
def Gh.BU(G:Gh)(r n:Nat):de:=
 match G.BG r with
 |none=>.slice (am ⟨G.CP r,(G.cap r).2,bi⟩) n (G.cap r).1
 |some a=>.slice a n n
def Gh.addr(G:Gh)(r k:Nat):de:=
 match G.BG r with
 |none=>.pointer (am ⟨G.CP r,(G.cap r).2+k,bi⟩)
 |some (am a)=>.pointer (am ⟨a.block,a.off+k,bi⟩)
 |some bi=>.pointer bi
inductive CV(G:Gh)(S:Sg)(w:cR):V->de->Prop
 |any (v:de):CV G S w .any v
 |d (d:D) (v:de) (h:CD G.I w d v):CV G S w (.d d) v
 |full (xs:List D) (a:Option Addr) (h:CD G.I w (.sl xs) (.slice a (Z xs) (Z xs))):CV G S w (.full xs) (.slice a (Z xs) (Z xs))
 |row (r n:Nat) (v:de) (ho:one v=J) (hr:r<Z S) (h:∀m,lenOf S r=am m->n<=m/\(n=m->v=G.BU r n)):CV G S w (.row r n) v
 |ptr (r n i j:Nat) (v:de) (ho:one v=J) (hr:r<Z S) (h:∀m,lenOf S r=am m->n<=m/\(n=m->∀sz,C1 S r=am sz->v=G.addr r (i * sz+j))):CV G S w (.ptr r n i j) v
 |DW (cs:List D) (b off:Nat) (vs:Nat->de) (hI:G.I b)
   (h:∀j (h:j<Z cs),w.cell? ⟨b,off+j,bi⟩=am (vs j)/\CD G.I w cs[j] (vs j)/\one (vs j)=J):CV G S w (.DW cs) (.pointer (am ⟨b,off,bi⟩))
 |map (r:Nat) (v:de) (ho:one v=J) (hr:r<Z S) (h:isMap S r=J->v=.map (am (G.CP r))):CV G S w (.map r) v
 |fn (f:Fn) (as bs:List V) (xs ys:Array de) (h1:xs.size=Z as) (h2:ys.size=Z bs)
   (h3:∀i (h:i<Z as),CV G S w as[i] (xs[i]'(by omega)))
   (h4:∀i (h:i<Z bs),CV G S w bs[i] (ys[i]'(by omega))):CV G S w (.fn f as bs) (.func f xs ys)
 |agg (cs:List V) (vs:Array de) (hs:vs.size=Z cs)
   (h:∀i (h:i<Z cs),CV G S w cs[i] (vs[i]'(by omega)))
   (ho:∀i (h:i<vs.size),one vs[i]=J):CV G S w (.agg cs) (.agg vs)
 |CX (cs:List V) (vs:Array de) (hs:vs.size=Z cs)
   (h:∀i (h:i<Z cs),CV G S w cs[i] (vs[i]'(by omega))):CV G S w (.CX cs) (.tuple vs)
 |opt (g:Bool) (x:V) (v:de) (h:g=J->CV G S w x v) (h':g=ap->v=undef):CV G S w (.opt g x) v
def Ba(G:Gh)(r:Nat):O->Bool
 |.row ..=>(G.BG r).isNone
 |.map _=>J
 |_=>ap
def Own(G:Gh)(S:Sg)(b:Nat):Prop:=∃r o,S[r]?=am o/\Ba G r o=J/\b=G.CP r
def Pp(G:Gh)(S:Sg)(w:cR)(sz:Nat)(els:List V)(c:Array de)(off:Nat):Prop:=
 ∀i (h:i<Z els),∃v,CV G S w els[i] v/\v.cells.size=sz/\(∀x∈v.cells,one x=J)/\∀j,j<sz->c[off+(i * sz+j)]?=v.cells[j]?
def OK(G:Gh)(S:Sg)(w:cR)(r:Nat):O->Prop
 |.row u sz k=>
  match G.BG r with
  |none=>∃c T,w.heap[G.CP r]?=am (.cells c T (0,0))/\(G.cap r).2+(G.cap r).1 * sz<=c.size/\Z k<=(G.cap r).1/\Z k<=maxLen/\Pp G S w sz k c (G.cap r).2
  |some a=>u=ap/\Z k<=maxLen/\∃o:List D,k=o.map V.d/\CD G.I w (.sl o) (.slice a (Z o) (Z o))
 |.BT o=>CD G.I w (.sl o) (G.BU r (Z o))
 |.map q=>∃g m,w.heap[G.CP r]?=am (.map g m)/\g.size=Z q/\m=Z q/\∀i (h:i<Z q),∃e,g[i]?=am e/\CD G.I w q[i].1 e.key/\CV G S w q[i].2 e.val/\e.born=i/\(∀j f,j<i->g[j]?=am f->f.born<e.born/\f.key≠e.key)
 |.dead=>True
structure EL(b:Nat)(G:Gh)(S:Sg)(G':Gh)(S':Sg):Prop where
 len:b<=Z S'
 row:∀r,r<b->∀n',lenOf S' r=am n'->∃n,lenOf S r=am n/\n<=n'/\(n=n'->G'.CP r=G.CP r/\G'.cap r=G.cap r/\G'.BG r=G.BG r/\(C1 S' r=C1 S r\/C1 S' r=bi))
 map:∀r,r<b->isMap S' r=J->isMap S r=J/\G'.CP r=G.CP r
abbrev c9:=@Nat.le_refl
theorem EL.refl{b:Nat}{G:Gh}{S:Sg}(h:b<=Z S):EL b G S G S:=
 ⟨h,λ_ _ n h=>⟨n,h,c9 _,λ_=>⟨rfl,rfl,rfl,.inl rfl⟩⟩,λ_ _ h=>⟨h,rfl⟩⟩
abbrev aev:=@EL.refl
abbrev ms:=@Nat.le_trans
theorem EL.trans{b:Nat}{G:Gh}{S:Sg}{w:Gh}{S':Sg}{i:Gh}{j:Sg}(h:EL b G S w S')(o:EL b w S' i j):EL b G S i j where
 len:=o.len
 row:=λr k A q=>by
  obtain⟨n1,u,l1,k1⟩:=o.row r k A q;obtain⟨B,v,l2,k2⟩:=h.row r k n1 u;refine⟨B,v,ms l2 l1,λe=>?_⟩;obtain⟨C,E,F,g⟩:=k1 (by omega);obtain⟨b1,H,K,m⟩:=k2 (by omega);refine⟨C.trans b1,E.trans H,F.trans K,?_⟩;rcases g with g|g
  .rcases m with m|m
   .exact .inl (g.trans m)
   .exact .inr (g.trans m)
  .exact .inr g
 map:=λr k L=>by
  obtain⟨u,k1⟩:=o.map r k L;obtain⟨v,k2⟩:=h.map r k u;exact⟨v,k1.trans k2⟩
def Bw:List Int:=[0,1,56,2,57,49,28,3,61,58,42,50,38,29,17,4,62,47,59,36,45,43,51,22,53,39,33,30,24,18,12,5,63,55,48,27,60,41,37,16,46,35,44,21,52,32,23,11,54,26,40,15,34,20,31,10,25,14,19,9,13,8,7,6]
def mn(P:cP)(G:Gh)(w:cR):Prop:=
 ∀g,(P.globals[g]?).map (·.name)=am "math/bits.deBruijn64tab"->G.I g/\∀j (h:j<Z Bw),w.cell? ⟨g,j,bi⟩=am (.int .u8 Bw[j])
structure Rel(P:cP)(G:Gh)(S:Sg)(w:cR):Prop where
 Gl:mn P G w
 Da:∀r o,S[r]?=am o->OK G S w r o
 inj:∀r r' o o',S[r]?=am o->S[r']?=am o'->Ba G r o=J->Ba G r' o'=J->G.CP r=G.CP r'->r=r'
 nI:∀b,Own G S b->¬G.I b
 JH:∀b,G.I b->b<w.heap.size
 IJ:∀b,Own G S b->b<w.heap.size
structure Tr(G:Gh)(S:Sg)(w:cR)(G':Gh)(S':Sg)(w':cR):Prop where
 size:w.heap.size<=w'.heap.size
 I:∀b,G.I b->G'.I b
 DB:∀b,b<w.heap.size->¬Own G S b->w'.heap[b]?=w.heap[b]?
 own:∀b,Own G' S' b->Own G S b\/w.heap.size<=b
 im:∀b,G'.I b->G.I b\/Own G S b\/w.heap.size<=b
 os:w'.os=w.os
 out:w'.output=w.output
theorem Tr.refl(G:Gh)(S:Sg)(w:cR):Tr G S w G S w:=
 ⟨c9 _,λ_ h=>h,λ_ _ _=>rfl,λ_ h=>.inl h,λ_ h=>.inl h,rfl,rfl⟩
abbrev tv:=@Tr.refl
abbrev su:=@Nat.lt_of_lt_of_le
theorem Tr.trans{G:Gh}{S:Sg}{w:cR}{o:Gh}{S':Sg}{w':cR}{i:Gh}{j:Sg}{k:cR}
  (h:Tr G S w o S' w') (g:Tr o S' w' i j k):Tr G S w i j k where
 size:=ms h.size g.size
 I:=λb hb=>g.I b (h.I b hb)
 DB:=λb hb q=>by
  rw[g.DB b (su hb h.size) (λm=>(h.own b m).elim q (λh=>by omega)),h.DB b hb q]
 own:=λb hb=>(g.own b hb).elim (h.own b) (λhb=>.inr (ms h.size hb))
 im:=λb hb=>(g.im b hb).elim (h.im b) (λhb=>hb.elim (λm=>(h.own b m).elim (λh=>.inr (.inl h)) (λh=>.inr (.inr h))) (λhb=>.inr (.inr (ms h.size hb))))
 os:=g.os.trans h.os
 out:=g.out.trans h.out
theorem FA{w w':cR}{b:Nat}(h:w'.heap[b]?=w.heap[b]?)(o:Nat):w'.cell? ⟨b,o,bi⟩=w.cell? ⟨b,o,bi⟩:=by
 simp[World.cell?,h]
theorem CD.mono{I u:Nat->Prop}{w w':cR}(B:∀b,I b->u b)(C:∀b,I b->w'.heap[b]?=w.heap[b]?){d:D}{v:de}(h:CD I w d v):CD u w' d v:=by
 induction h with
 |bool b=>exact .bool b
 |int k n h=>exact .int k n h
 |str s h=>exact .str s h
 |nil a cap=>exact .nil a cap
 |sl sz E b off cap g m F G K A o=>
  exact .sl sz E b off cap g (B _ m) F G o (λi hi=>⟨(A i hi).1,λj hj=>by rw[FA (C b m)];exact(A i hi).2 j hj⟩)
 |agg ds g q h H o=>exact .agg ds g q o H
 |CX ds g q h o=>exact .CX ds g q o
 |raw v=>exact .raw v
structure BA(G:Gh)(S:Sg)(w:cR)(G':Gh)(S':Sg)(w':cR):Prop where
 I:∀b,G.I b->G'.I b
 DB:∀b,G.I b->w'.heap[b]?=w.heap[b]?
 len:Z S<=Z S'
 row:∀r,r<Z S->∀n',lenOf S' r=am n'->∃n,lenOf S r=am n/\n<=n'/\(n=n'->G'.CP r=G.CP r/\G'.cap r=G.cap r/\G'.BG r=G.BG r/\(C1 S' r=C1 S r\/C1 S' r=bi))
 map:∀r,r<Z S->isMap S' r=J->isMap S r=J/\G'.CP r=G.CP r
theorem BA.late{b:Nat}{G:Gh}{S:Sg}{w:cR}{i:Gh}{S':Sg}{w':cR}(L:BA G S w i S' w')(h:b<=Z S):EL b G S i S':=
 ⟨ms h L.len,λr g=>L.row r (su g h),λr g=>L.map r (su g h)⟩
theorem CV.later{G:Gh}{S:Sg}{w:cR}{T:Gh}{S':Sg}{w':cR}(L:BA G S w T S' w'){x:V}{v:de}(h:CV G S w x v):CV T S' w' x v:=by
 induction h with
 |any v=>exact .any v
 |d d v h=>exact .d d v (h.mono L.I L.DB)
 |full H a h=>exact .full H a (h.mono L.I L.DB)
 |row r n v o k h=>
  refine .row r n v o (su k L.len) λm u=>?_;obtain⟨n0,h0,q,K⟩:=L.row r k m u;obtain⟨A,B⟩:=h n0 h0;refine⟨ms A q,λe=>?_⟩;obtain⟨M,N,P,_⟩:=K (by omega);rw[B (by omega)];simp[Gh.BU,M,N,P]
 |ptr r n i j v o k h=>
  refine .ptr r n i j v o (su k L.len) λm u=>?_;obtain⟨n0,h0,q,K⟩:=L.row r k m u;obtain⟨A,B⟩:=h n0 h0;refine⟨ms A q,λe sz zp=>?_⟩;obtain⟨M,N,P,Q⟩:=K (by omega);rw[B (by omega) sz (by rcases Q with Q|Q<;>simp_all)];simp[Gh.addr,M,N,P]
 |DW C b off E U h=>
  exact .DW C b off E (L.I b U) λj hj=>⟨by rw[FA (L.DB b U)];exact(h j hj).1,(h j hj).2.1.mono L.I L.DB,(h j hj).2.2⟩
 |map r v o k h=>exact .map r v o (su k L.len) λu=>by obtain⟨a,b⟩:=L.map r k u;rw[h a,b]
 |fn f as W H X A B h3 h4 Y i4=>exact .fn f as W H X A B Y i4
 |agg C E R h o F=>exact .agg C E R F o
 |CX C E R h F=>exact .CX C E R F
 |opt g x v h h' F=>exact .opt g x v F h'
theorem BA.refl(G:Gh)(S:Sg)(w:cR):BA G S w G S w:=
 ⟨λ_ h=>h,λ_ _=>rfl,c9 _,λ_ _ n h=>⟨n,h,c9 _,λ_=>⟨rfl,rfl,rfl,.inl rfl⟩⟩,λ_ _ h=>⟨h,rfl⟩⟩
abbrev aer:=@BA.refl
theorem BA.trans{G:Gh}{S:Sg}{w:cR}{B:Gh}{S':Sg}{w':cR}{i:Gh}{j:Sg}{k:cR}
  (h:BA G S w B S' w') (m:BA B S' w' i j k):BA G S w i j k where
 I:=λb hb=>m.I b (h.I b hb)
 DB:=λb hb=>by rw[m.DB b (h.I b hb),h.DB b hb]
 len:=ms h.len m.len
 row:=λr o C u=>by
  obtain⟨n1,v,l1,k1⟩:=m.row r (su o h.len) C u;obtain⟨E,A,l2,k2⟩:=h.row r o n1 v;refine⟨E,A,ms l2 l1,λe=>?_⟩;obtain⟨F,H,K,g⟩:=k1 (by omega);obtain⟨b1,L,M,q⟩:=k2 (by omega);refine⟨F.trans b1,H.trans L,K.trans M,?_⟩;rcases g with g|g
  .rcases q with q|q
   .exact .inl (g.trans q)
   .exact .inr (g.trans q)
  .exact .inr g
 map:=λr o N=>by
  obtain⟨v,k1⟩:=m.map r (su o h.len) N;obtain⟨A,k2⟩:=h.map r o v;exact⟨A,k1.trans k2⟩
theorem mn.later{P:cP}{G:Gh}{S:Sg}{w:cR}{i:Gh}{S':Sg}{w':cR}(L:BA G S w i S' w')(h:mn P G w):mn P i w':=λg m=>by
 obtain⟨k,o⟩:=h g m;exact⟨L.I g k,λj hj=>by rw[FA (L.DB g k)];exact o j hj⟩
theorem Pp.later{G:Gh}{S:Sg}{w:cR}{g:Gh}{S':Sg}{w':cR}(L:BA G S w g S' w'){sz:Nat}{els:List V}{c:Array de}{off:Nat}
  (h:Pp G S w sz els c off):Pp g S' w' sz els c off:=λi hi=>by
 obtain⟨v,j,k,m,o⟩:=h i hi;exact⟨v,j.later L,k,m,o⟩
theorem OK.later{G:Gh}{S:Sg}{w:cR}{j:Gh}{S':Sg}{w':cR}(L:BA G S w j S' w'){r:Nat}{o:O}
  (hb:Ba G r o=J->w'.heap[G.CP r]?=w.heap[G.CP r]?) (v:j.CP r=G.CP r) (C:j.cap r=G.cap r) (E:j.BG r=G.BG r)
  (h:OK G S w r o):OK j S' w' r o:=by
 cases o with
 |row W sz H=>
  simp only[OK,v,C,E]at h⊢;cases A:G.BG r with
  |none=>
   simp only[A]at h⊢;obtain⟨c,T,k,m,q,B,K⟩:=h;exact⟨c,T,by rw[hb (by simp[Ba,A])];exact k,m,q,B,K.later L⟩
  |some a=>
   simp[A]at h⊢;obtain⟨k,m,F,q,B⟩:=h;exact⟨k,m,F,q,B.mono L.I L.DB⟩
 |BT F=>
  simp[OK,Gh.BU,v,C,E]at h⊢;exact h.mono L.I L.DB
 |map X=>
  simp[OK,v]at h⊢;obtain⟨u,g,k,m,M,q⟩:=h;refine⟨u,g,by rw[hb rfl];exact k,m,M,λi hi=>?_⟩;obtain⟨e,N,P,Q,R,U⟩:=q i hi;exact⟨e,N,P.mono L.I L.DB,Q.later L,R,U⟩
 |dead=>trivial
abbrev Tm:=Nat->V
def ma(G:Gh)(S:Sg)(w:cR)(ts:Array de)(tm:Tm):Prop:=∀k,CV G S w (tm k) (ts.getD k undef)
theorem ma.later{G:Gh}{S:Sg}{w:cR}{g:Gh}{S':Sg}{w':cR}(L:BA G S w g S' w'){ts:Array de}{tm:Tm}(h:ma G S w ts tm):ma g S' w' ts tm:=
 λk=>(h k).later L
structure St(P:cP)(n:Nat)(G:Gh)(S:Sg)(w:cR)(a:Act)(tm:Tm):Prop where
 size:a.tmps.size=n
 tm:ma G S w a.tmps tm
 rel:Rel P G S w
structure IP(P:cP)(n b:Nat)(G:Gh)(S:Sg)(w:cR)(ds:List Deferred)(a':Act)(w':cR)(G':Gh)(S':Sg)(tm':Tm):Prop where
 st:St P n G' S' w' a' tm'
 ds:a'.defers=ds
 tr:Tr G S w G' S' w'
 late:EL b G S G' S'
def QO(P:cP)(n b:Nat)(Q:Exit->Tm->Sg->Prop)(G:Gh)(S:Sg)(w:cR)(ds:List Deferred):Exit->Act->cR->Prop:=
 λi j k=>∃m h g,IP P n b G S w ds j k m h g/\Q i g h
theorem QO.trans{P:cP}{n b:Nat}{Q:Exit->Tm->Sg->Prop}{G:Gh}{S:Sg}{w:cR}{ds:List Deferred}{j:Gh}{S':Sg}{w':cR}(h:Tr G S w j S' w')(o:EL b G S j S')
  {m:Exit} {a:Act} {g:cR} (q:QO P n b Q j S' w' ds m a g):QO P n b Q G S w ds m a g:=by
 obtain⟨u,v,k,i,A⟩:=q;exact⟨u,v,k,⟨i.st,i.ds,h.trans i.tr,o.trans i.late⟩,A⟩
def AW(P:cP)(n b:Nat)(c:Code)(Q:Exit->Tm->Sg->Prop)(tm:Tm)(S:Sg):Prop:=
 ∀G w a,St P n G S w a tm->b<=Z S->c.wp P (QO P n b Q G S w a.defers) a w
abbrev K2:=@wp_mono
abbrev ip:=@if_true
abbrev jw:=@if_false
abbrev ed:=@List.all_eq_true
abbrev cF:=@Bool.and_eq_true
section
variable {P:cP} {n b:Nat} {Q:Exit->Tm->Sg->Prop} {tm:Tm} {S:Sg}
theorem AW.mono{c:Code}{j:Exit->Tm->Sg->Prop}(h:AW P n b c Q tm S)(m:∀k tm S,Q k tm S->j k tm S):AW P n b c j tm S:=
 λG w a st hb=>K2 (h G w a st hb) λ_ _ _ o=>let⟨q,u,g,v,i⟩:=o;⟨q,u,g,v,m _ _ _ i⟩
theorem IP.refl{G:Gh}{w:cR}{a:Act}(st:St P n G S w a tm)(hb:b<=Z S):IP P n b G S w a.defers a w G S tm:=⟨st,rfl,tv _ _ _,aev hb⟩
theorem CF(h:Q .normal tm S):AW P n b .skip Q tm S:=λ_ _ _ st hb=>wp_skip ⟨_,_,_,.refl st hb,h⟩
theorem Ci{id:Nat}(h:Q (.exit id) tm S):AW P n b (.exit id) Q tm S:=λ_ _ _ st hb=>wp_exit ⟨_,_,_,.refl st hb,h⟩
theorem Aj(h:Q .ret tm S):AW P n b .ret Q tm S:=λ_ _ _ st hb=>wp_ret ⟨_,_,_,.refl st hb,h⟩
def B5(next:Tm->Sg->Prop)(Q:Exit->Tm->Sg->Prop):Exit->Tm->Sg->Prop
 |.normal,tm,S=>next tm S
 |e,tm,S=>Q e tm S
theorem xS{x y:Code}(h:AW P n b x (B5 (AW P n b y Q) Q) tm S):AW P n b (.seq x y) Q tm S:=by
 intro G w a st hb;refine wp_seq (K2 (h G w a st hb) ?_);intro e o q i;obtain⟨k,u,j,g,m⟩:=i;cases e with
 |normal=>
  have:=m k q o g.st g.late.len;rw[g.ds]at this;exact K2 this λ_ _ _ i=>i.trans g.tr g.late
 |_=>exact⟨k,u,j,g,m⟩
def A2(id:Nat)(Q:Exit->Tm->Sg->Prop):Exit->Tm->Sg->Prop
 |.exit g,tm,S=>if g=id then Q .normal tm S else Q (.exit g) tm S
 |e,tm,S=>Q e tm S
theorem Bo{id:Nat}{c:Code}(h:AW P n b c (A2 id Q) tm S):AW P n b (.block id c) Q tm S:=by
 intro G w a st hb;refine wp_block (K2 (h G w a st hb) ?_);intro e u v o;obtain⟨j,k,g,m,i⟩:=o;cases e with
 |exit q=>
  simp[Exit.inBlock,A2]at i⊢;split
  .rename_i h;simp[h]at i;exact⟨j,k,g,m,i⟩
  .rename_i h;simp[h]at i;exact⟨j,k,g,m,i⟩
 |_=>exact⟨j,k,g,m,i⟩
def AI(P:cP)(n b:Nat)(tm:Tm)(S:Sg)(g:Tm)(S':Sg):Prop:=
 ∀G w a,St P n G S w a tm->b<=Z S->∃h,St P n h S' w a g/\Tr G S w h S' w/\EL b G S h S'
theorem AI.refl:AI P n b tm S tm S:=λG w _ st hb=>⟨G,st,tv G S w,aev hb⟩
abbrev a9:=@AI.refl
theorem AI.trans{i:Tm}{S':Sg}{g:Tm}{j:Sg}(h:AI P n b tm S i S')(q:AI P n b i S' g j):AI P n b tm S g j:=λG w a st hb=>by
 obtain⟨u,k,v,o⟩:=h G w a st hb;obtain⟨A,m,t2,l2⟩:=q u w a k o.len;exact⟨A,m,v.trans t2,o.trans l2⟩
theorem AW.ghost{c:Code}{i:Tm}{S':Sg}(g:AI P n b tm S i S')(h:AW P n b c Q i S'):AW P n b c Q tm S:=by
 intro G w a st hb;obtain⟨k,j,t,l⟩:=g G w a st hb;exact K2 (h k w a j l.len) λ_ _ _ m=>m.trans t l
abbrev gs:=@AW.ghost
theorem AW.loop{c:Code}(Inv:Nat->Tm->Sg->Prop)(h0:∃m i u,AI P n b tm S i u/\Inv m i u)
  (hr:∀m tm S,Inv m tm S->AW P n b c (B5 (λi u=>∃R v K,R<m/\AI P n b i u v K/\Inv R v K) Q) tm S):AW P n b (.loop c) Q tm S:=by
 intro G w a st hb;obtain⟨m,T,S0,g0,hi⟩:=h0;obtain⟨G0,U,t0,l0⟩:=g0 G w a st hb;let W:Nat->Act->cR->Prop:=λm A B=>∃X u i,IP P n b G S w a.defers A B X u i/\Inv m i u;have key:∀m A B,W m A B->∀(fb:Frame) (k:List Item) (C:List Frame),∃e L M,QO P n b Q G S w a.defers e L M/\Arrives P (lone (fb.at A (.code c::.inLoop c::k)) C B) fb k C e L M:=by
  intro m;induction m using Nat.strongRecOn with
  |_ m ih=>
   intro A B hJ fb k C;obtain⟨X,u,i,j,hi⟩:=hJ;obtain⟨e,E,w1,o,g⟩:=hr m i u hi X B A j.st j.late.len fb (.inLoop c::k) C;rw[j.ds]at o;obtain⟨H,N,q,h,o⟩:=o;cases e with
   |normal=>
    obtain⟨R,Y,S3,zg,g3,hi3⟩:=o;obtain⟨G3,st3,t3,l3⟩:=g3 H w1 E h.st h.late.len;obtain⟨e2,a2,w2,hq2,F⟩:=ih R zg E w1 ⟨G3,S3,Y,⟨st3,h.ds,(j.tr.trans h.tr).trans t3,(j.late.trans h.late).trans l3⟩,hi3⟩ fb k C;exact⟨e2,a2,w2,hq2,.of_steps (Steps.trans g (.one step_inLoop)) F⟩
   |exit id=>exact⟨_,E,w1,⟨H,N,q,⟨h.st,h.ds,j.tr.trans h.tr,j.late.trans h.late⟩,o⟩,.pass (x:=.inLoop c) rfl (λ_ _=>.inl (by simp)) g⟩
   |goto l=>exact⟨_,E,w1,⟨H,N,q,⟨h.st,h.ds,j.tr.trans h.tr,j.late.trans h.late⟩,o⟩,.pass (x:=.inLoop c) rfl (λ_ _=>.inl (by simp)) g⟩
   |ret=>exact⟨_,E,w1,⟨H,N,q,⟨h.st,h.ds,j.tr.trans h.tr,j.late.trans h.late⟩,o⟩,.pass (x:=.inLoop c) rfl (λ_ _=>.inl (by simp)) g⟩
   |panic ch=>exact⟨_,E,w1,⟨H,N,q,⟨h.st,h.ds,j.tr.trans h.tr,j.late.trans h.late⟩,o⟩,.pass (x:=.inLoop c) rfl (λ_ _=>.inl (by simp)) g⟩
   |outgrown=>exact⟨.outgrown,E,w1,⟨H,N,q,⟨h.st,h.ds,j.tr.trans h.tr,j.late.trans h.late⟩,o⟩,g⟩
 intro fb k C;obtain⟨e,A,B,o,g⟩:=key m a w ⟨G0,S0,T,⟨U,rfl,t0,l0⟩,hi⟩ fb k C;exact⟨e,A,B,o,.of_steps (.one step_loop) g⟩
abbrev aes:=@AW.loop
def Z8:de->V
 |.bool b=>.d (.bool b)
 |.int k n=>if GZ k n then .d (.int k n)else .any
 |.string s=>if s.size<=maxLen then .d (.str s)else .any
 |.slice bi 0 0=>.full []
 |.agg _=>.any
 |.tuple _=>.any
 |v=>.d (.raw v)
def OQ:de->V
 |.agg g=>if g.toList.all one then .agg (g.toList.map Z8)else .any
 |v=>Z8 v
def ev(tm:Tm):Operand->V
 |.tmp t=>tm t
 |.const v=>OQ v
 |.global _=>.any
 |.func f=>.fn (.func f) [] []
theorem YE(G:Gh)(S:Sg)(w:cR)(v:de):CV G S w (Z8 v) v:=by
 unfold Z8;split<;>first
  |exact .any _
  |exact .d _ _ (.bool _)
  |(split
    .exact .d _ _ (.int _ _ ‹_›)
    .exact .any _)
  |(split
    .exact .d _ _ (.str _ ‹_›)
    .exact .any _)
  |exact .full [] bi (.nil bi 0)
  |exact .d _ _ (.raw _)
theorem IH(G:Gh)(S:Sg)(w:cR)(v:de):CV G S w (OQ v) v:=by
 unfold OQ;split
 .rename_i g;split
  .rename_i h;refine .agg _ _ (by simp) (λi hi=>by simpa using YE G S w _) (λi hi=>?_);have:=ed.1 h g[i] (by simp);simpa using this
  .exact .any _
 .exact YE G S w v
theorem BS{G:Gh}{w:cR}{a:Act}(st:St P n G S w a tm)(x:Operand):CV G S w (ev tm x) (a.eval x):=by
 cases x with
 |tmp t=>exact st.tm t
 |const v=>exact IH G S w v
 |global g=>exact .any _
 |func f=>exact .fn _ _ _ _ _ rfl rfl (λi h=>by simp at h) (λi h=>by simp at h)
theorem AW.BF{c:Operand}{x y:Code}{t:Bool}(i:ev tm c=.d (.bool t))(k:t=J->AW P n b x Q tm S)(m:t=ap->AW P n b y Q tm S):AW P n b (.cond c x y) Q tm S:=by
 intro G w a st j;have o:a.eval c=.bool t:=by
  cases c with
  |tmp t=>
   have:=st.tm t;simp[ev]at i;rw[i]at this;simp only[Act.eval];generalize a.tmps.getD t undef=x at this;cases this with|d _ _ h=>cases h;rfl
  |const v=>
   simp[ev,OQ]at i;split at i
   .split at i<;>cases i
   .unfold Z8 at i;split at i<;>first|(simp[V.d.injEq,D.bool.injEq]at i;subst i;rfl)|(cases i;done)|(split at i<;>cases i)
  |global g=>cases i
  |func f=>cases i
 refine wp_cond_split o (λhb=>k hb G w a st j) (λhb=>m hb G w a st j)
abbrev m8:=@AW.BF
def strip:V->V
 |.opt _ v=>strip v
 |v=>v
def need:V->Prop
 |.opt g v=>g=J/\need v
 |_=>True
def Ha(g:Bool):V->V
 |.opt h v=>.opt (g&&h) v
 |v=>.opt g v
theorem CV.strip{G:Gh}{S:Sg}{w:cR}{v:de}:∀{x:V},CV G S w x v->need x->CV G S w (strip x) v
 |.opt g x,h,i=>by
  show CV G S w (Koi.strip x) v
  cases h with|opt _ _ _ j _=>exact CV.strip (x:=x) (j i.1) i.2
 |.any,h,_|.d _,h,_|.full _,h,_|.row ..,h,_|.ptr ..,h,_|.DW _,h,_|.map _,h,_|.fn ..,h,_|.agg _,h,_|.CX _,h,_=>h
theorem CV.Ha{G:Gh}{S:Sg}{w:cR}{v:de}{g:Bool}{x:V}(h:g=J->CV G S w x v)(j:g=ap->v=undef):CV G S w (Ha g x) v:=by
 cases x with
 |opt k x=>
  refine .opt _ _ _ (λi=>?_) (λi=>?_)
  .simp at i;have:=h i.1;cases this with|opt _ _ _ h _=>exact h i.2
  .cases g with
   |false=>exact j rfl
   |true=>
    have:=h rfl;cases this with|opt _ _ _ _ h=>exact h (by simpa using i)
 |_=>exact .opt _ _ _ h j
end
inductive TK where
 |bool|int (k:IntKind)|str|slice (e:ea)|array (n:Nat) (e:ea)|map (k e:ea)|struct (fs:List (Nat×ea))|ptr (e:ea)|func|iface|other
structure TI where
 size:Nat
 bytes:Nat
 zero:Option de
 kind:TK
def tk:TypeDesc->TK
 |.bool=>.bool
 |.int k=>.int k
 |.string=>.str
 |.slice e=>.slice e
 |.array n e=>.array n e
 |.map k e=>.map k e
 |.struct g=>.struct (g.toList.map λf=>(f.offset,f.type))
 |.pointer e=>.ptr e
 |.func ..=>.func
 |.interface _=>.iface
 |_=>.other
def ti(P:cP)(T:ea):Option TI:=
 match P.info? T,P.underlying T with
 |some i,am d=>am {size:=i.size,bytes:=i.bytes,zero:=i.zero,kind:=tk d}
 |_,_=>bi
def TI.agg(t:TI):Bool:=
 match t.kind with
 |.array ..|.struct _=>J
 |_=>ap
theorem H4{P:cP}{T:ea}{t:TI}(h:ti P T=am t):∃i d,P.info? T=am i/\P.underlying T=am d/\i.size=t.size/\i.bytes=t.bytes/\i.zero=t.zero/\tk d=t.kind:=by
 unfold ti at h;split at h
 .rename_i i d g j;cases h;exact⟨i,d,g,j,rfl,rfl,rfl,rfl⟩
 .cases h
abbrev ls:=@Sem.run_bind
abbrev kv:=@Result.andThen_ok
section
variable {P:cP} {T:ea} {t:TI}
theorem Dv(h:ti P T=am t)(w:cR):∃i,(typeInfo T).run P w=.ok i w/\i.size=t.size/\i.bytes=t.bytes/\i.zero=t.zero:=by
 obtain⟨i,d,g,o,j,k,m,q⟩:=H4 h;exact⟨i,by simp[typeInfo,g],j,k,m⟩
theorem Bg(h:ti P T=am t)(w:cR):(sizeOf T).run P w=.ok t.size w:=by
 obtain⟨i,g,j,_⟩:=Dv h w;simp[sizeOf,g,j]
theorem An(h:ti P T=am t)(w:cR):∃d,(underlying T).run P w=.ok d w/\tk d=t.kind:=by
 obtain⟨i,d,k,g,m,o,q,j⟩:=H4 h;exact⟨d,by simp[underlying,g],j⟩
theorem Mg(h:ti P T=am t)(w:cR):(isAgg T).run P w=.ok t.agg w:=by
 obtain⟨d,g,i⟩:=An h w;simp[isAgg,g,TI.agg,<-i];cases d<;>simp[tk]
theorem EG(h:ti P T=am t)(w:cR){z:de}(g:t.zero=am z):(zeroValue T).run P w=.ok z w:=by
 obtain⟨i,j,m,o,k⟩:=Dv h w;simp[zeroValue,j,k,g]
end
def Ae:V->List V
 |.agg g=>g
 |.d (.agg ds)=>ds.map .d
 |v=>[v]
def Ap:V->Bool
 |.agg _=>J
 |.d (.agg _)=>J
 |_=>ap
def Bp:V->Bool
 |.agg _=>ap
 |.CX _=>ap
 |.any=>ap
 |.opt _ _=>ap
 |.d (.agg _)=>ap
 |.d (.CX _)=>ap
 |.d (.raw v)=>one v
 |_=>J
theorem CV.one{G:Gh}{S:Sg}{w:cR}{x:V}{v:de}(h:CV G S w x v)(g:Bp x=J):one v=true:=by
 cases h with
 |any=>simp[Bp]at g
 |d d v h=>cases h<;>first|rfl|(simp[Bp]at g;done)|(simpa[Bp]using g)
 |full=>rfl
 |row r n v k=>exact k
 |ptr r n i j v k=>exact k
 |DW=>rfl
 |map r v k=>exact k
 |fn=>rfl
 |agg=>simp[Bp]at g
 |CX=>simp[Bp]at g
 |opt=>simp[Bp]at g
theorem KF{v:de}(h:one v=J):v.cells=#[v]:=by
 cases v<;>first|rfl|simp[Koi.one]at h
theorem CV.cells{G:Gh}{S:Sg}{w:cR}{x:V}{v:de}(h:CV G S w x v)(ha:Ap x=J\/Bp x=J):
  v.cells.size=Z (Ae x)/\(∀i (h:i<v.cells.size),Koi.one v.cells[i]=J)/\∀i (h:i<Z (Ae x)),∃u,v.cells[i]?=am u/\CV G S w (Ae x)[i] u:=by
 by_cases g:Bp x=J
 .have o:=h.one g;have q:Ae x=[x]:=by
   cases x with
   |d d=>cases d<;>first|rfl|simp[Bp]at g
   |agg=>simp[Bp]at g
   |_=>rfl
  rw[KF o,q];refine⟨rfl,λi hi=>?_,λi hi=>?_⟩
  .have:i=0:=by simp at hi;exact hi
   subst this;simpa using o
  .have:i=0:=by simp at hi;exact hi
   subst this;exact⟨v,rfl,by simpa using h⟩
 .have ha:Ap x=true:=ha.resolve_right g;cases h with
  |agg C j k h m=>
   refine⟨k,m,λi hi=>⟨j[i]'(by simp[Ae]at hi;omega),by simp[Value.cells],h i hi⟩⟩
  |d d v A=>
   cases A with
   |agg ds j k h m=>
    refine⟨by simpa[Ae,Value.cells]using k,m,λi hi=>?_⟩;have B:i<Z ds:=by simpa[Ae]using hi
    exact⟨j[i]'(by omega),by simp[Value.cells],by simpa[Ae]using CV.d _ _ (h i B)⟩
   |_=>simp[Ap]at ha
  |_=>simp[Ap]at ha
def D2(w:cR)(b:Nat)(o:Obj):cR:={w with heap:=w.heap.setIfInBounds b o}
def Bl(w:cR)(o:Obj):cR:={w with heap:=w.heap.push o}
@[simp] theorem pJ(w:cR)(b:Nat)(o:Obj):(D2 w b o).heap.size=w.heap.size:=by simp[D2]
@[simp] theorem pj(w:cR)(o:Obj):(Bl w o).heap.size=w.heap.size+1:=by simp[Bl]
theorem GQ{w:cR}{b:Nat}{o:Obj}(h:b<w.heap.size):(D2 w b o).heap[b]?=am o:=by simp[D2,h]
abbrev ab5:=@Array.getElem?_setIfInBounds_ne
abbrev n7:=@Ne.symm
theorem NQ{w:cR}{b g:Nat}{o:Obj}(h:g≠b):(D2 w b o).heap[g]?=w.heap[g]?:=by
 simp[D2,ab5 (n7 h)]
theorem DP{w:cR}{b:Nat}{o:Obj}(h:b<w.heap.size):(Bl w o).heap[b]?=w.heap[b]?:=by
 simp[Bl,Array.getElem?_push,Nat.ne_of_lt h]
theorem EV{w:cR}{o:Obj}:(Bl w o).heap[w.heap.size]?=am o:=by simp[Bl]
theorem cell_of{w:cR}{b:Nat}{c:Array de}{T:ea}{f:Nat×Nat}(h:w.heap[b]?=am (.cells c T f))(k:Nat):w.cell? ⟨b,k,bi⟩=c[k]?:=by
 simp[World.cell?,h]
theorem aZ{w:cR}{b:Nat}{c:Array de}{T:ea}(h:w.heap[b]?=am (.cells c T (0,0)))(k:Nat):w.frozen? ⟨b,k,bi⟩=false:=by
 simp[World.frozen?,h]
theorem GR(b off i:Nat):(⟨b,off,bi⟩:Addr).add i=⟨b,off+i,bi⟩:=by
 unfold Addr.add;split<;>simp_all
abbrev tl:=@Nat.add_zero
abbrev ad1:=@Array.ext'
abbrev ii:=@List.map_cons
abbrev m0:=@List.map_map
abbrev acm:=@List.append_assoc
abbrev AC:=@List.map_congr_left
abbrev nc:=@Function.comp_def
theorem run_loadCellsFrom{P:cP}{w:cR}{b off:Nat}(f:Nat->de):∀(n i:Nat) (g:Array de),(∀j,j<n->w.cell? ⟨b,off+(i+j),bi⟩=am (f (i+j)))->(loadCellsFrom ⟨b,off,bi⟩ i n g).run P w=.ok (g++((List.range n).map λj=>f (i+j)).toArray) w
 |0,i,g,h=>by simp[loadCellsFrom]
 |n+1,i,g,h=>by
  have h0:=h 0 (by omega);simp only[loadCellsFrom,ls,GR];rw[run_load];simp at h0;simp[h0];rw[run_loadCellsFrom f n (i+1) (g.push (f i)) (λj hj=>by have:=h (j+1) (by omega);rw[show i+1+j=i+(j+1)from by omega];exact this)];congr 1;rw[List.range_succ_eq_map];apply ad1;simp only[Array.toList_append,Array.toList_push,ii,m0,acm,List.singleton_append,tl];congr 2;apply AC;intro j _;simp;congr 1;omega
abbrev sn:=@Nat.zero_add
abbrev ll:=@Array.getElem?_eq_getElem
abbrev xv:=@List.ext_getElem
theorem run_loadCells{P:cP}{w:cR}{b off n:Nat}(vs:Array de)(g:vs.size=n)(h:∀j,j<n->w.cell? ⟨b,off+j,bi⟩=vs[j]?):
  (loadCells ⟨b,off,bi⟩ n).run P w=.ok vs w:=by
 unfold loadCells;rw[run_loadCellsFrom (λj=>vs.getD j undef) n 0 #[] (λj hj=>by
  rw[sn,h j hj];simp[ll (show j<vs.size by omega)])]
 congr 1;apply ad1;apply xv
 .simp[g]
 .intro i m k;have:i<vs.size:=by simpa using k
  simp[this]
abbrev ob:=@Bool.false_eq_true
abbrev s9:=@Nat.lt_or_ge
abbrev H1:=@Array.getElem?_eq_none
abbrev adR:=@Array.ext
abbrev bv:=@if_neg
theorem UP{P:cP}{w:cR}{b k:Nat}{c:Array de}{T:ea}{v:de}(hb:w.heap[b]?=am (.cells c T (0,0)))(j:k<c.size)(m:one v=J):
  (store ⟨b,k,bi⟩ v).run P w=.ok () (D2 w b (.cells (c.setIfInBounds k v) T (0,0))):=by
 have o:w.cell? ⟨b,k,bi⟩=am c[k]:=by rw[cell_of hb];simp[j]
 have q:=aZ hb k;rw[run_store P w _ _ _ (by cases v<;>first|rfl|simp[one]at m)];simp only[o,q];simp only[ob,jw];congr 1;unfold World.setCell D2;have u:b<w.heap.size:=by
  rcases s9 b w.heap.size with h|h
  .exact h
  .simp[H1 h]at hb
 congr 1;apply adR
 .simp
 .intro i A B;have g:w.heap[b]=.cells c T (0,0):=by simpa[ll u]using hb
  by_cases hi:i=b
  .subst hi;simp[Array.getElem_modify,g]
  .rw[Array.getElem_modify,bv (n7 hi),Array.getElem_setIfInBounds_ne (hj:=by simpa using A) (h:=n7 hi)]
def putCells(c:Array de)(k:Nat):List de->Array de
 |[]=>c
 |v::g=>putCells (c.setIfInBounds k v) (k+1) g
theorem Eb(vs:List de):∀(c:Array de) (k:Nat),(putCells c k vs).size=c.size:=by
 induction vs with
 |nil=>intro c k;rfl
 |cons v vs g=>intro c k;simp[putCells,g]
abbrev gr:=@List.length_cons
abbrev ca:=@if_pos
abbrev adX:=@Nat.sub_self
abbrev abX:=@List.getElem?_cons_zero
abbrev acK:=@Array.getElem?_setIfInBounds_self_of_lt
theorem ET(vs:List de):∀(c:Array de) (k i:Nat),k+Z vs<=c.size->(putCells c k vs)[i]?=if k<=i/\i<k+Z vs then vs[i - k]? else c[i]?:=by
 induction vs with
 |nil=>intro c k i _;simp[putCells];omega
 |cons v vs m=>
  intro c k i h;simp[putCells]at *;rw[m _ _ _ (by simp;omega)];by_cases g:k+1<=i/\i<k+1+Z vs
  .rw[ca g,ca (by omega)];rw[show i - k=(i - (k+1))+1 from by omega];simp
  .rw[bv g];by_cases j:i=k
   .subst j;rw[ca (by omega)];simp;rw[acK (by omega)]
   .rw[bv (by omega)];simp[ab5 (n7 j)]
theorem QV(w:cR)(b:Nat)(o o':Obj):D2 (D2 w b o) b o'=D2 w b o':=by
 unfold D2;simp
abbrev pc:=@Sem.run_pure
abbrev py:=@Nat.add_assoc
theorem J0{P:cP}{b off:Nat}{T:ea}(vs:List de):∀(i:Nat) (w:cR) (c:Array de),w.heap[b]?=am (.cells c T (0,0))->off+i+Z vs<=c.size->(∀v∈vs,one v=J)->(storeCells ⟨b,off,bi⟩ vs i).run P w=.ok () (D2 w b (.cells (putCells c (off+i) vs) T (0,0))):=by
 induction vs with
 |nil=>
  intro i w c hb _ _;simp[storeCells,putCells];congr 1;unfold D2;have k:b<w.heap.size:=by
   rcases s9 b w.heap.size with h|h
   .exact h
   .simp[H1 h]at hb
  have g:w.heap[b]=.cells c T (0,0):=by simpa[ll k]using hb
  cases w;simp[World.mk.injEq,and_true];simp only at k g;rw[<-g];simp[Array.setIfInBounds,k]
 |cons v vs m=>
  intro i w c hb o j;simp at o;simp[storeCells,GR];rw[UP hb (by omega) (j v (by simp))];simp;have k:b<w.heap.size:=by
   rcases s9 b w.heap.size with h|h
   .exact h
   .simp[H1 h]at hb
  rw[m (i+1) _ (c.setIfInBounds (off+i) v) (GQ k) (by simp;omega) (λv q=>j v (by simp[q]))];rw[QV];simp[putCells,py]
theorem F8{w:cR}{b:Nat}{o:Obj}(h:w.heap[b]?=am o):b<w.heap.size:=by
 rcases s9 b w.heap.size with g|g
 .exact g
 .simp[H1 g]at h
abbrev pu:=@List.getElem?_eq_none
theorem Ag{α:Type}{l:List α}{i:Nat}{x:α}(h:l[i]?=am x):i<Z l:=by
 rcases s9 i (Z l) with g|g
 .exact g
 .simp[pu g]at h
abbrev pv:=@List.getElem?_set_ne
theorem Rel.update{P:cP}{G:Gh}{S:Sg}{w:cR}(R:Rel P G S w){r:Nat}{o o':O}{H:Obj}(E:S[r]?=am o)(K:Ba G r o=J)(W:Ba G r o'=J)
  (v:∀m,lenOf (S.set r o') r=am m->∃n,lenOf S r=am n/\n<=m/\(n=m->C1 (S.set r o') r=C1 S r\/C1 (S.set r o') r=bi))
  (A:isMap (S.set r o') r=J->isMap S r=J)
  (X:BA G S w G (S.set r o') (D2 w (G.CP r) H)->OK G (S.set r o') (D2 w (G.CP r) H) r o'):
  Rel P G (S.set r o') (D2 w (G.CP r) H)/\Tr G S w G (S.set r o') (D2 w (G.CP r) H)/\BA G S w G (S.set r o') (D2 w (G.CP r) H):=by
 have M:=Ag E;have j:Own G S (G.CP r):=⟨r,o,E,K,rfl⟩;have q:∀g,g≠r->(S.set r o')[g]?=S[g]?:=λg h=>by simp[pv (n7 h)]
 have Y:(S.set r o')[r]?=am o':=by simp[M]
 have L:BA G S w G (S.set r o') (D2 w (G.CP r) H):=by
  refine⟨λ_ h=>h,λb hb=>NQ (λe=>R.nI _ j (e▸hb)),by simp,λg N m B=>?_,λg N Q=>?_⟩
  .by_cases e:g=r
   .subst e;obtain⟨n,u,C,F⟩:=v m B;exact⟨n,u,C,λe=>⟨rfl,rfl,rfl,F e⟩⟩
   .have:lenOf (S.set r o') g=lenOf S g:=by simp[lenOf,q g e]
    exact⟨m,by rw[<-this];exact B,c9 _,λ_=>⟨rfl,rfl,rfl,.inl (by simp[C1,q g e])⟩⟩
  .by_cases e:g=r
   .subst e;exact⟨A Q,rfl⟩
   .exact⟨by simp[isMap,q g e]at Q;exact Q,rfl⟩
 have i:∀b,Own G (S.set r o') b->Own G S b:=by
  rintro b ⟨g,x,u,C,F⟩;by_cases e:g=r
  .subst e;rw[F];exact j
  .rw[q g e]at u;exact⟨g,x,u,C,F⟩
 refine⟨⟨R.Gl.later L,λg x k=>?_,λr1 r2 x1 x2 u C o1 o2 he=>?_,λb hb=>R.nI b (i b hb),λb hb=>by simpa using R.JH b hb,λb hb=>by simpa using R.IJ b (i b hb)⟩,⟨by simp,λ_ h=>h,λb _ hn=>NQ (λe=>hn (e▸j)),λb hb=>.inl (i b hb),λb hb=>.inl hb,rfl,rfl⟩,L⟩
 .by_cases e:g=r
  .subst e;rw[Y]at k;cases k;exact X L
  .rw[q g e]at k;refine(R.Da g x k).later L (λT=>NQ (λe'=>?_)) rfl rfl rfl;exact e (R.inj g r x o k E T K e')
 .have get:∀g x,(S.set r o')[g]?=am x->Ba G g x=J->∃U,S[g]?=am U/\Ba G g U=true:=λg x k T=>by
   by_cases e:g=r
   .subst e;exact⟨o,E,K⟩
   .rw[q g e]at k;exact⟨x,k,T⟩
  obtain⟨y1,g1,p1⟩:=get r1 x1 u o1;obtain⟨y2,g2,p2⟩:=get r2 x2 C o2;exact R.inj r1 r2 y1 y2 g1 g2 p1 p2 he
def Gh.at (G:Gh)(r b cap:Nat)(BG:Option (Option Addr)):Gh:=
 {I:=G.I,CP:=λk=>if k=r then b else G.CP k,cap:=λk=>if k=r then(cap,0)else G.cap k,BG:=λk=>if k=r then BG else G.BG k}
abbrev acv:=@List.getElem?_append
theorem BA.add{G:Gh}{S:Sg}{w w':cR}(b cap:Nat)(BG:Option (Option Addr))(o:O)(m:∀k,G.I k->w'.heap[k]?=w.heap[k]?):
  BA G S w (G.at (Z S) b cap BG) (S++[o]) w':=by
 refine⟨λ_ h=>h,m,by simp,λr i q j=>?_,λr i u=>?_⟩
 .have e:(S++[o])[r]?=S[r]?:=by simp[acv,i]
  have g:r≠Z S:=by omega
  refine⟨q,by simpa only[lenOf,e]using j,c9 _,λ_=>⟨by simp[Gh.at,g],by simp[Gh.at,g],by simp[Gh.at,g],.inl (by simp[C1,e])⟩⟩
 .have e:(S++[o])[r]?=S[r]?:=by simp[acv,i]
  have g:r≠Z S:=by omega
  exact⟨by simpa only[isMap,e]using u,by simp[Gh.at,g]⟩
theorem Ez{G:Gh}{g r b cap:Nat}{BG:Option (Option Addr)}{o:O}(h:g≠r):Ba (G.at r b cap BG) g o=Ba G g o:=by
 cases o<;>simp[Ba,Gh.at,h]
theorem Rel.add{P:cP}{G:Gh}{S:Sg}{w:cR}(R:Rel P G S w)(cap:Nat)(o:O)(H:Obj)
  (K:BA G S w (G.at (Z S) w.heap.size cap bi) (S++[o]) (Bl w H)->OK (G.at (Z S) w.heap.size cap bi) (S++[o]) (Bl w H) (Z S) o):
  Rel P (G.at (Z S) w.heap.size cap bi) (S++[o]) (Bl w H)/\Tr G S w (G.at (Z S) w.heap.size cap bi) (S++[o]) (Bl w H)/\BA G S w (G.at (Z S) w.heap.size cap bi) (S++[o]) (Bl w H):=by
 have L:BA G S w (G.at (Z S) w.heap.size cap bi) (S++[o]) (Bl w H):=BA.add _ _ _ _ (λk M=>DP (R.JH k M));have J1:∀r x,(S++[o])[r]?=am x->r≠Z S->S[r]?=am x/\r<Z S:=λr x i Q=>by
  have u:=Ag i;have j:r<Z S:=by simp at u;omega
  exact⟨by simpa[acv,j]using i,j⟩
 have new:∀x,(S++[o])[Z S]?=am x->x=o:=λx i=>by simp at i;exact i.symm
 have g:∀b,Own (G.at (Z S) w.heap.size cap bi) (S++[o]) b->Own G S b\/b=w.heap.size:=by
  rintro b ⟨r,x,u,j,v⟩;by_cases e:r=Z S
  .right;rw[v,e];simp[Gh.at]
  .left;obtain⟨m,_⟩:=J1 r x u e;rw[Ez e]at j;exact⟨r,x,m,j,by rw[v];simp[Gh.at,e]⟩
 refine⟨⟨R.Gl.later L,λr x i=>?_,λr1 r2 x1 B u j o1 C E=>?_,λb hb F=>?_,λb hb=>?_,λb hb=>?_⟩,⟨by simp,λ_ h=>h,λb hb _=>DP hb,λb hb=>?_,λb hb=>.inl hb,rfl,rfl⟩,L⟩
 .by_cases e:r=Z S
  .subst e;cases new x i;exact K L
  .obtain⟨m,_⟩:=J1 r x i e;have hb:(G.at (Z S) w.heap.size cap bi).CP r=G.CP r:=by simp[Gh.at,e]
   refine(R.Da r x m).later L (λN=>DP (R.IJ _ ⟨r,x,m,N,rfl⟩)) hb (by simp[Gh.at,e]) (by simp[Gh.at,e])
 .by_cases A:r1=Z S
  .by_cases q:r2=Z S
   .omega
   .obtain⟨m,_⟩:=J1 r2 B j q;rw[Ez q]at C;have:=R.IJ _ ⟨r2,B,m,C,rfl⟩;simp[Gh.at,A,q]at E;omega
  .obtain⟨v,_⟩:=J1 r1 x1 u A;rw[Ez A]at o1;by_cases q:r2=Z S
   .have:=R.IJ _ ⟨r1,x1,v,o1,rfl⟩;simp[Gh.at,A,q]at E;omega
   .obtain⟨m,_⟩:=J1 r2 B j q;rw[Ez q]at C;exact R.inj r1 r2 x1 B v m o1 C (by simpa[Gh.at,A,q]using E)
 .rcases g b hb with h|h
  .exact R.nI b h F
  .have:=R.JH b F;omega
 .have:=R.JH b hb;simp;omega
 .rcases g b hb with h|h
  .have:=R.IJ b h;simp;omega
  .simp[h]
 .rcases g b hb with h|h
  .exact .inl h
  .exact .inr (by omega)
def Gh.fU(G:Gh)(b:Nat):Gh:={G with I:=λk=>G.I k\/k=b}
theorem Rel.rB{P:cP}{G:Gh}{S:Sg}{w:cR}(R:Rel P G S w)(H:Obj):
  Rel P (G.fU w.heap.size) S (Bl w H)/\Tr G S w (G.fU w.heap.size) S (Bl w H)/\BA G S w (G.fU w.heap.size) S (Bl w H):=by
 have L:BA G S w (G.fU w.heap.size) S (Bl w H):=
  ⟨λ_ h=>.inl h,λk i=>DP (R.JH k i),c9 _,λr _ n h=>⟨n,h,c9 _,λ_=>⟨rfl,rfl,rfl,.inl rfl⟩⟩,λr _ h=>⟨h,rfl⟩⟩
 have o:∀b,Own (G.fU w.heap.size) S b↔Own G S b:=λb=>Iff.rfl;refine⟨⟨R.Gl.later L,λr x g=>(R.Da r x g).later L (λj=>DP (R.IJ _ ⟨r,x,g,j,rfl⟩)) rfl rfl rfl,R.inj,λb hb m=>?_,λb hb=>?_,λb hb=>?_⟩,⟨by simp,λ_ h=>.inl h,λb hb _=>DP hb,λb hb=>.inl hb,λb hb=>?_,rfl,rfl⟩,L⟩
 .rcases m with h|h
  .exact R.nI b hb h
  .have:=R.IJ b hb;omega
 .rcases hb with h|h
  .have:=R.JH b h;simp;omega
  .simp[h]
 .have:=R.IJ b hb;simp;omega
 .rcases hb with h|h
  .exact .inl h
  .exact .inr (.inr (by omega))
theorem Rel.drawn{P:cP}{G:Gh}{S:Sg}{w w':cR}(R:Rel P G S w)(g:w'.heap=w.heap)(i:w'.os=w.os)(j:w'.output=w.output):
  Rel P G S w'/\Tr G S w G S w'/\BA G S w G S w':=by
 have L:BA G S w G S w':=⟨λ_ h=>h,λ_ _=>by rw[g],c9 _,λr _ n h=>⟨n,h,c9 _,λ_=>⟨rfl,rfl,rfl,.inl rfl⟩⟩,λr _ h=>⟨h,rfl⟩⟩;exact⟨⟨R.Gl.later L,λr x k=>(R.Da r x k).later L (λ_=>by rw[g]) rfl rfl rfl,R.inj,R.nI,λb hb=>by rw[g];exact R.JH b hb,λb hb=>by rw[g];exact R.IJ b hb⟩,⟨by rw[g];exact c9 _,λ_ h=>h,λ_ _ _=>by rw[g],λ_ h=>.inl h,λ_ h=>.inl h,i,j⟩,L⟩
end Go.Koi
