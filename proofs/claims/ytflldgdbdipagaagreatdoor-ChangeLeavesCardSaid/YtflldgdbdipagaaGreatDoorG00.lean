/-
  Part 1 of the proof that the law ChangeLeaves returns true for every input.
-/
import Derived.Calls
import Derived.Orders
import Derived.Laws.Sem
import Derived.KernelRfl
import GoSem.ClaimData
set_option maxHeartbeats 64000000
set_option maxRecDepth 100000
open List renaming length->Z
open Bool renaming true->J,false->am
open Option renaming some->al,none->br
open Go renaming Program->cP,TypeId->c9,Value->cL,World->cl
namespace Go.Koi
inductive D where
 |bool (b:Bool)
 |int (k:IntKind) (n:Int)
 |str (s:ByteArray)
 |sl (xs:List D)
 |agg (cs:List D)
 |CA (vs:List D)
 |raw (v:cL)
inductive V where
 |any
 |d (d:D)
 |full (xs:List D)
 |row (r n:Nat)
 |ptr (r n i j:Nat)
 |DW (cs:List D)
 |map (r:Nat)
 |fn (f:Fn) (first caps:List V)
 |agg (cs:List V)
 |CA (vs:List V)
 |opt (g:Bool) (v:V)
inductive O where
 |row (wr:Bool) (sz:Nat) (els:List V)
 |BQ (xs:List D)
 |map (es:List (D×V))
 |dead
def IX:IntKind->Int->Bool
 |.i8,n=>decide (-128<=n)&&decide (n<=127)
 |.i16,n=>decide (-32768<=n)&&decide (n<=32767)
 |.i32,n=>decide (-2147483648<=n)&&decide (n<=2147483647)
 |.i64,n=>decide (-9223372036854775808<=n)&&decide (n<=9223372036854775807)
 |.u8,n=>decide (0<=n)&&decide (n<=255)
 |.u16,n=>decide (0<=n)&&decide (n<=65535)
 |.u32,n=>decide (0<=n)&&decide (n<=4294967295)
 |.u64,n=>decide (0<=n)&&decide (n<=18446744073709551615)
theorem WU(k:IntKind)(n:Int):(Lit.int k n).wf=IX k n:=by
 cases k<;>simp[Lit.wf,IX,IntKind.min,IntKind.max,IntKind.signed,IntKind.bits]
theorem Jy(k:IntKind)(e:Int):IX k (k.wrap e)=true:=by
 cases k<;>simp[IX,IntKind.wrap,IntKind.signed,IntKind.bits]<;>(try split)<;>omega
def one:cL->Bool
 |.agg _=>am
 |.tuple _=>am
 |_=>J
inductive CD(I:Nat->Prop)(w:cl):D->cL->Prop
 |bool (b:Bool):CD I w (.bool b) (.bool b)
 |int (k:IntKind) (n:Int) (h:IX k n=J):CD I w (.int k n) (.int k n)
 |str (s:ByteArray) (h:s.size<=maxLen):CD I w (.str s) (.string s)
 |nil (a:Option Addr) (cap:Nat):CD I w (.sl []) (.slice a 0 cap)
 |sl (sz:Nat) (xs:List D) (b off cap:Nat) (vs:Nat->cL) (hI:I b) (hl:Z xs<=maxLen) (hc:Z xs<=cap)
   (h1:∀i (h:i<Z xs),CD I w xs[i] (vs i))
   (h2:∀i,i<Z xs->(vs i).cells.size=sz/\∀j,j<sz->w.cell? ⟨b,off+i * sz+j,br⟩=(vs i).cells[j]?):
   CD I w (.sl xs) (.slice (al ⟨b,off,br⟩) (Z xs) cap)
 |agg (ds:List D) (vs:Array cL) (hs:vs.size=Z ds)
   (h:∀i (h:i<Z ds),CD I w ds[i] (vs[i]'(by omega)))
   (ho:∀i (h:i<vs.size),one vs[i]=J):CD I w (.agg ds) (.agg vs)
 |CA (ds:List D) (vs:Array cL) (hs:vs.size=Z ds)
   (h:∀i (h:i<Z ds),CD I w ds[i] (vs[i]'(by omega))):CD I w (.CA ds) (.tuple vs)
 |raw (v:cL):CD I w (.raw v) v
structure Gh where
 I:Nat->Prop
 Cf:Nat->Nat
 cap:Nat->Nat×Nat
 BJ:Nat->Option (Option Addr)
abbrev Sg:=List O
def lenOf(S:Sg)(r:Nat):Option Nat:=
 match S[r]? with
 |some (.row _ _ g)=>al (Z g)
 |some (.BQ h)=>al (Z h)
 |_=>br
def C0(S:Sg)(r:Nat):Option Nat:=
 match S[r]? with
 |some (.row _ sz _)=>al sz
 |_=>br
def Bn(S:Sg)(r:Nat):Bool:=
 match S[r]? with
 |some (.map _)=>J
 |_=>am
def Gh.BP(G:Gh)(r n:Nat):cL:=
 match G.BJ r with
 |none=>.slice (al ⟨G.Cf r,(G.cap r).2,br⟩) n (G.cap r).1
 |some a=>.slice a n n
def Gh.addr(G:Gh)(r k:Nat):cL:=
 match G.BJ r with
 |none=>.pointer (al ⟨G.Cf r,(G.cap r).2+k,br⟩)
 |some (al a)=>.pointer (al ⟨a.block,a.off+k,br⟩)
 |some br=>.pointer br
inductive CV(G:Gh)(S:Sg)(w:cl):V->cL->Prop
 |any (v:cL):CV G S w .any v
 |d (d:D) (v:cL) (h:CD G.I w d v):CV G S w (.d d) v
 |full (xs:List D) (a:Option Addr) (h:CD G.I w (.sl xs) (.slice a (Z xs) (Z xs))):CV G S w (.full xs) (.slice a (Z xs) (Z xs))
 |row (r n:Nat) (v:cL) (ho:one v=J) (hr:r<Z S) (h:∀m,lenOf S r=al m->n<=m/\(n=m->v=G.BP r n)):CV G S w (.row r n) v
 |ptr (r n i j:Nat) (v:cL) (ho:one v=J) (hr:r<Z S) (h:∀m,lenOf S r=al m->n<=m/\(n=m->∀sz,C0 S r=al sz->v=G.addr r (i * sz+j))):CV G S w (.ptr r n i j) v
 |DW (cs:List D) (b off:Nat) (vs:Nat->cL) (hI:G.I b)
   (h:∀j (h:j<Z cs),w.cell? ⟨b,off+j,br⟩=al (vs j)/\CD G.I w cs[j] (vs j)/\one (vs j)=J):CV G S w (.DW cs) (.pointer (al ⟨b,off,br⟩))
 |map (r:Nat) (v:cL) (ho:one v=J) (hr:r<Z S) (h:Bn S r=J->v=.map (al (G.Cf r))):CV G S w (.map r) v
 |fn (f:Fn) (as bs:List V) (xs ys:Array cL) (h1:xs.size=Z as) (h2:ys.size=Z bs)
   (h3:∀i (h:i<Z as),CV G S w as[i] (xs[i]'(by omega)))
   (h4:∀i (h:i<Z bs),CV G S w bs[i] (ys[i]'(by omega))):CV G S w (.fn f as bs) (.func f xs ys)
 |agg (cs:List V) (vs:Array cL) (hs:vs.size=Z cs)
   (h:∀i (h:i<Z cs),CV G S w cs[i] (vs[i]'(by omega)))
   (ho:∀i (h:i<vs.size),one vs[i]=J):CV G S w (.agg cs) (.agg vs)
 |CA (cs:List V) (vs:Array cL) (hs:vs.size=Z cs)
   (h:∀i (h:i<Z cs),CV G S w cs[i] (vs[i]'(by omega))):CV G S w (.CA cs) (.tuple vs)
 |opt (g:Bool) (x:V) (v:cL) (h:g=J->CV G S w x v) (h':g=am->v=undef):CV G S w (.opt g x) v
def Bb(G:Gh)(r:Nat):O->Bool
 |.row ..=>(G.BJ r).isNone
 |.map _=>J
 |_=>am
def HG(G:Gh)(S:Sg)(b:Nat):Prop:=∃r o,S[r]?=al o/\Bb G r o=J/\b=G.Cf r
def PU(G:Gh)(S:Sg)(w:cl)(sz:Nat)(els:List V)(c:Array cL)(off:Nat):Prop:=
 ∀i (h:i<Z els),∃v,CV G S w els[i] v/\v.cells.size=sz/\(∀x∈v.cells,one x=J)/\∀j,j<sz->c[off+(i * sz+j)]?=v.cells[j]?
def OK(G:Gh)(S:Sg)(w:cl)(r:Nat):O->Prop
 |.row s sz k=>
  match G.BJ r with
  |none=>∃c T,w.heap[G.Cf r]?=al (.cells c T (0,0))/\(G.cap r).2+(G.cap r).1 * sz<=c.size/\Z k<=(G.cap r).1/\Z k<=maxLen/\PU G S w sz k c (G.cap r).2
  |some a=>s=am/\Z k<=maxLen/\∃o:List D,k=o.map V.d/\CD G.I w (.sl o) (.slice a (Z o) (Z o))
 |.BQ o=>CD G.I w (.sl o) (G.BP r (Z o))
 |.map q=>∃g m,w.heap[G.Cf r]?=al (.map g m)/\g.size=Z q/\m=Z q/\∀i (h:i<Z q),∃e,g[i]?=al e/\CD G.I w q[i].1 e.key/\CV G S w q[i].2 e.val/\e.born=i/\(∀j f,j<i->g[j]?=al f->f.born<e.born/\f.key≠e.key)
 |.dead=>True
structure Fb(b:Nat)(G:Gh)(S:Sg)(G':Gh)(S':Sg):Prop where
 len:b<=Z S'
 row:∀r,r<b->∀n',lenOf S' r=al n'->∃n,lenOf S r=al n/\n<=n'/\(n=n'->G'.Cf r=G.Cf r/\G'.cap r=G.cap r/\G'.BJ r=G.BJ r/\(C0 S' r=C0 S r\/C0 S' r=br))
 map:∀r,r<b->Bn S' r=J->Bn S r=J/\G'.Cf r=G.Cf r
abbrev ci:=@Nat.le_refl
theorem Fb.refl{b:Nat}{G:Gh}{S:Sg}(h:b<=Z S):Fb b G S G S:=
 ⟨h,λ_ _ n h=>⟨n,h,ci _,λ_=>⟨rfl,rfl,rfl,.inl rfl⟩⟩,λ_ _ h=>⟨h,rfl⟩⟩
abbrev aeu:=@Fb.refl
abbrev oq:=@Nat.le_trans
theorem Fb.trans{b:Nat}{G:Gh}{S:Sg}{t:Gh}{S':Sg}{i:Gh}{j:Sg}(h:Fb b G S t S')(o:Fb b t S' i j):Fb b G S i j where
 len:=o.len
 row:=λr k u v=>by
  obtain⟨n1,q,l1,k1⟩:=o.row r k u v;obtain⟨n2,s,l2,k2⟩:=h.row r k n1 q;refine⟨n2,s,oq l2 l1,λe=>?_⟩;obtain⟨w,z,A,g⟩:=k1 (by omega);obtain⟨B,C,E,m⟩:=k2 (by omega);refine⟨w.trans B,z.trans C,A.trans E,?_⟩;rcases g with g|g
  .rcases m with m|m
   .exact .inl (g.trans m)
   .exact .inr (g.trans m)
  .exact .inr g
 map:=λr k F=>by
  obtain⟨q,k1⟩:=o.map r k F;obtain⟨s,k2⟩:=h.map r k q;exact⟨s,k1.trans k2⟩
def B0:List Int:=[0,1,56,2,57,49,28,3,61,58,42,50,38,29,17,4,62,47,59,36,45,43,51,22,53,39,33,30,24,18,12,5,63,55,48,27,60,41,37,16,46,35,44,21,52,32,23,11,54,26,40,15,34,20,31,10,25,14,19,9,13,8,7,6]
def mi(P:cP)(G:Gh)(w:cl):Prop:=
 ∀g,(P.globals[g]?).map (·.name)=al "math/bits.deBruijn64tab"->G.I g/\∀j (h:j<Z B0),w.cell? ⟨g,j,br⟩=al (.int .u8 B0[j])
structure Rel(P:cP)(G:Gh)(S:Sg)(w:cl):Prop where
 HU:mi P G w
 DX:∀r o,S[r]?=al o->OK G S w r o
 inj:∀r r' o o',S[r]?=al o->S[r']?=al o'->Bb G r o=J->Bb G r' o'=J->G.Cf r=G.Cf r'->r=r'
 nI:∀b,HG G S b->¬G.I b
 Kf:∀b,G.I b->b<w.heap.size
 Ik:∀b,HG G S b->b<w.heap.size
structure Tr(G:Gh)(S:Sg)(w:cl)(G':Gh)(S':Sg)(w':cl):Prop where
 size:w.heap.size<=w'.heap.size
 I:∀b,G.I b->G'.I b
 EV:∀b,b<w.heap.size->¬HG G S b->w'.heap[b]?=w.heap[b]?
 own:∀b,HG G' S' b->HG G S b\/w.heap.size<=b
 im:∀b,G'.I b->G.I b\/HG G S b\/w.heap.size<=b
 os:w'.os=w.os
 out:w'.output=w.output
theorem Tr.refl(G:Gh)(S:Sg)(w:cl):Tr G S w G S w:=
 ⟨ci _,λ_ h=>h,λ_ _ _=>rfl,λ_ h=>.inl h,λ_ h=>.inl h,rfl,rfl⟩
abbrev aep:=@Tr.refl
abbrev EQ:=@Nat.lt_of_lt_of_le
theorem Tr.trans{G:Gh}{S:Sg}{w:cl}{o:Gh}{S':Sg}{w':cl}{i:Gh}{j:Sg}{k:cl}
  (h:Tr G S w o S' w') (g:Tr o S' w' i j k):Tr G S w i j k where
 size:=oq h.size g.size
 I:=λb hb=>g.I b (h.I b hb)
 EV:=λb hb hn=>by
  rw[g.EV b (EQ hb h.size) (λm=>(h.own b m).elim hn (λh=>by omega)),h.EV b hb hn]
 own:=λb hb=>(g.own b hb).elim (h.own b) (λhb=>.inr (oq h.size hb))
 im:=λb hb=>(g.im b hb).elim (h.im b) (λhb=>hb.elim (λm=>(h.own b m).elim (λh=>.inr (.inl h)) (λh=>.inr (.inr h))) (λhb=>.inr (.inr (oq h.size hb))))
 os:=g.os.trans h.os
 out:=g.out.trans h.out
theorem Km{w w':cl}{b:Nat}(h:w'.heap[b]?=w.heap[b]?)(o:Nat):w'.cell? ⟨b,o,br⟩=w.cell? ⟨b,o,br⟩:=by
 simp[World.cell?,h]
theorem CD.mono{I t:Nat->Prop}{w w':cl}(z:∀b,I b->t b)(A:∀b,I b->w'.heap[b]?=w.heap[b]?){d:D}{v:cL}(h:CD I w d v):CD t w' d v:=by
 induction h with
 |bool b=>exact .bool b
 |int k n h=>exact .int k n h
 |str s h=>exact .str s h
 |nil a cap=>exact .nil a cap
 |sl sz B b off cap g m C E h1 u o=>
  exact .sl sz B b off cap g (z _ m) C E o (λi hi=>⟨(u i hi).1,λj hj=>by rw[Km (A b m)];exact(u i hi).2 j hj⟩)
 |agg ds g q h F o=>exact .agg ds g q o F
 |CA ds g q h o=>exact .CA ds g q o
 |raw v=>exact .raw v
structure BH(G:Gh)(S:Sg)(w:cl)(G':Gh)(S':Sg)(w':cl):Prop where
 I:∀b,G.I b->G'.I b
 EV:∀b,G.I b->w'.heap[b]?=w.heap[b]?
 len:Z S<=Z S'
 row:∀r,r<Z S->∀n',lenOf S' r=al n'->∃n,lenOf S r=al n/\n<=n'/\(n=n'->G'.Cf r=G.Cf r/\G'.cap r=G.cap r/\G'.BJ r=G.BJ r/\(C0 S' r=C0 S r\/C0 S' r=br))
 map:∀r,r<Z S->Bn S' r=J->Bn S r=J/\G'.Cf r=G.Cf r
theorem BH.late{b:Nat}{G:Gh}{S:Sg}{w:cl}{i:Gh}{S':Sg}{w':cl}(L:BH G S w i S' w')(h:b<=Z S):Fb b G S i S':=
 ⟨oq h L.len,λr g=>L.row r (EQ g h),λr g=>L.map r (EQ g h)⟩
theorem CV.later{G:Gh}{S:Sg}{w:cl}{N:Gh}{S':Sg}{w':cl}(L:BH G S w N S' w'){x:V}{v:cL}(h:CV G S w x v):CV N S' w' x v:=by
 induction h with
 |any v=>exact .any v
 |d d v h=>exact .d d v (h.mono L.I L.EV)
 |full B a h=>exact .full B a (h.mono L.I L.EV)
 |row r n v o k h=>
  refine .row r n v o (EQ k L.len) λm s=>?_;obtain⟨n0,h0,q,C⟩:=L.row r k m s;obtain⟨h1,t⟩:=h n0 h0;refine⟨oq h1 q,λe=>?_⟩;obtain⟨E,F,H,_⟩:=C (by omega);rw[t (by omega)];simp[Gh.BP,E,F,H]
 |ptr r n i j v o k h=>
  refine .ptr r n i j v o (EQ k L.len) λm s=>?_;obtain⟨n0,h0,q,C⟩:=L.row r k m s;obtain⟨h1,t⟩:=h n0 h0;refine⟨oq h1 q,λe sz X=>?_⟩;obtain⟨E,F,H,K⟩:=C (by omega);rw[t (by omega) sz (by rcases K with K|K<;>simp_all)];simp[Gh.addr,E,F,H]
 |DW u b off z P h=>
  exact .DW u b off z (L.I b P) λj hj=>⟨by rw[Km (L.EV b P)];exact(h j hj).1,(h j hj).2.1.mono L.I L.EV,(h j hj).2.2⟩
 |map r v o k h=>exact .map r v o (EQ k L.len) λs=>by obtain⟨a,b⟩:=L.map r k s;rw[h a,b]
 |fn f as Q B R h1 t Y h4 T U=>exact .fn f as Q B R h1 t T U
 |agg u z M h o A=>exact .agg u z M A o
 |CA u z M h A=>exact .CA u z M A
 |opt g x v h W A=>exact .opt g x v A W
theorem BH.refl(G:Gh)(S:Sg)(w:cl):BH G S w G S w:=
 ⟨λ_ h=>h,λ_ _=>rfl,ci _,λ_ _ n h=>⟨n,h,ci _,λ_=>⟨rfl,rfl,rfl,.inl rfl⟩⟩,λ_ _ h=>⟨h,rfl⟩⟩
abbrev aev:=@BH.refl
theorem BH.trans{G:Gh}{S:Sg}{w:cl}{u:Gh}{S':Sg}{w':cl}{i:Gh}{j:Sg}{k:cl}
  (h:BH G S w u S' w') (m:BH u S' w' i j k):BH G S w i j k where
 I:=λb hb=>m.I b (h.I b hb)
 EV:=λb hb=>by rw[m.EV b (h.I b hb),h.EV b hb]
 len:=oq h.len m.len
 row:=λr o v z=>by
  obtain⟨n1,s,l1,k1⟩:=m.row r (EQ o h.len) v z;obtain⟨n2,t,l2,k2⟩:=h.row r o n1 s;refine⟨n2,t,oq l2 l1,λe=>?_⟩;obtain⟨A,B,C,g⟩:=k1 (by omega);obtain⟨E,F,H,q⟩:=k2 (by omega);refine⟨A.trans E,B.trans F,C.trans H,?_⟩;rcases g with g|g
  .rcases q with q|q
   .exact .inl (g.trans q)
   .exact .inr (g.trans q)
  .exact .inr g
 map:=λr o K=>by
  obtain⟨s,k1⟩:=m.map r (EQ o h.len) K;obtain⟨t,k2⟩:=h.map r o s;exact⟨t,k1.trans k2⟩
theorem mi.later{P:cP}{G:Gh}{S:Sg}{w:cl}{i:Gh}{S':Sg}{w':cl}(L:BH G S w i S' w')(h:mi P G w):mi P i w':=λg k=>by
 obtain⟨h1,m⟩:=h g k;exact⟨L.I g h1,λj hj=>by rw[Km (L.EV g h1)];exact m j hj⟩
theorem PU.later{G:Gh}{S:Sg}{w:cl}{g:Gh}{S':Sg}{w':cl}(L:BH G S w g S' w'){sz:Nat}{els:List V}{c:Array cL}{off:Nat}
  (h:PU G S w sz els c off):PU g S' w' sz els c off:=λi hi=>by
 obtain⟨v,h1,j,k,m⟩:=h i hi;exact⟨v,h1.later L,j,k,m⟩
theorem OK.later{G:Gh}{S:Sg}{w:cl}{j:Gh}{S':Sg}{w':cl}(L:BH G S w j S' w'){r:Nat}{o:O}
  (hb:Bb G r o=J->w'.heap[G.Cf r]?=w.heap[G.Cf r]?) (s:j.Cf r=G.Cf r) (v:j.cap r=G.cap r) (z:j.BJ r=G.BJ r)
  (h:OK G S w r o):OK j S' w' r o:=by
 cases o with
 |row P sz B=>
  simp only[OK,s,v,z]at h⊢;cases t:G.BJ r with
  |none=>
   simp only[t]at h⊢;obtain⟨c,T,h1,k,m,u,C⟩:=h;exact⟨c,T,by rw[hb (by simp[Bb,t])];exact h1,k,m,u,C.later L⟩
  |some a=>
   simp[t]at h⊢;obtain⟨h1,k,A,m,u⟩:=h;exact⟨h1,k,A,m,u.mono L.I L.EV⟩
 |BQ A=>
  simp[OK,Gh.BP,s,v,z]at h⊢;exact h.mono L.I L.EV
 |map Q=>
  simp[OK,s]at h⊢;obtain⟨q,g,h1,k,E,m⟩:=h;refine⟨q,g,by rw[hb rfl];exact h1,k,E,λi hi=>?_⟩;obtain⟨e,F,H,K,M,N⟩:=m i hi;exact⟨e,F,H.mono L.I L.EV,K.later L,M,N⟩
 |dead=>trivial
abbrev Tm:=Nat->V
def qN(G:Gh)(S:Sg)(w:cl)(ts:Array cL)(tm:Tm):Prop:=∀k,CV G S w (tm k) (ts.getD k undef)
theorem qN.later{G:Gh}{S:Sg}{w:cl}{g:Gh}{S':Sg}{w':cl}(L:BH G S w g S' w'){ts:Array cL}{tm:Tm}(h:qN G S w ts tm):qN g S' w' ts tm:=
 λk=>(h k).later L
structure St(P:cP)(n:Nat)(G:Gh)(S:Sg)(w:cl)(a:Act)(tm:Tm):Prop where
 size:a.tmps.size=n
 tm:qN G S w a.tmps tm
 rel:Rel P G S w
structure Iy(P:cP)(n b:Nat)(G:Gh)(S:Sg)(w:cl)(ds:List Deferred)(a':Act)(w':cl)(G':Gh)(S':Sg)(tm':Tm):Prop where
 st:St P n G' S' w' a' tm'
 ds:a'.defers=ds
 tr:Tr G S w G' S' w'
 late:Fb b G S G' S'
def VU(P:cP)(n b:Nat)(Q:Exit->Tm->Sg->Prop)(G:Gh)(S:Sg)(w:cl)(ds:List Deferred):Exit->Act->cl->Prop:=
 λi j k=>∃m h g,Iy P n b G S w ds j k m h g/\Q i g h
theorem VU.trans{P:cP}{n b:Nat}{Q:Exit->Tm->Sg->Prop}{G:Gh}{S:Sg}{w:cl}{ds:List Deferred}{j:Gh}{S':Sg}{w':cl}(h:Tr G S w j S' w')(o:Fb b G S j S')
  {m:Exit} {a:Act} {g:cl} (q:VU P n b Q j S' w' ds m a g):VU P n b Q G S w ds m a g:=by
 obtain⟨s,t,k,i,u⟩:=q;exact⟨s,t,k,⟨i.st,i.ds,h.trans i.tr,o.trans i.late⟩,u⟩
def AW(P:cP)(n b:Nat)(c:Code)(Q:Exit->Tm->Sg->Prop)(tm:Tm)(S:Sg):Prop:=
 ∀G w a,St P n G S w a tm->b<=Z S->c.wp P (VU P n b Q G S w a.defers) a w
abbrev adU:=@wp_mono
abbrev kw:=@if_true
abbrev li:=@if_false
abbrev de:=@List.all_eq_true
abbrev b9:=@Bool.and_eq_true
section
variable {P:cP} {n b:Nat} {Q:Exit->Tm->Sg->Prop} {tm:Tm} {S:Sg}
theorem AW.mono{c:Code}{j:Exit->Tm->Sg->Prop}(h:AW P n b c Q tm S)(m:∀k tm S,Q k tm S->j k tm S):AW P n b c j tm S:=
 λG w a st hb=>adU (h G w a st hb) λ_ _ _ o=>let⟨q,s,g,t,i⟩:=o;⟨q,s,g,t,m _ _ _ i⟩
theorem Iy.refl{G:Gh}{w:cl}{a:Act}(st:St P n G S w a tm)(hb:b<=Z S):Iy P n b G S w a.defers a w G S tm:=⟨st,rfl,aep _ _ _,aeu hb⟩
theorem B8(h:Q .normal tm S):AW P n b .skip Q tm S:=λ_ _ _ st hb=>wp_skip ⟨_,_,_,.refl st hb,h⟩
theorem Co{id:Nat}(h:Q (.exit id) tm S):AW P n b (.exit id) Q tm S:=λ_ _ _ st hb=>wp_exit ⟨_,_,_,.refl st hb,h⟩
theorem Am(h:Q .ret tm S):AW P n b .ret Q tm S:=λ_ _ _ st hb=>wp_ret ⟨_,_,_,.refl st hb,h⟩
def C8(next:Tm->Sg->Prop)(Q:Exit->Tm->Sg->Prop):Exit->Tm->Sg->Prop
 |.normal,tm,S=>next tm S
 |e,tm,S=>Q e tm S
theorem xS{x y:Code}(h:AW P n b x (C8 (AW P n b y Q) Q) tm S):AW P n b (.seq x y) Q tm S:=by
 intro G w a st hb;refine wp_seq (adU (h G w a st hb) ?_);intro e o q i;obtain⟨k,s,j,g,m⟩:=i;cases e with
 |normal=>
  have:=m k q o g.st g.late.len;rw[g.ds]at this;exact adU this λ_ _ _ i=>i.trans g.tr g.late
 |_=>exact⟨k,s,j,g,m⟩
def Bh(id:Nat)(Q:Exit->Tm->Sg->Prop):Exit->Tm->Sg->Prop
 |.exit g,tm,S=>if g=id then Q .normal tm S else Q (.exit g) tm S
 |e,tm,S=>Q e tm S
theorem Bp{id:Nat}{c:Code}(h:AW P n b c (Bh id Q) tm S):AW P n b (.block id c) Q tm S:=by
 intro G w a st hb;refine wp_block (adU (h G w a st hb) ?_);intro e s t o;obtain⟨j,k,g,m,i⟩:=o;cases e with
 |exit q=>
  simp[Exit.inBlock,Bh]at i⊢;split
  .rename_i h;simp[h]at i;exact⟨j,k,g,m,i⟩
  .rename_i h;simp[h]at i;exact⟨j,k,g,m,i⟩
 |_=>exact⟨j,k,g,m,i⟩
def AJ(P:cP)(n b:Nat)(tm:Tm)(S:Sg)(g:Tm)(S':Sg):Prop:=
 ∀G w a,St P n G S w a tm->b<=Z S->∃h,St P n h S' w a g/\Tr G S w h S' w/\Fb b G S h S'
theorem AJ.refl:AJ P n b tm S tm S:=λG w _ st hb=>⟨G,st,aep G S w,aeu hb⟩
abbrev ap:=@AJ.refl
theorem AJ.trans{i:Tm}{S':Sg}{g:Tm}{j:Sg}(h:AJ P n b tm S i S')(q:AJ P n b i S' g j):AJ P n b tm S g j:=λG w a st hb=>by
 obtain⟨s,k,t,o⟩:=h G w a st hb;obtain⟨u,m,t2,l2⟩:=q s w a k o.len;exact⟨u,m,t.trans t2,o.trans l2⟩
theorem AW.ghost{c:Code}{i:Tm}{S':Sg}(g:AJ P n b tm S i S')(h:AW P n b c Q i S'):AW P n b c Q tm S:=by
 intro G w a st hb;obtain⟨k,j,t,l⟩:=g G w a st hb;exact adU (h k w a j l.len) λ_ _ _ m=>m.trans t l
abbrev io:=@AW.ghost
theorem AW.loop{c:Code}(Inv:Nat->Tm->Sg->Prop)(h0:∃m i s,AJ P n b tm S i s/\Inv m i s)
  (hr:∀m tm S,Inv m tm S->AW P n b c (C8 (λi s=>∃M t F,M<m/\AJ P n b i s t F/\Inv M t F) Q) tm S):AW P n b (.loop c) Q tm S:=by
 intro G w a st hb;obtain⟨m,N,S0,g0,hi⟩:=h0;obtain⟨G0,R,t0,l0⟩:=g0 G w a st hb;let T:Nat->Act->cl->Prop:=λm u v=>∃U s i,Iy P n b G S w a.defers u v U s i/\Inv m i s;have key:∀m u v,T m u v->∀(fb:Frame) (k:List Item) (z:List Frame),∃e H K,VU P n b Q G S w a.defers e H K/\Arrives P (lone (fb.at u (.code c::.inLoop c::k)) z v) fb k z e H K:=by
  intro m;induction m using Nat.strongRecOn with
  |_ m ih=>
   intro u v hJ fb k z;obtain⟨U,s,i,j,hi⟩:=hJ;obtain⟨e,A,B,o,g⟩:=hr m i s hi U v u j.st j.late.len fb (.inLoop c::k) z;rw[j.ds]at o;obtain⟨E,L,q,h,o⟩:=o;cases e with
   |normal=>
    obtain⟨M,W,S3,y7,g3,X⟩:=o;obtain⟨G3,Y,t3,l3⟩:=g3 E B A h.st h.late.len;obtain⟨e2,a2,w2,hq2,C⟩:=ih M y7 A B ⟨G3,S3,W,⟨Y,h.ds,(j.tr.trans h.tr).trans t3,(j.late.trans h.late).trans l3⟩,X⟩ fb k z;exact⟨e2,a2,w2,hq2,.of_steps (Steps.trans g (.one step_inLoop)) C⟩
   |exit id=>exact⟨_,A,B,⟨E,L,q,⟨h.st,h.ds,j.tr.trans h.tr,j.late.trans h.late⟩,o⟩,.pass (x:=.inLoop c) rfl (λ_ _=>.inl (by simp)) g⟩
   |goto l=>exact⟨_,A,B,⟨E,L,q,⟨h.st,h.ds,j.tr.trans h.tr,j.late.trans h.late⟩,o⟩,.pass (x:=.inLoop c) rfl (λ_ _=>.inl (by simp)) g⟩
   |ret=>exact⟨_,A,B,⟨E,L,q,⟨h.st,h.ds,j.tr.trans h.tr,j.late.trans h.late⟩,o⟩,.pass (x:=.inLoop c) rfl (λ_ _=>.inl (by simp)) g⟩
   |panic ch=>exact⟨_,A,B,⟨E,L,q,⟨h.st,h.ds,j.tr.trans h.tr,j.late.trans h.late⟩,o⟩,.pass (x:=.inLoop c) rfl (λ_ _=>.inl (by simp)) g⟩
   |outgrown=>exact⟨.outgrown,A,B,⟨E,L,q,⟨h.st,h.ds,j.tr.trans h.tr,j.late.trans h.late⟩,o⟩,g⟩
 intro fb k z;obtain⟨e,u,v,o,g⟩:=key m a w ⟨G0,S0,N,⟨R,rfl,t0,l0⟩,hi⟩ fb k z;exact⟨e,u,v,o,.of_steps (.one step_loop) g⟩
abbrev aew:=@AW.loop
def Zs:cL->V
 |.bool b=>.d (.bool b)
 |.int k n=>if IX k n then .d (.int k n)else .any
 |.string s=>if s.size<=maxLen then .d (.str s)else .any
 |.slice br 0 0=>.full []
 |.agg _=>.any
 |.tuple _=>.any
 |v=>.d (.raw v)
def Og:cL->V
 |.agg g=>if g.toList.all one then .agg (g.toList.map Zs)else .any
 |v=>Zs v
def ev(tm:Tm):Operand->V
 |.tmp t=>tm t
 |.const v=>Og v
 |.global _=>.any
 |.func f=>.fn (.func f) [] []
theorem Yl(G:Gh)(S:Sg)(w:cl)(v:cL):CV G S w (Zs v) v:=by
 unfold Zs;split<;>first
  |exact .any _
  |exact .d _ _ (.bool _)
  |(split
    .exact .d _ _ (.int _ _ ‹_›)
    .exact .any _)
  |(split
    .exact .d _ _ (.str _ ‹_›)
    .exact .any _)
  |exact .full [] br (.nil br 0)
  |exact .d _ _ (.raw _)
theorem Ia(G:Gh)(S:Sg)(w:cl)(v:cL):CV G S w (Og v) v:=by
 unfold Og;split
 .rename_i g;split
  .rename_i h;refine .agg _ _ (by simp) (λi hi=>by simpa using Yl G S w _) (λi hi=>?_);have:=de.1 h g[i] (by simp);simpa using this
  .exact .any _
 .exact Yl G S w v
theorem BY{G:Gh}{w:cl}{a:Act}(st:St P n G S w a tm)(x:Operand):CV G S w (ev tm x) (a.eval x):=by
 cases x with
 |tmp t=>exact st.tm t
 |const v=>exact Ia G S w v
 |global g=>exact .any _
 |func f=>exact .fn _ _ _ _ _ rfl rfl (λi h=>by simp at h) (λi h=>by simp at h)
theorem AW.BM{c:Operand}{x y:Code}{t:Bool}(i:ev tm c=.d (.bool t))(h1:t=J->AW P n b x Q tm S)(k:t=am->AW P n b y Q tm S):AW P n b (.cond c x y) Q tm S:=by
 intro G w a st j;have m:a.eval c=.bool t:=by
  cases c with
  |tmp t=>
   have:=st.tm t;simp[ev]at i;rw[i]at this;simp only[Act.eval];generalize a.tmps.getD t undef=x at this;cases this with|d _ _ h=>cases h;rfl
  |const v=>
   simp[ev,Og]at i;split at i
   .split at i<;>cases i
   .unfold Zs at i;split at i<;>first|(simp[V.d.injEq,D.bool.injEq]at i;subst i;rfl)|(cases i;done)|(split at i<;>cases i)
  |global g=>cases i
  |func f=>cases i
 refine wp_cond_split m (λhb=>h1 hb G w a st j) (λhb=>k hb G w a st j)
abbrev qr:=@AW.BM
def strip:V->V
 |.opt _ v=>strip v
 |v=>v
def need:V->Prop
 |.opt g v=>g=J/\need v
 |_=>True
def H0(g:Bool):V->V
 |.opt h v=>.opt (g&&h) v
 |v=>.opt g v
theorem CV.strip{G:Gh}{S:Sg}{w:cl}{v:cL}:∀{x:V},CV G S w x v->need x->CV G S w (strip x) v
 |.opt g x,h,hn=>by
  show CV G S w (Koi.strip x) v
  cases h with|opt _ _ _ i _=>exact CV.strip (x:=x) (i hn.1) hn.2
 |.any,h,_|.d _,h,_|.full _,h,_|.row ..,h,_|.ptr ..,h,_|.DW _,h,_|.map _,h,_|.fn ..,h,_|.agg _,h,_|.CA _,h,_=>h
theorem CV.H0{G:Gh}{S:Sg}{w:cl}{v:cL}{g:Bool}{x:V}(h:g=J->CV G S w x v)(j:g=am->v=undef):CV G S w (H0 g x) v:=by
 cases x with
 |opt k x=>
  refine .opt _ _ _ (λi=>?_) (λi=>?_)
  .simp at i;have:=h i.1;cases this with|opt _ _ _ h _=>exact h i.2
  .cases g with
   |false=>exact j rfl
   |true=>
    have:=h rfl;cases this with|opt _ _ _ _ h=>exact h (by simpa using i)
 |_=>exact .opt _ _ _ h j
end
inductive TK where
 |bool|int (k:IntKind)|str|slice (e:c9)|array (n:Nat) (e:c9)|map (k e:c9)|struct (fs:List (Nat×c9))|ptr (e:c9)|func|iface|other
structure TI where
 size:Nat
 bytes:Nat
 zero:Option cL
 kind:TK
def tk:TypeDesc->TK
 |.bool=>.bool
 |.int k=>.int k
 |.string=>.str
 |.slice e=>.slice e
 |.array n e=>.array n e
 |.map k e=>.map k e
 |.struct g=>.struct (g.toList.map λf=>(f.offset,f.type))
 |.pointer e=>.ptr e
 |.func ..=>.func
 |.interface _=>.iface
 |_=>.other
def ti(P:cP)(T:c9):Option TI:=
 match P.info? T,P.underlying T with
 |some i,al d=>al {size:=i.size,bytes:=i.bytes,zero:=i.zero,kind:=tk d}
 |_,_=>br
def TI.agg(t:TI):Bool:=
 match t.kind with
 |.array ..|.struct _=>J
 |_=>am
theorem Ja{P:cP}{T:c9}{t:TI}(h:ti P T=al t):∃i d,P.info? T=al i/\P.underlying T=al d/\i.size=t.size/\i.bytes=t.bytes/\i.zero=t.zero/\tk d=t.kind:=by
 unfold ti at h;split at h
 .rename_i i d h1 g;cases h;exact⟨i,d,h1,g,rfl,rfl,rfl,rfl⟩
 .cases h
abbrev l6:=@Sem.run_bind
abbrev lh:=@Result.andThen_ok
section
variable {P:cP} {T:c9} {t:TI}
theorem Dt(h:ti P T=al t)(w:cl):∃i,(typeInfo T).run P w=.ok i w/\i.size=t.size/\i.bytes=t.bytes/\i.zero=t.zero:=by
 obtain⟨i,d,h1,m,g,j,k,o⟩:=Ja h;exact⟨i,by simp[typeInfo,h1],g,j,k⟩
theorem Ba(h:ti P T=al t)(w:cl):(sizeOf T).run P w=.ok t.size w:=by
 obtain⟨i,h1,g,_⟩:=Dt h w;simp[sizeOf,h1,g]
theorem An(h:ti P T=al t)(w:cl):∃d,(underlying T).run P w=.ok d w/\tk d=t.kind:=by
 obtain⟨i,d,h1,g,k,m,o,j⟩:=Ja h;exact⟨d,by simp[underlying,g],j⟩
theorem Mu(h:ti P T=al t)(w:cl):(isAgg T).run P w=.ok t.agg w:=by
 obtain⟨d,h1,g⟩:=An h w;simp[isAgg,h1,TI.agg,<-g];cases d<;>simp[tk]
theorem ED(h:ti P T=al t)(w:cl){z:cL}(g:t.zero=al z):(zeroValue T).run P w=.ok z w:=by
 obtain⟨i,h1,k,m,j⟩:=Dt h w;simp[zeroValue,h1,j,g]
end
def Aj:V->List V
 |.agg g=>g
 |.d (.agg ds)=>ds.map .d
 |v=>[v]
def Ap:V->Bool
 |.agg _=>J
 |.d (.agg _)=>J
 |_=>am
def Bu:V->Bool
 |.agg _=>am
 |.CA _=>am
 |.any=>am
 |.opt _ _=>am
 |.d (.agg _)=>am
 |.d (.CA _)=>am
 |.d (.raw v)=>one v
 |_=>J
theorem CV.one{G:Gh}{S:Sg}{w:cl}{x:V}{v:cL}(h:CV G S w x v)(g:Bu x=J):one v=true:=by
 cases h with
 |any=>simp[Bu]at g
 |d d v h=>cases h<;>first|rfl|(simp[Bu]at g;done)|(simpa[Bu]using g)
 |full=>rfl
 |row r n v h1=>exact h1
 |ptr r n i j v h1=>exact h1
 |DW=>rfl
 |map r v h1=>exact h1
 |fn=>rfl
 |agg=>simp[Bu]at g
 |CA=>simp[Bu]at g
 |opt=>simp[Bu]at g
theorem Kj{v:cL}(h:one v=J):v.cells=#[v]:=by
 cases v<;>first|rfl|simp[Koi.one]at h
theorem CV.cells{G:Gh}{S:Sg}{w:cl}{x:V}{v:cL}(h:CV G S w x v)(ha:Ap x=J\/Bu x=J):
  v.cells.size=Z (Aj x)/\(∀i (h:i<v.cells.size),Koi.one v.cells[i]=J)/\∀i (h:i<Z (Aj x)),∃u,v.cells[i]?=al u/\CV G S w (Aj x)[i] u:=by
 by_cases h1:Bu x=J
 .have m:=h.one h1;have o:Aj x=[x]:=by
   cases x with
   |d d=>cases d<;>first|rfl|simp[Bu]at h1
   |agg=>simp[Bu]at h1
   |_=>rfl
  rw[Kj m,o];refine⟨rfl,λi hi=>?_,λi hi=>?_⟩
  .have:i=0:=by simp at hi;exact hi
   subst this;simpa using m
  .have:i=0:=by simp at hi;exact hi
   subst this;exact⟨v,rfl,by simpa using h⟩
 .have ha:Ap x=true:=ha.resolve_right h1;cases h with
  |agg t g j h k=>
   refine⟨j,k,λi hi=>⟨g[i]'(by simp[Aj]at hi;omega),by simp[Value.cells],h i hi⟩⟩
  |d d v q=>
   cases q with
   |agg ds g j h k=>
    refine⟨by simpa[Aj,Value.cells]using j,k,λi hi=>?_⟩;have s:i<Z ds:=by simpa[Aj]using hi
    exact⟨g[i]'(by omega),by simp[Value.cells],by simpa[Aj]using CV.d _ _ (h i s)⟩
   |_=>simp[Ap]at ha
  |_=>simp[Ap]at ha
def D1(w:cl)(b:Nat)(o:Obj):cl:={w with heap:=w.heap.setIfInBounds b o}
def Bj(w:cl)(o:Obj):cl:={w with heap:=w.heap.push o}
@[simp] theorem pg(w:cl)(b:Nat)(o:Obj):(D1 w b o).heap.size=w.heap.size:=by simp[D1]
@[simp] theorem pV(w:cl)(o:Obj):(Bj w o).heap.size=w.heap.size+1:=by simp[Bj]
theorem Gk{w:cl}{b:Nat}{o:Obj}(h:b<w.heap.size):(D1 w b o).heap[b]?=al o:=by simp[D1,h]
abbrev acd:=@Array.getElem?_setIfInBounds_ne
abbrev ru:=@Ne.symm
theorem Nt{w:cl}{b g:Nat}{o:Obj}(h:g≠b):(D1 w b o).heap[g]?=w.heap[g]?:=by
 simp[D1,acd (ru h)]
theorem DO{w:cl}{b:Nat}{o:Obj}(h:b<w.heap.size):(Bj w o).heap[b]?=w.heap[b]?:=by
 simp[Bj,Array.getElem?_push,Nat.ne_of_lt h]
theorem EK{w:cl}{o:Obj}:(Bj w o).heap[w.heap.size]?=al o:=by simp[Bj]
theorem cell_of{w:cl}{b:Nat}{c:Array cL}{T:c9}{f:Nat×Nat}(h:w.heap[b]?=al (.cells c T f))(k:Nat):w.cell? ⟨b,k,br⟩=c[k]?:=by
 simp[World.cell?,h]
theorem ZG{w:cl}{b:Nat}{c:Array cL}{T:c9}(h:w.heap[b]?=al (.cells c T (0,0)))(k:Nat):w.frozen? ⟨b,k,br⟩=false:=by
 simp[World.frozen?,h]
theorem Gm(b off i:Nat):(⟨b,off,br⟩:Addr).add i=⟨b,off+i,br⟩:=by
 unfold Addr.add;split<;>simp_all
abbrev zz:=@Nat.add_zero
abbrev ad4:=@Array.ext'
abbrev ii:=@List.map_cons
abbrev md:=@List.map_map
abbrev abC:=@List.append_assoc
abbrev acy:=@List.singleton_append
abbrev y4:=@List.map_congr_left
abbrev lm:=@Function.comp_def
theorem run_loadCellsFrom{P:cP}{w:cl}{b off:Nat}(f:Nat->cL):∀(n i:Nat) (g:Array cL),(∀j,j<n->w.cell? ⟨b,off+(i+j),br⟩=al (f (i+j)))->(loadCellsFrom ⟨b,off,br⟩ i n g).run P w=.ok (g++((List.range n).map λj=>f (i+j)).toArray) w
 |0,i,g,h=>by simp[loadCellsFrom]
 |n+1,i,g,h=>by
  have h0:=h 0 (by omega);simp only[loadCellsFrom,l6,Gm];rw[run_load];simp at h0;simp[h0];rw[run_loadCellsFrom f n (i+1) (g.push (f i)) (λj hj=>by have:=h (j+1) (by omega);rw[show i+1+j=i+(j+1)from by omega];exact this)];congr 1;rw[List.range_succ_eq_map];apply ad4;simp only[Array.toList_append,Array.toList_push,ii,md,abC,acy,zz];congr 2;apply y4;intro j _;simp;congr 1;omega
abbrev wl:=@Nat.zero_add
abbrev nu:=@Array.getElem?_eq_getElem
abbrev abG:=@List.ext_getElem
theorem run_loadCells{P:cP}{w:cl}{b off n:Nat}(vs:Array cL)(hn:vs.size=n)(h:∀j,j<n->w.cell? ⟨b,off+j,br⟩=vs[j]?):
  (loadCells ⟨b,off,br⟩ n).run P w=.ok vs w:=by
 unfold loadCells;rw[run_loadCellsFrom (λj=>vs.getD j undef) n 0 #[] (λj hj=>by
  rw[wl,h j hj];simp[nu (show j<vs.size by omega)])]
 congr 1;apply ad4;apply abG
 .simp[hn]
 .intro i h1 g;have:i<vs.size:=by simpa using g
  simp[this]
abbrev su:=@Bool.false_eq_true
abbrev x3:=@Nat.lt_or_ge
abbrev WF:=@Array.getElem?_eq_none
abbrev a9:=@if_neg
theorem UD{P:cP}{w:cl}{b k:Nat}{c:Array cL}{T:c9}{v:cL}(hb:w.heap[b]?=al (.cells c T (0,0)))(g:k<c.size)(j:one v=J):
  (store ⟨b,k,br⟩ v).run P w=.ok () (D1 w b (.cells (c.setIfInBounds k v) T (0,0))):=by
 have h1:w.cell? ⟨b,k,br⟩=al c[k]:=by rw[cell_of hb];simp[g]
 have m:=ZG hb k;rw[run_store P w _ _ _ (by cases v<;>first|rfl|simp[one]at j)];simp only[h1,m];simp only[su,li];congr 1;unfold World.setCell D1;have o:b<w.heap.size:=by
  rcases x3 b w.heap.size with h|h
  .exact h
  .simp[WF h]at hb
 congr 1;apply Array.ext
 .simp
 .intro i q t;have s:w.heap[b]=.cells c T (0,0):=by simpa[nu o]using hb
  by_cases hi:i=b
  .subst hi;simp[Array.getElem_modify,s]
  .rw[Array.getElem_modify,a9 (ru hi),Array.getElem_setIfInBounds_ne (hj:=by simpa using q) (h:=ru hi)]
def C1(c:Array cL)(k:Nat):List cL->Array cL
 |[]=>c
 |v::g=>C1 (c.setIfInBounds k v) (k+1) g
theorem Ea(vs:List cL):∀(c:Array cL) (k:Nat),(C1 c k vs).size=c.size:=by
 induction vs with
 |nil=>intro c k;rfl
 |cons v vs g=>intro c k;simp[C1,g]
abbrev gr:=@List.length_cons
abbrev b8:=@if_pos
abbrev ad2:=@Nat.sub_self
abbrev abN:=@List.getElem?_cons_zero
abbrev acQ:=@Array.getElem?_setIfInBounds_self_of_lt
theorem EF(vs:List cL):∀(c:Array cL) (k i:Nat),k+Z vs<=c.size->(C1 c k vs)[i]?=if k<=i/\i<k+Z vs then vs[i - k]? else c[i]?:=by
 induction vs with
 |nil=>intro c k i _;simp[C1];omega
 |cons v vs j=>
  intro c k i h;simp[C1]at *;rw[j _ _ _ (by simp;omega)];by_cases h1:k+1<=i/\i<k+1+Z vs
  .rw[b8 h1,b8 (by omega)];rw[show i - k=(i - (k+1))+1 from by omega];simp
  .rw[a9 h1];by_cases g:i=k
   .subst g;rw[b8 (by omega)];simp;rw[acQ (by omega)]
   .rw[a9 (by omega)];simp[acd (ru g)]
theorem RC(w:cl)(b:Nat)(o o':Obj):D1 (D1 w b o) b o'=D1 w b o':=by
 unfold D1;simp
abbrev tp:=@Sem.run_pure
abbrev q7:=@Nat.add_assoc
theorem Jp{P:cP}{b off:Nat}{T:c9}(vs:List cL):∀(i:Nat) (w:cl) (c:Array cL),w.heap[b]?=al (.cells c T (0,0))->off+i+Z vs<=c.size->(∀v∈vs,one v=J)->(storeCells ⟨b,off,br⟩ vs i).run P w=.ok () (D1 w b (.cells (C1 c (off+i) vs) T (0,0))):=by
 induction vs with
 |nil=>
  intro i w c hb _ _;simp[storeCells,C1];congr 1;unfold D1;have j:b<w.heap.size:=by
   rcases x3 b w.heap.size with h|h
   .exact h
   .simp[WF h]at hb
  have k:w.heap[b]=.cells c T (0,0):=by simpa[nu j]using hb
  cases w;simp[World.mk.injEq,and_true];simp only at j k;rw[<-k];simp[Array.setIfInBounds,j]
 |cons v vs m=>
  intro i w c hb o g;simp at o;simp[storeCells,Gm];rw[UD hb (by omega) (g v (by simp))];simp;have j:b<w.heap.size:=by
   rcases x3 b w.heap.size with h|h
   .exact h
   .simp[WF h]at hb
  rw[m (i+1) _ (c.setIfInBounds (off+i) v) (Gk j) (by simp;omega) (λv q=>g v (by simp[q]))];rw[RC];simp[C1,q7]
theorem GK{w:cl}{b:Nat}{o:Obj}(h:w.heap[b]?=al o):b<w.heap.size:=by
 rcases x3 b w.heap.size with g|g
 .exact g
 .simp[WF g]at h
abbrev ut:=@List.getElem?_eq_none
theorem Ai{α:Type}{l:List α}{i:Nat}{x:α}(h:l[i]?=al x):i<Z l:=by
 rcases x3 i (Z l) with g|g
 .exact g
 .simp[ut g]at h
abbrev sn:=@List.getElem?_set_ne
theorem Rel.update{P:cP}{G:Gh}{S:Sg}{w:cl}(R:Rel P G S w){r:Nat}{o o':O}{H:Obj}(v:S[r]?=al o)(A:Bb G r o=J)(M:Bb G r o'=J)
  (s:∀m,lenOf (S.set r o') r=al m->∃n,lenOf S r=al n/\n<=m/\(n=m->C0 (S.set r o') r=C0 S r\/C0 (S.set r o') r=br))
  (t:Bn (S.set r o') r=J->Bn S r=J)
  (N:BH G S w G (S.set r o') (D1 w (G.Cf r) H)->OK G (S.set r o') (D1 w (G.Cf r) H) r o'):
  Rel P G (S.set r o') (D1 w (G.Cf r) H)/\Tr G S w G (S.set r o') (D1 w (G.Cf r) H)/\BH G S w G (S.set r o') (D1 w (G.Cf r) H):=by
 have Q:=Ai v;have j:HG G S (G.Cf r):=⟨r,o,v,A,rfl⟩;have q:∀g,g≠r->(S.set r o')[g]?=S[g]?:=λg h=>by simp[sn (ru h)]
 have Dj:(S.set r o')[r]?=al o':=by simp[Q]
 have L:BH G S w G (S.set r o') (D1 w (G.Cf r) H):=by
  refine⟨λ_ h=>h,λb hb=>Nt (λe=>R.nI _ j (e▸hb)),by simp,λg B m F=>?_,λg B C=>?_⟩
  .by_cases e:g=r
   .subst e;obtain⟨n,h1,u,z⟩:=s m F;exact⟨n,h1,u,λe=>⟨rfl,rfl,rfl,z e⟩⟩
   .have:lenOf (S.set r o') g=lenOf S g:=by simp[lenOf,q g e]
    exact⟨m,by rw[<-this];exact F,ci _,λ_=>⟨rfl,rfl,rfl,.inl (by simp[C0,q g e])⟩⟩
  .by_cases e:g=r
   .subst e;exact⟨t C,rfl⟩
   .exact⟨by simp[Bn,q g e]at C;exact C,rfl⟩
 have i:∀b,HG G (S.set r o') b->HG G S b:=by
  rintro b ⟨g,x,h1,u,z⟩;by_cases e:g=r
  .subst e;rw[z];exact j
  .rw[q g e]at h1;exact⟨g,x,h1,u,z⟩
 refine⟨⟨R.HU.later L,λg x k=>?_,λr1 r2 T U h1 u o1 W X=>?_,λb hb=>R.nI b (i b hb),λb hb=>by simpa using R.Kf b hb,λb hb=>by simpa using R.Ik b (i b hb)⟩,⟨by simp,λ_ h=>h,λb _ hn=>Nt (λe=>hn (e▸j)),λb hb=>.inl (i b hb),λb hb=>.inl hb,rfl,rfl⟩,L⟩
 .by_cases e:g=r
  .subst e;rw[Dj]at k;cases k;exact N L
  .rw[q g e]at k;refine(R.DX g x k).later L (λE=>Nt (λY=>?_)) rfl rfl rfl;exact e (R.inj g r x o k v E A Y)
 .have get:∀g x,(S.set r o')[g]?=al x->Bb G g x=J->∃K,S[g]?=al K/\Bb G g K=true:=λg x k E=>by
   by_cases e:g=r
   .subst e;exact⟨o,v,A⟩
   .rw[q g e]at k;exact⟨x,k,E⟩
  obtain⟨y1,g1,p1⟩:=get r1 T h1 o1;obtain⟨y2,g2,p2⟩:=get r2 U u W;exact R.inj r1 r2 y1 y2 g1 g2 p1 p2 X
def Gh.at (G:Gh)(r b cap:Nat)(BJ:Option (Option Addr)):Gh:=
 {I:=G.I,Cf:=λk=>if k=r then b else G.Cf k,cap:=λk=>if k=r then(cap,0)else G.cap k,BJ:=λk=>if k=r then BJ else G.BJ k}
abbrev acD:=@List.getElem?_append
theorem BH.add{G:Gh}{S:Sg}{w w':cl}(b cap:Nat)(BJ:Option (Option Addr))(o:O)(j:∀k,G.I k->w'.heap[k]?=w.heap[k]?):
  BH G S w (G.at (Z S) b cap BJ) (S++[o]) w':=by
 refine⟨λ_ h=>h,j,by simp,λr i m q=>?_,λr i s=>?_⟩
 .have e:(S++[o])[r]?=S[r]?:=by simp[acD,i]
  have g:r≠Z S:=by omega
  refine⟨m,by simpa only[lenOf,e]using q,ci _,λ_=>⟨by simp[Gh.at,g],by simp[Gh.at,g],by simp[Gh.at,g],.inl (by simp[C0,e])⟩⟩
 .have e:(S++[o])[r]?=S[r]?:=by simp[acD,i]
  have g:r≠Z S:=by omega
  exact⟨by simpa only[Bn,e]using s,by simp[Gh.at,g]⟩
theorem El{G:Gh}{g r b cap:Nat}{BJ:Option (Option Addr)}{o:O}(h:g≠r):Bb (G.at r b cap BJ) g o=Bb G g o:=by
 cases o<;>simp[Bb,Gh.at,h]
theorem Rel.add{P:cP}{G:Gh}{S:Sg}{w:cl}(R:Rel P G S w)(cap:Nat)(o:O)(H:Obj)
  (C:BH G S w (G.at (Z S) w.heap.size cap br) (S++[o]) (Bj w H)->OK (G.at (Z S) w.heap.size cap br) (S++[o]) (Bj w H) (Z S) o):
  Rel P (G.at (Z S) w.heap.size cap br) (S++[o]) (Bj w H)/\Tr G S w (G.at (Z S) w.heap.size cap br) (S++[o]) (Bj w H)/\BH G S w (G.at (Z S) w.heap.size cap br) (S++[o]) (Bj w H):=by
 have L:BH G S w (G.at (Z S) w.heap.size cap br) (S++[o]) (Bj w H):=BH.add _ _ _ _ (λk E=>DO (R.Kf k E));have KS:∀r x,(S++[o])[r]?=al x->r≠Z S->S[r]?=al x/\r<Z S:=λr x i K=>by
  have h1:=Ai i;have j:r<Z S:=by simp at h1;omega
  exact⟨by simpa[acD,j]using i,j⟩
 have new:∀x,(S++[o])[Z S]?=al x->x=o:=λx i=>by simp at i;exact i.symm
 have g:∀b,HG (G.at (Z S) w.heap.size cap br) (S++[o]) b->HG G S b\/b=w.heap.size:=by
  rintro b ⟨r,x,h1,j,s⟩;by_cases e:r=Z S
  .right;rw[s,e];simp[Gh.at]
  .left;obtain⟨m,_⟩:=KS r x h1 e;rw[El e]at j;exact⟨r,x,m,j,by rw[s];simp[Gh.at,e]⟩
 refine⟨⟨R.HU.later L,λr x i=>?_,λr1 r2 z u h1 j o1 v A=>?_,λb hb B=>?_,λb hb=>?_,λb hb=>?_⟩,⟨by simp,λ_ h=>h,λb hb _=>DO hb,λb hb=>?_,λb hb=>.inl hb,rfl,rfl⟩,L⟩
 .by_cases e:r=Z S
  .subst e;cases new x i;exact C L
  .obtain⟨m,_⟩:=KS r x i e;have hb:(G.at (Z S) w.heap.size cap br).Cf r=G.Cf r:=by simp[Gh.at,e]
   refine(R.DX r x m).later L (λF=>DO (R.Ik _ ⟨r,x,m,F,rfl⟩)) hb (by simp[Gh.at,e]) (by simp[Gh.at,e])
 .by_cases t:r1=Z S
  .by_cases q:r2=Z S
   .omega
   .obtain⟨m,_⟩:=KS r2 u j q;rw[El q]at v;have:=R.Ik _ ⟨r2,u,m,v,rfl⟩;simp[Gh.at,t,q]at A;omega
  .obtain⟨s,_⟩:=KS r1 z h1 t;rw[El t]at o1;by_cases q:r2=Z S
   .have:=R.Ik _ ⟨r1,z,s,o1,rfl⟩;simp[Gh.at,t,q]at A;omega
   .obtain⟨m,_⟩:=KS r2 u j q;rw[El q]at v;exact R.inj r1 r2 z u s m o1 v (by simpa[Gh.at,t,q]using A)
 .rcases g b hb with h|h
  .exact R.nI b h B
  .have:=R.Kf b B;omega
 .have:=R.Kf b hb;simp;omega
 .rcases g b hb with h|h
  .have:=R.Ik b h;simp;omega
  .simp[h]
 .rcases g b hb with h|h
  .exact .inl h
  .exact .inr (by omega)
def Gh.iF(G:Gh)(b:Nat):Gh:={G with I:=λk=>G.I k\/k=b}
theorem Rel.rX{P:cP}{G:Gh}{S:Sg}{w:cl}(R:Rel P G S w)(H:Obj):
  Rel P (G.iF w.heap.size) S (Bj w H)/\Tr G S w (G.iF w.heap.size) S (Bj w H)/\BH G S w (G.iF w.heap.size) S (Bj w H):=by
 have L:BH G S w (G.iF w.heap.size) S (Bj w H):=
  ⟨λ_ h=>.inl h,λk i=>DO (R.Kf k i),ci _,λr _ n h=>⟨n,h,ci _,λ_=>⟨rfl,rfl,rfl,.inl rfl⟩⟩,λr _ h=>⟨h,rfl⟩⟩
 have o:∀b,HG (G.iF w.heap.size) S b↔HG G S b:=λb=>Iff.rfl;refine⟨⟨R.HU.later L,λr x g=>(R.DX r x g).later L (λj=>DO (R.Ik _ ⟨r,x,g,j,rfl⟩)) rfl rfl rfl,R.inj,λb hb m=>?_,λb hb=>?_,λb hb=>?_⟩,⟨by simp,λ_ h=>.inl h,λb hb _=>DO hb,λb hb=>.inl hb,λb hb=>?_,rfl,rfl⟩,L⟩
 .rcases m with h|h
  .exact R.nI b hb h
  .have:=R.Ik b hb;omega
 .rcases hb with h|h
  .have:=R.Kf b h;simp;omega
  .simp[h]
 .have:=R.Ik b hb;simp;omega
 .rcases hb with h|h
  .exact .inl h
  .exact .inr (.inr (by omega))
theorem Rel.drawn{P:cP}{G:Gh}{S:Sg}{w w':cl}(R:Rel P G S w)(g:w'.heap=w.heap)(i:w'.os=w.os)(j:w'.output=w.output):
  Rel P G S w'/\Tr G S w G S w'/\BH G S w G S w':=by
 have L:BH G S w G S w':=⟨λ_ h=>h,λ_ _=>by rw[g],ci _,λr _ n h=>⟨n,h,ci _,λ_=>⟨rfl,rfl,rfl,.inl rfl⟩⟩,λr _ h=>⟨h,rfl⟩⟩;exact⟨⟨R.HU.later L,λr x k=>(R.DX r x k).later L (λ_=>by rw[g]) rfl rfl rfl,R.inj,R.nI,λb hb=>by rw[g];exact R.Kf b hb,λb hb=>by rw[g];exact R.Ik b hb⟩,⟨by rw[g];exact ci _,λ_ h=>h,λ_ _ _=>by rw[g],λ_ h=>.inl h,λ_ h=>.inl h,i,j⟩,L⟩
end Go.Koi
