/-
  Part 1 of the proof that the law ChangeFoldInline returns true for every input.
-/
import Derived.Calls
import Derived.Orders
import Derived.Laws.Sem
import Derived.KernelRfl
import GoSem.ClaimData
set_option maxHeartbeats 64000000
set_option maxRecDepth 100000
namespace Go.Koi
open Go renaming Program->b8,TypeId->ce,Value->bn,World->cf
inductive D where
 |bool (b:Bool)
 |int (k:IntKind) (n:Int)
 |str (s:ByteArray)
 |sl (xs:List D)
 |agg (cs:List D)
 |Cb (vs:List D)
 |raw (v:bn)
inductive V where
 |any
 |d (d:D)
 |full (xs:List D)
 |row (r n:Nat)
 |ptr (r n i j:Nat)
 |DX (cs:List D)
 |map (r:Nat)
 |fn (f:Fn) (first caps:List V)
 |agg (cs:List V)
 |Cb (vs:List V)
 |opt (g:Bool) (v:V)
inductive O where
 |row (wr:Bool) (sz:Nat) (els:List V)
 |BY (xs:List D)
 |map (es:List (D×V))
 |dead
def IL:IntKind->Int->Bool
 |.i8,n=>decide (-128<=n)&&decide (n<=127)
 |.i16,n=>decide (-32768<=n)&&decide (n<=32767)
 |.i32,n=>decide (-2147483648<=n)&&decide (n<=2147483647)
 |.i64,n=>decide (-9223372036854775808<=n)&&decide (n<=9223372036854775807)
 |.u8,n=>decide (0<=n)&&decide (n<=255)
 |.u16,n=>decide (0<=n)&&decide (n<=65535)
 |.u32,n=>decide (0<=n)&&decide (n<=4294967295)
 |.u64,n=>decide (0<=n)&&decide (n<=18446744073709551615)
theorem U8(k:IntKind)(n:Int):(Lit.int k n).wf=IL k n:=by
 cases k<;>simp[Lit.wf,IL,IntKind.min,IntKind.max,IntKind.signed,IntKind.bits]
theorem Je(k:IntKind)(e:Int):IL k (k.wrap e)=true:=by
 cases k<;>simp[IL,IntKind.wrap,IntKind.signed,IntKind.bits]<;>(try split)<;>omega
def one:bn->Bool
 |.agg _=>false
 |.tuple _=>false
 |_=>true
inductive CD(I:Nat->Prop)(w:cf):D->bn->Prop
 |bool (b:Bool):CD I w (.bool b) (.bool b)
 |int (k:IntKind) (n:Int) (h:IL k n=true):CD I w (.int k n) (.int k n)
 |str (s:ByteArray) (h:s.size<=maxLen):CD I w (.str s) (.string s)
 |nil (a:Option Addr) (cap:Nat):CD I w (.sl []) (.slice a 0 cap)
 |sl (sz:Nat) (xs:List D) (b off cap:Nat) (vs:Nat->bn) (hI:I b) (hl:xs.length<=maxLen) (hc:xs.length<=cap)
   (h1:∀i (h:i<xs.length),CD I w xs[i] (vs i))
   (h2:∀i,i<xs.length->(vs i).cells.size=sz/\∀j,j<sz->w.cell? ⟨b,off+i * sz+j,none⟩=(vs i).cells[j]?):
   CD I w (.sl xs) (.slice (some ⟨b,off,none⟩) xs.length cap)
 |agg (ds:List D) (vs:Array bn) (hs:vs.size=ds.length)
   (h:∀i (h:i<ds.length),CD I w ds[i] (vs[i]'(by omega)))
   (ho:∀i (h:i<vs.size),one vs[i]=true):CD I w (.agg ds) (.agg vs)
 |Cb (ds:List D) (vs:Array bn) (hs:vs.size=ds.length)
   (h:∀i (h:i<ds.length),CD I w ds[i] (vs[i]'(by omega))):CD I w (.Cb ds) (.tuple vs)
 |raw (v:bn):CD I w (.raw v) v
structure Gh where
 I:Nat->Prop
 B3:Nat->Nat
 cap:Nat->Nat×Nat
 BB:Nat->Option (Option Addr)
abbrev Sg:=List O
def lenOf(S:Sg)(r:Nat):Option Nat:=
 match S[r]? with
 |some (.row _ _ g)=>some g.length
 |some (.BY h)=>some h.length
 |_=>none
def C0(S:Sg)(r:Nat):Option Nat:=
 match S[r]? with
 |some (.row _ sz _)=>some sz
 |_=>none
def Bb(S:Sg)(r:Nat):Bool:=
 match S[r]? with
 |some (.map _)=>true
 |_=>false
def Gh.BZ(G:Gh)(r n:Nat):bn:=
 match G.BB r with
 |none=>.slice (some ⟨G.B3 r,(G.cap r).2,none⟩) n (G.cap r).1
 |some a=>.slice a n n
def Gh.addr(G:Gh)(r k:Nat):bn:=
 match G.BB r with
 |none=>.pointer (some ⟨G.B3 r,(G.cap r).2+k,none⟩)
 |some (some a)=>.pointer (some ⟨a.block,a.off+k,none⟩)
 |some none=>.pointer none
inductive CV(G:Gh)(S:Sg)(w:cf):V->bn->Prop
 |any (v:bn):CV G S w .any v
 |d (d:D) (v:bn) (h:CD G.I w d v):CV G S w (.d d) v
 |full (xs:List D) (a:Option Addr) (h:CD G.I w (.sl xs) (.slice a xs.length xs.length)):CV G S w (.full xs) (.slice a xs.length xs.length)
 |row (r n:Nat) (v:bn) (ho:one v=true) (hr:r<S.length) (h:∀m,lenOf S r=some m->n<=m/\(n=m->v=G.BZ r n)):CV G S w (.row r n) v
 |ptr (r n i j:Nat) (v:bn) (ho:one v=true) (hr:r<S.length) (h:∀m,lenOf S r=some m->n<=m/\(n=m->∀sz,C0 S r=some sz->v=G.addr r (i * sz+j))):CV G S w (.ptr r n i j) v
 |DX (cs:List D) (b off:Nat) (vs:Nat->bn) (hI:G.I b)
   (h:∀j (h:j<cs.length),w.cell? ⟨b,off+j,none⟩=some (vs j)/\CD G.I w cs[j] (vs j)/\one (vs j)=true):CV G S w (.DX cs) (.pointer (some ⟨b,off,none⟩))
 |map (r:Nat) (v:bn) (ho:one v=true) (hr:r<S.length) (h:Bb S r=true->v=.map (some (G.B3 r))):CV G S w (.map r) v
 |fn (f:Fn) (as bs:List V) (xs ys:Array bn) (h1:xs.size=as.length) (h2:ys.size=bs.length)
   (h3:∀i (h:i<as.length),CV G S w as[i] (xs[i]'(by omega)))
   (h4:∀i (h:i<bs.length),CV G S w bs[i] (ys[i]'(by omega))):CV G S w (.fn f as bs) (.func f xs ys)
 |agg (cs:List V) (vs:Array bn) (hs:vs.size=cs.length)
   (h:∀i (h:i<cs.length),CV G S w cs[i] (vs[i]'(by omega)))
   (ho:∀i (h:i<vs.size),one vs[i]=true):CV G S w (.agg cs) (.agg vs)
 |Cb (cs:List V) (vs:Array bn) (hs:vs.size=cs.length)
   (h:∀i (h:i<cs.length),CV G S w cs[i] (vs[i]'(by omega))):CV G S w (.Cb cs) (.tuple vs)
 |opt (g:Bool) (x:V) (v:bn) (h:g=true->CV G S w x v) (h':g=false->v=undef):CV G S w (.opt g x) v
def BQ(G:Gh)(r:Nat):O->Bool
 |.row ..=>(G.BB r).isNone
 |.map _=>true
 |_=>false
def Fy(G:Gh)(S:Sg)(b:Nat):Prop:=∃r o,S[r]?=some o/\BQ G r o=true/\b=G.B3 r
def Oo(G:Gh)(S:Sg)(w:cf)(sz:Nat)(els:List V)(c:Array bn)(off:Nat):Prop:=
 ∀i (h:i<els.length),∃v,CV G S w els[i] v/\v.cells.size=sz/\(∀x∈v.cells,one x=true)/\∀j,j<sz->c[off+(i * sz+j)]?=v.cells[j]?
def OK(G:Gh)(S:Sg)(w:cf)(r:Nat):O->Prop
 |.row s sz k=>
  match G.BB r with
  |none=>∃c T,w.heap[G.B3 r]?=some (.cells c T (0,0))/\(G.cap r).2+(G.cap r).1 * sz<=c.size/\k.length<=(G.cap r).1/\k.length<=maxLen/\Oo G S w sz k c (G.cap r).2
  |some a=>s=false/\k.length<=maxLen/\∃o:List D,k=o.map V.d/\CD G.I w (.sl o) (.slice a o.length o.length)
 |.BY o=>CD G.I w (.sl o) (G.BZ r o.length)
 |.map q=>∃g m,w.heap[G.B3 r]?=some (.map g m)/\g.size=q.length/\m=q.length/\∀i (h:i<q.length),∃e,g[i]?=some e/\CD G.I w q[i].1 e.key/\CV G S w q[i].2 e.val/\e.born=i/\(∀j f,j<i->g[j]?=some f->f.born<e.born/\f.key≠e.key)
 |.dead=>True
structure E7(b:Nat)(G:Gh)(S:Sg)(G':Gh)(S':Sg):Prop where
 len:b<=S'.length
 row:∀r,r<b->∀n',lenOf S' r=some n'->∃n,lenOf S r=some n/\n<=n'/\(n=n'->G'.B3 r=G.B3 r/\G'.cap r=G.cap r/\G'.BB r=G.BB r/\(C0 S' r=C0 S r\/C0 S' r=none))
 map:∀r,r<b->Bb S' r=true->Bb S r=true/\G'.B3 r=G.B3 r
abbrev br:=@Nat.le_refl
theorem E7.refl{b:Nat}{G:Gh}{S:Sg}(h:b<=S.length):E7 b G S G S:=
 ⟨h,λ_ _ n h=>⟨n,h,br _,λ_=>⟨rfl,rfl,rfl,.inl rfl⟩⟩,λ_ _ h=>⟨h,rfl⟩⟩
abbrev GT:=@E7.refl
abbrev ke:=@Nat.le_trans
theorem E7.trans{b:Nat}{G:Gh}{S:Sg}{t:Gh}{S':Sg}{i:Gh}{j:Sg}(h:E7 b G S t S')(o:E7 b t S' i j):E7 b G S i j where
 len:=o.len
 row:=λr k u v=>by
  obtain⟨n1,q,l1,k1⟩:=o.row r k u v;obtain⟨n2,s,l2,k2⟩:=h.row r k n1 q;refine⟨n2,s,ke l2 l1,λe=>?_⟩;obtain⟨w,z,A,g⟩:=k1 (by omega);obtain⟨B,C,E,m⟩:=k2 (by omega);refine⟨w.trans B,z.trans C,A.trans E,?_⟩;rcases g with g|g
  .rcases m with m|m
   .exact .inl (g.trans m)
   .exact .inr (g.trans m)
  .exact .inr g
 map:=λr k F=>by
  obtain⟨q,k1⟩:=o.map r k F;obtain⟨s,k2⟩:=h.map r k q;exact⟨s,k1.trans k2⟩
def Bz:List Int:=[0,1,56,2,57,49,28,3,61,58,42,50,38,29,17,4,62,47,59,36,45,43,51,22,53,39,33,30,24,18,12,5,63,55,48,27,60,41,37,16,46,35,44,21,52,32,23,11,54,26,40,15,34,20,31,10,25,14,19,9,13,8,7,6]
def lM(P:b8)(G:Gh)(w:cf):Prop:=
 ∀g,(P.globals[g]?).map (·.name)=some "math/bits.deBruijn64tab"->G.I g/\∀j (h:j<Bz.length),w.cell? ⟨g,j,none⟩=some (.int .u8 Bz[j])
structure Rel(P:b8)(G:Gh)(S:Sg)(w:cf):Prop where
 GQ:lM P G w
 DG:∀r o,S[r]?=some o->OK G S w r o
 inj:∀r r' o o',S[r]?=some o->S[r']?=some o'->BQ G r o=true->BQ G r' o'=true->G.B3 r=G.B3 r'->r=r'
 nI:∀b,Fy G S b->¬G.I b
 JY:∀b,G.I b->b<w.heap.size
 HL:∀b,Fy G S b->b<w.heap.size
structure Tr(G:Gh)(S:Sg)(w:cf)(G':Gh)(S':Sg)(w':cf):Prop where
 size:w.heap.size<=w'.heap.size
 I:∀b,G.I b->G'.I b
 Dz:∀b,b<w.heap.size->¬Fy G S b->w'.heap[b]?=w.heap[b]?
 own:∀b,Fy G' S' b->Fy G S b\/w.heap.size<=b
 im:∀b,G'.I b->G.I b\/Fy G S b\/w.heap.size<=b
 os:w'.os=w.os
 out:w'.output=w.output
theorem Tr.refl(G:Gh)(S:Sg)(w:cf):Tr G S w G S w:=
 ⟨br _,λ_ h=>h,λ_ _ _=>rfl,λ_ h=>.inl h,λ_ h=>.inl h,rfl,rfl⟩
abbrev yL:=@Tr.refl
abbrev tv:=@Nat.lt_of_lt_of_le
theorem Tr.trans{G:Gh}{S:Sg}{w:cf}{o:Gh}{S':Sg}{w':cf}{i:Gh}{j:Sg}{k:cf}
  (h:Tr G S w o S' w') (g:Tr o S' w' i j k):Tr G S w i j k where
 size:=ke h.size g.size
 I:=λb hb=>g.I b (h.I b hb)
 Dz:=λb hb hn=>by
  rw[g.Dz b (tv hb h.size) (λm=>(h.own b m).elim hn (λh=>by omega)),h.Dz b hb hn]
 own:=λb hb=>(g.own b hb).elim (h.own b) (λhb=>.inr (ke h.size hb))
 im:=λb hb=>(g.im b hb).elim (h.im b) (λhb=>hb.elim (λm=>(h.own b m).elim (λh=>.inr (.inl h)) (λh=>.inr (.inr h))) (λhb=>.inr (.inr (ke h.size hb))))
 os:=g.os.trans h.os
 out:=g.out.trans h.out
theorem KP{w w':cf}{b:Nat}(h:w'.heap[b]?=w.heap[b]?)(o:Nat):w'.cell? ⟨b,o,none⟩=w.cell? ⟨b,o,none⟩:=by
 simp[World.cell?,h]
theorem CD.mono{I t:Nat->Prop}{w w':cf}(z:∀b,I b->t b)(A:∀b,I b->w'.heap[b]?=w.heap[b]?){d:D}{v:bn}(h:CD I w d v):CD t w' d v:=by
 induction h with
 |bool b=>exact .bool b
 |int k n h=>exact .int k n h
 |str s h=>exact .str s h
 |nil a cap=>exact .nil a cap
 |sl sz B b off cap g m C E h1 u o=>
  exact .sl sz B b off cap g (z _ m) C E o (λi hi=>⟨(u i hi).1,λj hj=>by rw[KP (A b m)];exact(u i hi).2 j hj⟩)
 |agg ds g q h F o=>exact .agg ds g q o F
 |Cb ds g q h o=>exact .Cb ds g q o
 |raw v=>exact .raw v
structure BL(G:Gh)(S:Sg)(w:cf)(G':Gh)(S':Sg)(w':cf):Prop where
 I:∀b,G.I b->G'.I b
 Dz:∀b,G.I b->w'.heap[b]?=w.heap[b]?
 len:S.length<=S'.length
 row:∀r,r<S.length->∀n',lenOf S' r=some n'->∃n,lenOf S r=some n/\n<=n'/\(n=n'->G'.B3 r=G.B3 r/\G'.cap r=G.cap r/\G'.BB r=G.BB r/\(C0 S' r=C0 S r\/C0 S' r=none))
 map:∀r,r<S.length->Bb S' r=true->Bb S r=true/\G'.B3 r=G.B3 r
theorem BL.late{b:Nat}{G:Gh}{S:Sg}{w:cf}{i:Gh}{S':Sg}{w':cf}(L:BL G S w i S' w')(h:b<=S.length):E7 b G S i S':=
 ⟨ke h L.len,λr g=>L.row r (tv g h),λr g=>L.map r (tv g h)⟩
theorem CV.later{G:Gh}{S:Sg}{w:cf}{M:Gh}{S':Sg}{w':cf}(L:BL G S w M S' w'){x:V}{v:bn}(h:CV G S w x v):CV M S' w' x v:=by
 induction h with
 |any v=>exact .any v
 |d d v h=>exact .d d v (h.mono L.I L.Dz)
 |full B a h=>exact .full B a (h.mono L.I L.Dz)
 |row r n v o k h=>
  refine .row r n v o (tv k L.len) λm s=>?_;obtain⟨n0,h0,q,C⟩:=L.row r k m s;obtain⟨h1,t⟩:=h n0 h0;refine⟨ke h1 q,λe=>?_⟩;obtain⟨E,F,H,_⟩:=C (by omega);rw[t (by omega)];simp[Gh.BZ,E,F,H]
 |ptr r n i j v o k h=>
  refine .ptr r n i j v o (tv k L.len) λm s=>?_;obtain⟨n0,h0,q,C⟩:=L.row r k m s;obtain⟨h1,t⟩:=h n0 h0;refine⟨ke h1 q,λe sz W=>?_⟩;obtain⟨E,F,H,J⟩:=C (by omega);rw[t (by omega) sz (by rcases J with J|J<;>simp_all)];simp[Gh.addr,E,F,H]
 |DX u b off z N h=>
  exact .DX u b off z (L.I b N) λj hj=>⟨by rw[KP (L.Dz b N)];exact(h j hj).1,(h j hj).2.1.mono L.I L.Dz,(h j hj).2.2⟩
 |map r v o k h=>exact .map r v o (tv k L.len) λs=>by obtain⟨a,b⟩:=L.map r k s;rw[h a,b]
 |fn f as P B Q h1 t X Y R T=>exact .fn f as P B Q h1 t R T
 |agg u z K h o A=>exact .agg u z K A o
 |Cb u z K h A=>exact .Cb u z K A
 |opt g x v h U A=>exact .opt g x v A U
theorem BL.refl(G:Gh)(S:Sg)(w:cf):BL G S w G S w:=
 ⟨λ_ h=>h,λ_ _=>rfl,br _,λ_ _ n h=>⟨n,h,br _,λ_=>⟨rfl,rfl,rfl,.inl rfl⟩⟩,λ_ _ h=>⟨h,rfl⟩⟩
abbrev z0:=@BL.refl
theorem BL.trans{G:Gh}{S:Sg}{w:cf}{u:Gh}{S':Sg}{w':cf}{i:Gh}{j:Sg}{k:cf}
  (h:BL G S w u S' w') (m:BL u S' w' i j k):BL G S w i j k where
 I:=λb hb=>m.I b (h.I b hb)
 Dz:=λb hb=>by rw[m.Dz b (h.I b hb),h.Dz b hb]
 len:=ke h.len m.len
 row:=λr o v z=>by
  obtain⟨n1,s,l1,k1⟩:=m.row r (tv o h.len) v z;obtain⟨n2,t,l2,k2⟩:=h.row r o n1 s;refine⟨n2,t,ke l2 l1,λe=>?_⟩;obtain⟨A,B,C,g⟩:=k1 (by omega);obtain⟨E,F,H,q⟩:=k2 (by omega);refine⟨A.trans E,B.trans F,C.trans H,?_⟩;rcases g with g|g
  .rcases q with q|q
   .exact .inl (g.trans q)
   .exact .inr (g.trans q)
  .exact .inr g
 map:=λr o J=>by
  obtain⟨s,k1⟩:=m.map r (tv o h.len) J;obtain⟨t,k2⟩:=h.map r o s;exact⟨t,k1.trans k2⟩
theorem lM.later{P:b8}{G:Gh}{S:Sg}{w:cf}{i:Gh}{S':Sg}{w':cf}(L:BL G S w i S' w')(h:lM P G w):lM P i w':=λg k=>by
 obtain⟨h1,m⟩:=h g k;exact⟨L.I g h1,λj hj=>by rw[KP (L.Dz g h1)];exact m j hj⟩
theorem Oo.later{G:Gh}{S:Sg}{w:cf}{g:Gh}{S':Sg}{w':cf}(L:BL G S w g S' w'){sz:Nat}{els:List V}{c:Array bn}{off:Nat}
  (h:Oo G S w sz els c off):Oo g S' w' sz els c off:=λi hi=>by
 obtain⟨v,h1,j,k,m⟩:=h i hi;exact⟨v,h1.later L,j,k,m⟩
theorem OK.later{G:Gh}{S:Sg}{w:cf}{j:Gh}{S':Sg}{w':cf}(L:BL G S w j S' w'){r:Nat}{o:O}
  (hb:BQ G r o=true->w'.heap[G.B3 r]?=w.heap[G.B3 r]?) (s:j.B3 r=G.B3 r) (v:j.cap r=G.cap r) (z:j.BB r=G.BB r)
  (h:OK G S w r o):OK j S' w' r o:=by
 cases o with
 |row N sz B=>
  simp only[OK,s,v,z]at h⊢;cases t:G.BB r with
  |none=>
   simp only[t]at h⊢;obtain⟨c,T,h1,k,m,u,C⟩:=h;exact⟨c,T,by rw[hb (by simp[BQ,t])];exact h1,k,m,u,C.later L⟩
  |some a=>
   simp[t]at h⊢;obtain⟨h1,k,A,m,u⟩:=h;exact⟨h1,k,A,m,u.mono L.I L.Dz⟩
 |BY A=>
  simp[OK,Gh.BZ,s,v,z]at h⊢;exact h.mono L.I L.Dz
 |map P=>
  simp[OK,s]at h⊢;obtain⟨q,g,h1,k,E,m⟩:=h;refine⟨q,g,by rw[hb rfl];exact h1,k,E,λi hi=>?_⟩;obtain⟨e,F,H,J,K,M⟩:=m i hi;exact⟨e,F,H.mono L.I L.Dz,J.later L,K,M⟩
 |dead=>trivial
abbrev Tm:=Nat->V
def pV(G:Gh)(S:Sg)(w:cf)(ts:Array bn)(tm:Tm):Prop:=∀k,CV G S w (tm k) (ts.getD k undef)
theorem pV.later{G:Gh}{S:Sg}{w:cf}{g:Gh}{S':Sg}{w':cf}(L:BL G S w g S' w'){ts:Array bn}{tm:Tm}(h:pV G S w ts tm):pV g S' w' ts tm:=
 λk=>(h k).later L
structure St(P:b8)(n:Nat)(G:Gh)(S:Sg)(w:cf)(a:Act)(tm:Tm):Prop where
 size:a.tmps.size=n
 tm:pV G S w a.tmps tm
 rel:Rel P G S w
structure Gu(P:b8)(n b:Nat)(G:Gh)(S:Sg)(w:cf)(ds:List Deferred)(a':Act)(w':cf)(G':Gh)(S':Sg)(tm':Tm):Prop where
 st:St P n G' S' w' a' tm'
 ds:a'.defers=ds
 tr:Tr G S w G' S' w'
 late:E7 b G S G' S'
def Qa(P:b8)(n b:Nat)(Q:Exit->Tm->Sg->Prop)(G:Gh)(S:Sg)(w:cf)(ds:List Deferred):Exit->Act->cf->Prop:=
 λi j k=>∃m h g,Gu P n b G S w ds j k m h g/\Q i g h
theorem Qa.trans{P:b8}{n b:Nat}{Q:Exit->Tm->Sg->Prop}{G:Gh}{S:Sg}{w:cf}{ds:List Deferred}{j:Gh}{S':Sg}{w':cf}(h:Tr G S w j S' w')(o:E7 b G S j S')
  {m:Exit} {a:Act} {g:cf} (q:Qa P n b Q j S' w' ds m a g):Qa P n b Q G S w ds m a g:=by
 obtain⟨s,t,k,i,u⟩:=q;exact⟨s,t,k,⟨i.st,i.ds,h.trans i.tr,o.trans i.late⟩,u⟩
def AW(P:b8)(n b:Nat)(c:Code)(Q:Exit->Tm->Sg->Prop)(tm:Tm)(S:Sg):Prop:=
 ∀G w a,St P n G S w a tm->b<=S.length->c.wp P (Qa P n b Q G S w a.defers) a w
abbrev vX:=@wp_mono
abbrev vw:=@wp_seq
abbrev er:=@if_true
abbrev fc:=@if_false
abbrev cl:=@List.all_eq_true
abbrev bi:=@Bool.and_eq_true
section
variable {P:b8} {n b:Nat} {Q:Exit->Tm->Sg->Prop} {tm:Tm} {S:Sg}
theorem AW.mono{c:Code}{i:Exit->Tm->Sg->Prop}(h:AW P n b c Q tm S)(k:∀j tm S,Q j tm S->i j tm S):AW P n b c i tm S:=
 λG w a st hb=>vX (h G w a st hb) λ_ _ _ m=>let⟨o,q,g,s,t⟩:=m;⟨o,q,g,s,k _ _ _ t⟩
theorem Gu.refl{G:Gh}{w:cf}{a:Act}(st:St P n G S w a tm)(hb:b<=S.length):Gu P n b G S w a.defers a w G S tm:=⟨st,rfl,yL _ _ _,GT hb⟩
theorem CT(h:Q .normal tm S):AW P n b .skip Q tm S:=λ_ _ _ st hb=>wp_skip ⟨_,_,_,.refl st hb,h⟩
theorem C7{id:Nat}(h:Q (.exit id) tm S):AW P n b (.exit id) Q tm S:=λ_ _ _ st hb=>wp_exit ⟨_,_,_,.refl st hb,h⟩
theorem Af(h:Q .ret tm S):AW P n b .ret Q tm S:=λ_ _ _ st hb=>wp_ret ⟨_,_,_,.refl st hb,h⟩
def C4(next:Tm->Sg->Prop)(Q:Exit->Tm->Sg->Prop):Exit->Tm->Sg->Prop
 |.normal,tm,S=>next tm S
 |e,tm,S=>Q e tm S
theorem xS{x y:Code}(h:AW P n b x (C4 (AW P n b y Q) Q) tm S):AW P n b (.seq x y) Q tm S:=by
 intro G w a st hb;refine vw (vX (h G w a st hb) ?_);intro e o q i;obtain⟨k,s,j,g,m⟩:=i;cases e with
 |normal=>
  have:=m k q o g.st g.late.len;rw[g.ds]at this;exact vX this λ_ _ _ i=>i.trans g.tr g.late
 |_=>exact⟨k,s,j,g,m⟩
def BW(id:Nat)(Q:Exit->Tm->Sg->Prop):Exit->Tm->Sg->Prop
 |.exit g,tm,S=>if g=id then Q .normal tm S else Q (.exit g) tm S
 |e,tm,S=>Q e tm S
theorem Bx{id:Nat}{c:Code}(h:AW P n b c (BW id Q) tm S):AW P n b (.block id c) Q tm S:=by
 intro G w a st hb;refine wp_block (vX (h G w a st hb) ?_);intro e s t o;obtain⟨j,k,g,m,i⟩:=o;cases e with
 |exit q=>
  simp[Exit.inBlock,BW]at i⊢;split
  .rename_i h;simp[h]at i;exact⟨j,k,g,m,i⟩
  .rename_i h;simp[h]at i;exact⟨j,k,g,m,i⟩
 |_=>exact⟨j,k,g,m,i⟩
def AJ(P:b8)(n b:Nat)(tm:Tm)(S:Sg)(g:Tm)(S':Sg):Prop:=
 ∀G w a,St P n G S w a tm->b<=S.length->∃h,St P n h S' w a g/\Tr G S w h S' w/\E7 b G S h S'
theorem AJ.refl:AJ P n b tm S tm S:=λG w _ st hb=>⟨G,st,yL G S w,GT hb⟩
abbrev am:=@AJ.refl
theorem AJ.trans{i:Tm}{S':Sg}{g:Tm}{j:Sg}(h:AJ P n b tm S i S')(q:AJ P n b i S' g j):AJ P n b tm S g j:=λG w a st hb=>by
 obtain⟨s,k,t,o⟩:=h G w a st hb;obtain⟨u,m,t2,l2⟩:=q s w a k o.len;exact⟨u,m,t.trans t2,o.trans l2⟩
theorem AW.ghost{c:Code}{i:Tm}{S':Sg}(g:AJ P n b tm S i S')(h:AW P n b c Q i S'):AW P n b c Q tm S:=by
 intro G w a st hb;obtain⟨k,j,t,l⟩:=g G w a st hb;exact vX (h k w a j l.len) λ_ _ _ m=>m.trans t l
abbrev ed:=@AW.ghost
theorem AW.loop{c:Code}(Inv:Nat->Tm->Sg->Prop)(h0:∃m h q,AJ P n b tm S h q/\Inv m h q)
  (Y:∀m tm S,Inv m tm S->AW P n b c (C4 (λh q=>∃M s F,M<m/\AJ P n b h q s F/\Inv M s F) Q) tm S):AW P n b (.loop c) Q tm S:=by
 intro G w a st hb;obtain⟨m,N,Z,g0,hi⟩:=h0;obtain⟨G0,R,t0,l0⟩:=g0 G w a st hb;let J:Nat->Act->cf->Prop:=λm t u=>∃T q h,Gu P n b G S w a.defers t u T q h/\Inv m h q;have key:∀m t u,J m t u->∀(fb:Frame) (k:List Item) (z:List Frame),∃e H K,Qa P n b Q G S w a.defers e H K/\Arrives P (lone (fb.at t (.code c::.inLoop c::k)) z u) fb k z e H K:=by
  intro m;induction m using Nat.strongRecOn with
  |_ m ih=>
   intro t u hJ fb k z;obtain⟨T,q,h,i,hi⟩:=hJ;obtain⟨e,A,B,j,v⟩:=Y m h q hi T u t i.st i.late.len fb (.inLoop c::k) z;rw[i.ds]at j;obtain⟨E,L,o,g,j⟩:=j;cases e with
   |normal=>
    obtain⟨M,U,S3,vc,g3,W⟩:=j;obtain⟨G3,X,t3,l3⟩:=g3 E B A g.st g.late.len;obtain⟨e2,a2,w2,wW,C⟩:=ih M vc A B ⟨G3,S3,U,⟨X,g.ds,(i.tr.trans g.tr).trans t3,(i.late.trans g.late).trans l3⟩,W⟩ fb k z;exact⟨e2,a2,w2,wW,.of_steps (Steps.trans v (.one step_inLoop)) C⟩
   |exit id=>exact⟨_,A,B,⟨E,L,o,⟨g.st,g.ds,i.tr.trans g.tr,i.late.trans g.late⟩,j⟩,.pass (x:=.inLoop c) rfl (λ_ _=>.inl (by simp)) v⟩
   |goto l=>exact⟨_,A,B,⟨E,L,o,⟨g.st,g.ds,i.tr.trans g.tr,i.late.trans g.late⟩,j⟩,.pass (x:=.inLoop c) rfl (λ_ _=>.inl (by simp)) v⟩
   |ret=>exact⟨_,A,B,⟨E,L,o,⟨g.st,g.ds,i.tr.trans g.tr,i.late.trans g.late⟩,j⟩,.pass (x:=.inLoop c) rfl (λ_ _=>.inl (by simp)) v⟩
   |panic ch=>exact⟨_,A,B,⟨E,L,o,⟨g.st,g.ds,i.tr.trans g.tr,i.late.trans g.late⟩,j⟩,.pass (x:=.inLoop c) rfl (λ_ _=>.inl (by simp)) v⟩
   |outgrown=>exact⟨.outgrown,A,B,⟨E,L,o,⟨g.st,g.ds,i.tr.trans g.tr,i.late.trans g.late⟩,j⟩,v⟩
 intro fb k z;obtain⟨e,t,u,j,v⟩:=key m a w ⟨G0,Z,N,⟨R,rfl,t0,l0⟩,hi⟩ fb k z;exact⟨e,t,u,j,.of_steps (.one step_loop) v⟩
abbrev aeA:=@AW.loop
def Z4:bn->V
 |.bool b=>.d (.bool b)
 |.int k n=>if IL k n then .d (.int k n)else .any
 |.string s=>if s.size<=maxLen then .d (.str s)else .any
 |.slice none 0 0=>.full []
 |.agg _=>.any
 |.tuple _=>.any
 |v=>.d (.raw v)
def OC:bn->V
 |.agg g=>if g.toList.all one then .agg (g.toList.map Z4)else .any
 |v=>Z4 v
def ev(tm:Tm):Operand->V
 |.tmp t=>tm t
 |.const v=>OC v
 |.global _=>.any
 |.func f=>.fn (.func f) [] []
theorem XG(G:Gh)(S:Sg)(w:cf)(v:bn):CV G S w (Z4 v) v:=by
 unfold Z4;split<;>first
  |exact .any _
  |exact .d _ _ (.bool _)
  |(split
    .exact .d _ _ (.int _ _ ‹_›)
    .exact .any _)
  |(split
    .exact .d _ _ (.str _ ‹_›)
    .exact .any _)
  |exact .full [] none (.nil none 0)
  |exact .d _ _ (.raw _)
theorem IJ(G:Gh)(S:Sg)(w:cf)(v:bn):CV G S w (OC v) v:=by
 unfold OC;split
 .rename_i g;split
  .rename_i h;refine .agg _ _ (by simp) (λi hi=>by simpa using XG G S w _) (λi hi=>?_);have:=cl.1 h g[i] (by simp);simpa using this
  .exact .any _
 .exact XG G S w v
theorem BV{G:Gh}{w:cf}{a:Act}(st:St P n G S w a tm)(x:Operand):CV G S w (ev tm x) (a.eval x):=by
 cases x with
 |tmp t=>exact st.tm t
 |const v=>exact IJ G S w v
 |global g=>exact .any _
 |func f=>exact .fn _ _ _ _ _ rfl rfl (λi h=>by simp at h) (λi h=>by simp at h)
theorem AW.BS{c:Operand}{x y:Code}{t:Bool}(i:ev tm c=.d (.bool t))(h1:t=true->AW P n b x Q tm S)(k:t=false->AW P n b y Q tm S):AW P n b (.cond c x y) Q tm S:=by
 intro G w a st j;have m:a.eval c=.bool t:=by
  cases c with
  |tmp t=>
   have:=st.tm t;simp[ev]at i;rw[i]at this;simp only[Act.eval];generalize a.tmps.getD t undef=x at this;cases this with|d _ _ h=>cases h;rfl
  |const v=>
   simp[ev,OC]at i;split at i
   .split at i<;>cases i
   .unfold Z4 at i;split at i<;>first|(simp[V.d.injEq,D.bool.injEq]at i;subst i;rfl)|(cases i;done)|(split at i<;>cases i)
  |global g=>cases i
  |func f=>cases i
 refine wp_cond_split m (λhb=>h1 hb G w a st j) (λhb=>k hb G w a st j)
abbrev k6:=@AW.BS
def strip:V->V
 |.opt _ v=>strip v
 |v=>v
def need:V->Prop
 |.opt g v=>g=true/\need v
 |_=>True
def HP(g:Bool):V->V
 |.opt h v=>.opt (g&&h) v
 |v=>.opt g v
theorem CV.strip{G:Gh}{S:Sg}{w:cf}{v:bn}:∀{x:V},CV G S w x v->need x->CV G S w (strip x) v
 |.opt g x,h,hn=>by
  show CV G S w (Koi.strip x) v
  cases h with|opt _ _ _ i _=>exact CV.strip (x:=x) (i hn.1) hn.2
 |.any,h,_|.d _,h,_|.full _,h,_|.row ..,h,_|.ptr ..,h,_|.DX _,h,_|.map _,h,_|.fn ..,h,_|.agg _,h,_|.Cb _,h,_=>h
theorem CV.HP{G:Gh}{S:Sg}{w:cf}{v:bn}{g:Bool}{x:V}(h:g=true->CV G S w x v)(j:g=false->v=undef):CV G S w (HP g x) v:=by
 cases x with
 |opt k x=>
  refine .opt _ _ _ (λi=>?_) (λi=>?_)
  .simp at i;have:=h i.1;cases this with|opt _ _ _ h _=>exact h i.2
  .cases g with
   |false=>exact j rfl
   |true=>
    have:=h rfl;cases this with|opt _ _ _ _ h=>exact h (by simpa using i)
 |_=>exact .opt _ _ _ h j
end
inductive TK where
 |bool|int (k:IntKind)|str|slice (e:ce)|array (n:Nat) (e:ce)|map (k e:ce)|struct (fs:List (Nat×ce))|ptr (e:ce)|func|iface|other
structure TI where
 size:Nat
 bytes:Nat
 zero:Option bn
 kind:TK
def tk:TypeDesc->TK
 |.bool=>.bool
 |.int k=>.int k
 |.string=>.str
 |.slice e=>.slice e
 |.array n e=>.array n e
 |.map k e=>.map k e
 |.struct g=>.struct (g.toList.map λf=>(f.offset,f.type))
 |.pointer e=>.ptr e
 |.func ..=>.func
 |.interface _=>.iface
 |_=>.other
def ti(P:b8)(T:ce):Option TI:=
 match P.info? T,P.underlying T with
 |some i,some d=>some {size:=i.size,bytes:=i.bytes,zero:=i.zero,kind:=tk d}
 |_,_=>none
def TI.agg(t:TI):Bool:=
 match t.kind with
 |.array ..|.struct _=>true
 |_=>false
theorem I4{P:b8}{T:ce}{t:TI}(h:ti P T=some t):∃i d,P.info? T=some i/\P.underlying T=some d/\i.size=t.size/\i.bytes=t.bytes/\i.zero=t.zero/\tk d=t.kind:=by
 unfold ti at h;split at h
 .rename_i i d h1 g;cases h;exact⟨i,d,h1,g,rfl,rfl,rfl,rfl⟩
 .cases h
abbrev gI:=@Sem.run_bind
abbrev ge:=@Result.andThen_ok
section
variable {P:b8} {T:ce} {t:TI}
theorem Ds(h:ti P T=some t)(w:cf):∃i,(typeInfo T).run P w=.ok i w/\i.size=t.size/\i.bytes=t.bytes/\i.zero=t.zero:=by
 obtain⟨i,d,h1,m,g,j,k,o⟩:=I4 h;exact⟨i,by simp[typeInfo,h1],g,j,k⟩
theorem Bi(h:ti P T=some t)(w:cf):(sizeOf T).run P w=.ok t.size w:=by
 obtain⟨i,h1,g,_⟩:=Ds h w;simp[sizeOf,h1,g]
theorem An(h:ti P T=some t)(w:cf):∃d,(underlying T).run P w=.ok d w/\tk d=t.kind:=by
 obtain⟨i,d,h1,g,k,m,o,j⟩:=I4 h;exact⟨d,by simp[underlying,g],j⟩
theorem L5(h:ti P T=some t)(w:cf):(isAgg T).run P w=.ok t.agg w:=by
 obtain⟨d,h1,g⟩:=An h w;simp[isAgg,h1,TI.agg,<-g];cases d<;>simp[tk]
theorem EH(h:ti P T=some t)(w:cf){z:bn}(g:t.zero=some z):(zeroValue T).run P w=.ok z w:=by
 obtain⟨i,h1,k,m,j⟩:=Ds h w;simp[zeroValue,h1,j,g]
end
def Ai:V->List V
 |.agg g=>g
 |.d (.agg ds)=>ds.map .d
 |v=>[v]
def At:V->Bool
 |.agg _=>true
 |.d (.agg _)=>true
 |_=>false
def Bw:V->Bool
 |.agg _=>false
 |.Cb _=>false
 |.any=>false
 |.opt _ _=>false
 |.d (.agg _)=>false
 |.d (.Cb _)=>false
 |.d (.raw v)=>one v
 |_=>true
theorem CV.one{G:Gh}{S:Sg}{w:cf}{x:V}{v:bn}(h:CV G S w x v)(g:Bw x=true):one v=true:=by
 cases h with
 |any=>simp[Bw]at g
 |d d v h=>cases h<;>first|rfl|(simp[Bw]at g;done)|(simpa[Bw]using g)
 |full=>rfl
 |row r n v h1=>exact h1
 |ptr r n i j v h1=>exact h1
 |DX=>rfl
 |map r v h1=>exact h1
 |fn=>rfl
 |agg=>simp[Bw]at g
 |Cb=>simp[Bw]at g
 |opt=>simp[Bw]at g
theorem Kb{v:bn}(h:one v=true):v.cells=#[v]:=by
 cases v<;>first|rfl|simp[Koi.one]at h
theorem CV.cells{G:Gh}{S:Sg}{w:cf}{x:V}{v:bn}(h:CV G S w x v)(ha:At x=true\/Bw x=true):
  v.cells.size=(Ai x).length/\(∀i (h:i<v.cells.size),Koi.one v.cells[i]=true)/\∀i (h:i<(Ai x).length),∃u,v.cells[i]?=some u/\CV G S w (Ai x)[i] u:=by
 by_cases h1:Bw x=true
 .have m:=h.one h1;have o:Ai x=[x]:=by
   cases x with
   |d d=>cases d<;>first|rfl|simp[Bw]at h1
   |agg=>simp[Bw]at h1
   |_=>rfl
  rw[Kb m,o];refine⟨rfl,λi hi=>?_,λi hi=>?_⟩
  .have:i=0:=by simp at hi;exact hi
   subst this;simpa using m
  .have:i=0:=by simp at hi;exact hi
   subst this;exact⟨v,rfl,by simpa using h⟩
 .have ha:At x=true:=ha.resolve_right h1;cases h with
  |agg t g j h k=>
   refine⟨j,k,λi hi=>⟨g[i]'(by simp[Ai]at hi;omega),by simp[Value.cells],h i hi⟩⟩
  |d d v q=>
   cases q with
   |agg ds g j h k=>
    refine⟨by simpa[Ai,Value.cells]using j,k,λi hi=>?_⟩;have s:i<ds.length:=by simpa[Ai]using hi
    exact⟨g[i]'(by omega),by simp[Value.cells],by simpa[Ai]using CV.d _ _ (h i s)⟩
   |_=>simp[At]at ha
  |_=>simp[At]at ha
def D0(w:cf)(b:Nat)(o:Obj):cf:={w with heap:=w.heap.setIfInBounds b o}
def Bn(w:cf)(o:Obj):cf:={w with heap:=w.heap.push o}
@[simp] theorem nB(w:cf)(b:Nat)(o:Obj):(D0 w b o).heap.size=w.heap.size:=by simp[D0]
@[simp] theorem mc(w:cf)(o:Obj):(Bn w o).heap.size=w.heap.size+1:=by simp[Bn]
theorem GP{w:cf}{b:Nat}{o:Obj}(h:b<w.heap.size):(D0 w b o).heap[b]?=some o:=by simp[D0,h]
abbrev abV:=@Array.getElem?_setIfInBounds_ne
abbrev le:=@Ne.symm
theorem NP{w:cf}{b g:Nat}{o:Obj}(h:g≠b):(D0 w b o).heap[g]?=w.heap[g]?:=by
 simp[D0,abV (le h)]
theorem DU{w:cf}{b:Nat}{o:Obj}(h:b<w.heap.size):(Bn w o).heap[b]?=w.heap[b]?:=by
 simp[Bn,Array.getElem?_push,Nat.ne_of_lt h]
theorem D2{w:cf}{o:Obj}:(Bn w o).heap[w.heap.size]?=some o:=by simp[Bn]
theorem cell_of{w:cf}{b:Nat}{c:Array bn}{T:ce}{f:Nat×Nat}(h:w.heap[b]?=some (.cells c T f))(k:Nat):w.cell? ⟨b,k,none⟩=c[k]?:=by
 simp[World.cell?,h]
theorem YX{w:cf}{b:Nat}{c:Array bn}{T:ce}(h:w.heap[b]?=some (.cells c T (0,0)))(k:Nat):w.frozen? ⟨b,k,none⟩=false:=by
 simp[World.frozen?,h]
theorem Gf(b off i:Nat):(⟨b,off,none⟩:Addr).add i=⟨b,off+i,none⟩:=by
 unfold Addr.add;split<;>simp_all
abbrev xv:=@Nat.add_zero
abbrev ad5:=@Array.ext'
abbrev eP:=@List.map_cons
abbrev kv:=@List.map_map
abbrev yl:=@List.append_assoc
abbrev acZ:=@List.singleton_append
abbrev rr:=@List.map_congr_left
abbrev kw:=@Function.comp_def
theorem run_loadCellsFrom{P:b8}{w:cf}{b off:Nat}(f:Nat->bn):∀(n i:Nat) (g:Array bn),(∀j,j<n->w.cell? ⟨b,off+(i+j),none⟩=some (f (i+j)))->(loadCellsFrom ⟨b,off,none⟩ i n g).run P w=.ok (g++((List.range n).map λj=>f (i+j)).toArray) w
 |0,i,g,h=>by simp[loadCellsFrom]
 |n+1,i,g,h=>by
  have h0:=h 0 (by omega);simp only[loadCellsFrom,gI,Gf];rw[run_load];simp at h0;simp[h0];rw[run_loadCellsFrom f n (i+1) (g.push (f i)) (λj hj=>by have:=h (j+1) (by omega);rw[show i+1+j=i+(j+1)from by omega];exact this)];congr 1;rw[List.range_succ_eq_map];apply ad5;simp only[Array.toList_append,Array.toList_push,eP,kv,yl,acZ,xv];congr 2;apply rr;intro j _;simp;congr 1;omega
abbrev va:=@Nat.zero_add
abbrev i9:=@Array.getElem?_eq_getElem
abbrev un:=@List.ext_getElem
theorem run_loadCells{P:b8}{w:cf}{b off n:Nat}(vs:Array bn)(hn:vs.size=n)(h:∀j,j<n->w.cell? ⟨b,off+j,none⟩=vs[j]?):
  (loadCells ⟨b,off,none⟩ n).run P w=.ok vs w:=by
 unfold loadCells;rw[run_loadCellsFrom (λj=>vs.getD j undef) n 0 #[] (λj hj=>by
  rw[va,h j hj];simp[i9 (show j<vs.size by omega)])]
 congr 1;apply ad5;apply un
 .simp[hn]
 .intro i h1 g;have:i<vs.size:=by simpa using g
  simp[this]
abbrev lh:=@Bool.false_eq_true
abbrev pu:=@Nat.lt_or_ge
abbrev wE:=@Array.getElem?_eq_none
abbrev ao:=@if_neg
theorem UG{P:b8}{w:cf}{b k:Nat}{c:Array bn}{T:ce}{v:bn}(hb:w.heap[b]?=some (.cells c T (0,0)))(g:k<c.size)(j:one v=true):
  (store ⟨b,k,none⟩ v).run P w=.ok () (D0 w b (.cells (c.setIfInBounds k v) T (0,0))):=by
 have h1:w.cell? ⟨b,k,none⟩=some c[k]:=by rw[cell_of hb];simp[g]
 have m:=YX hb k;rw[run_store P w _ _ _ (by cases v<;>first|rfl|simp[one]at j)];simp only[h1,m];simp only[lh,fc];congr 1;unfold World.setCell D0;have o:b<w.heap.size:=by
  rcases pu b w.heap.size with h|h
  .exact h
  .simp[wE h]at hb
 congr 1;apply Array.ext
 .simp
 .intro i q t;have s:w.heap[b]=.cells c T (0,0):=by simpa[i9 o]using hb
  by_cases hi:i=b
  .subst hi;simp[Array.getElem_modify,s]
  .rw[Array.getElem_modify,ao (le hi),Array.getElem_setIfInBounds_ne (hj:=by simpa using q) (h:=le hi)]
def DA(c:Array bn)(k:Nat):List bn->Array bn
 |[]=>c
 |v::g=>DA (c.setIfInBounds k v) (k+1) g
theorem Ea(vs:List bn):∀(c:Array bn) (k:Nat),(DA c k vs).size=c.size:=by
 induction vs with
 |nil=>intro c k;rfl
 |cons v vs g=>intro c k;simp[DA,g]
abbrev ea:=@List.length_cons
abbrev ap:=@if_pos
abbrev ad2:=@Nat.sub_self
abbrev ab5:=@List.getElem?_cons_zero
abbrev ac0:=@Array.getElem?_setIfInBounds_self_of_lt
theorem EL(vs:List bn):∀(c:Array bn) (k i:Nat),k+vs.length<=c.size->(DA c k vs)[i]?=if k<=i/\i<k+vs.length then vs[i - k]? else c[i]?:=by
 induction vs with
 |nil=>intro c k i _;simp[DA];omega
 |cons v vs j=>
  intro c k i h;simp[DA]at *;rw[j _ _ _ (by simp;omega)];by_cases h1:k+1<=i/\i<k+1+vs.length
  .rw[ap h1,ap (by omega)];rw[show i - k=(i - (k+1))+1 from by omega];simp
  .rw[ao h1];by_cases g:i=k
   .subst g;rw[ap (by omega)];simp;rw[ac0 (by omega)]
   .rw[ao (by omega)];simp[abV (le g)]
theorem Qd(w:cf)(b:Nat)(o o':Obj):D0 (D0 w b o) b o'=D0 w b o':=by
 unfold D0;simp
abbrev l6:=@Sem.run_pure
abbrev nl:=@Nat.add_assoc
theorem Jo{P:b8}{b off:Nat}{T:ce}(vs:List bn):∀(i:Nat) (w:cf) (c:Array bn),w.heap[b]?=some (.cells c T (0,0))->off+i+vs.length<=c.size->(∀v∈vs,one v=true)->(storeCells ⟨b,off,none⟩ vs i).run P w=.ok () (D0 w b (.cells (DA c (off+i) vs) T (0,0))):=by
 induction vs with
 |nil=>
  intro i w c hb _ _;simp[storeCells,DA];congr 1;unfold D0;have g:b<w.heap.size:=by
   rcases pu b w.heap.size with h|h
   .exact h
   .simp[wE h]at hb
  have j:w.heap[b]=.cells c T (0,0):=by simpa[i9 g]using hb
  cases w;simp[World.mk.injEq,and_true];simp only at g j;rw[<-j];simp[Array.setIfInBounds,g]
 |cons v vs m=>
  intro i w c hb o k;simp at o;simp[storeCells,Gf];rw[UG hb (by omega) (k v (by simp))];simp;have g:b<w.heap.size:=by
   rcases pu b w.heap.size with h|h
   .exact h
   .simp[wE h]at hb
  rw[m (i+1) _ (c.setIfInBounds (off+i) v) (GP g) (by simp;omega) (λv q=>k v (by simp[q]))];rw[Qd];simp[DA,nl]
theorem FG{w:cf}{b:Nat}{o:Obj}(h:w.heap[b]?=some o):b<w.heap.size:=by
 rcases pu b w.heap.size with g|g
 .exact g
 .simp[wE g]at h
abbrev np:=@List.getElem?_eq_none
theorem AZ{α:Type}{l:List α}{i:Nat}{x:α}(h:l[i]?=some x):i<l.length:=by
 rcases pu i l.length with g|g
 .exact g
 .simp[np g]at h
abbrev nt:=@List.getElem?_set_ne
theorem Rel.update{P:b8}{G:Gh}{S:Sg}{w:cf}(R:Rel P G S w){r:Nat}{o o':O}{H:Obj}(u:S[r]?=some o)(z:BQ G r o=true)(J:BQ G r o'=true)
  (q:∀k,lenOf (S.set r o') r=some k->∃n,lenOf S r=some n/\n<=k/\(n=k->C0 (S.set r o') r=C0 S r\/C0 (S.set r o') r=none))
  (s:Bb (S.set r o') r=true->Bb S r=true)
  (K:BL G S w G (S.set r o') (D0 w (G.B3 r) H)->OK G (S.set r o') (D0 w (G.B3 r) H) r o'):
  Rel P G (S.set r o') (D0 w (G.B3 r) H)/\Tr G S w G (S.set r o') (D0 w (G.B3 r) H)/\BL G S w G (S.set r o') (D0 w (G.B3 r) H):=by
 have M:=AZ u;have A:Fy G S (G.B3 r):=⟨r,o,u,z,rfl⟩;have m:∀g,g≠r->(S.set r o')[g]?=S[g]?:=λg h=>by simp[nt (le h)]
 have Df:(S.set r o')[r]?=some o':=by simp[M]
 have L:BL G S w G (S.set r o') (D0 w (G.B3 r) H):=by
  refine⟨λ_ h=>h,λb hb=>NP (λe=>R.nI _ A (e▸hb)),by simp,λg N k E=>?_,λg N B=>?_⟩
  .by_cases e:g=r
   .subst e;obtain⟨n,h1,t,v⟩:=q k E;exact⟨n,h1,t,λe=>⟨rfl,rfl,rfl,v e⟩⟩
   .have:lenOf (S.set r o') g=lenOf S g:=by simp[lenOf,m g e]
    exact⟨k,by rw[<-this];exact E,br _,λ_=>⟨rfl,rfl,rfl,.inl (by simp[C0,m g e])⟩⟩
  .by_cases e:g=r
   .subst e;exact⟨s B,rfl⟩
   .exact⟨by simp[Bb,m g e]at B;exact B,rfl⟩
 have i:∀b,Fy G (S.set r o') b->Fy G S b:=by
  rintro b ⟨g,x,h1,t,v⟩;by_cases e:g=r
  .subst e;rw[v];exact A
  .rw[m g e]at h1;exact⟨g,x,h1,t,v⟩
 refine⟨⟨R.GQ.later L,λg x j=>?_,λr1 r2 Q T h1 t o1 U W=>?_,λb hb=>R.nI b (i b hb),λb hb=>by simpa using R.JY b hb,λb hb=>by simpa using R.HL b (i b hb)⟩,⟨by simp,λ_ h=>h,λb _ hn=>NP (λe=>hn (e▸A)),λb hb=>.inl (i b hb),λb hb=>.inl hb,rfl,rfl⟩,L⟩
 .by_cases e:g=r
  .subst e;rw[Df]at j;cases j;exact K L
  .rw[m g e]at j;refine(R.DG g x j).later L (λC=>NP (λX=>?_)) rfl rfl rfl;exact e (R.inj g r x o j u C z X)
 .have get:∀g x,(S.set r o')[g]?=some x->BQ G g x=true->∃F,S[g]?=some F/\BQ G g F=true:=λg x j C=>by
   by_cases e:g=r
   .subst e;exact⟨o,u,z⟩
   .rw[m g e]at j;exact⟨x,j,C⟩
  obtain⟨Y,Z,p1⟩:=get r1 Q h1 o1;obtain⟨y2,g2,p2⟩:=get r2 T t U;exact R.inj r1 r2 Y y2 Z g2 p1 p2 W
def Gh.at (G:Gh)(r b cap:Nat)(BB:Option (Option Addr)):Gh:=
 {I:=G.I,B3:=λk=>if k=r then b else G.B3 k,cap:=λk=>if k=r then(cap,0)else G.cap k,BB:=λk=>if k=r then BB else G.BB k}
abbrev acI:=@List.getElem?_append
theorem BL.add{G:Gh}{S:Sg}{w w':cf}(b cap:Nat)(BB:Option (Option Addr))(o:O)(j:∀k,G.I k->w'.heap[k]?=w.heap[k]?):
  BL G S w (G.at S.length b cap BB) (S++[o]) w':=by
 refine⟨λ_ h=>h,j,by simp,λr i m q=>?_,λr i s=>?_⟩
 .have e:(S++[o])[r]?=S[r]?:=by simp[acI,i]
  have g:r≠S.length:=by omega
  refine⟨m,by simpa only[lenOf,e]using q,br _,λ_=>⟨by simp[Gh.at,g],by simp[Gh.at,g],by simp[Gh.at,g],.inl (by simp[C0,e])⟩⟩
 .have e:(S++[o])[r]?=S[r]?:=by simp[acI,i]
  have g:r≠S.length:=by omega
  exact⟨by simpa only[Bb,e]using s,by simp[Gh.at,g]⟩
theorem En{G:Gh}{g r b cap:Nat}{BB:Option (Option Addr)}{o:O}(h:g≠r):BQ (G.at r b cap BB) g o=BQ G g o:=by
 cases o<;>simp[BQ,Gh.at,h]
theorem Rel.add{P:b8}{G:Gh}{S:Sg}{w:cf}(R:Rel P G S w)(cap:Nat)(o:O)(H:Obj)
  (C:BL G S w (G.at S.length w.heap.size cap none) (S++[o]) (Bn w H)->OK (G.at S.length w.heap.size cap none) (S++[o]) (Bn w H) S.length o):
  Rel P (G.at S.length w.heap.size cap none) (S++[o]) (Bn w H)/\Tr G S w (G.at S.length w.heap.size cap none) (S++[o]) (Bn w H)/\BL G S w (G.at S.length w.heap.size cap none) (S++[o]) (Bn w H):=by
 have L:BL G S w (G.at S.length w.heap.size cap none) (S++[o]) (Bn w H):=BL.add _ _ _ _ (λk E=>DU (R.JY k E));have Hy:∀r x,(S++[o])[r]?=some x->r≠S.length->S[r]?=some x/\r<S.length:=λr x i J=>by
  have h1:=AZ i;have j:r<S.length:=by simp at h1;omega
  exact⟨by simpa[acI,j]using i,j⟩
 have new:∀x,(S++[o])[S.length]?=some x->x=o:=λx i=>by simp at i;exact i.symm
 have g:∀b,Fy (G.at S.length w.heap.size cap none) (S++[o]) b->Fy G S b\/b=w.heap.size:=by
  rintro b ⟨r,x,h1,j,s⟩;by_cases e:r=S.length
  .right;rw[s,e];simp[Gh.at]
  .left;obtain⟨m,_⟩:=Hy r x h1 e;rw[En e]at j;exact⟨r,x,m,j,by rw[s];simp[Gh.at,e]⟩
 refine⟨⟨R.GQ.later L,λr x i=>?_,λr1 r2 z u h1 j o1 v A=>?_,λb hb B=>?_,λb hb=>?_,λb hb=>?_⟩,⟨by simp,λ_ h=>h,λb hb _=>DU hb,λb hb=>?_,λb hb=>.inl hb,rfl,rfl⟩,L⟩
 .by_cases e:r=S.length
  .subst e;cases new x i;exact C L
  .obtain⟨m,_⟩:=Hy r x i e;have hb:(G.at S.length w.heap.size cap none).B3 r=G.B3 r:=by simp[Gh.at,e]
   refine(R.DG r x m).later L (λF=>DU (R.HL _ ⟨r,x,m,F,rfl⟩)) hb (by simp[Gh.at,e]) (by simp[Gh.at,e])
 .by_cases t:r1=S.length
  .by_cases q:r2=S.length
   .omega
   .obtain⟨m,_⟩:=Hy r2 u j q;rw[En q]at v;have:=R.HL _ ⟨r2,u,m,v,rfl⟩;simp[Gh.at,t,q]at A;omega
  .obtain⟨s,_⟩:=Hy r1 z h1 t;rw[En t]at o1;by_cases q:r2=S.length
   .have:=R.HL _ ⟨r1,z,s,o1,rfl⟩;simp[Gh.at,t,q]at A;omega
   .obtain⟨m,_⟩:=Hy r2 u j q;rw[En q]at v;exact R.inj r1 r2 z u s m o1 v (by simpa[Gh.at,t,q]using A)
 .rcases g b hb with h|h
  .exact R.nI b h B
  .have:=R.JY b B;omega
 .have:=R.JY b hb;simp;omega
 .rcases g b hb with h|h
  .have:=R.HL b h;simp;omega
  .simp[h]
 .rcases g b hb with h|h
  .exact .inl h
  .exact .inr (by omega)
def Gh.Y9(G:Gh)(b:Nat):Gh:={G with I:=λk=>G.I k\/k=b}
abbrev UV:=@Iff.rfl
theorem Rel.ni{P:b8}{G:Gh}{S:Sg}{w:cf}(R:Rel P G S w)(H:Obj):
  Rel P (G.Y9 w.heap.size) S (Bn w H)/\Tr G S w (G.Y9 w.heap.size) S (Bn w H)/\BL G S w (G.Y9 w.heap.size) S (Bn w H):=by
 have L:BL G S w (G.Y9 w.heap.size) S (Bn w H):=
  ⟨λ_ h=>.inl h,λk i=>DU (R.JY k i),br _,λr _ n h=>⟨n,h,br _,λ_=>⟨rfl,rfl,rfl,.inl rfl⟩⟩,λr _ h=>⟨h,rfl⟩⟩
 have o:∀b,Fy (G.Y9 w.heap.size) S b↔Fy G S b:=λb=>UV;refine⟨⟨R.GQ.later L,λr x g=>(R.DG r x g).later L (λj=>DU (R.HL _ ⟨r,x,g,j,rfl⟩)) rfl rfl rfl,R.inj,λb hb m=>?_,λb hb=>?_,λb hb=>?_⟩,⟨by simp,λ_ h=>.inl h,λb hb _=>DU hb,λb hb=>.inl hb,λb hb=>?_,rfl,rfl⟩,L⟩
 .rcases m with h|h
  .exact R.nI b hb h
  .have:=R.HL b hb;omega
 .rcases hb with h|h
  .have:=R.JY b h;simp;omega
  .simp[h]
 .have:=R.HL b hb;simp;omega
 .rcases hb with h|h
  .exact .inl h
  .exact .inr (.inr (by omega))
theorem Rel.drawn{P:b8}{G:Gh}{S:Sg}{w w':cf}(R:Rel P G S w)(g:w'.heap=w.heap)(i:w'.os=w.os)(j:w'.output=w.output):
  Rel P G S w'/\Tr G S w G S w'/\BL G S w G S w':=by
 have L:BL G S w G S w':=⟨λ_ h=>h,λ_ _=>by rw[g],br _,λr _ n h=>⟨n,h,br _,λ_=>⟨rfl,rfl,rfl,.inl rfl⟩⟩,λr _ h=>⟨h,rfl⟩⟩;exact⟨⟨R.GQ.later L,λr x k=>(R.DG r x k).later L (λ_=>by rw[g]) rfl rfl rfl,R.inj,R.nI,λb hb=>by rw[g];exact R.JY b hb,λb hb=>by rw[g];exact R.HL b hb⟩,⟨by rw[g];exact br _,λ_ h=>h,λ_ _ _=>by rw[g],λ_ h=>.inl h,λ_ h=>.inl h,i,j⟩,L⟩
end Go.Koi
