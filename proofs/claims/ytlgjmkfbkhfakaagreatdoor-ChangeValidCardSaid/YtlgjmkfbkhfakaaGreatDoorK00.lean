/- Part 1 of the proof that the law ChangeValid returns true for every input. -/
import Derived.Calls
import Derived.Orders
import Derived.Laws.Sem
import Derived.KernelRfl
import GoSem.ClaimData
set_option maxHeartbeats 64000000
set_option maxRecDepth 100000
namespace Go.Koi
inductive D where
 |bool (b:Bool)
 |int (k:IntKind) (n:Int)
 |str (s:ByteArray)
 |sl (xs:List D)
 |agg (cs:List D)
 |Bd (vs:List D)
 |raw (v:Value)
inductive V where
 |any
 |d (d:D)
 |full (xs:List D)
 |row (r n:Nat)
 |ptr (r n i j:Nat)
 |Cc (cs:List D)
 |map (r:Nat)
 |fn (f:Fn) (first caps:List V)
 |agg (cs:List V)
 |Bd (vs:List V)
 |opt (g:Bool) (v:V)
inductive O where
 |row (wr:Bool) (sz:Nat) (els:List V)
 |BJ (xs:List D)
 |map (es:List (D×V))
 |dead
def rng:IntKind→Int→Bool
 |.i8,n=>decide (-128≤n)&&decide (n≤127)
 |.i16,n=>decide (-32768≤n)&&decide (n≤32767)
 |.i32,n=>decide (-2147483648≤n)&&decide (n≤2147483647)
 |.i64,n=>decide (-9223372036854775808≤n)&&decide (n≤9223372036854775807)
 |.u8,n=>decide (0≤n)&&decide (n≤255)
 |.u16,n=>decide (0≤n)&&decide (n≤65535)
 |.u32,n=>decide (0≤n)&&decide (n≤4294967295)
 |.u64,n=>decide (0≤n)&&decide (n≤18446744073709551615)
theorem PT(k:IntKind)(n:Int):(Lit.int k n).wf=rng k n:=by
 cases k<;>simp[Lit.wf,rng,IntKind.min,IntKind.max,IntKind.signed,IntKind.bits]
theorem Gp(k:IntKind)(e:Int):rng k (k.wrap e)=true:=by
 cases k<;>simp[rng,IntKind.wrap,IntKind.signed,IntKind.bits]<;>(try split)<;>omega
def one:Value→Bool
 |.agg _=>false
 |.tuple _=>false
 |_=>true
inductive CD(I:Nat→Prop)(w:World):D→Value→Prop
 |bool (b:Bool):CD I w (.bool b) (.bool b)
 |int (k:IntKind) (n:Int) (h:rng k n=true):CD I w (.int k n) (.int k n)
 |str (s:ByteArray) (h:s.size≤maxLen):CD I w (.str s) (.string s)
 |nil (a:Option Addr) (cap:Nat):CD I w (.sl []) (.slice a 0 cap)
 |sl (sz:Nat) (xs:List D) (b off cap:Nat) (vs:Nat→Value) (hI:I b) (hl:xs.length≤maxLen) (hc:xs.length≤cap)
   (h1:∀i (h:i<xs.length),CD I w xs[i] (vs i))
   (h2:∀i,i<xs.length→(vs i).cells.size=sz∧∀j,j<sz→w.cell? ⟨b,off+i * sz+j,none⟩=(vs i).cells[j]?):
   CD I w (.sl xs) (.slice (some ⟨b,off,none⟩) xs.length cap)
 |agg (ds:List D) (vs:Array Value) (hs:vs.size=ds.length)
   (h:∀i (h:i<ds.length),CD I w ds[i] (vs[i]'(by omega)))
   (ho:∀i (h:i<vs.size),one vs[i]=true):CD I w (.agg ds) (.agg vs)
 |Bd (ds:List D) (vs:Array Value) (hs:vs.size=ds.length)
   (h:∀i (h:i<ds.length),CD I w ds[i] (vs[i]'(by omega))):CD I w (.Bd ds) (.tuple vs)
 |raw (v:Value):CD I w (.raw v) v
structure Gh where
 I:Nat→Prop
 BZ:Nat→Nat
 cap:Nat→Nat×Nat
 BB:Nat→Option (Option Addr)
abbrev Sg:=List O
def lenOf(S:Sg)(r:Nat):Option Nat:=
 match S[r]? with
 |some (.row _ _ els)=>some els.length
 |some (.BJ xs)=>some xs.length
 |_=>none
def AAf(S:Sg)(r:Nat):Option Nat:=
 match S[r]? with
 |some (.row _ sz _)=>some sz
 |_=>none
def AAN(S:Sg)(r:Nat):Bool:=
 match S[r]? with
 |some (.map _)=>true
 |_=>false
def Gh.AAP(G:Gh)(r n:Nat):Value:=
 match G.BB r with
 |none=>.slice (some ⟨G.BZ r,(G.cap r).2,none⟩) n (G.cap r).1
 |some a=>.slice a n n
def Gh.addr(G:Gh)(r k:Nat):Value:=
 match G.BB r with
 |none=>.pointer (some ⟨G.BZ r,(G.cap r).2+k,none⟩)
 |some (some a)=>.pointer (some ⟨a.block,a.off+k,none⟩)
 |some none=>.pointer none
inductive CV(G:Gh)(S:Sg)(w:World):V→Value→Prop
 |any (v:Value):CV G S w .any v
 |d (d:D) (v:Value) (h:CD G.I w d v):CV G S w (.d d) v
 |full (xs:List D) (a:Option Addr) (h:CD G.I w (.sl xs) (.slice a xs.length xs.length)):CV G S w (.full xs) (.slice a xs.length xs.length)
 |row (r n:Nat) (v:Value) (ho:one v=true) (hr:r<S.length) (h:∀m,lenOf S r=some m→n≤m∧(n=m→v=G.AAP r n)):CV G S w (.row r n) v
 |ptr (r n i j:Nat) (v:Value) (ho:one v=true) (hr:r<S.length) (h:∀m,lenOf S r=some m→n≤m∧(n=m→∀sz,AAf S r=some sz→v=G.addr r (i * sz+j))):CV G S w (.ptr r n i j) v
 |Cc (cs:List D) (b off:Nat) (vs:Nat→Value) (hI:G.I b)
   (h:∀j (h:j<cs.length),w.cell? ⟨b,off+j,none⟩=some (vs j)∧CD G.I w cs[j] (vs j)∧one (vs j)=true):CV G S w (.Cc cs) (.pointer (some ⟨b,off,none⟩))
 |map (r:Nat) (v:Value) (ho:one v=true) (hr:r<S.length) (h:AAN S r=true→v=.map (some (G.BZ r))):CV G S w (.map r) v
 |fn (f:Fn) (as bs:List V) (xs ys:Array Value) (h1:xs.size=as.length) (h2:ys.size=bs.length)
   (h3:∀i (h:i<as.length),CV G S w as[i] (xs[i]'(by omega)))
   (h4:∀i (h:i<bs.length),CV G S w bs[i] (ys[i]'(by omega))):CV G S w (.fn f as bs) (.func f xs ys)
 |agg (cs:List V) (vs:Array Value) (hs:vs.size=cs.length)
   (h:∀i (h:i<cs.length),CV G S w cs[i] (vs[i]'(by omega)))
   (ho:∀i (h:i<vs.size),one vs[i]=true):CV G S w (.agg cs) (.agg vs)
 |Bd (cs:List V) (vs:Array Value) (hs:vs.size=cs.length)
   (h:∀i (h:i<cs.length),CV G S w cs[i] (vs[i]'(by omega))):CV G S w (.Bd cs) (.tuple vs)
 |opt (g:Bool) (x:V) (v:Value) (h:g=true→CV G S w x v) (h':g=false→v=undef):CV G S w (.opt g x) v
def AAJ(G:Gh)(r:Nat):O→Bool
 |.row ..=>(G.BB r).isNone
 |.map _=>true
 |_=>false
def Eo(G:Gh)(S:Sg)(b:Nat):Prop:=∃r o,S[r]?=some o∧AAJ G r o=true∧b=G.BZ r
def KO(G:Gh)(S:Sg)(w:World)(sz:Nat)(els:List V)(c:Array Value)(off:Nat):Prop:=
 ∀i (h:i<els.length),∃v,CV G S w els[i] v∧v.cells.size=sz∧(∀x∈v.cells,one x=true)∧∀j,j<sz→c[off+(i * sz+j)]?=v.cells[j]?
def OK(G:Gh)(S:Sg)(w:World)(r:Nat):O→Prop
 |.row wr sz els=>
  match G.BB r with
  |none=>∃c T,w.heap[G.BZ r]?=some (.cells c T (0,0))∧(G.cap r).2+(G.cap r).1 * sz≤c.size∧els.length≤(G.cap r).1∧els.length≤maxLen∧KO G S w sz els c (G.cap r).2
  |some a=>wr=false∧els.length≤maxLen∧∃xs:List D,els=xs.map V.d∧CD G.I w (.sl xs) (.slice a xs.length xs.length)
 |.BJ xs=>CD G.I w (.sl xs) (G.AAP r xs.length)
 |.map es=>∃ents clock,w.heap[G.BZ r]?=some (.map ents clock)∧ents.size=es.length∧clock=es.length∧∀i (h:i<es.length),∃e,ents[i]?=some e∧CD G.I w es[i].1 e.key∧CV G S w es[i].2 e.val∧e.born=i∧(∀j f,j<i→ents[j]?=some f→f.born<e.born∧f.key≠e.key)
 |.dead=>True
structure Dt(b:Nat)(G:Gh)(S:Sg)(G':Gh)(S':Sg):Prop where
 len:b≤S'.length
 row:∀r,r<b→∀n',lenOf S' r=some n'→∃n,lenOf S r=some n∧n≤n'∧(n=n'→G'.BZ r=G.BZ r∧G'.cap r=G.cap r∧G'.BB r=G.BB r∧(AAf S' r=AAf S r∨AAf S' r=none))
 map:∀r,r<b→AAN S' r=true→AAN S r=true∧G'.BZ r=G.BZ r
theorem Dt.refl{b:Nat}{G:Gh}{S:Sg}(h:b≤S.length):Dt b G S G S:=
 ⟨h,fun _ _ n h=>⟨n,h,Nat.le_refl _,fun _=>⟨rfl,rfl,rfl,.inl rfl⟩⟩,fun _ _ h=>⟨h,rfl⟩⟩
theorem Dt.trans{b:Nat}{G:Gh}{S:Sg}{G':Gh}{S':Sg}{G'':Gh}{S'':Sg}(h:Dt b G S G' S')(h':Dt b G' S' G'' S''):Dt b G S G'' S'' where
 len:=h'.len
 row:=fun r hr n' iz=>by
  obtain⟨n1,e1,l1,k1⟩:=h'.row r hr n' iz;obtain⟨n2,e2,l2,k2⟩:=h.row r hr n1 e1;refine⟨n2,e2,Nat.le_trans l2 l1,fun e=>?_⟩;obtain⟨a1,a2,a3,a4⟩:=k1 (by omega);obtain⟨b1,b2,b3,b4⟩:=k2 (by omega);refine⟨a1.trans b1,a2.trans b2,a3.trans b3,?_⟩;rcases a4 with a4|a4
  ·rcases b4 with b4|b4
   ·exact .inl (a4.trans b4)
   ·exact .inr (a4.trans b4)
  ·exact .inr a4
 map:=fun r hr hm=>by
  obtain⟨e1,k1⟩:=h'.map r hr hm;obtain⟨e2,k2⟩:=h.map r hr e1;exact⟨e2,k1.trans k2⟩
def BY:List Int:=[0,1,56,2,57,49,28,3,61,58,42,50,38,29,17,4,62,47,59,36,45,43,51,22,53,39,33,30,24,18,12,5,63,55,48,27,60,41,37,16,46,35,44,21,52,32,23,11,54,26,40,15,34,20,31,10,25,14,19,9,13,8,7,6]
def Xk(P:Program)(G:Gh)(w:World):Prop:=
 ∀g,(P.globals[g]?).map (·.name)=some "math/bits.deBruijn64tab"→G.I g∧∀j (h:j<BY.length),w.cell? ⟨g,j,none⟩=some (.int .u8 BY[j])
structure Rel(P:Program)(G:Gh)(S:Sg)(w:World):Prop where
 Es:Xk P G w
 CT:∀r o,S[r]?=some o→OK G S w r o
 inj:∀r r' o o',S[r]?=some o→S[r']?=some o'→AAJ G r o=true→AAJ G r' o'=true→G.BZ r=G.BZ r'→r=r'
 nI:∀b,Eo G S b→¬G.I b
 G5:∀b,G.I b→b<w.heap.size
 FW:∀b,Eo G S b→b<w.heap.size
structure Tr(G:Gh)(S:Sg)(w:World)(G':Gh)(S':Sg)(w':World):Prop where
 size:w.heap.size≤w'.heap.size
 I:∀b,G.I b→G'.I b
 DG:∀b,b<w.heap.size→¬Eo G S b→w'.heap[b]?=w.heap[b]?
 own:∀b,Eo G' S' b→Eo G S b∨w.heap.size≤b
 im:∀b,G'.I b→G.I b∨Eo G S b∨w.heap.size≤b
 os:w'.os=w.os
 out:w'.output=w.output
theorem Tr.refl(G:Gh)(S:Sg)(w:World):Tr G S w G S w:=
 ⟨Nat.le_refl _,fun _ h=>h,fun _ _ _=>rfl,fun _ h=>.inl h,fun _ h=>.inl h,rfl,rfl⟩
theorem Tr.trans{G:Gh}{S:Sg}{w:World}{G':Gh}{S':Sg}{w':World}{G'':Gh}{S'':Sg}{w'':World}
  (h:Tr G S w G' S' w') (h':Tr G' S' w' G'' S'' w''):Tr G S w G'' S'' w'' where
 size:=Nat.le_trans h.size h'.size
 I:=fun b hb=>h'.I b (h.I b hb)
 DG:=fun b hb hn=>by
  rw[h'.DG b (Nat.lt_of_lt_of_le hb h.size) (fun ho=>(h.own b ho).elim hn (fun h=>by omega)),h.DG b hb hn]
 own:=fun b hb=>(h'.own b hb).elim (h.own b) (fun hb=>.inr (Nat.le_trans h.size hb))
 im:=fun b hb=>(h'.im b hb).elim (h.im b) (fun hb=>hb.elim (fun ho=>(h.own b ho).elim (fun h=>.inr (.inl h)) (fun h=>.inr (.inr h))) (fun hb=>.inr (.inr (Nat.le_trans h.size hb))))
 os:=h'.os.trans h.os
 out:=h'.out.trans h.out
theorem HP{w w':World}{b:Nat}(h:w'.heap[b]?=w.heap[b]?)(o:Nat):w'.cell? ⟨b,o,none⟩=w.cell? ⟨b,o,none⟩:=by
 simp only[World.cell?,h]
theorem CD.mono{I I':Nat→Prop}{w w':World}(hI:∀b,I b→I' b)(hk:∀b,I b→w'.heap[b]?=w.heap[b]?){d:D}{v:Value}(h:CD I w d v):CD I' w' d v:=by
 induction h with
 |bool b=>exact .bool b
 |int k n h=>exact .int k n h
 |str s h=>exact .str s h
 |nil a cap=>exact .nil a cap
 |sl sz xs b off cap vs hI' hl hc h1 h2 ih=>
  exact .sl sz xs b off cap vs (hI _ hI') hl hc ih (fun i hi=>⟨(h2 i hi).1,fun j hj=>by rw[HP (hk b hI')];exact(h2 i hi).2 j hj⟩)
 |agg ds vs hs h ho ih=>exact .agg ds vs hs ih ho
 |Bd ds vs hs h ih=>exact .Bd ds vs hs ih
 |raw v=>exact .raw v
structure A9(G:Gh)(S:Sg)(w:World)(G':Gh)(S':Sg)(w':World):Prop where
 I:∀b,G.I b→G'.I b
 DG:∀b,G.I b→w'.heap[b]?=w.heap[b]?
 len:S.length≤S'.length
 row:∀r,r<S.length→∀n',lenOf S' r=some n'→∃n,lenOf S r=some n∧n≤n'∧(n=n'→G'.BZ r=G.BZ r∧G'.cap r=G.cap r∧G'.BB r=G.BB r∧(AAf S' r=AAf S r∨AAf S' r=none))
 map:∀r,r<S.length→AAN S' r=true→AAN S r=true∧G'.BZ r=G.BZ r
theorem A9.late{b:Nat}{G:Gh}{S:Sg}{w:World}{G':Gh}{S':Sg}{w':World}(L:A9 G S w G' S' w')(h:b≤S.length):Dt b G S G' S':=
 ⟨Nat.le_trans h L.len,fun r hr=>L.row r (Nat.lt_of_lt_of_le hr h),fun r hr=>L.map r (Nat.lt_of_lt_of_le hr h)⟩
theorem CV.later{G:Gh}{S:Sg}{w:World}{G':Gh}{S':Sg}{w':World}(L:A9 G S w G' S' w'){x:V}{v:Value}(h:CV G S w x v):CV G' S' w' x v:=by
 induction h with
 |any v=>exact .any v
 |d d v h=>exact .d d v (h.mono L.I L.DG)
 |full xs a h=>exact .full xs a (h.mono L.I L.DG)
 |row r n v ho hr h=>
  refine .row r n v ho (Nat.lt_of_lt_of_le hr L.len) fun m hm=>?_;obtain⟨n0,h0,hle,he⟩:=L.row r hr m hm;obtain⟨h1,h2⟩:=h n0 h0;refine⟨Nat.le_trans h1 hle,fun e=>?_⟩;obtain⟨e1,e2,e3,_⟩:=he (by omega);rw[h2 (by omega)];simp only[Gh.AAP,e1,e2,e3]
 |ptr r n i j v ho hr h=>
  refine .ptr r n i j v ho (Nat.lt_of_lt_of_le hr L.len) fun m hm=>?_;obtain⟨n0,h0,hle,he⟩:=L.row r hr m hm;obtain⟨h1,h2⟩:=h n0 h0;refine⟨Nat.le_trans h1 hle,fun e sz gp=>?_⟩;obtain⟨e1,e2,e3,e4⟩:=he (by omega);rw[h2 (by omega) sz (by rcases e4 with e4|e4<;>simp_all)];simp only[Gh.addr,e1,e2,e3]
 |Cc cs b off vs hI h=>
  exact .Cc cs b off vs (L.I b hI) fun j hj=>⟨by rw[HP (L.DG b hI)];exact(h j hj).1,(h j hj).2.1.mono L.I L.DG,(h j hj).2.2⟩
 |map r v ho hr h=>exact .map r v ho (Nat.lt_of_lt_of_le hr L.len) fun hm=>by obtain⟨a,b⟩:=L.map r hr hm;rw[h a,b]
 |fn f as bs xs ys h1 h2 h3 h4 i3 i4=>exact .fn f as bs xs ys h1 h2 i3 i4
 |agg cs vs hs h ho ih=>exact .agg cs vs hs ih ho
 |Bd cs vs hs h ih=>exact .Bd cs vs hs ih
 |opt g x v h h' ih=>exact .opt g x v ih h'
theorem A9.refl(G:Gh)(S:Sg)(w:World):A9 G S w G S w:=
 ⟨fun _ h=>h,fun _ _=>rfl,Nat.le_refl _,fun _ _ n h=>⟨n,h,Nat.le_refl _,fun _=>⟨rfl,rfl,rfl,.inl rfl⟩⟩,fun _ _ h=>⟨h,rfl⟩⟩
theorem A9.trans{G:Gh}{S:Sg}{w:World}{G':Gh}{S':Sg}{w':World}{G'':Gh}{S'':Sg}{w'':World}
  (h:A9 G S w G' S' w') (h':A9 G' S' w' G'' S'' w''):A9 G S w G'' S'' w'' where
 I:=fun b hb=>h'.I b (h.I b hb)
 DG:=fun b hb=>by rw[h'.DG b (h.I b hb),h.DG b hb]
 len:=Nat.le_trans h.len h'.len
 row:=fun r hr n' iz=>by
  obtain⟨n1,e1,l1,k1⟩:=h'.row r (Nat.lt_of_lt_of_le hr h.len) n' iz;obtain⟨n2,e2,l2,k2⟩:=h.row r hr n1 e1;refine⟨n2,e2,Nat.le_trans l2 l1,fun e=>?_⟩;obtain⟨a1,a2,a3,a4⟩:=k1 (by omega);obtain⟨b1,b2,b3,b4⟩:=k2 (by omega);refine⟨a1.trans b1,a2.trans b2,a3.trans b3,?_⟩;rcases a4 with a4|a4
  ·rcases b4 with b4|b4
   ·exact .inl (a4.trans b4)
   ·exact .inr (a4.trans b4)
  ·exact .inr a4
 map:=fun r hr hm=>by
  obtain⟨e1,k1⟩:=h'.map r (Nat.lt_of_lt_of_le hr h.len) hm;obtain⟨e2,k2⟩:=h.map r hr e1;exact⟨e2,k1.trans k2⟩
theorem Xk.later{P:Program}{G:Gh}{S:Sg}{w:World}{G':Gh}{S':Sg}{w':World}(L:A9 G S w G' S' w')(h:Xk P G w):Xk P G' w':=fun g hg=>by
 obtain⟨h1,h2⟩:=h g hg;exact⟨L.I g h1,fun j hj=>by rw[HP (L.DG g h1)];exact h2 j hj⟩
theorem KO.later{G:Gh}{S:Sg}{w:World}{G':Gh}{S':Sg}{w':World}(L:A9 G S w G' S' w'){sz:Nat}{els:List V}{c:Array Value}{off:Nat}
  (h:KO G S w sz els c off):KO G' S' w' sz els c off:=fun i hi=>by
 obtain⟨v,h1,h2,h3,h4⟩:=h i hi;exact⟨v,h1.later L,h2,h3,h4⟩
theorem OK.later{G:Gh}{S:Sg}{w:World}{G':Gh}{S':Sg}{w':World}(L:A9 G S w G' S' w'){r:Nat}{o:O}
  (hb:AAJ G r o=true→w'.heap[G.BZ r]?=w.heap[G.BZ r]?) (e1:G'.BZ r=G.BZ r) (e2:G'.cap r=G.cap r) (e3:G'.BB r=G.BB r)
  (h:OK G S w r o):OK G' S' w' r o:=by
 cases o with
 |row wr sz els=>
  simp only[OK,e1,e2,e3]at h⊢;cases hv:G.BB r with
  |none=>
   simp only[hv]at h⊢;obtain⟨c,T,h1,h2,h3,h4,h5⟩:=h;exact⟨c,T,by rw[hb (by simp[AAJ,hv])];exact h1,h2,h3,h4,h5.later L⟩
  |some a=>
   simp only[hv]at h⊢;obtain⟨h1,h2,xs,h3,h4⟩:=h;exact⟨h1,h2,xs,h3,h4.mono L.I L.DG⟩
 |BJ xs=>
  simp only[OK,Gh.AAP,e1,e2,e3]at h⊢;exact h.mono L.I L.DG
 |map es=>
  simp only[OK,e1]at h⊢;obtain⟨ents,clock,h1,h2,hk,h3⟩:=h;refine⟨ents,clock,by rw[hb rfl];exact h1,h2,hk,fun i hi=>?_⟩;obtain⟨e,g1,g2,g3,g4,g5⟩:=h3 i hi;exact⟨e,g1,g2.mono L.I L.DG,g3.later L,g4,g5⟩
 |dead=>trivial
abbrev Tm:=Nat→V
def Zr(G:Gh)(S:Sg)(w:World)(ts:Array Value)(tm:Tm):Prop:=∀k,CV G S w (tm k) (ts.getD k undef)
theorem Zr.later{G:Gh}{S:Sg}{w:World}{G':Gh}{S':Sg}{w':World}(L:A9 G S w G' S' w'){ts:Array Value}{tm:Tm}(h:Zr G S w ts tm):Zr G' S' w' ts tm:=
 fun k=>(h k).later L
structure St(P:Program)(n:Nat)(G:Gh)(S:Sg)(w:World)(a:Act)(tm:Tm):Prop where
 size:a.tmps.size=n
 tm:Zr G S w a.tmps tm
 rel:Rel P G S w
structure E1(P:Program)(n b:Nat)(G:Gh)(S:Sg)(w:World)(ds:List Deferred)(a':Act)(w':World)(G':Gh)(S':Sg)(tm':Tm):Prop where
 st:St P n G' S' w' a' tm'
 ds:a'.defers=ds
 tr:Tr G S w G' S' w'
 late:Dt b G S G' S'
def K7(P:Program)(n b:Nat)(Q:Exit→Tm→Sg→Prop)(G:Gh)(S:Sg)(w:World)(ds:List Deferred):Exit→Act→World→Prop:=
 fun ex a' w'=>∃G' S' tm',E1 P n b G S w ds a' w' G' S' tm'∧Q ex tm' S'
theorem K7.trans{P:Program}{n b:Nat}{Q:Exit→Tm→Sg→Prop}{G:Gh}{S:Sg}{w:World}{ds:List Deferred}{G':Gh}{S':Sg}{w':World}(h:Tr G S w G' S' w')(h2:Dt b G S G' S')
  {ex:Exit} {a:Act} {w'':World} (hl:K7 P n b Q G' S' w' ds ex a w''):K7 P n b Q G S w ds ex a w'':=by
 obtain⟨G2,S2,tm2,hc,hq⟩:=hl;exact⟨G2,S2,tm2,⟨hc.st,hc.ds,h.trans hc.tr,h2.trans hc.late⟩,hq⟩
def AW(P:Program)(n b:Nat)(c:Code)(Q:Exit→Tm→Sg→Prop)(tm:Tm)(S:Sg):Prop:=
 ∀G w a,St P n G S w a tm→b≤S.length→c.wp P (K7 P n b Q G S w a.defers) a w
section
variable {P:Program} {n b:Nat} {Q:Exit→Tm→Sg→Prop} {tm:Tm} {S:Sg}
theorem AW.mono{c:Code}{Q':Exit→Tm→Sg→Prop}(h:AW P n b c Q tm S)(hq:∀ex tm S,Q ex tm S→Q' ex tm S):AW P n b c Q' tm S:=
 fun G w a st hb=>wp_mono (h G w a st hb) fun _ _ _ hl=>let⟨G',S',tm',hc,kf⟩:=hl;⟨G',S',tm',hc,hq _ _ _ kf⟩
theorem E1.refl{G:Gh}{w:World}{a:Act}(st:St P n G S w a tm)(hb:b≤S.length):E1 P n b G S w a.defers a w G S tm:=⟨st,rfl,Tr.refl _ _ _,Dt.refl hb⟩
theorem CC(h:Q .normal tm S):AW P n b .skip Q tm S:=fun _ _ _ st hb=>wp_skip ⟨_,_,_,.refl st hb,h⟩
theorem Cu{id:Nat}(h:Q (.exit id) tm S):AW P n b (.exit id) Q tm S:=fun _ _ _ st hb=>wp_exit ⟨_,_,_,.refl st hb,h⟩
theorem Ag(h:Q .ret tm S):AW P n b .ret Q tm S:=fun _ _ _ st hb=>wp_ret ⟨_,_,_,.refl st hb,h⟩
def AAE(next:Tm→Sg→Prop)(Q:Exit→Tm→Sg→Prop):Exit→Tm→Sg→Prop
 |.normal,tm,S=>next tm S
 |e,tm,S=>Q e tm S
theorem xS{x y:Code}(h:AW P n b x (AAE (AW P n b y Q) Q) tm S):AW P n b (.seq x y) Q tm S:=by
 intro G w a st hb;refine wp_seq (wp_mono (h G w a st hb) ?_);intro e a' w' hl;obtain⟨G',S',tm',hc,hq⟩:=hl;cases e with
 |normal=>
  have:=hq G' w' a' hc.st hc.late.len;rw[hc.ds]at this;exact wp_mono this fun _ _ _ hl=>hl.trans hc.tr hc.late
 |_=>exact⟨G',S',tm',hc,hq⟩
def AAA(id:Nat)(Q:Exit→Tm→Sg→Prop):Exit→Tm→Sg→Prop
 |.exit id',tm,S=>if id'=id then Q .normal tm S else Q (.exit id') tm S
 |e,tm,S=>Q e tm S
theorem Bw{id:Nat}{c:Code}(h:AW P n b c (AAA id Q) tm S):AW P n b (.block id c) Q tm S:=by
 intro G w a st hb;refine wp_block (wp_mono (h G w a st hb) ?_);intro e a' w' hl;obtain⟨G',S',tm',hc,hq⟩:=hl;cases e with
 |exit id'=>
  simp only[Exit.inBlock,AAA]at hq⊢;split
  ·rename_i h;simp only[h,if_true]at hq;exact⟨G',S',tm',hc,hq⟩
  ·rename_i h;simp only[h,if_false]at hq;exact⟨G',S',tm',hc,hq⟩
 |_=>exact⟨G',S',tm',hc,hq⟩
def AJ(P:Program)(n b:Nat)(tm:Tm)(S:Sg)(tm':Tm)(S':Sg):Prop:=
 ∀G w a,St P n G S w a tm→b≤S.length→∃G',St P n G' S' w a tm'∧Tr G S w G' S' w∧Dt b G S G' S'
theorem AJ.refl:AJ P n b tm S tm S:=fun G w _ st hb=>⟨G,st,Tr.refl G S w,Dt.refl hb⟩
theorem AJ.trans{tm':Tm}{S':Sg}{tm'':Tm}{S'':Sg}(h:AJ P n b tm S tm' S')(h':AJ P n b tm' S' tm'' S''):AJ P n b tm S tm'' S'':=fun G w a st hb=>by
 obtain⟨G',st',t',l'⟩:=h G w a st hb;obtain⟨G2,st2,t2,l2⟩:=h' G' w a st' l'.len;exact⟨G2,st2,t'.trans t2,l'.trans l2⟩
theorem AW.ghost{c:Code}{tm':Tm}{S':Sg}(g:AJ P n b tm S tm' S')(h:AW P n b c Q tm' S'):AW P n b c Q tm S:=by
 intro G w a st hb;obtain⟨G',st',t,l⟩:=g G w a st hb;exact wp_mono (h G' w a st' l.len) fun _ _ _ hl=>hl.trans t l
theorem AW.loop{c:Code}(Inv:Nat→Tm→Sg→Prop)(h0:∃m tm' S',AJ P n b tm S tm' S'∧Inv m tm' S')
  (hr:∀m tm S,Inv m tm S→AW P n b c (AAE (fun tm' S'=>∃m' tm'' S'',m'<m∧AJ P n b tm' S' tm'' S''∧Inv m' tm'' S'') Q) tm S):AW P n b (.loop c) Q tm S:=by
 intro G w a st hb;obtain⟨m,tm0,S0,g0,hi⟩:=h0;obtain⟨G0,st0,t0,l0⟩:=g0 G w a st hb;let J:Nat→Act→World→Prop:=fun m a' w'=>∃G' S' tm',E1 P n b G S w a.defers a' w' G' S' tm'∧Inv m tm' S';have key:∀m a' w',J m a' w'→∀(fb:Frame) (k:List Item) (cs:List Frame),∃e a'' w'',K7 P n b Q G S w a.defers e a'' w''∧Arrives P (lone (fb.at a' (.code c::.inLoop c::k)) cs w') fb k cs e a'' w'':=by
  intro m;induction m using Nat.strongRecOn with
  |_ m ih=>
   intro a' w' hJ fb k cs;obtain⟨G',S',tm',hc,hi⟩:=hJ;obtain⟨e,a1,w1,hq,kM⟩:=hr m tm' S' hi G' w' a' hc.st hc.late.len fb (.inLoop c::k) cs;rw[hc.ds]at hq;obtain⟨G2,S2,tm2,gx,hq⟩:=hq;cases e with
   |normal=>
    obtain⟨m',tm3,S3,cx,g3,v9⟩:=hq;obtain⟨G3,st3,t3,l3⟩:=g3 G2 w1 a1 gx.st gx.late.len;obtain⟨e2,a2,w2,jY,qY⟩:=ih m' cx a1 w1 ⟨G3,S3,tm3,⟨st3,gx.ds,(hc.tr.trans gx.tr).trans t3,(hc.late.trans gx.late).trans l3⟩,v9⟩ fb k cs;exact⟨e2,a2,w2,jY,.of_steps (Steps.trans kM (.one step_inLoop)) qY⟩
   |exit id=>exact⟨_,a1,w1,⟨G2,S2,tm2,⟨gx.st,gx.ds,hc.tr.trans gx.tr,hc.late.trans gx.late⟩,hq⟩,.pass (x:=.inLoop c) rfl (fun _ _=>.inl (by simp)) kM⟩
   |goto l=>exact⟨_,a1,w1,⟨G2,S2,tm2,⟨gx.st,gx.ds,hc.tr.trans gx.tr,hc.late.trans gx.late⟩,hq⟩,.pass (x:=.inLoop c) rfl (fun _ _=>.inl (by simp)) kM⟩
   |ret=>exact⟨_,a1,w1,⟨G2,S2,tm2,⟨gx.st,gx.ds,hc.tr.trans gx.tr,hc.late.trans gx.late⟩,hq⟩,.pass (x:=.inLoop c) rfl (fun _ _=>.inl (by simp)) kM⟩
   |panic ch=>exact⟨_,a1,w1,⟨G2,S2,tm2,⟨gx.st,gx.ds,hc.tr.trans gx.tr,hc.late.trans gx.late⟩,hq⟩,.pass (x:=.inLoop c) rfl (fun _ _=>.inl (by simp)) kM⟩
   |outgrown=>exact⟨.outgrown,a1,w1,⟨G2,S2,tm2,⟨gx.st,gx.ds,hc.tr.trans gx.tr,hc.late.trans gx.late⟩,hq⟩,kM⟩
 intro fb k cs;obtain⟨e,a',w',hq,kM⟩:=key m a w ⟨G0,S0,tm0,⟨st0,rfl,t0,l0⟩,hi⟩ fb k cs;exact⟨e,a',w',hq,.of_steps (.one step_loop) kM⟩
def ADa:Value→V
 |.bool b=>.d (.bool b)
 |.int k n=>if rng k n then .d (.int k n)else .any
 |.string s=>if s.size≤maxLen then .d (.str s)else .any
 |.slice none 0 0=>.full []
 |.agg _=>.any
 |.tuple _=>.any
 |v=>.d (.raw v)
def cst:Value→V
 |.agg vs=>if vs.toList.all one then .agg (vs.toList.map ADa)else .any
 |v=>ADa v
def ev(tm:Tm):Operand→V
 |.tmp t=>tm t
 |.const v=>cst v
 |.global _=>.any
 |.func f=>.fn (.func f) [] []
theorem Qa(G:Gh)(S:Sg)(w:World)(v:Value):CV G S w (ADa v) v:=by
 unfold ADa;split<;>first
  |exact .any _
  |exact .d _ _ (.bool _)
  |(split
    ·exact .d _ _ (.int _ _ ‹_›)
    ·exact .any _)
  |(split
    ·exact .d _ _ (.str _ ‹_›)
    ·exact .any _)
  |exact .full [] none (.nil none 0)
  |exact .d _ _ (.raw _)
theorem Fo(G:Gh)(S:Sg)(w:World)(v:Value):CV G S w (cst v) v:=by
 unfold cst;split
 ·rename_i vs;split
  ·rename_i gg;refine .agg _ _ (by simp) (fun i hi=>by simpa using Qa G S w _) (fun i hi=>?_);have:=List.all_eq_true.1 gg vs[i] (by simp);simpa using this
  ·exact .any _
 ·exact Qa G S w v
theorem BH{G:Gh}{w:World}{a:Act}(st:St P n G S w a tm)(x:Operand):CV G S w (ev tm x) (a.eval x):=by
 cases x with
 |tmp t=>exact st.tm t
 |const v=>exact Fo G S w v
 |global g=>exact .any _
 |func f=>exact .fn _ _ _ _ _ rfl rfl (fun i h=>by simp at h) (fun i h=>by simp at h)
theorem AW.BD{c:Operand}{x y:Code}{t:Bool}(hc:ev tm c=.d (.bool t))(h1:t=true→AW P n b x Q tm S)(h2:t=false→AW P n b y Q tm S):AW P n b (.cond c x y) Q tm S:=by
 intro G w a st hlen;have he:a.eval c=.bool t:=by
  cases c with
  |tmp t=>
   have:=st.tm t;simp only[ev]at hc;rw[hc]at this;simp only[Act.eval];generalize a.tmps.getD t undef=x at this;cases this with|d _ _ h=>cases h;rfl
  |const v=>
   simp only[ev,cst]at hc;split at hc
   ·split at hc<;>cases hc
   ·unfold ADa at hc;split at hc<;>first|(simp only[V.d.injEq,D.bool.injEq]at hc;subst hc;rfl)|(cases hc;done)|(split at hc<;>cases hc)
  |global g=>cases hc
  |func f=>cases hc
 refine wp_cond_split he (fun hb=>h1 hb G w a st hlen) (fun hb=>h2 hb G w a st hlen)
def strip:V→V
 |.opt _ v=>strip v
 |v=>v
def need:V→Prop
 |.opt g v=>g=true∧need v
 |_=>True
def FI(g:Bool):V→V
 |.opt g' v=>.opt (g&&g') v
 |v=>.opt g v
theorem CV.strip{G:Gh}{S:Sg}{w:World}{v:Value}:∀{x:V},CV G S w x v→need x→CV G S w (strip x) v
 |.opt g x,h,hn=>by
  show CV G S w (Koi.strip x) v
  cases h with|opt _ _ _ h' _=>exact CV.strip (x:=x) (h' hn.1) hn.2
 |.any,h,_|.d _,h,_|.full _,h,_|.row ..,h,_|.ptr ..,h,_|.Cc _,h,_|.map _,h,_|.fn ..,h,_|.agg _,h,_|.Bd _,h,_=>h
theorem CV.FI{G:Gh}{S:Sg}{w:World}{v:Value}{g:Bool}{x:V}(h:g=true→CV G S w x v)(h':g=false→v=undef):CV G S w (FI g x) v:=by
 cases x with
 |opt g' x=>
  refine .opt _ _ _ (fun hg=>?_) (fun hg=>?_)
  ·simp only[Bool.and_eq_true]at hg;have:=h hg.1;cases this with|opt _ _ _ h _=>exact h hg.2
  ·cases g with
   |false=>exact h' rfl
   |true=>
    have:=h rfl;cases this with|opt _ _ _ _ h=>exact h (by simpa using hg)
 |_=>exact .opt _ _ _ h h'
end
inductive TK where
 |bool|int (k:IntKind)|str|slice (e:TypeId)|array (n:Nat) (e:TypeId)|map (k e:TypeId)|struct (fs:List (Nat×TypeId))|ptr (e:TypeId)|func|iface|other
structure TI where
 size:Nat
 bytes:Nat
 zero:Option Value
 kind:TK
def tk:TypeDesc→TK
 |.bool=>.bool
 |.int k=>.int k
 |.string=>.str
 |.slice e=>.slice e
 |.array n e=>.array n e
 |.map k e=>.map k e
 |.struct fs=>.struct (fs.toList.map fun f=>(f.offset,f.type))
 |.pointer e=>.ptr e
 |.func ..=>.func
 |.interface _=>.iface
 |_=>.other
def ti(P:Program)(T:TypeId):Option TI:=
 match P.info? T,P.underlying T with
 |some i,some d=>some {size:=i.size,bytes:=i.bytes,zero:=i.zero,kind:=tk d}
 |_,_=>none
def TI.agg(t:TI):Bool:=
 match t.kind with
 |.array ..|.struct _=>true
 |_=>false
theorem GA{P:Program}{T:TypeId}{t:TI}(h:ti P T=some t):∃i d,P.info? T=some i∧P.underlying T=some d∧i.size=t.size∧i.bytes=t.bytes∧i.zero=t.zero∧tk d=t.kind:=by
 unfold ti at h;split at h
 ·rename_i i d h1 h2;cases h;exact⟨i,d,h1,h2,rfl,rfl,rfl,rfl⟩
 ·cases h
section
variable {P:Program} {T:TypeId} {t:TI}
theorem Cv(h:ti P T=some t)(w:World):∃i,(typeInfo T).run P w=.ok i w∧i.size=t.size∧i.bytes=t.bytes∧i.zero=t.zero:=by
 obtain⟨i,d,h1,h2,h3,h4,h5,h6⟩:=GA h;exact⟨i,by simp[typeInfo,h1],h3,h4,h5⟩
theorem BQ(h:ti P T=some t)(w:World):(sizeOf T).run P w=.ok t.size w:=by
 obtain⟨i,h1,h2,_⟩:=Cv h w;simp[sizeOf,h1,h2]
theorem Ai(h:ti P T=some t)(w:World):∃d,(underlying T).run P w=.ok d w∧tk d=t.kind:=by
 obtain⟨i,d,h1,h2,h3,h4,h5,h6⟩:=GA h;exact⟨d,by simp[underlying,h2],h6⟩
theorem IP(h:ti P T=some t)(w:World):(isAgg T).run P w=.ok t.agg w:=by
 obtain⟨d,h1,h2⟩:=Ai h w;simp only[isAgg,Sem.run_bind,h1,Result.andThen_ok,TI.agg,←h2];cases d<;>simp[tk]
theorem DF(h:ti P T=some t)(w:World){z:Value}(hz:t.zero=some z):(zeroValue T).run P w=.ok z w:=by
 obtain⟨i,h1,h2,h3,h4⟩:=Cv h w;simp[zeroValue,h1,h4,hz]
end
def AAF:V→List V
 |.agg vs=>vs
 |.d (.agg ds)=>ds.map .d
 |v=>[v]
def Ar:V→Bool
 |.agg _=>true
 |.d (.agg _)=>true
 |_=>false
def AAW:V→Bool
 |.agg _=>false
 |.Bd _=>false
 |.any=>false
 |.opt _ _=>false
 |.d (.agg _)=>false
 |.d (.Bd _)=>false
 |.d (.raw v)=>one v
 |_=>true
theorem CV.one{G:Gh}{S:Sg}{w:World}{x:V}{v:Value}(h:CV G S w x v)(ho:AAW x=true):one v=true:=by
 cases h with
 |any=>simp[AAW]at ho
 |d d v h=>cases h<;>first|rfl|(simp[AAW]at ho;done)|(simpa[AAW]using ho)
 |full=>rfl
 |row r n v h1=>exact h1
 |ptr r n i j v h1=>exact h1
 |Cc=>rfl
 |map r v h1=>exact h1
 |fn=>rfl
 |agg=>simp[AAW]at ho
 |Bd=>simp[AAW]at ho
 |opt=>simp[AAW]at ho
theorem HG{v:Value}(h:one v=true):v.cells=#[v]:=by
 cases v<;>first|rfl|simp[Koi.one]at h
theorem CV.cells{G:Gh}{S:Sg}{w:World}{x:V}{v:Value}(h:CV G S w x v)(ha:Ar x=true∨AAW x=true):
  v.cells.size=(AAF x).length∧(∀i (h:i<v.cells.size),Koi.one v.cells[i]=true)∧∀i (h:i<(AAF x).length),∃u,v.cells[i]?=some u∧CV G S w (AAF x)[i] u:=by
 by_cases h1:AAW x=true
 ·have hv:=h.one h1;have hc:AAF x=[x]:=by
   cases x with
   |d d=>cases d<;>first|rfl|simp[AAW]at h1
   |agg=>simp[AAW]at h1
   |_=>rfl
  rw[HG hv,hc];refine⟨rfl,fun i hi=>?_,fun i hi=>?_⟩
  ·have:i=0:=by simp at hi;exact hi
   subst this;simpa using hv
  ·have:i=0:=by simp at hi;exact hi
   subst this;exact⟨v,rfl,by simpa using h⟩
 ·have ha:Ar x=true:=ha.resolve_right h1;cases h with
  |agg cs vs hs h ho=>
   refine⟨hs,ho,fun i hi=>⟨vs[i]'(by simp[AAF]at hi;omega),by simp[Value.cells],h i hi⟩⟩
  |d d v hd=>
   cases hd with
   |agg ds vs hs h ho=>
    refine⟨by simpa[AAF,Value.cells]using hs,ho,fun i hi=>?_⟩;have gj:i<ds.length:=by simpa[AAF]using hi
    exact⟨vs[i]'(by omega),by simp[Value.cells],by simpa[AAF]using CV.d _ _ (h i gj)⟩
   |_=>simp[Ar]at ha
  |_=>simp[Ar]at ha
def C5(w:World)(b:Nat)(o:Obj):World:={w with heap:=w.heap.setIfInBounds b o}
def BS(w:World)(o:Obj):World:={w with heap:=w.heap.push o}
@[simp] theorem ZH(w:World)(b:Nat)(o:Obj):(C5 w b o).heap.size=w.heap.size:=by simp[C5]
@[simp] theorem ZM(w:World)(o:Obj):(BS w o).heap.size=w.heap.size+1:=by simp[BS]
theorem Ej{w:World}{b:Nat}{o:Obj}(h:b<w.heap.size):(C5 w b o).heap[b]?=some o:=by simp[C5,h]
theorem Ix{w:World}{b b':Nat}{o:Obj}(h:b'≠b):(C5 w b o).heap[b']?=w.heap[b']?:=by
 simp[C5,Array.getElem?_setIfInBounds_ne (Ne.symm h)]
theorem CZ{w:World}{b:Nat}{o:Obj}(h:b<w.heap.size):(BS w o).heap[b]?=w.heap[b]?:=by
 simp[BS,Array.getElem?_push,Nat.ne_of_lt h]
theorem C0{w:World}{o:Obj}:(BS w o).heap[w.heap.size]?=some o:=by simp[BS]
theorem cell_of{w:World}{b:Nat}{c:Array Value}{T:TypeId}{f:Nat×Nat}(h:w.heap[b]?=some (.cells c T f))(k:Nat):w.cell? ⟨b,k,none⟩=c[k]?:=by
 simp[World.cell?,h]
theorem Rs{w:World}{b:Nat}{c:Array Value}{T:TypeId}(h:w.heap[b]?=some (.cells c T (0,0)))(k:Nat):w.frozen? ⟨b,k,none⟩=false:=by
 simp[World.frozen?,h]
theorem Eb(b off i:Nat):(⟨b,off,none⟩:Addr).add i=⟨b,off+i,none⟩:=by
 unfold Addr.add;split<;>simp_all
theorem run_loadCellsFrom{P:Program}{w:World}{b off:Nat}(f:Nat→Value):∀(n i:Nat) (acc:Array Value),(∀j,j<n→w.cell? ⟨b,off+(i+j),none⟩=some (f (i+j)))→(loadCellsFrom ⟨b,off,none⟩ i n acc).run P w=.ok (acc++((List.range n).map fun j=>f (i+j)).toArray) w
 |0,i,acc,h=>by simp[loadCellsFrom]
 |n+1,i,acc,h=>by
  have h0:=h 0 (by omega);simp only[loadCellsFrom,Sem.run_bind,Eb];rw[run_load];simp only[Nat.add_zero]at h0;simp only[h0,Result.andThen_ok];rw[run_loadCellsFrom f n (i+1) (acc.push (f i)) (fun j hj=>by have:=h (j+1) (by omega);rw[show i+1+j=i+(j+1)from by omega];exact this)];congr 1;rw[List.range_succ_eq_map];apply Array.ext';simp only[Array.toList_append,Array.toList_push,List.map_cons,List.map_map,List.append_assoc,List.singleton_append,Nat.add_zero];congr 2;apply List.map_congr_left;intro j _;simp only[Function.comp_def];congr 1;omega
theorem run_loadCells{P:Program}{w:World}{b off n:Nat}(vs:Array Value)(hn:vs.size=n)(h:∀j,j<n→w.cell? ⟨b,off+j,none⟩=vs[j]?):
  (loadCells ⟨b,off,none⟩ n).run P w=.ok vs w:=by
 unfold loadCells;rw[run_loadCellsFrom (fun j=>vs.getD j undef) n 0 #[] (fun j hj=>by
  rw[Nat.zero_add,h j hj];simp[Array.getElem?_eq_getElem (show j<vs.size by omega)])]
 congr 1;apply Array.ext';apply List.ext_getElem
 ·simp[hn]
 ·intro i h1 h2;have:i<vs.size:=by simpa using h2
  simp[this]
theorem NZ{P:Program}{w:World}{b k:Nat}{c:Array Value}{T:TypeId}{v:Value}(hb:w.heap[b]?=some (.cells c T (0,0)))(hk:k<c.size)(hv:one v=true):
  (store ⟨b,k,none⟩ v).run P w=.ok () (C5 w b (.cells (c.setIfInBounds k v) T (0,0))):=by
 have h1:w.cell? ⟨b,k,none⟩=some c[k]:=by rw[cell_of hb];simp[hk]
 have h2:=Rs hb k;rw[run_store P w _ _ _ (by cases v<;>first|rfl|simp[one]at hv)];simp only[h1,h2];simp only[Bool.false_eq_true,if_false];congr 1;unfold World.setCell C5;have cx:b<w.heap.size:=by
  rcases Nat.lt_or_ge b w.heap.size with h|h
  ·exact h
  ·simp[Array.getElem?_eq_none h]at hb
 congr 1;apply Array.ext
 ·simp
 ·intro i h3 h4;have jk:w.heap[b]=.cells c T (0,0):=by simpa[Array.getElem?_eq_getElem cx]using hb
  by_cases hi:i=b
  ·subst hi;simp[Array.getElem_modify,jk]
  ·rw[Array.getElem_modify,if_neg (Ne.symm hi),Array.getElem_setIfInBounds_ne (hj:=by simpa using h3) (h:=Ne.symm hi)]
def AAh(c:Array Value)(k:Nat):List Value→Array Value
 |[]=>c
 |v::vs=>AAh (c.setIfInBounds k v) (k+1) vs
theorem DO(vs:List Value):∀(c:Array Value) (k:Nat),(AAh c k vs).size=c.size:=by
 induction vs with
 |nil=>intro c k;rfl
 |cons v vs ih=>intro c k;simp[AAh,ih]
theorem DH(vs:List Value):∀(c:Array Value) (k i:Nat),k+vs.length≤c.size→(AAh c k vs)[i]?=if k≤i∧i<k+vs.length then vs[i - k]? else c[i]?:=by
 induction vs with
 |nil=>intro c k i _;simp[AAh];omega
 |cons v vs ih=>
  intro c k i h;simp only[AAh,List.length_cons]at *;rw[ih _ _ _ (by simp;omega)];by_cases h1:k+1≤i∧i<k+1+vs.length
  ·rw[if_pos h1,if_pos (by omega)];rw[show i - k=(i - (k+1))+1 from by omega];simp
  ·rw[if_neg h1];by_cases h2:i=k
   ·subst h2;rw[if_pos (by omega)];simp only[Nat.sub_self,List.getElem?_cons_zero];rw[Array.getElem?_setIfInBounds_self_of_lt (by omega)]
   ·rw[if_neg (by omega)];simp[Array.getElem?_setIfInBounds_ne (Ne.symm h2)]
theorem LL(w:World)(b:Nat)(o o':Obj):C5 (C5 w b o) b o'=C5 w b o':=by
 unfold C5;simp
theorem Gf{P:Program}{b off:Nat}{T:TypeId}(vs:List Value):∀(i:Nat) (w:World) (c:Array Value),w.heap[b]?=some (.cells c T (0,0))→off+i+vs.length≤c.size→(∀v∈vs,one v=true)→(storeCells ⟨b,off,none⟩ vs i).run P w=.ok () (C5 w b (.cells (AAh c (off+i) vs) T (0,0))):=by
 induction vs with
 |nil=>
  intro i w c hb _ _;simp only[storeCells,Sem.run_pure,AAh];congr 1;unfold C5;have cx:b<w.heap.size:=by
   rcases Nat.lt_or_ge b w.heap.size with h|h
   ·exact h
   ·simp[Array.getElem?_eq_none h]at hb
  have jk:w.heap[b]=.cells c T (0,0):=by simpa[Array.getElem?_eq_getElem cx]using hb
  cases w;simp only[World.mk.injEq,and_true];simp only at cx jk;rw[←jk];simp[Array.setIfInBounds,cx]
 |cons v vs ih=>
  intro i w c hb gp j4;simp only[List.length_cons]at gp;simp only[storeCells,Sem.run_bind,Eb];rw[NZ hb (by omega) (j4 v (by simp))];simp only[Result.andThen_ok];have cx:b<w.heap.size:=by
   rcases Nat.lt_or_ge b w.heap.size with h|h
   ·exact h
   ·simp[Array.getElem?_eq_none h]at hb
  rw[ih (i+1) _ (c.setIfInBounds (off+i) v) (Ej cx) (by simp;omega) (fun v hv=>j4 v (by simp[hv]))];rw[LL];simp only[AAh,Nat.add_assoc]
theorem D3{w:World}{b:Nat}{o:Obj}(h:w.heap[b]?=some o):b<w.heap.size:=by
 rcases Nat.lt_or_ge b w.heap.size with h'|h'
 ·exact h'
 ·simp[Array.getElem?_eq_none h']at h
theorem AZ{α:Type}{l:List α}{i:Nat}{x:α}(h:l[i]?=some x):i<l.length:=by
 rcases Nat.lt_or_ge i l.length with h'|h'
 ·exact h'
 ·simp[List.getElem?_eq_none h']at h
theorem Rel.update{P:Program}{G:Gh}{S:Sg}{w:World}(R:Rel P G S w){r:Nat}{o o':O}{H:Obj}(hr:S[r]?=some o)(ho:AAJ G r o=true)(vi:AAJ G r o'=true)
  (hlen:∀n',lenOf (S.set r o') r=some n'→∃n,lenOf S r=some n∧n≤n'∧(n=n'→AAf (S.set r o') r=AAf S r∨AAf (S.set r o') r=none))
  (pv:AAN (S.set r o') r=true→AAN S r=true)
  (ig:A9 G S w G (S.set r o') (C5 w (G.BZ r) H)→OK G (S.set r o') (C5 w (G.BZ r) H) r o'):
  Rel P G (S.set r o') (C5 w (G.BZ r) H)∧Tr G S w G (S.set r o') (C5 w (G.BZ r) H)∧A9 G S w G (S.set r o') (C5 w (G.BZ r) H):=by
 have iH:=AZ hr;have kg:Eo G S (G.BZ r):=⟨r,o,hr,ho,rfl⟩;have dI:∀r',r'≠r→(S.set r o')[r']?=S[r']?:=fun r' h=>by simp[List.getElem?_set_ne (Ne.symm h)]
 have gz:(S.set r o')[r]?=some o':=by simp[iH]
 have L:A9 G S w G (S.set r o') (C5 w (G.BZ r) H):=by
  refine⟨fun _ h=>h,fun b hb=>Ix (fun e=>R.nI _ kg (e▸hb)),by simp,fun r' jf n' iz=>?_,fun r' jf hm=>?_⟩
  ·by_cases e:r'=r
   ·subst e;obtain⟨n,h1,h2,h3⟩:=hlen n' iz;exact⟨n,h1,h2,fun e=>⟨rfl,rfl,rfl,h3 e⟩⟩
   ·have:lenOf (S.set r o') r'=lenOf S r':=by simp only[lenOf,dI r' e]
    exact⟨n',by rw[←this];exact iz,Nat.le_refl _,fun _=>⟨rfl,rfl,rfl,.inl (by simp only[AAf,dI r' e])⟩⟩
  ·by_cases e:r'=r
   ·subst e;exact⟨pv hm,rfl⟩
   ·exact⟨by simp only[AAN,dI r' e]at hm;exact hm,rfl⟩
 have ownEq:∀b,Eo G (S.set r o') b→Eo G S b:=by
  rintro b ⟨r',x,h1,h2,h3⟩;by_cases e:r'=r
  ·subst e;rw[h3];exact kg
  ·rw[dI r' e]at h1;exact⟨r',x,h1,h2,h3⟩
 refine⟨⟨R.Es.later L,fun r' x hx=>?_,fun r1 r2 x1 x2 h1 h2 o1 o2 he=>?_,fun b hb=>R.nI b (ownEq b hb),fun b hb=>by simpa using R.G5 b hb,fun b hb=>by simpa using R.FW b (ownEq b hb)⟩,⟨by simp,fun _ h=>h,fun b _ hn=>Ix (fun e=>hn (e▸kg)),fun b hb=>.inl (ownEq b hb),fun b hb=>.inl hb,rfl,rfl⟩,L⟩
 ·by_cases e:r'=r
  ·subst e;rw[gz]at hx;cases hx;exact ig L
  ·rw[dI r' e]at hx;refine(R.CT r' x hx).later L (fun hw=>Ix (fun e'=>?_)) rfl rfl rfl;exact e (R.inj r' r x o hx hr hw ho e')
 ·have get:∀r' x,(S.set r o')[r']?=some x→AAJ G r' x=true→∃x',S[r']?=some x'∧AAJ G r' x'=true:=fun r' x hx hw=>by
   by_cases e:r'=r
   ·subst e;exact⟨o,hr,ho⟩
   ·rw[dI r' e]at hx;exact⟨x,hx,hw⟩
  obtain⟨y1,g1,p1⟩:=get r1 x1 h1 o1;obtain⟨y2,g2,p2⟩:=get r2 x2 h2 o2;exact R.inj r1 r2 y1 y2 g1 g2 p1 p2 he
def Gh.at (G:Gh)(r b cap:Nat)(BB:Option (Option Addr)):Gh:=
 {I:=G.I,BZ:=fun k=>if k=r then b else G.BZ k,cap:=fun k=>if k=r then(cap,0)else G.cap k,BB:=fun k=>if k=r then BB else G.BB k}
theorem A9.add{G:Gh}{S:Sg}{w w':World}(b cap:Nat)(BB:Option (Option Addr))(o:O)(hw:∀k,G.I k→w'.heap[k]?=w.heap[k]?):
  A9 G S w (G.at S.length b cap BB) (S++[o]) w':=by
 refine⟨fun _ h=>h,hw,by simp,fun r hr n' iz=>?_,fun r hr hm=>?_⟩
 ·have e:(S++[o])[r]?=S[r]?:=by simp[List.getElem?_append,hr]
  have dI:r≠S.length:=by omega
  refine⟨n',by simpa only[lenOf,e]using iz,Nat.le_refl _,fun _=>⟨by simp[Gh.at,dI],by simp[Gh.at,dI],by simp[Gh.at,dI],.inl (by simp only[AAf,e])⟩⟩
 ·have e:(S++[o])[r]?=S[r]?:=by simp[List.getElem?_append,hr]
  have dI:r≠S.length:=by omega
  exact⟨by simpa only[AAN,e]using hm,by simp[Gh.at,dI]⟩
theorem Dd{G:Gh}{r' r b cap:Nat}{BB:Option (Option Addr)}{o:O}(h:r'≠r):AAJ (G.at r b cap BB) r' o=AAJ G r' o:=by
 cases o<;>simp[AAJ,Gh.at,h]
theorem Rel.add{P:Program}{G:Gh}{S:Sg}{w:World}(R:Rel P G S w)(cap:Nat)(o:O)(H:Obj)
  (ig:A9 G S w (G.at S.length w.heap.size cap none) (S++[o]) (BS w H)→OK (G.at S.length w.heap.size cap none) (S++[o]) (BS w H) S.length o):
  Rel P (G.at S.length w.heap.size cap none) (S++[o]) (BS w H)∧Tr G S w (G.at S.length w.heap.size cap none) (S++[o]) (BS w H)∧A9 G S w (G.at S.length w.heap.size cap none) (S++[o]) (BS w H):=by
 have L:A9 G S w (G.at S.length w.heap.size cap none) (S++[o]) (BS w H):=A9.add _ _ _ _ (fun k hk=>CZ (R.G5 k hk));have F8:∀r x,(S++[o])[r]?=some x→r≠S.length→S[r]?=some x∧r<S.length:=fun r x hx hr=>by
  have h1:=AZ hx;have h2:r<S.length:=by simp at h1;omega
  exact⟨by simpa[List.getElem?_append,h2]using hx,h2⟩
 have new:∀x,(S++[o])[S.length]?=some x→x=o:=fun x hx=>by simp at hx;exact hx.symm
 have ownCase:∀b,Eo (G.at S.length w.heap.size cap none) (S++[o]) b→Eo G S b∨b=w.heap.size:=by
  rintro b ⟨r,x,h1,h2,h3⟩;by_cases e:r=S.length
  ·right;rw[h3,e];simp[Gh.at]
  ·left;obtain⟨h4,_⟩:=F8 r x h1 e;rw[Dd e]at h2;exact⟨r,x,h4,h2,by rw[h3];simp[Gh.at,e]⟩
 refine⟨⟨R.Es.later L,fun r x hx=>?_,fun r1 r2 x1 x2 h1 h2 o1 o2 he=>?_,fun b hb hI=>?_,fun b hb=>?_,fun b hb=>?_⟩,⟨by simp,fun _ h=>h,fun b hb _=>CZ hb,fun b hb=>?_,fun b hb=>.inl hb,rfl,rfl⟩,L⟩
 ·by_cases e:r=S.length
  ·subst e;cases new x hx;exact ig L
  ·obtain⟨h4,_⟩:=F8 r x hx e;have hb:(G.at S.length w.heap.size cap none).BZ r=G.BZ r:=by simp[Gh.at,e]
   refine(R.CT r x h4).later L (fun hw=>CZ (R.FW _ ⟨r,x,h4,hw,rfl⟩)) hb (by simp[Gh.at,e]) (by simp[Gh.at,e])
 ·by_cases e1:r1=S.length
  ·by_cases e2:r2=S.length
   ·omega
   ·obtain⟨h4,_⟩:=F8 r2 x2 h2 e2;rw[Dd e2]at o2;have:=R.FW _ ⟨r2,x2,h4,o2,rfl⟩;simp[Gh.at,e1,e2]at he;omega
  ·obtain⟨h3,_⟩:=F8 r1 x1 h1 e1;rw[Dd e1]at o1;by_cases e2:r2=S.length
   ·have:=R.FW _ ⟨r1,x1,h3,o1,rfl⟩;simp[Gh.at,e1,e2]at he;omega
   ·obtain⟨h4,_⟩:=F8 r2 x2 h2 e2;rw[Dd e2]at o2;exact R.inj r1 r2 x1 x2 h3 h4 o1 o2 (by simpa[Gh.at,e1,e2]using he)
 ·rcases ownCase b hb with h|h
  ·exact R.nI b h hI
  ·have:=R.G5 b hI;omega
 ·have:=R.G5 b hb;simp;omega
 ·rcases ownCase b hb with h|h
  ·have:=R.FW b h;simp;omega
  ·simp[h]
 ·rcases ownCase b hb with h|h
  ·exact .inl h
  ·exact .inr (by omega)
def Gh.Sk(G:Gh)(b:Nat):Gh:={G with I:=fun k=>G.I k∨k=b}
theorem Rel.Zk{P:Program}{G:Gh}{S:Sg}{w:World}(R:Rel P G S w)(H:Obj):
  Rel P (G.Sk w.heap.size) S (BS w H)∧Tr G S w (G.Sk w.heap.size) S (BS w H)∧A9 G S w (G.Sk w.heap.size) S (BS w H):=by
 have L:A9 G S w (G.Sk w.heap.size) S (BS w H):=
  ⟨fun _ h=>.inl h,fun k hk=>CZ (R.G5 k hk),Nat.le_refl _,fun r _ n h=>⟨n,h,Nat.le_refl _,fun _=>⟨rfl,rfl,rfl,.inl rfl⟩⟩,fun r _ h=>⟨h,rfl⟩⟩
 have ho:∀b,Eo (G.Sk w.heap.size) S b↔Eo G S b:=fun b=>Iff.rfl;refine⟨⟨R.Es.later L,fun r x hx=>(R.CT r x hx).later L (fun hw=>CZ (R.FW _ ⟨r,x,hx,hw,rfl⟩)) rfl rfl rfl,R.inj,fun b hb hI=>?_,fun b hb=>?_,fun b hb=>?_⟩,⟨by simp,fun _ h=>.inl h,fun b hb _=>CZ hb,fun b hb=>.inl hb,fun b hb=>?_,rfl,rfl⟩,L⟩
 ·rcases hI with h|h
  ·exact R.nI b hb h
  ·have:=R.FW b hb;omega
 ·rcases hb with h|h
  ·have:=R.G5 b h;simp;omega
  ·simp[h]
 ·have:=R.FW b hb;simp;omega
 ·rcases hb with h|h
  ·exact .inl h
  ·exact .inr (.inr (by omega))
theorem Rel.drawn{P:Program}{G:Gh}{S:Sg}{w w':World}(R:Rel P G S w)(hh:w'.heap=w.heap)(ho:w'.os=w.os)(hp:w'.output=w.output):
  Rel P G S w'∧Tr G S w G S w'∧A9 G S w G S w':=by
 have L:A9 G S w G S w':=⟨fun _ h=>h,fun _ _=>by rw[hh],Nat.le_refl _,fun r _ n h=>⟨n,h,Nat.le_refl _,fun _=>⟨rfl,rfl,rfl,.inl rfl⟩⟩,fun r _ h=>⟨h,rfl⟩⟩;exact⟨⟨R.Es.later L,fun r x hx=>(R.CT r x hx).later L (fun _=>by rw[hh]) rfl rfl rfl,R.inj,R.nI,fun b hb=>by rw[hh];exact R.G5 b hb,fun b hb=>by rw[hh];exact R.FW b hb⟩,⟨by rw[hh];exact Nat.le_refl _,fun _ h=>h,fun _ _ _=>by rw[hh],fun _ h=>.inl h,fun _ h=>.inl h,ho,hp⟩,L⟩
end Go.Koi
