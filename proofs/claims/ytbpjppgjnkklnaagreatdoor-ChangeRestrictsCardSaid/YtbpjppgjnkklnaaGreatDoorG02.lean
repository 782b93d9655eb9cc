/-
  Part 3 of the proof that the law ChangeRestricts returns true for every input.
-/
import Derived.Test.YtbpjppgjnkklnaaGreatDoorG01
import Derived.Laws.MakeOwn
set_option maxHeartbeats 64000000
set_option maxRecDepth 100000
open List renaming length->Z,replicate->lw
open Bool renaming true->J,false->ap
open Option renaming some->am,none->bi
namespace Go.Koi
open Go renaming Operand->kt
theorem Rel.qj{P:Program}{G:Gh}{S:Sg}{w:World}(R:Rel P G S w){r:Nat}{wr wr':Bool}{sz:Nat}{els els':List V}{cap:Nat}{H:Obj}(Q:S[r]?=am (.row wr sz els))
  (hl:Z els<Z els')
  (X:BA G S w (G.at r w.heap.size cap bi) (S.set r (.row wr' sz els')) (Bl w H)->OK (G.at r w.heap.size cap bi) (S.set r (.row wr' sz els')) (Bl w H) r (.row wr' sz els')):
  Rel P (G.at r w.heap.size cap bi) (S.set r (.row wr' sz els')) (Bl w H)/\Tr G S w (G.at r w.heap.size cap bi) (S.set r (.row wr' sz els')) (Bl w H)/\BA G S w (G.at r w.heap.size cap bi) (S.set r (.row wr' sz els')) (Bl w H):=by
 have E:=Ag Q;have m:∀g,g≠r->(S.set r (.row wr' sz els'))[g]?=S[g]?:=λg h=>by simp[pv (n7 h)]
 have F:(S.set r (.row wr' sz els'))[r]?=am (.row wr' sz els'):=by simp[E]
 have L:BA G S w (G.at r w.heap.size cap bi) (S.set r (.row wr' sz els')) (Bl w H):=by
  refine⟨λ_ h=>h,λb hb=>DP (R.JH b hb),by simp,λg K T v=>?_,λg K M=>?_⟩
  .by_cases e:g=r
   .subst e;have u:T=Z els':=by simpa[lenOf,F]using v.symm
    exact⟨Z els,by simp[lenOf,Q],by omega,λe=>by omega⟩
   .have:lenOf (S.set r (.row wr' sz els')) g=lenOf S g:=by simp[lenOf,m g e]
    exact⟨T,by rw[<-this];exact v,c9 _,λ_=>⟨by simp[Gh.at,e],by simp[Gh.at,e],by simp[Gh.at,e],.inl (by simp[C1,m g e])⟩⟩
  .by_cases e:g=r
   .subst e;simp[isMap,F]at M
   .exact⟨by simp[isMap,m g e]at M;exact M,by simp[Gh.at,e]⟩
 have i:∀b,Own (G.at r w.heap.size cap bi) (S.set r (.row wr' sz els')) b->(∃g x,g≠r/\S[g]?=am x/\Ba G g x=J/\b=G.CP g)\/b=w.heap.size:=by
  rintro b ⟨g,x,o,k,B⟩;by_cases e:g=r
  .right;rw[B,e];simp[Gh.at]
  .left;rw[m g e]at o;rw[Ez e]at k;exact⟨g,x,e,o,k,by rw[B];simp[Gh.at,e]⟩
 have j:∀b,Own (G.at r w.heap.size cap bi) (S.set r (.row wr' sz els')) b->Own G S b\/b=w.heap.size:=λb hb=>by
  rcases i b hb with⟨g,x,_,o,k,B⟩|h
  .exact .inl ⟨g,x,o,k,B⟩
  .exact .inr h
 refine⟨⟨R.Gl.later L,λg x A=>?_,λr1 r2 x1 U o k o1 C N=>?_,λb hb W=>?_,λb hb=>?_,λb hb=>?_⟩,⟨by simp,λ_ h=>h,λb hb _=>DP hb,λb hb=>?_,λb hb=>.inl hb,rfl,rfl⟩,L⟩
 .by_cases e:g=r
  .subst e;rw[F]at A;cases A;exact X L
  .rw[m g e]at A;exact(R.Da g x A).later L (λY=>DP (R.IJ _ ⟨g,x,A,Y,rfl⟩)) (by simp[Gh.at,e]) (by simp[Gh.at,e]) (by simp[Gh.at,e])
 .by_cases u:r1=r
  .by_cases q:r2=r
   .omega
   .rw[m r2 q]at k;rw[Ez q]at C;have:=R.IJ _ ⟨r2,U,k,C,rfl⟩;simp[Gh.at,u,q]at N;omega
  .rw[m r1 u]at o;rw[Ez u]at o1;by_cases q:r2=r
   .have:=R.IJ _ ⟨r1,x1,o,o1,rfl⟩;simp[Gh.at,u,q]at N;omega
   .rw[m r2 q]at k;rw[Ez q]at C;exact R.inj r1 r2 x1 U o k o1 C (by simpa[Gh.at,u,q]using N)
 .rcases j b hb with h|h
  .exact R.nI b h W
  .have:=R.JH b W;omega
 .have:=R.JH b hb;simp;omega
 .rcases j b hb with h|h
  .have:=R.IJ b h;simp;omega
  .simp[h]
 .rcases j b hb with h|h
  .exact .inl h
  .exact .inr (by omega)
theorem Rel.OV{P:Program}{G:Gh}{S:Sg}{w:World}(R:Rel P G S w)(sz:Nat)(xs:List D)(a:Option Addr)(E:Z xs<=maxLen)(h:CD G.I w (.sl xs) (.slice a (Z xs) (Z xs))):
  Rel P (G.at (Z S) 0 0 (am a)) (S++[.row ap sz (xs.map .d)]) w/\Tr G S w (G.at (Z S) 0 0 (am a)) (S++[.row ap sz (xs.map .d)]) w/\BA G S w (G.at (Z S) 0 0 (am a)) (S++[.row ap sz (xs.map .d)]) w:=by
 have L:BA G S w (G.at (Z S) 0 0 (am a)) (S++[.row ap sz (xs.map .d)]) w:=BA.add _ _ _ _ (λk _=>rfl);have J1:∀r x,(S++[O.row ap sz (xs.map .d)])[r]?=am x->r≠Z S->S[r]?=am x/\r<Z S:=λr x o Q=>by
  have m:=Ag o;have g:r<Z S:=by simp at m;omega
  exact⟨by simpa[acv,g]using o,g⟩
 have i:∀b,Own (G.at (Z S) 0 0 (am a)) (S++[.row ap sz (xs.map .d)]) b->∃r x,r≠Z S/\S[r]?=am x/\Ba G r x=J/\b=G.CP r:=by
  rintro b ⟨r,x,m,g,q⟩;by_cases e:r=Z S
  .subst e;have:x=.row ap sz (xs.map .d):=by simp at m;exact m.symm
   subst this;simp[Ba,Gh.at]at g
  .obtain⟨u,_⟩:=J1 r x m e;rw[Ez e]at g;exact⟨r,x,e,u,g,by rw[q];simp[Gh.at,e]⟩
 have j:∀b,Own (G.at (Z S) 0 0 (am a)) (S++[.row ap sz (xs.map .d)]) b->Own G S b:=λb hb=>by
  obtain⟨r,x,_,m,g,q⟩:=i b hb;exact⟨r,x,m,g,q⟩
 refine⟨⟨R.Gl.later L,λr x o=>?_,λr1 r2 x1 v m g o1 A F=>?_,λb hb=>R.nI b (j b hb),R.JH,λb hb=>R.IJ b (j b hb)⟩,⟨c9 _,λ_ h=>h,λ_ _ _=>rfl,λb hb=>.inl (j b hb),λb hb=>.inl hb,rfl,rfl⟩,L⟩
 .by_cases e:r=Z S
  .subst e;have:x=.row ap sz (xs.map .d):=by simp at o;exact o.symm
   subst this;have H:(G.at (Z S) 0 0 (am a)).BG (Z S)=am a:=by simp[Gh.at]
   simp only[OK,H];refine⟨trivial,by simpa using E,xs,rfl,h⟩
  .obtain⟨u,_⟩:=J1 r x o e;exact(R.Da r x u).later L (λT=>rfl) (by simp[Gh.at,e]) (by simp[Gh.at,e]) (by simp[Gh.at,e])
 .have key:∀r x,(S++[O.row ap sz (xs.map .d)])[r]?=am x->Ba (G.at (Z S) 0 0 (am a)) r x=J->r≠Z S:=λr x o K e=>by
   subst e;have:x=.row ap sz (xs.map .d):=by simp at o;exact o.symm
   subst this;simp[Ba,Gh.at]at K
  have B:=key r1 x1 m o1;have C:=key r2 v g A;obtain⟨M,_⟩:=J1 r1 x1 m B;obtain⟨N,_⟩:=J1 r2 v g C;rw[Ez B]at o1;rw[Ez C]at A;exact R.inj r1 r2 x1 v M N o1 A (by simpa[Gh.at,B,C]using F)
theorem RE(g:Nat):∀(r c:Nat),Builtin.growBy g r c<=max c (g+(g+768) / 4)
 |0,c=>by simp[Builtin.growBy];omega
 |r+1,c=>by
  simp[Builtin.growBy];split
  .omega
  .have:=RE g r (c+(c+768) / 4);omega
theorem Po{need cap:Nat}(h:cap<need):Builtin.nextslicecap need cap<=2 * need+768:=by
 unfold Builtin.nextslicecap;split
 .omega
 .split
  .omega
  .have:=RE need 4 cap;omega
abbrev acN:=@List.getElem?_toArray
abbrev ri:=@List.getElem?_cons_succ
abbrev acu:=@Nat.mul_le_mul
section
variable {P:Program} {n:Nat} {o:Oper} {tm:Tm} {S S':Sg} {v:V}
def Ah(P:Program)(T:TypeId):Option Nat:=(ti P T).map (·.bytes)
theorem QH{w:World}{K xT E ty:TypeId}{e:TI}{z:Value}{base:Option Addr}{m cap k:Nat}{u:Value}{xs L:Array Value}
  (hs:Al P K=am E) (M:ti P E=am e) (hz:e.zero=am z) (_:z.cells.size=e.size) (hx:∀d,P.underlying xT=am d->tk d≠.other->(∀k,d≠.int k))
  (U:∃d,P.underlying xT=am d/\tk d≠.other)
  (C:∀h,(Builtin.lenOf u).run P h=.ok k h) (A:∀h,h.heap=w.heap->(Builtin.firstCells e.size k u).run P h=.ok L h) (_:L.size=k * e.size)
  (F:∀h,h.heap=w.heap->(Builtin.firstCells e.size m (.slice base m cap)).run P h=.ok xs h) (_:xs.size=m * e.size) (hb:m+k<=2 ^ 30) (N:e.bytes<=65536) (_:m<=cap):
  (m+k<=cap/\(Builtin.append_ #[K,xT] ty #[.slice base m cap,u]).run P w=
   ((match base with|some a=>storeCells (a.add (m * e.size)) L.toList|none=>pure ()).run P w).andThen λ_ h=>.ok (.slice base (m+k) cap) h)\/(cap<m+k/\∃Q R,m+k<=Q/\Q<=maxLen/\R.heap=w.heap/\R.os=w.os/\R.output=w.output/\(Builtin.append_ #[K,xT] ty #[.slice base m cap,u]).run P w=
    .ok (.slice (am ⟨w.heap.size,0,bi⟩) (m+k) Q) (Bl R (.cells (xs++L++Builtin.zeroCells z.cells (Q - (m+k))) E (0,0)))):=by
 obtain⟨t,t1,t2⟩:=A4 hs;obtain⟨d,hd,W⟩:=An t1 w;have X:d=.slice E:=by rw[t2]at W;cases d<;>simp[tk]at W⊢;exact W
 subst X;obtain⟨T,B,G⟩:=U;have Y:(match T with|.int _=>J|_=>ap)=false:=by
  cases T<;>first|rfl|exact absurd rfl (hx _ B G _)
 have hux:∀w,(underlying xT).run P w=.ok T w:=λw=>by simp[underlying,B]
 have zp:=Bg M;obtain⟨q,i1,i2,i3,i4⟩:=Dv M w;have H:(Builtin.append_ #[K,xT] ty #[.slice base m cap,u]).run P w=
   ((if m+k<=cap then do
     let new<-Builtin.firstCells e.size k u
     if let am a:=base then storeCells (a.add (m * e.size)) new.toList
     pure (.slice base (m+k) cap)
    else do
     if((m+k:Nat):Int)>IntKind.i64.max/\(ap\/(<-typeInfo E).bytes=0)then runtimePanic (.error "growslice: len out of range")
     if Builtin.nextslicecap (m+k) cap * (<-typeInfo E).bytes>2 ^ 48 then(if ap then runtimePanic (.error "growslice: len out of range")else do
      if !(<-Builtin.mayShare e.size m k base u)then mark .noRoom
      unsupported (.resourceLimit "append: a slice or a string whose bytes no memory bears"))
     let g<-choose (.appendCap (m+k) cap E)
     askRoom (g * (<-typeInfo E).bytes)
     let J1<-Builtin.firstCells e.size m (.slice base m cap)
     let new<-Builtin.firstCells e.size k u
     let rest:=Builtin.zeroCells (<-zeroValue E).cells (g - (m+k))
     pure (.slice (am (<-newRow E (J1++new++rest))) (m+k) g):Sem Value)).run P w:=by
  unfold Builtin.append_;simp only[acN,abX,ri,ls,hd,kv,zp,hux];cases T<;>first|exact absurd rfl (hx _ B G _)|(simp only[ls,pc,kv,ob,jw,C];rfl)
 rw[H];by_cases i:m+k<=cap
 .left;refine⟨i,?_⟩;simp[ca i,A w rfl];cases base<;>simp
 .right;refine⟨by omega,?_⟩;have h1:¬(((m+k:Nat):Int)>IntKind.i64.max/\(ap=J\/q.bytes=0)):=by
   have:IntKind.i64.max=9223372036854775807:=by decide
   omega
  have h2:¬(Builtin.nextslicecap (m+k) cap * q.bytes>2 ^ 48):=by
   have h3:=Po (need:=m+k) (cap:=cap) (by omega);have h4:Builtin.nextslicecap (m+k) cap * q.bytes<=(2 * (m+k)+768) * 65536:=acu h3 (by omega);omega
  have j:(Question.appendCap (m+k) cap E).forced=false:=rfl;refine⟨(Question.appendCap (m+k) cap E).cut (w.tape w.drawn (.appendCap (m+k) cap E)),{w with drawn:=w.drawn+1},?_,?_,rfl,rfl,rfl,?_⟩
  .simp[Question.cut]
  .simp only[Question.cut,maxLen];have:w.tape w.drawn (Question.appendCap (m+k) cap E) % (2 ^ 63 - (m+k))<2 ^ 63 - (m+k):=i7 _ (by omega);omega
  .have hn2:=A {w with drawn:=w.drawn+1} rfl;have ho2:=F {w with drawn:=w.drawn+1} rfl;obtain⟨inf',i1',_,i3',_⟩:=Dv M {w with drawn:=w.drawn+1};simp only[bv i,ls,i1,kv,Sem.run_ite,bv h2,pc,run_choose,j,ob,jw,i1',run_askRoom,ho2,hn2,EG M _ hz];have h1':¬(9223372036854775807<(m:Int)+k/\q.bytes=0):=by omega
   simp[newRow,Bl];rw[bv h1'];rfl
end
abbrev abE:=@Array.getElem?_append_left
abbrev abF:=@List.length_eq_zero_iff
abbrev adY:=@Nat.le_of_eq
abbrev acT:=@Array.size_append
abbrev acx:=@List.ext_getElem?
abbrev mp:=@List.length_nil
abbrev acd:=@List.append_nil
abbrev ac8:=@Bool.not_true
abbrev ac9:=@Bool.or_false
section
variable {P:Program} {n:Nat} {o:Oper} {tm:Tm} {S S':Sg} {v:V}
def H9(S:Sg)(sz:Nat)(x:V)(g:List V):Sg:=
 match x with
 |.full i=>S++[.row (!g.isEmpty) sz (i.map .d++g)]
 |.row r _=>match S[r]? with
  |some (.row j sz h)=>S.set r (.row (j||!g.isEmpty) sz (h++g))
  |_=>S
 |_=>S
def Uk(S:Sg)(x:V)(g:List V):V:=
 match x with
 |.full h=>.row (Z S) (Z h+Z g)
 |.row r m=>.row r (m+Z g)
 |_=>.any
def Vr(S:Sg)(sz:Nat)(x:V)(h:List V):Prop:=
 Ac sz h/\match x with
 |.full j=>Ac sz (j.map .d)/\Z j+Z h<=2 ^ 30
 |.row r m=>match S[r]? with
  |some (.row _ i g)=>Z g=m/\i=sz/\Ac sz g/\m+Z h<=2 ^ 30
  |_=>False
 |_=>False
theorem bk.append{G:Gh}{w:World}{sz:Nat}{xs m:List V}{us vs:List Value}{c d rest:Array Value}(h:bk G S w sz xs us c 0)(k:bk G S w sz m vs d 0)(u:c.size=Z xs * sz)(A:d.size=Z m * sz):
  bk G S w sz (xs++m) (us++vs) (c++d++rest) 0:=by
 refine⟨by simp[h.len,k.len],λi hi C=>?_,λi hi j hj=>?_⟩
 .by_cases e:i<Z xs
  .rw[oi e,oi (by rw[h.len];exact e)];exact h.cv i e (by rw[h.len];exact e)
  .rw[wn (by omega),wn (by rw[h.len];omega)];simp[h.len];have g:i - Z xs<Z m:=by simp at hi;omega
   exact k.cv (i - Z xs) g (by rw[k.len];exact g)
 .rw[sn];by_cases e:i<Z xs
  .rw[oi (by rw[h.len];exact e)];have q:i * sz+j<c.size:=by rw[u];exact FT e hj
   rw[Array.append_assoc,abE q];simpa using h.at_ i (by rw[h.len];exact e) j hj
  .rw[wn (by rw[h.len];omega)];simp only[h.len];have g:i - Z xs<Z m:=by simp[h.len,k.len]at hi;omega
   have B:i * sz+j=c.size+((i - Z xs) * sz+j):=by
    rw[u];have:i * sz=Z xs * sz+(i - Z xs) * sz:=by rw[<-oE];congr 1;omega
    omega
   have q:(i - Z xs) * sz+j<d.size:=by rw[A];exact FT g hj
   rw[B,Array.append_assoc,Array.getElem?_append_right (by omega),Nat.add_sub_cancel_left,abE q];simpa using k.at_ (i - Z xs) (by rw[k.len];exact g) j hj
theorem bk.later{G:Gh}{w:World}{j:Gh}{w':World}(L:BA G S w j S' w'){sz k:Nat}{m:List V}{us:List Value}{c:Array Value}(h:bk G S w sz m us c k):bk j S' w' sz m us c k:=
 ⟨h.len,λi hi g=>⟨(h.cv i hi g).1.later L,(h.cv i hi g).2.1,(h.cv i hi g).2.2⟩,h.at_⟩
theorem bk.rowAt{G:Gh}{w:World}{sz:Nat}{g:List V}{us:List Value}{c:Array Value}(h:bk G S w sz g us c 0):Pp G S w sz g c 0:=λi hi=>by
 have k:i<Z us:=by rw[h.len];exact hi
 obtain⟨m,q,u⟩:=h.cv i hi k;exact⟨us[i],m,q,u,λj hj=>by have:=h.at_ i k j hj;simpa using this⟩
theorem Et(z:Array Value)(n:Nat):(Builtin.zeroCells z n).size=n * z.size:=by simp[Builtin.zeroCells]
theorem aM{c:Call}{sT xT E:TypeId}{x y:kt}{e:TI}{z:Value}{A:List V}(ho:o.op=.call c)(hc:c.callee=.builtin .append)(zl:c.args=#[x,y])(hT:c.argTypes=#[sT,xT])
  (hx:need (ev tm x)) (hy:need (ev tm y)) (hs:Al P sT=am E) (hxT:(Al P xT).isSome=J) (he:ti P E=am e) (hz:e.zero=am z) (hzs:z.cells.size=e.size) (U:e.bytes<=65536)
  (hsrc:II S (strip (ev tm y))=am A) (hp:Vr S e.size (strip (ev tm x)) A):
  CR P n o tm S (Uk S (strip (ev tm x)) A) (H9 S e.size (strip (ev tm x)) A):=.val λG w a st=>by
 have h1:=(BS st x).strip hx;have h2:=(BS st y).strip hy;obtain⟨hys,hp⟩:=hp;obtain⟨vs,cs,l1,l2,l3,l4⟩:=rQ st.rel h2 hsrc hys;obtain⟨F,hF⟩:=md.1 hxT;obtain⟨tx,tx1,tx2⟩:=A4 hF;obtain⟨ix,dx,ix1,ix2,_,_,_,ix3⟩:=H4 tx1;have hdx:dx=.slice F:=by rw[tx2]at ix3;cases dx<;>simp[tk]at ix3⊢;exact ix3
 subst hdx;have hxk:∀d,P.underlying xT=am d->tk d≠.other->∀k,d≠.int k:=λd hd _ k=>by rw[ix2]at hd;cases hd;simp
 have hxt:∃d,P.underlying xT=am d/\tk d≠.other:=⟨_,ix2,by simp[tk]⟩;have M:(execOp a.eval o).run P w=((Builtin.append_ #[sT,xT] o.type #[a.eval x,a.eval y]).run P w).andThen λv w'=>.ok (.value v) w':=by
  simp[execOp,ho,resolve,hc,zl,hT,invoke,builtin]
 generalize strip (ev tm x)=X at *;split at hp
 .
  rename_i xs;obtain⟨hxs,hb⟩:=hp;generalize hbx:a.eval x=B at h1 M;cases h1 with
  |full _ base hcd=>
   obtain⟨us,c0,m1,m2,m3,m4⟩:=HI (P:=P) (S:=S) hcd hxs;rcases QH (P:=P) (w:=w) (ty:=o.type) (base:=base) (m:=Z xs) (cap:=Z xs) hs he hz hzs hxk hxt l1 l2 l3 m2 m3 hb U (c9 _)with⟨hfit,zm⟩|⟨hgr,Q,w0,hnc,hncm,e1,e2,e3,zm⟩
   .have hk0:Z A=0:=by omega
    have hys0:A=[]:=abF.1 hk0;subst hys0;have hcs0:cs.toList=[]:=by
     have:cs.size=0:=by rw[l3];simp
     exact abF.1 (by simpa using this)
    have hl:Z xs<=maxLen:=by
     simp[maxLen];have:Z xs<=2 ^ 30:=by simpa using hb
     omega
    obtain⟨r1,r2,r3⟩:=st.rel.OV e.size xs base hl hcd;refine⟨.slice base (Z xs) (Z xs),G.at (Z S) 0 0 (am base),w,?_,?_,by simpa[H9]using r1,by simpa[H9]using r2,by simpa[H9]using r3⟩
    .rw[M,zm];cases base<;>simp[hcs0,storeCells]
    .simp[Uk,H9];refine .row _ _ _ rfl (by simp) λm' R=>?_;have:m'=Z xs:=by simpa[lenOf]using R.symm
     subst this;exact⟨by simp,λ_=>by simp[Gh.BU,Gh.at]⟩
   .obtain⟨q1,q2,q3⟩:=st.rel.drawn e1 e2 e3;have K:=(m4.later q3).append (l4.later q3) (by simpa using m3) l3 (rest:=Builtin.zeroCells z.cells (Q - (Z xs+Z A)));obtain⟨r1,r2,r3⟩:=q1.add Q (.row (!A.isEmpty) e.size (xs.map .d++A)) (.cells (c0++cs++Builtin.zeroCells z.cells (Q - (Z xs+Z A))) E (0,0)) (λL=>by
     have Y:(G.at (Z S) w0.heap.size Q bi).BG (Z S)=none:=by simp[Gh.at]
     have hbk:(G.at (Z S) w0.heap.size Q bi).CP (Z S)=w0.heap.size:=by simp[Gh.at]
     have hcp:(G.at (Z S) w0.heap.size Q bi).cap (Z S)=(Q,0):=by simp[Gh.at]
     simp only[OK,Y,hbk,hcp];refine⟨_,E,EV,?_,by simp;omega,by simp[maxLen];omega,(K.later L).rowAt⟩;refine adY (Eq.symm ?_);simp[m3,l3,Et,hzs];rw[<-oE,<-oE];congr 1;omega)
    rw[e1]at r1 r2 r3;have r2':=q2.trans r2;have r3':=q3.trans r3;refine⟨_,_,_,by rw[M,zm];rfl,?_,by simpa[H9]using r1,by simpa[H9]using r2',by simpa[H9]using r3'⟩;simp[Uk,H9];refine .row _ _ _ rfl (by simp) λm' R=>?_;have:m'=Z xs+Z A:=by simpa[lenOf]using R.symm
    subst this;exact⟨c9 _,λ_=>by simp[Gh.BU,Gh.at]⟩
 .
  rename_i r m;split at hp
  .rename_i wr sz' g N;obtain⟨hm,zp,hels,hb⟩:=hp;subst zp;have W:a.eval x=G.BU r m/\r<Z S:=by
    cases h1 with|row _ _ _ _ zg h=>exact⟨(h m (by simp[lenOf,N,hm])).2 rfl,zg⟩
   obtain⟨W,zg⟩:=W;subst hm;obtain⟨us,c0,m1,m2,m3,m4⟩:=YI st.rel N hels;have zq:=st.rel.Da r _ N;have hbase:∃base cap,G.BU r (Z g)=.slice base (Z g) cap/\Z g<=cap:=by
    unfold Gh.BU;simp only[OK]at zq;cases Y:G.BG r with
    |none=>
     simp only[Y]at zq;obtain⟨c,T,g1,g2,g3,g4,g5⟩:=zq;exact⟨_,_,rfl,g3⟩
    |some b=>exact⟨_,_,rfl,c9 _⟩
   obtain⟨base,cap,hbv,hmc⟩:=hbase;rw[hbv]at m2;have C:=M;rw[W,hbv]at C;have zv:∀w2:O,(S.set r w2)[r]?=am w2:=λw2=>by simp[zg]
   rcases QH (P:=P) (w:=w) (ty:=o.type) (base:=base) (m:=Z g) (cap:=cap) hs he hz hzs hxk hxt l1 l2 l3 m2 m3 hb U hmc with⟨hfit,zm⟩|⟨hgr,Q,w0,hnc,hncm,e1,e2,e3,zm⟩
   .cases Y:G.BG r with
    |some b=>
     have hbb:base=b/\cap=Z g:=by
      have:=hbv;simp only[Gh.BU,Y,Value.slice.injEq]at this;exact⟨this.1.symm,this.2.2.symm⟩
     obtain⟨rfl,rfl⟩:=hbb;have hk0:Z A=0:=by omega
     have hys0:A=[]:=abF.1 hk0;subst hys0;have hcs0:cs.toList=[]:=by
      have:cs.size=0:=by rw[l3];simp
      exact abF.1 (by simpa using this)
     have hS:S.set r (.row wr e.size g)=S:=by
      apply acx;intro i;by_cases hi:i=r
      .subst hi;rw[zv,N]
      .rw[pv (n7 hi)]
     refine⟨.slice base (Z g) (Z g),G,w,?_,?_,?_⟩
     .rw[C,zm];cases base<;>simp[hcs0,storeCells]
     .simp[Uk,H9,N];simp[hS];rw[<-hbv,<-W];exact h1
     .simp[H9,N,List.isEmpty_nil,hS];exact⟨st.rel,tv _ _ _,aer _ _ _⟩
    |none=>
     have hbb:base=am ⟨G.CP r,(G.cap r).2,bi⟩/\cap=(G.cap r).1:=by
      have:=hbv;simp only[Gh.BU,Y,Value.slice.injEq]at this;exact⟨this.1.symm,this.2.2.symm⟩
     obtain⟨rfl,rfl⟩:=hbb;simp only[OK,Y]at zq;obtain⟨c,T0,g1,g2,g3,g4,g5⟩:=zq;have hcz:(G.cap r).2+(Z g * e.size+cs.size)<=c.size:=by
      refine ms ?_ g2;rw[l3,<-oE];exact Nat.add_le_add_left (At _ hfit) _
     have hones:∀v∈cs.toList,one v=true:=λv hv'=>by
      obtain⟨q,hq,rfl⟩:=lm.1 hv';have hq':q<Z A * e.size:=by rw[<-l3];simpa using hq
      have hsp:0<e.size:=by
       rcases Nat.eq_zero_or_pos e.size with h0|h0
       .rw[h0]at hq';simp at hq'
       .exact h0
      have hi:q / e.size<Z vs:=by rw[l4.len];exact Nat.div_lt_of_lt_mul (by rw[acM];exact hq')
      have hj:q % e.size<e.size:=i7 _ hsp;have hqe:q / e.size * e.size+q % e.size=q:=by rw[acM];exact Nat.div_add_mod q e.size
      have:=l4.at_ (q / e.size) hi (q % e.size) hj;rw[sn,hqe]at this;obtain⟨_,n1,n2⟩:=l4.cv (q / e.size) (by rw[<-l4.len];exact hi) hi;rw[ll (show q<cs.size by rw[l3];exact hq'),ll (by omega)]at this;simp at this;simp;rw[this];exact n2 _ (by simp)
     have zn:=J0 (P:=P) (b:=G.CP r) (off:=(G.cap r).2+Z g * e.size) (T:=T0) cs.toList 0 w c g1 (by simp;omega) hones;simp at zn;have own1:Ba G r (.row wr e.size g)=true:=by simp[Ba,Y]
     have own2:Ba G r (.row (wr||!A.isEmpty) e.size (g++A))=true:=by simp[Ba,Y]
     have hup:=st.rel.update N own1 own2 (H:=.cells (putCells c ((G.cap r).2+Z g * e.size) cs.toList) T0 (0,0)) (λn' hn'=>by
       have:n'=Z g+Z A:=by simpa[lenOf,zv]using hn'.symm
       exact⟨Z g,by simp[lenOf,N],by omega,λ_=>.inl (by simp[C1,N];simp[zg])⟩) (λhm=>by simp[isMap,zv]at hm) (λL=>by
       simp only[OK,Y];refine⟨_,T0,GQ (F8 g1),by rw[Eb];exact g2,by simpa using hfit,by simp[maxLen];omega,λi hi=>?_⟩;by_cases h3:i<Z g
       .obtain⟨u,u1,u2,u3,u4⟩:=g5 i h3;refine⟨u,by rw[oi h3];exact u1.later L,u2,u3,λj hj=>?_⟩;rw[ET _ _ _ _ (by simp;omega),bv (by have:=FT h3 hj;omega)];exact u4 j hj
       .have hi2:i - Z g<Z A:=by simp at hi;omega
        obtain⟨n1,n2,n3⟩:=l4.cv (i - Z g) hi2 (by rw[l4.len];exact hi2);refine⟨vs[i - Z g]'(by rw[l4.len];exact hi2),by rw[wn (by omega)];exact n1.later L,n2,n3,λj hj=>?_⟩;have hlt2:=FT hi2 hj;have e2:i * e.size+j=Z g * e.size+((i - Z g) * e.size+j):=by
         have:i * e.size=Z g * e.size+(i - Z g) * e.size:=by rw[<-oE];congr 1;omega
         omega
        rw[ET _ _ _ _ (by simp;omega),ca (by simp[l3];omega)];have:=l4.at_ (i - Z g) (by rw[l4.len];exact hi2) j hj;rw[<-this];simp;congr 1;omega)
     obtain⟨r1,r2,r3⟩:=hup;refine⟨.slice (am ⟨G.CP r,(G.cap r).2,bi⟩) (Z g+Z A) (G.cap r).1,G,_,?_,?_,by simpa[H9,N]using r1,by simpa[H9,N]using r2,by simpa[H9,N]using r3⟩
     .rw[C,zm];simp[GR,zn]
     .simp[Uk,H9,N];refine .row _ _ _ rfl (by simpa using zg) λm' R=>?_;have:m'=Z g+Z A:=by simpa[lenOf,zv]using R.symm
      subst this;exact⟨c9 _,λ_=>by simp[Gh.BU,Y]⟩
   .
    have hyne:0<Z A:=by omega
    obtain⟨q1,q2,q3⟩:=st.rel.drawn e1 e2 e3;have K:=(m4.later q3).append (l4.later q3) m3 l3 (rest:=Builtin.zeroCells z.cells (Q - (Z g+Z A)));obtain⟨r1,r2,r3⟩:=q1.qj (wr':=wr||!A.isEmpty) (els':=g++A) (cap:=Q) (H:=.cells (c0++cs++Builtin.zeroCells z.cells (Q - (Z g+Z A))) E (0,0)) N (by simp;omega) (λL=>by
     have Y:(G.at r w0.heap.size Q bi).BG r=none:=by simp[Gh.at]
     have hbk:(G.at r w0.heap.size Q bi).CP r=w0.heap.size:=by simp[Gh.at]
     have hcp:(G.at r w0.heap.size Q bi).cap r=(Q,0):=by simp[Gh.at]
     simp only[OK,Y,hbk,hcp];refine⟨_,E,EV,?_,by simp;omega,by simp[maxLen];omega,(K.later L).rowAt⟩;refine adY (Eq.symm ?_);simp[m3,l3,Et,hzs];rw[<-oE,<-oE];congr 1;omega)
    rw[e1]at r1 r2 r3;have r2':=q2.trans r2;have r3':=q3.trans r3;refine⟨_,_,_,by rw[C,zm];rfl,?_,by simpa[H9,N]using r1,by simpa[H9,N]using r2',by simpa[H9,N]using r3'⟩;simp[Uk,H9,N];refine .row _ _ _ rfl (by simpa using zg) λm' R=>?_;have:m'=Z g+Z A:=by simpa[lenOf,zv]using R.symm
    subst this;exact⟨c9 _,λ_=>by simp[Gh.BU,Gh.at]⟩
  .exact hp.elim
 .exact hp.elim
end
abbrev er:=@Nat.zero_le
abbrev q6:=@Int.le_refl
abbrev ne:=@Int.toNat_natCast
abbrev adI:=@Nat.mul_add_mod
abbrev sw:=@Nat.mod_eq_of_lt
section
variable {P:Program} {n:Nat} {o:Oper} {tm:Tm} {S S':Sg} {v:V}
def u7(x:V)(l h:Nat)(full:Bool):V:=
 match x with
 |.d (.str s)=>.d (.str (s.extract l h))
 |.d (.sl g)=>if full then .full ((g.take h).drop l)else .d (.sl ((g.take h).drop l))
 |.full g=>if full then .full ((g.take h).drop l)else .d (.sl ((g.take h).drop l))
 |_=>.any
theorem CD.sub{I:Nat->Prop}{w:World}{xs:List D}{b:Option Addr}{len cap:Nat}(H:CD I w (.sl xs) (.slice b len cap)){l h m sz:Nat}(X:l<=h)(L:h<=Z xs)(Y:h<=m)
  (M:l=0\/l=h\/(Z (BE (xs.getD l (.bool ap)))=sz/\CL.oneD (xs.getD l (.bool ap))=J)):
  CD I w (.sl ((xs.take h).drop l)) (.slice (if m=l then b else b.map (·.add (l * sz))) (h - l) (m - l)):=by
 have g:Z ((xs.take h).drop l)=h - l:=by simp;omega
 by_cases E:l=h
 .subst E;have:(xs.take l).drop l=[]:=abF.1 (by simp;try omega);rw[this,adX];exact .nil _ _
 .cases H with
  |nil=>simp at L;omega
  |sl k xs b off cap N Q R hc F G=>
   have u:m≠l:=by omega
   have q:off+l * sz=off+l * k:=by
    rcases M with e|e|⟨T,K⟩
    .subst e;simp
    .exact absurd e E
    .have A:l<Z xs:=by omega
     have B:xs.getD l (.bool ap)=xs[l]:=by simp[List.getD,A]
     rw[B]at T K;obtain⟨c1,_⟩:=(F l A).cells K;have:=(G l A).1;have:sz=k:=by omega
     rw[this]
   simp only[bv u,acn,GR];rw[q];have C:=g;rw[<-g];refine .sl k _ b _ _ (λi=>N (l+i)) Q (by omega) (by omega) (λi hi=>?_) (λi hi=>?_)
   .have:((xs.take h).drop l)[i]=xs[l+i]'(by omega):=by simp
    rw[this];exact F _ _
   .obtain⟨U,W⟩:=G (l+i) (by omega);refine⟨U,λj hj=>?_⟩;rw[<-W j hj];congr 2;rw[oE];omega
def EU(tm:Tm)(x:Option kt):V:=match x with|some y=>strip (ev tm y)|none=>.d (.int .i64 0)
def Fu(tm:Tm)(x:Option kt):Prop:=match x with|some y=>need (ev tm y)|none=>True
theorem B7{G:Gh}{w:World}{a:Act}(st:St P n G S w a tm){y:kt}{k:IntKind}{i:Int}(g:need (ev tm y))(j:strip (ev tm y)=.d (.int k i)):a.eval y=.int k i:=by
 have h:=(BS st y).strip g;rw[j]at h;exact h.int
theorem GM{G:Gh}{w:World}{a:Act}(st:St P n G S w a tm){y:kt}{k:IntKind}{i:Int}(g:need (ev tm y))(j:strip (ev tm y)=.d (.int k i)):GZ k i=true:=by
 have h:=(BS st y).strip g;rw[j]at h;exact h.GZ
theorem Cf{w:World}{k:IntKind}{i:Int}{y:Nat}{g:BoundsCode}(h0:0<=i)(h:i<=y):(Instr.sliceBound (.int k i) y g).run P w=.ok i.toNat w:=by
 simp[Instr.sliceBound,asIntOf,h0,h]
theorem VE{T:TypeId}{x:kt}{lo hi:Option kt}{s:ByteArray}{B kh:IntKind}{l h:Int}(K:o.op=.slice T x lo hi bi)(L:need (ev tm x))(M:strip (ev tm x)=.d (.str s))
  (N:∃t,ti P T=am t/\t.kind=.str) (k:Fu tm lo) (el:EU tm lo=.d (.int B l)) (m:Fu tm hi) (Q:hi=bi->h=s.size) (q:hi≠bi->EU tm hi=.d (.int kh h))
  (h0:0<=l) (R:l<=h) (C:h<=s.size):CR P n o tm S (.d (.str (s.extract l.toNat h.toNat))) S:=.pure λG w a st=>by
 have E:=(BS st x).strip L;rw[M]at E;obtain⟨u,U⟩:=E.str;obtain⟨t,t1,t2⟩:=N;obtain⟨d,W,F⟩:=An t1 w;have A:d=.string:=by rw[t2]at F;cases d<;>simp[tk]at F⊢
 subst A;refine⟨.string (s.extract l.toNat h.toNat),?_,.d _ _ (.str _ (by simp;omega))⟩;have hb:(Instr.sliceBounds ap s.size s.size (lo.map a.eval) (hi.map a.eval) bi).run P w=.ok (l.toNat,h.toNat,s.size) w:=by
  unfold Instr.sliceBounds;have i:∀y,hi=am y->a.eval y=.int kh h:=λy g=>B7 st (by simpa[Fu,g]using m) (by have:=q (by simp[g]);simpa[EU,g]using this);have j:∀y,lo=am y->a.eval y=.int B l:=λy g=>B7 st (by simpa[Fu,g]using k) (by simpa[EU,g]using el);have H:lo=bi->l=0:=λe=>by subst e;simp[EU]at el;exact el.2.symm
  cases hi with
  |none=>
   have:=Q rfl;subst this;cases lo with
   |none=>have:=H rfl;subst this;simp
   |some z=>simp[j z rfl,Cf h0 R]
  |some y=>
   have X:l<=(h.toNat:Int):=by omega
   cases lo with
   |none=>have:=H rfl;subst this;simp[i y rfl,Cf (show 0<=h by omega) C]
   |some z=>simp[i y rfl,Cf (show 0<=h by omega) C,j z rfl,Cf h0 X]
 simp[execOp,K,Instr.sliceAt,u,W,Instr.slice,hb]
theorem V0{T E:TypeId}{x:kt}{lo hi i:Option kt}{xs:List D}{kl kh:IntKind}{l h:Int}{e:TI}{t:TI}(ho:o.op=.slice T x lo hi i)(hx:need (ev tm x))
  (L:strip (ev tm x)=.d (.sl xs)\/strip (ev tm x)=.full xs) (hT:ti P T=am t) (hk:t.kind=.slice E) (he:ti P E=am e) (Q:Fu tm lo) (el:EU tm lo=.d (.int kl l)) (R:Fu tm hi)
  (eh:hi=bi->h=Z xs) (U:hi≠bi->EU tm hi=.d (.int kh h)) (W:Fu tm i) (em:i≠bi->hi≠bi/\EU tm i=.d (.int kh h))
  (h0:0<=l) (Y:l<=h) (h2:h<=Z xs) (hs:l.toNat=0\/l.toNat=h.toNat\/(Z (BE (xs.getD l.toNat (.bool ap)))=e.size/\CL.oneD (xs.getD l.toNat (.bool ap))=J)):
  CR P n o tm S (if i.isSome then .full ((xs.take h.toNat).drop l.toNat)else .d (.sl ((xs.take h.toNat).drop l.toNat))) S:=.pure λG w a st=>by
 have M:=(BS st x).strip hx;obtain⟨d,hd,zr⟩:=An hT w;have hdE:d=.slice E:=by rw[hk]at zr;cases d<;>simp[tk]at zr⊢;exact zr
 subst hdE;have A:∃b cap,a.eval x=.slice b (Z xs) cap/\Z xs<=cap/\CD G.I w (.sl xs) (.slice b (Z xs) cap):=by
  generalize a.eval x=X at M;rcases L with L|L<;>rw[L]at M
  .cases M with
   |d _ _ C=>
    cases C with
    |nil b c=>exact⟨b,c,rfl,er _,.nil b c⟩
    |sl sz xs b off cap vs hI hl C Y h2=>exact⟨_,_,rfl,C,.sl sz xs b off cap vs hI hl C Y h2⟩
  .cases M with
   |full _ b C=>exact⟨b,_,rfl,c9 _,C⟩
 obtain⟨b,cap,H,hcap,A⟩:=A;have k:∀y,hi=am y->a.eval y=.int kh h:=λy j=>B7 st (by simpa[Fu,j]using R) (by have:=U (by simp[j]);simpa[EU,j]using this);have B:∀y,lo=am y->a.eval y=.int kl l:=λy j=>B7 st (by simpa[Fu,j]using Q) (by simpa[EU,j]using el);have K:∀y,i=am y->a.eval y=.int kh h:=λy j=>B7 st (by simpa[Fu,j]using W) (by have:=(em (by simp[j])).2;simpa[EU,j]using this);have e3:lo=bi->l=0:=λe=>by subst e;simp[EU]at el;exact el.2.symm
 let m:Nat:=if i.isSome then h.toNat else cap;have hb:(Instr.sliceBounds J (Z xs) cap (lo.map a.eval) (hi.map a.eval) (i.map a.eval)).run P w=.ok (l.toNat,h.toNat,m) w:=by
  unfold Instr.sliceBounds;have e4:l<=(h.toNat:Int):=by omega
  have N:(h:Int)<=cap:=by omega
  have e6:h<=(h.toNat:Int):=by omega
  have F:(0:Int)<=h:=by omega
  cases i with
  |none=>
   cases hi with
   |none=>
    have:=eh rfl;subst this;cases lo with
    |none=>have:=e3 rfl;subst this;simp[m]
    |some z=>simp[B z rfl,Cf h0 Y,m]
   |some y=>
    cases lo with
    |none=>have:=e3 rfl;subst this;simp[k y rfl,Cf F N,m]
    |some z=>simp[k y rfl,Cf F N,B z rfl,Cf h0 e4,m]
  |some q=>
   cases hi with
   |none=>exact absurd rfl (em (by simp)).1
   |some y=>
    cases lo with
    |none=>have:=e3 rfl;subst this;simp[K q rfl,k y rfl,Cf F N,Cf F e6,m]
    |some z=>simp[K q rfl,k y rfl,Cf F N,Cf F e6,B z rfl,Cf h0 e4,m]
 have hmh:h.toNat<=m:=by simp only[m];split<;>omega
 have g:=A.sub (l:=l.toNat) (h:=h.toNat) (m:=m) (sz:=e.size) (by omega) (by omega) hmh hs;refine⟨.slice (if m=l.toNat then b else b.map (·.add (l.toNat * e.size))) (h.toNat - l.toNat) (m - l.toNat),?_,?_⟩
 .simp[execOp,ho,Instr.sliceAt,H,hd,Instr.slice,hb,Bg he]
 .have u:Z ((xs.take h.toNat).drop l.toNat)=h.toNat - l.toNat:=by simp;omega
  cases hm:i.isSome with
  |false=>simp only[ob,jw];exact .d _ _ g
  |true=>
   simp only[ip];have e1:m=h.toNat:=by simp[m,hm]
   have:m - l.toNat=h.toNat - l.toNat:=by rw[e1]
   rw[this]at g⊢;have:=CV.full (S:=S) _ _ (by rw[u];exact g);rwa [u]at this
theorem SX{T E:TypeId}{x y:kt}{W X:IntKind}{m:Nat}{t e:TI}{z:Value}(ho:o.op=.makeSlice T x y)(B:need (ev tm x))(hy:need (ev tm y))
  (ex:strip (ev tm x)=.d (.int W m)) (ey:strip (ev tm y)=.d (.int X m)) (hT:ti P T=am t) (C:t.kind=.slice E) (he:ti P E=am e) (hz:e.zero=am z) (g:z.cells.size=e.size)
  (F:(Ap (OQ z)||Bp (OQ z))=J) (hb:e.bytes<=65536) (hm:m<=2 ^ 30):
  CR P n o tm S (.row (Z S) m) (S++[.row J e.size (lw m (OQ z))]):=.val λG w a st=>by
 have h1:=B7 st B ex;have h2:=B7 st hy ey;obtain⟨i1,d1,u1,u2,_,_,_,H⟩:=H4 hT;have K:d1=.slice E:=by rw[C]at H;cases d1<;>simp[tk]at H⊢;exact H
 subst K;obtain⟨Y,d2,v1,v2,v3,v4,v5,v6⟩:=H4 he;have q:(m:Int)<=9223372036854775807:=by omega
 have M:(Y.bytes:Int) * (m:Int)<=281474976710656:=by
  have h:e.bytes * m<=65536 * 2 ^ 30:=acu hb hm;rw[v4];have:((e.bytes * m:Nat):Int)<=281474976710656:=by omega
  rwa [Int.natCast_mul]at this
 have zm:=run_make (P:=P) w T E Y z u2 v1 (v5.trans hz) W X m m (by omega) (q6 _) M q;simp only[ne,v3]at zm;obtain⟨r1,r2,r3⟩:=st.rel.add m (.row J e.size (lw m (OQ z))) (.cells (madeCells z.cells (m * e.size)) E (0,0)) (λL=>by
  have hv:(G.at (Z S) w.heap.size m bi).BG (Z S)=none:=by simp[Gh.at]
  have N:(G.at (Z S) w.heap.size m bi).CP (Z S)=w.heap.size:=by simp[Gh.at]
  have Q:(G.at (Z S) w.heap.size m bi).cap (Z S)=(m,0):=by simp[Gh.at]
  simp only[OK,hv,N,Q];refine⟨_,E,EV,by rw[size_madeCells,sn];exact c9 _,by simp,by simp[maxLen];omega,λi hi=>?_⟩;have hi:i<m:=by simpa using hi
  have u:=IH (G.at (Z S) w.heap.size m bi) (S++[.row J e.size (lw m (OQ z))]) (Bl w (.cells (madeCells z.cells (m * e.size)) E (0,0))) z;obtain⟨c1,c2,_⟩:=u.cells (by simpa using F);refine⟨z,by simpa using u,g,λx B=>?_,λj hj=>?_⟩
  .obtain⟨k,C,rfl⟩:=abD.1 B;exact c2 k C
  .have zg:=FT hi hj;have A:(i * e.size+j) % z.cells.size=j:=by rw[g,acM,adI];exact sw hj
   have R:j<z.cells.size:=by omega
   simp[madeCells,zg,A,R])
 refine⟨.slice (am ⟨w.heap.size,0,bi⟩) m m,_,_,?_,?_,r1,r2,r3⟩
 .simp[execOp,ho,h1,h2,zm];rfl
 .refine .row _ _ _ rfl (by simp) λm' U=>?_;have:m'=m:=by simpa[lenOf]using U.symm
  subst this;exact⟨c9 _,λ_=>by simp[Gh.BU,Gh.at]⟩
theorem fq{T:TypeId}{x y:kt}{s:ByteArray}{k:IntKind}{i:Int}{t:TI}(m:o.op=.index T x y)(q:need (ev tm x))(u:need (ev tm y))(A:strip (ev tm x)=.d (.str s))
  (B:strip (ev tm y)=.d (.int k i)) (C:ti P T=am t) (E:t.kind=.str) (h0:0<=i) (L:i<s.size):CR P n o tm S (.d (.int .u8 (s.get! i.toNat).toNat)) S:=.pure λG w a st=>by
 have h:=(BS st x).strip q;rw[A]at h;have hi:=B7 st u B;obtain⟨d,F,j⟩:=An C w;have g:d=.string:=by rw[E]at j;cases d<;>simp[tk]at j⊢
 subst g;have H:i.toNat<s.size:=by omega
 refine⟨.int .u8 (s.get! i.toNat).toNat,?_,.d _ _ (.int _ _ (by have:=UInt8.toNat_lt (s.get! i.toNat);simp[GZ];omega))⟩;have K:s[i.toNat]?=am (s.get! i.toNat):=by
  simp[ByteArray.get!,getElem?_pos,H];rfl
 simp[execOp,m,Instr.index,h.str.1,hi,asIntOf,F,h0,K]
theorem nH{c:Call}{x y:kt}{k:IntKind}{i j:Int}(u:o.op=.call c)(A:c.callee=.builtin .min)(B:c.args=#[x,y])(g:need (ev tm x))(h:need (ev tm y))
  (m:strip (ev tm x)=.d (.int k i)) (q:strip (ev tm y)=.d (.int k j)):CR P n o tm S (.d (.int k (if j<i then j else i))) S:=.pure λG w a st=>by
 have C:=B7 st g m;have E:=B7 st h q;have r1:=GM st g m;have r2:=GM st h q;exact⟨_,by simp[execOp,u,resolve,A,B,invoke,builtin,Builtin.min_,C,E,Builtin.min2],.d _ _ (.int _ _ (by split<;>assumption))⟩
theorem oL{c:Call}{x y:kt}{k:IntKind}{i j:Int}(u:o.op=.call c)(A:c.callee=.builtin .max)(B:c.args=#[x,y])(g:need (ev tm x))(h:need (ev tm y))
  (m:strip (ev tm x)=.d (.int k i)) (q:strip (ev tm y)=.d (.int k j)):CR P n o tm S (.d (.int k (if j>i then j else i))) S:=.pure λG w a st=>by
 have C:=B7 st g m;have E:=B7 st h q;have r1:=GM st g m;have r2:=GM st h q;exact⟨_,by simp[execOp,u,resolve,A,B,invoke,builtin,Builtin.max_,C,E,Builtin.max2],.d _ _ (.int _ _ (by split<;>assumption))⟩
theorem nk{c:Call}{x y z:kt}{k:IntKind}{i j l:Int}(B:o.op=.call c)(C:c.callee=.builtin .max)(E:c.args=#[x,y,z])(g:need (ev tm x))(h:need (ev tm y))(m:need (ev tm z))
  (q:strip (ev tm x)=.d (.int k i)) (u:strip (ev tm y)=.d (.int k j)) (A:strip (ev tm z)=.d (.int k l)):
  CR P n o tm S (.d (.int k (if l>(if j>i then j else i)then l else(if j>i then j else i)))) S:=.pure λG w a st=>by
 have F:=B7 st g q;have H:=B7 st h u;have K:=B7 st m A;have r1:=GM st g q;have r2:=GM st h u;have L:=GM st m A;exact⟨_,by simp[execOp,B,resolve,C,E,invoke,builtin,Builtin.max_,F,H,K,Builtin.max2],.d _ _ (.int _ _ (by split<;>(try split)<;>assumption))⟩
theorem mJ{c:Call}{x y z:kt}{k:IntKind}{i j l:Int}(B:o.op=.call c)(C:c.callee=.builtin .min)(E:c.args=#[x,y,z])(g:need (ev tm x))(h:need (ev tm y))(m:need (ev tm z))
  (q:strip (ev tm x)=.d (.int k i)) (u:strip (ev tm y)=.d (.int k j)) (A:strip (ev tm z)=.d (.int k l)):
  CR P n o tm S (.d (.int k (if l<(if j<i then j else i)then l else(if j<i then j else i)))) S:=.pure λG w a st=>by
 have F:=B7 st g q;have H:=B7 st h u;have K:=B7 st m A;have r1:=GM st g q;have r2:=GM st h u;have L:=GM st m A;exact⟨_,by simp[execOp,B,resolve,C,E,invoke,builtin,Builtin.min_,F,H,K,Builtin.min2],.d _ _ (.int _ _ (by split<;>(try split)<;>assumption))⟩
theorem WD{T:TypeId}{x:kt}{c:Call}{xs:List D}{t:TI}{E:TypeId}(k:o.op=.call c)(m:c.callee=.builtin .cap)(q:c.args=#[x])(u:c.argTypes=#[T])
  (A:need (ev tm x)) (B:strip (ev tm x)=.full xs) (C:ti P T=am t) (F:t.kind=.slice E):CR P n o tm S (.d (.int .i64 (Z xs))) S:=.pure λG w a st=>by
 have g:=(BS st x).strip A;rw[B]at g;obtain⟨d,H,i⟩:=An C w;have j:d=.slice E:=by rw[F]at i;cases d<;>simp[tk]at i⊢;exact i
 subst j;generalize K:a.eval x=X at g;cases g with
 |full _ a0 h=>
  refine⟨.int .i64 (Z xs),?_,.d _ _ (.int _ _ (Me h.len))⟩;simp[execOp,k,resolve,m,q,u,K,invoke,builtin,Builtin.cap_,H,goInt]
end
end Go.Koi
