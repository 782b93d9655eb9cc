/-
  Part 3 of the proof that the law ChangeLeaves returns true for every input.
-/
import Derived.Test.YtflldgdbdipagaaGreatDoorG01
import Derived.Laws.MakeOwn
set_option maxHeartbeats 64000000
set_option maxRecDepth 100000
open List renaming length->Z,replicate->ke
open Bool renaming true->J,false->am
open Option renaming some->al,none->br
open Go renaming Operand->le
namespace Go.Koi
theorem Rel.q9{P:Program}{G:Gh}{S:Sg}{w:World}(R:Rel P G S w){r:Nat}{wr wr':Bool}{sz:Nat}{els els':List V}{cap:Nat}{H:Obj}(B:S[r]?=al (.row wr sz els))
  (U:Z els<Z els')
  (N:BH G S w (G.at r w.heap.size cap br) (S.set r (.row wr' sz els')) (Bj w H)->OK (G.at r w.heap.size cap br) (S.set r (.row wr' sz els')) (Bj w H) r (.row wr' sz els')):
  Rel P (G.at r w.heap.size cap br) (S.set r (.row wr' sz els')) (Bj w H)/\Tr G S w (G.at r w.heap.size cap br) (S.set r (.row wr' sz els')) (Bj w H)/\BH G S w (G.at r w.heap.size cap br) (S.set r (.row wr' sz els')) (Bj w H):=by
 have Q:=Ai B;have m:∀g,g≠r->(S.set r (.row wr' sz els'))[g]?=S[g]?:=λg h=>by simp[sn (ru h)]
 have Dj:(S.set r (.row wr' sz els'))[r]?=al (.row wr' sz els'):=by simp[Q]
 have L:BH G S w (G.at r w.heap.size cap br) (S.set r (.row wr' sz els')) (Bj w H):=by
  refine⟨λ_ h=>h,λb hb=>DO (R.Kf b hb),by simp,λg v C E=>?_,λg v z=>?_⟩
  .by_cases e:g=r
   .subst e;have q:C=Z els':=by simpa[lenOf,Dj]using E.symm
    exact⟨Z els,by simp[lenOf,B],by omega,λe=>by omega⟩
   .have:lenOf (S.set r (.row wr' sz els')) g=lenOf S g:=by simp[lenOf,m g e]
    exact⟨C,by rw[<-this];exact E,ci _,λ_=>⟨by simp[Gh.at,e],by simp[Gh.at,e],by simp[Gh.at,e],.inl (by simp[C0,m g e])⟩⟩
  .by_cases e:g=r
   .subst e;simp[Bn,Dj]at z
   .exact⟨by simp[Bn,m g e]at z;exact z,by simp[Gh.at,e]⟩
 have i:∀b,HG (G.at r w.heap.size cap br) (S.set r (.row wr' sz els')) b->(∃g x,g≠r/\S[g]?=al x/\Bb G g x=J/\b=G.Cf g)\/b=w.heap.size:=by
  rintro b ⟨g,x,h1,k,t⟩;by_cases e:g=r
  .right;rw[t,e];simp[Gh.at]
  .left;rw[m g e]at h1;rw[El e]at k;exact⟨g,x,e,h1,k,by rw[t];simp[Gh.at,e]⟩
 have j:∀b,HG (G.at r w.heap.size cap br) (S.set r (.row wr' sz els')) b->HG G S b\/b=w.heap.size:=λb hb=>by
  rcases i b hb with⟨g,x,_,h1,k,t⟩|h
  .exact .inl ⟨g,x,h1,k,t⟩
  .exact .inr h
 refine⟨⟨R.HU.later L,λg x s=>?_,λr1 r2 F K h1 k o1 u A=>?_,λb hb M=>?_,λb hb=>?_,λb hb=>?_⟩,⟨by simp,λ_ h=>h,λb hb _=>DO hb,λb hb=>?_,λb hb=>.inl hb,rfl,rfl⟩,L⟩
 .by_cases e:g=r
  .subst e;rw[Dj]at s;cases s;exact N L
  .rw[m g e]at s;exact(R.DX g x s).later L (λT=>DO (R.Ik _ ⟨g,x,s,T,rfl⟩)) (by simp[Gh.at,e]) (by simp[Gh.at,e]) (by simp[Gh.at,e])
 .by_cases q:r1=r
  .by_cases o:r2=r
   .omega
   .rw[m r2 o]at k;rw[El o]at u;have:=R.Ik _ ⟨r2,K,k,u,rfl⟩;simp[Gh.at,q,o]at A;omega
  .rw[m r1 q]at h1;rw[El q]at o1;by_cases o:r2=r
   .have:=R.Ik _ ⟨r1,F,h1,o1,rfl⟩;simp[Gh.at,q,o]at A;omega
   .rw[m r2 o]at k;rw[El o]at u;exact R.inj r1 r2 F K h1 k o1 u (by simpa[Gh.at,q,o]using A)
 .rcases j b hb with h|h
  .exact R.nI b h M
  .have:=R.Kf b M;omega
 .have:=R.Kf b hb;simp;omega
 .rcases j b hb with h|h
  .have:=R.Ik b h;simp;omega
  .simp[h]
 .rcases j b hb with h|h
  .exact .inl h
  .exact .inr (by omega)
theorem Rel.NB{P:Program}{G:Gh}{S:Sg}{w:World}(R:Rel P G S w)(sz:Nat)(xs:List D)(a:Option Addr)(A:Z xs<=maxLen)(h:CD G.I w (.sl xs) (.slice a (Z xs) (Z xs))):
  Rel P (G.at (Z S) 0 0 (al a)) (S++[.row am sz (xs.map .d)]) w/\Tr G S w (G.at (Z S) 0 0 (al a)) (S++[.row am sz (xs.map .d)]) w/\BH G S w (G.at (Z S) 0 0 (al a)) (S++[.row am sz (xs.map .d)]) w:=by
 have L:BH G S w (G.at (Z S) 0 0 (al a)) (S++[.row am sz (xs.map .d)]) w:=BH.add _ _ _ _ (λk _=>rfl);have KS:∀r x,(S++[O.row am sz (xs.map .d)])[r]?=al x->r≠Z S->S[r]?=al x/\r<Z S:=λr x m K=>by
  have h1:=Ai m;have g:r<Z S:=by simp at h1;omega
  exact⟨by simpa[acD,g]using m,g⟩
 have i:∀b,HG (G.at (Z S) 0 0 (al a)) (S++[.row am sz (xs.map .d)]) b->∃r x,r≠Z S/\S[r]?=al x/\Bb G r x=J/\b=G.Cf r:=by
  rintro b ⟨r,x,h1,g,o⟩;by_cases e:r=Z S
  .subst e;have:x=.row am sz (xs.map .d):=by simp at h1;exact h1.symm
   subst this;simp[Bb,Gh.at]at g
  .obtain⟨q,_⟩:=KS r x h1 e;rw[El e]at g;exact⟨r,x,e,q,g,by rw[o];simp[Gh.at,e]⟩
 have j:∀b,HG (G.at (Z S) 0 0 (al a)) (S++[.row am sz (xs.map .d)]) b->HG G S b:=λb hb=>by
  obtain⟨r,x,_,h1,g,o⟩:=i b hb;exact⟨r,x,h1,g,o⟩
 refine⟨⟨R.HU.later L,λr x m=>?_,λr1 r2 s t h1 g o1 u B=>?_,λb hb=>R.nI b (j b hb),R.Kf,λb hb=>R.Ik b (j b hb)⟩,⟨ci _,λ_ h=>h,λ_ _ _=>rfl,λb hb=>.inl (j b hb),λb hb=>.inl hb,rfl,rfl⟩,L⟩
 .by_cases e:r=Z S
  .subst e;have:x=.row am sz (xs.map .d):=by simp at m;exact m.symm
   subst this;have C:(G.at (Z S) 0 0 (al a)).BJ (Z S)=al a:=by simp[Gh.at]
   simp only[OK,C];refine⟨trivial,by simpa using A,xs,rfl,h⟩
  .obtain⟨q,_⟩:=KS r x m e;exact(R.DX r x q).later L (λM=>rfl) (by simp[Gh.at,e]) (by simp[Gh.at,e]) (by simp[Gh.at,e])
 .have key:∀r x,(S++[O.row am sz (xs.map .d)])[r]?=al x->Bb (G.at (Z S) 0 0 (al a)) r x=J->r≠Z S:=λr x m E e=>by
   subst e;have:x=.row am sz (xs.map .d):=by simp at m;exact m.symm
   subst this;simp[Bb,Gh.at]at E
  have v:=key r1 s h1 o1;have z:=key r2 t g u;obtain⟨F,_⟩:=KS r1 s h1 v;obtain⟨H,_⟩:=KS r2 t g z;rw[El v]at o1;rw[El z]at u;exact R.inj r1 r2 s t F H o1 u (by simpa[Gh.at,v,z]using B)
theorem SB(g:Nat):∀(r c:Nat),Builtin.growBy g r c<=max c (g+(g+768) / 4)
 |0,c=>by simp[Builtin.growBy];omega
 |r+1,c=>by
  simp[Builtin.growBy];split
  .omega
  .have:=SB g r (c+(c+768) / 4);omega
theorem PB{need cap:Nat}(h:cap<need):Builtin.nextslicecap need cap<=2 * need+768:=by
 unfold Builtin.nextslicecap;split
 .omega
 .split
  .omega
  .have:=SB need 4 cap;omega
abbrev adu:=@List.getElem?_toArray
abbrev y3:=@List.getElem?_cons_succ
abbrev acA:=@Nat.mul_le_mul
section
variable {P:Program} {n:Nat} {o:Oper} {tm:Tm} {S S':Sg} {v:V}
def Jr(P:Program)(T:TypeId):Option Nat:=(ti P T).map (·.bytes)
theorem PA{w:World}{H xT E ty:TypeId}{e:TI}{z:Value}{base:Option Addr}{m cap k:Nat}{s:Value}{xs K:Array Value}
  (hs:BB P H=al E) (L:ti P E=al e) (hz:e.zero=al z) (_:z.cells.size=e.size) (hx:∀d,P.underlying xT=al d->tk d≠.other->(∀k,d≠.int k))
  (T:∃d,P.underlying xT=al d/\tk d≠.other)
  (B:∀h,(Builtin.lenOf s).run P h=.ok k h) (u:∀h,h.heap=w.heap->(Builtin.firstCells e.size k s).run P h=.ok K h) (_:K.size=k * e.size)
  (C:∀h,h.heap=w.heap->(Builtin.firstCells e.size m (.slice base m cap)).run P h=.ok xs h) (_:xs.size=m * e.size) (hb:m+k<=2 ^ 30) (M:e.bytes<=65536) (_:m<=cap):
  (m+k<=cap/\(Builtin.append_ #[H,xT] ty #[.slice base m cap,s]).run P w=
   ((match base with|some a=>storeCells (a.add (m * e.size)) K.toList|none=>pure ()).run P w).andThen λ_ h=>.ok (.slice base (m+k) cap) h)\/(cap<m+k/\∃N Q,m+k<=N/\N<=maxLen/\Q.heap=w.heap/\Q.os=w.os/\Q.output=w.output/\(Builtin.append_ #[H,xT] ty #[.slice base m cap,s]).run P w=
    .ok (.slice (al ⟨w.heap.size,0,br⟩) (m+k) N) (Bj Q (.cells (xs++K++Builtin.zeroCells z.cells (N - (m+k))) E (0,0)))):=by
 obtain⟨t,t1,t2⟩:=A8 hs;obtain⟨d,hd,U⟩:=An t1 w;have W:d=.slice E:=by rw[t2]at U;cases d<;>simp[tk]at U⊢;exact U
 subst W;obtain⟨R,A,F⟩:=T;have X:(match R with|.int _=>J|_=>am)=false:=by
  cases R<;>first|rfl|exact absurd rfl (hx _ A F _)
 have Y:∀w,(underlying xT).run P w=.ok R w:=λw=>by simp[underlying,A]
 have zg:=Ba L;obtain⟨q,i1,i2,i3,i4⟩:=Dt L w;have G:(Builtin.append_ #[H,xT] ty #[.slice base m cap,s]).run P w=
   ((if m+k<=cap then do
     let new<-Builtin.firstCells e.size k s
     if let al a:=base then storeCells (a.add (m * e.size)) new.toList
     pure (.slice base (m+k) cap)
    else do
     if((m+k:Nat):Int)>IntKind.i64.max/\(am\/(<-typeInfo E).bytes=0)then runtimePanic (.error "growslice: len out of range")
     if Builtin.nextslicecap (m+k) cap * (<-typeInfo E).bytes>2 ^ 48 then(if am then runtimePanic (.error "growslice: len out of range")else do
      if !(<-Builtin.mayShare e.size m k base s)then mark .noRoom
      unsupported (.resourceLimit "append: a slice or a string whose bytes no memory bears"))
     let g<-choose (.appendCap (m+k) cap E)
     askRoom (g * (<-typeInfo E).bytes)
     let KS<-Builtin.firstCells e.size m (.slice base m cap)
     let new<-Builtin.firstCells e.size k s
     let rest:=Builtin.zeroCells (<-zeroValue E).cells (g - (m+k))
     pure (.slice (al (<-newRow E (KS++new++rest))) (m+k) g):Sem Value)).run P w:=by
  unfold Builtin.append_;simp only[adu,abN,y3,l6,hd,lh,zg,Y];cases R<;>first|exact absurd rfl (hx _ A F _)|(simp only[l6,tp,lh,su,li,B];rfl)
 rw[G];by_cases i:m+k<=cap
 .left;refine⟨i,?_⟩;simp[b8 i,u w rfl];cases base<;>simp
 .right;refine⟨by omega,?_⟩;have h1:¬(((m+k:Nat):Int)>IntKind.i64.max/\(am=J\/q.bytes=0)):=by
   have:IntKind.i64.max=9223372036854775807:=by decide
   omega
  have h2:¬(Builtin.nextslicecap (m+k) cap * q.bytes>2 ^ 48):=by
   have h3:=PB (need:=m+k) (cap:=cap) (by omega);have h4:Builtin.nextslicecap (m+k) cap * q.bytes<=(2 * (m+k)+768) * 65536:=acA h3 (by omega);omega
  have j:(Question.appendCap (m+k) cap E).forced=false:=rfl;refine⟨(Question.appendCap (m+k) cap E).cut (w.tape w.drawn (.appendCap (m+k) cap E)),{w with drawn:=w.drawn+1},?_,?_,rfl,rfl,rfl,?_⟩
  .simp[Question.cut]
  .simp only[Question.cut,maxLen];have:w.tape w.drawn (Question.appendCap (m+k) cap E) % (2 ^ 63 - (m+k))<2 ^ 63 - (m+k):=pm _ (by omega);omega
  .have hn2:=u {w with drawn:=w.drawn+1} rfl;have ho2:=C {w with drawn:=w.drawn+1} rfl;obtain⟨inf',i1',_,i3',_⟩:=Dt L {w with drawn:=w.drawn+1};simp only[a9 i,l6,i1,lh,Sem.run_ite,a9 h2,tp,run_choose,j,su,li,i1',run_askRoom,ho2,hn2,ED L _ hz];have h1':¬(9223372036854775807<(m:Int)+k/\q.bytes=0):=by omega
   simp[newRow,Bj];rw[a9 h1'];rfl
end
abbrev ab9:=@Array.getElem?_append_left
abbrev abO:=@List.length_eq_zero_iff
abbrev ad3:=@Nat.le_of_eq
abbrev acZ:=@Array.size_append
abbrev acr:=@List.ext_getElem?
abbrev rc:=@List.length_nil
abbrev NE:=@List.append_nil
abbrev adb:=@Bool.not_true
abbrev ade:=@Bool.or_false
section
variable {P:Program} {n:Nat} {o:Oper} {tm:Tm} {S S':Sg} {v:V}
def If(S:Sg)(sz:Nat)(x:V)(g:List V):Sg:=
 match x with
 |.full i=>S++[.row (!g.isEmpty) sz (i.map .d++g)]
 |.row r _=>match S[r]? with
  |some (.row j sz h)=>S.set r (.row (j||!g.isEmpty) sz (h++g))
  |_=>S
 |_=>S
def U2(S:Sg)(x:V)(g:List V):V:=
 match x with
 |.full h=>.row (Z S) (Z h+Z g)
 |.row r m=>.row r (m+Z g)
 |_=>.any
def V0(S:Sg)(sz:Nat)(x:V)(h:List V):Prop:=
 Ac sz h/\match x with
 |.full j=>Ac sz (j.map .d)/\Z j+Z h<=2 ^ 30
 |.row r m=>match S[r]? with
  |some (.row _ i g)=>Z g=m/\i=sz/\Ac sz g/\m+Z h<=2 ^ 30
  |_=>False
 |_=>False
theorem bf.append{G:Gh}{w:World}{sz:Nat}{xs m:List V}{us vs:List Value}{c d rest:Array Value}(h:bf G S w sz xs us c 0)(k:bf G S w sz m vs d 0)(s:c.size=Z xs * sz)(t:d.size=Z m * sz):
  bf G S w sz (xs++m) (us++vs) (c++d++rest) 0:=by
 refine⟨by simp[h.len,k.len],λi hi z=>?_,λi hi j hj=>?_⟩
 .by_cases e:i<Z xs
  .rw[up e,up (by rw[h.len];exact e)];exact h.cv i e (by rw[h.len];exact e)
  .rw[R2 (by omega),R2 (by rw[h.len];omega)];simp[h.len];have g:i - Z xs<Z m:=by simp at hi;omega
   exact k.cv (i - Z xs) g (by rw[k.len];exact g)
 .rw[wl];by_cases e:i<Z xs
  .rw[up (by rw[h.len];exact e)];have q:i * sz+j<c.size:=by rw[s];exact FZ e hj
   rw[Array.append_assoc,ab9 q];simpa using h.at_ i (by rw[h.len];exact e) j hj
  .rw[R2 (by rw[h.len];omega)];simp only[h.len];have g:i - Z xs<Z m:=by simp[h.len,k.len]at hi;omega
   have u:i * sz+j=c.size+((i - Z xs) * sz+j):=by
    rw[s];have:i * sz=Z xs * sz+(i - Z xs) * sz:=by rw[<-sw];congr 1;omega
    omega
   have q:(i - Z xs) * sz+j<d.size:=by rw[t];exact FZ g hj
   rw[u,Array.append_assoc,Array.getElem?_append_right (by omega),Nat.add_sub_cancel_left,ab9 q];simpa using k.at_ (i - Z xs) (by rw[k.len];exact g) j hj
theorem bf.later{G:Gh}{w:World}{j:Gh}{w':World}(L:BH G S w j S' w'){sz k:Nat}{m:List V}{us:List Value}{c:Array Value}(h:bf G S w sz m us c k):bf j S' w' sz m us c k:=
 ⟨h.len,λi hi g=>⟨(h.cv i hi g).1.later L,(h.cv i hi g).2.1,(h.cv i hi g).2.2⟩,h.at_⟩
theorem bf.rowAt{G:Gh}{w:World}{sz:Nat}{g:List V}{us:List Value}{c:Array Value}(h:bf G S w sz g us c 0):PU G S w sz g c 0:=λi hi=>by
 have k:i<Z us:=by rw[h.len];exact hi
 obtain⟨h1,m,q⟩:=h.cv i hi k;exact⟨us[i],h1,m,q,λj hj=>by have:=h.at_ i k j hj;simpa using this⟩
theorem Ew(z:Array Value)(n:Nat):(Builtin.zeroCells z n).size=n * z.size:=by simp[Builtin.zeroCells]
theorem aR{c:Call}{sT xT E:TypeId}{x y:le}{e:TI}{z:Value}{s:List V}(ho:o.op=.call c)(hc:c.callee=.builtin .append)(zd:c.args=#[x,y])(hT:c.argTypes=#[sT,xT])
  (hx:need (ev tm x)) (hy:need (ev tm y)) (hs:BB P sT=al E) (hxT:(BB P xT).isSome=J) (he:ti P E=al e) (hz:e.zero=al z) (hzs:z.cells.size=e.size) (N:e.bytes<=65536)
  (hsrc:Ic S (strip (ev tm y))=al s) (hp:V0 S e.size (strip (ev tm x)) s):
  CP P n o tm S (U2 S (strip (ev tm x)) s) (If S e.size (strip (ev tm x)) s):=.val λG w a st=>by
 have h1:=(BY st x).strip hx;have h2:=(BY st y).strip hy;obtain⟨hys,hp⟩:=hp;obtain⟨vs,W,l1,l2,R,Y⟩:=sU st.rel h2 hsrc hys;obtain⟨F,hF⟩:=ol.1 hxT;obtain⟨tx,tx1,tx2⟩:=A8 hF;obtain⟨ix,dx,ix1,ix2,_,_,_,ix3⟩:=Ja tx1;have hdx:dx=.slice F:=by rw[tx2]at ix3;cases dx<;>simp[tk]at ix3⊢;exact ix3
 subst hdx;have hxk:∀d,P.underlying xT=al d->tk d≠.other->∀k,d≠.int k:=λd hd _ k=>by rw[ix2]at hd;cases hd;simp
 have hxt:∃d,P.underlying xT=al d/\tk d≠.other:=⟨_,ix2,by simp[tk]⟩;have zZ:(execOp a.eval o).run P w=((Builtin.append_ #[sT,xT] o.type #[a.eval x,a.eval y]).run P w).andThen λv w'=>.ok (.value v) w':=by
  simp[execOp,ho,resolve,hc,zd,hT,invoke,builtin]
 generalize strip (ev tm x)=X at *;split at hp
 .
  rename_i U;obtain⟨hxs,hb⟩:=hp;generalize hbx:a.eval x=B at h1 zZ;cases h1 with
  |full _ base hcd=>
   obtain⟨us,c0,m1,m2,m3,m4⟩:=Hb (P:=P) (S:=S) hcd hxs;rcases PA (P:=P) (w:=w) (ty:=o.type) (base:=base) (m:=Z U) (cap:=Z U) hs he hz hzs hxk hxt l1 l2 R m2 m3 hb N (ci _)with⟨hfit,zc⟩|⟨hgr,K,w0,hnc,hncm,e1,e2,e3,zc⟩
   .have hk0:Z s=0:=by omega
    have hys0:s=[]:=abO.1 hk0;subst hys0;have hcs0:W.toList=[]:=by
     have:W.size=0:=by rw[R];simp
     exact abO.1 (by simpa using this)
    have hl:Z U<=maxLen:=by
     simp[maxLen];have:Z U<=2 ^ 30:=by simpa using hb
     omega
    obtain⟨r1,r2,r3⟩:=st.rel.NB e.size U base hl hcd;refine⟨.slice base (Z U) (Z U),G.at (Z S) 0 0 (al base),w,?_,?_,by simpa[If]using r1,by simpa[If]using r2,by simpa[If]using r3⟩
    .rw[zZ,zc];cases base<;>simp[hcs0,storeCells]
    .simp[U2,If];refine .row _ _ _ rfl (by simp) λm' M=>?_;have:m'=Z U:=by simpa[lenOf]using M.symm
     subst this;exact⟨by simp,λ_=>by simp[Gh.BP,Gh.at]⟩
   .obtain⟨q1,q2,q3⟩:=st.rel.drawn e1 e2 e3;have A:=(m4.later q3).append (Y.later q3) (by simpa using m3) R (rest:=Builtin.zeroCells z.cells (K - (Z U+Z s)));obtain⟨r1,r2,r3⟩:=q1.add K (.row (!s.isEmpty) e.size (U.map .d++s)) (.cells (c0++W++Builtin.zeroCells z.cells (K - (Z U+Z s))) E (0,0)) (λL=>by
     have Q:(G.at (Z S) w0.heap.size K br).BJ (Z S)=none:=by simp[Gh.at]
     have hbk:(G.at (Z S) w0.heap.size K br).Cf (Z S)=w0.heap.size:=by simp[Gh.at]
     have hcp:(G.at (Z S) w0.heap.size K br).cap (Z S)=(K,0):=by simp[Gh.at]
     simp only[OK,Q,hbk,hcp];refine⟨_,E,EK,?_,by simp;omega,by simp[maxLen];omega,(A.later L).rowAt⟩;refine ad3 (Eq.symm ?_);simp[m3,R,Ew,hzs];rw[<-sw,<-sw];congr 1;omega)
    rw[e1]at r1 r2 r3;have r2':=q2.trans r2;have r3':=q3.trans r3;refine⟨_,_,_,by rw[zZ,zc];rfl,?_,by simpa[If]using r1,by simpa[If]using r2',by simpa[If]using r3'⟩;simp[U2,If];refine .row _ _ _ rfl (by simp) λm' M=>?_;have:m'=Z U+Z s:=by simpa[lenOf]using M.symm
    subst this;exact⟨ci _,λ_=>by simp[Gh.BP,Gh.at]⟩
 .
  rename_i r m;split at hp
  .rename_i wr sz' g C;obtain⟨hm,zg,hels,hb⟩:=hp;subst zg;have zF:a.eval x=G.BP r m/\r<Z S:=by
    cases h1 with|row _ _ _ _ y7 h=>exact⟨(h m (by simp[lenOf,C,hm])).2 rfl,y7⟩
   obtain⟨zF,y7⟩:=zF;subst hm;obtain⟨us,c0,m1,m2,m3,m4⟩:=Yf st.rel C hels;have zi:=st.rel.DX r _ C;have hbase:∃base cap,G.BP r (Z g)=.slice base (Z g) cap/\Z g<=cap:=by
    unfold Gh.BP;simp only[OK]at zi;cases Q:G.BJ r with
    |none=>
     simp only[Q]at zi;obtain⟨c,T,g1,g2,g3,g4,g5⟩:=zi;exact⟨_,_,rfl,g3⟩
    |some b=>exact⟨_,_,rfl,ci _⟩
   obtain⟨base,cap,hbv,hmc⟩:=hbase;rw[hbv]at m2;have t:=zZ;rw[zF,hbv]at t;have Dj:∀w2:O,(S.set r w2)[r]?=al w2:=λw2=>by simp[y7]
   rcases PA (P:=P) (w:=w) (ty:=o.type) (base:=base) (m:=Z g) (cap:=cap) hs he hz hzs hxk hxt l1 l2 R m2 m3 hb N hmc with⟨hfit,zc⟩|⟨hgr,K,w0,hnc,hncm,e1,e2,e3,zc⟩
   .cases Q:G.BJ r with
    |some b=>
     have hbb:base=b/\cap=Z g:=by
      have:=hbv;simp only[Gh.BP,Q,Value.slice.injEq]at this;exact⟨this.1.symm,this.2.2.symm⟩
     obtain⟨rfl,rfl⟩:=hbb;have hk0:Z s=0:=by omega
     have hys0:s=[]:=abO.1 hk0;subst hys0;have hcs0:W.toList=[]:=by
      have:W.size=0:=by rw[R];simp
      exact abO.1 (by simpa using this)
     have hS:S.set r (.row wr e.size g)=S:=by
      apply acr;intro i;by_cases hi:i=r
      .subst hi;rw[Dj,C]
      .rw[sn (ru hi)]
     refine⟨.slice base (Z g) (Z g),G,w,?_,?_,?_⟩
     .rw[t,zc];cases base<;>simp[hcs0,storeCells]
     .simp[U2,If,C];simp[hS];rw[<-hbv,<-zF];exact h1
     .simp[If,C,List.isEmpty_nil,hS];exact⟨st.rel,aep _ _ _,aev _ _ _⟩
    |none=>
     have hbb:base=al ⟨G.Cf r,(G.cap r).2,br⟩/\cap=(G.cap r).1:=by
      have:=hbv;simp only[Gh.BP,Q,Value.slice.injEq]at this;exact⟨this.1.symm,this.2.2.symm⟩
     obtain⟨rfl,rfl⟩:=hbb;simp only[OK,Q]at zi;obtain⟨c,T0,g1,g2,g3,g4,g5⟩:=zi;have hcz:(G.cap r).2+(Z g * e.size+W.size)<=c.size:=by
      refine oq ?_ g2;rw[R,<-sw];exact Nat.add_le_add_left (abg _ hfit) _
     have hones:∀v∈W.toList,one v=true:=λv hv'=>by
      obtain⟨q,hq,rfl⟩:=oi.1 hv';have hq':q<Z s * e.size:=by rw[<-R];simpa using hq
      have hsp:0<e.size:=by
       rcases Nat.eq_zero_or_pos e.size with h0|h0
       .rw[h0]at hq';simp at hq'
       .exact h0
      have hi:q / e.size<Z vs:=by rw[Y.len];exact Nat.div_lt_of_lt_mul (by rw[acR];exact hq')
      have hj:q % e.size<e.size:=pm _ hsp;have hqe:q / e.size * e.size+q % e.size=q:=by rw[acR];exact Nat.div_add_mod q e.size
      have:=Y.at_ (q / e.size) hi (q % e.size) hj;rw[wl,hqe]at this;obtain⟨_,n1,n2⟩:=Y.cv (q / e.size) (by rw[<-Y.len];exact hi) hi;rw[nu (show q<W.size by rw[R];exact hq'),nu (by omega)]at this;simp at this;simp;rw[this];exact n2 _ (by simp)
     have zb:=Jp (P:=P) (b:=G.Cf r) (off:=(G.cap r).2+Z g * e.size) (T:=T0) W.toList 0 w c g1 (by simp;omega) hones;simp at zb;have own1:Bb G r (.row wr e.size g)=true:=by simp[Bb,Q]
     have own2:Bb G r (.row (wr||!s.isEmpty) e.size (g++s))=true:=by simp[Bb,Q]
     have hup:=st.rel.update C own1 own2 (H:=.cells (C1 c ((G.cap r).2+Z g * e.size) W.toList) T0 (0,0)) (λn' zK=>by
       have:n'=Z g+Z s:=by simpa[lenOf,Dj]using zK.symm
       exact⟨Z g,by simp[lenOf,C],by omega,λ_=>.inl (by simp[C0,C];simp[y7])⟩) (λhm=>by simp[Bn,Dj]at hm) (λL=>by
       simp only[OK,Q];refine⟨_,T0,Gk (GK g1),by rw[Ea];exact g2,by simpa using hfit,by simp[maxLen];omega,λi hi=>?_⟩;by_cases h3:i<Z g
       .obtain⟨u,u1,u2,u3,u4⟩:=g5 i h3;refine⟨u,by rw[up h3];exact u1.later L,u2,u3,λj hj=>?_⟩;rw[EF _ _ _ _ (by simp;omega),a9 (by have:=FZ h3 hj;omega)];exact u4 j hj
       .have hi2:i - Z g<Z s:=by simp at hi;omega
        obtain⟨n1,n2,n3⟩:=Y.cv (i - Z g) hi2 (by rw[Y.len];exact hi2);refine⟨vs[i - Z g]'(by rw[Y.len];exact hi2),by rw[R2 (by omega)];exact n1.later L,n2,n3,λj hj=>?_⟩;have zq:=FZ hi2 hj;have e2:i * e.size+j=Z g * e.size+((i - Z g) * e.size+j):=by
         have:i * e.size=Z g * e.size+(i - Z g) * e.size:=by rw[<-sw];congr 1;omega
         omega
        rw[EF _ _ _ _ (by simp;omega),b8 (by simp[R];omega)];have:=Y.at_ (i - Z g) (by rw[Y.len];exact hi2) j hj;rw[<-this];simp;congr 1;omega)
     obtain⟨r1,r2,r3⟩:=hup;refine⟨.slice (al ⟨G.Cf r,(G.cap r).2,br⟩) (Z g+Z s) (G.cap r).1,G,_,?_,?_,by simpa[If,C]using r1,by simpa[If,C]using r2,by simpa[If,C]using r3⟩
     .rw[t,zc];simp[Gm,zb]
     .simp[U2,If,C];refine .row _ _ _ rfl (by simpa using y7) λm' M=>?_;have:m'=Z g+Z s:=by simpa[lenOf,Dj]using M.symm
      subst this;exact⟨ci _,λ_=>by simp[Gh.BP,Q]⟩
   .
    have hyne:0<Z s:=by omega
    obtain⟨q1,q2,q3⟩:=st.rel.drawn e1 e2 e3;have A:=(m4.later q3).append (Y.later q3) m3 R (rest:=Builtin.zeroCells z.cells (K - (Z g+Z s)));obtain⟨r1,r2,r3⟩:=q1.q9 (wr':=wr||!s.isEmpty) (els':=g++s) (cap:=K) (H:=.cells (c0++W++Builtin.zeroCells z.cells (K - (Z g+Z s))) E (0,0)) C (by simp;omega) (λL=>by
     have Q:(G.at r w0.heap.size K br).BJ r=none:=by simp[Gh.at]
     have hbk:(G.at r w0.heap.size K br).Cf r=w0.heap.size:=by simp[Gh.at]
     have hcp:(G.at r w0.heap.size K br).cap r=(K,0):=by simp[Gh.at]
     simp only[OK,Q,hbk,hcp];refine⟨_,E,EK,?_,by simp;omega,by simp[maxLen];omega,(A.later L).rowAt⟩;refine ad3 (Eq.symm ?_);simp[m3,R,Ew,hzs];rw[<-sw,<-sw];congr 1;omega)
    rw[e1]at r1 r2 r3;have r2':=q2.trans r2;have r3':=q3.trans r3;refine⟨_,_,_,by rw[t,zc];rfl,?_,by simpa[If,C]using r1,by simpa[If,C]using r2',by simpa[If,C]using r3'⟩;simp[U2,If,C];refine .row _ _ _ rfl (by simpa using y7) λm' M=>?_;have:m'=Z g+Z s:=by simpa[lenOf,Dj]using M.symm
    subst this;exact⟨ci _,λ_=>by simp[Gh.BP,Gh.at]⟩
  .exact hp.elim
 .exact hp.elim
end
abbrev ed:=@Nat.zero_le
abbrev H1:=@Int.le_refl
abbrev jw:=@Int.toNat_natCast
abbrev adK:=@Nat.mul_add_mod
abbrev ww:=@Nat.mod_eq_of_lt
section
variable {P:Program} {n:Nat} {o:Oper} {tm:Tm} {S S':Sg} {v:V}
def u5(x:V)(l h:Nat)(full:Bool):V:=
 match x with
 |.d (.str s)=>.d (.str (s.extract l h))
 |.d (.sl g)=>if full then .full ((g.take h).drop l)else .d (.sl ((g.take h).drop l))
 |.full g=>if full then .full ((g.take h).drop l)else .d (.sl ((g.take h).drop l))
 |_=>.any
theorem CD.sub{I:Nat->Prop}{w:World}{xs:List D}{b:Option Addr}{len cap:Nat}(H:CD I w (.sl xs) (.slice b len cap)){l h m sz:Nat}(R:l<=h)(E:h<=Z xs)(T:h<=m)
  (F:l=0\/l=h\/(Z (BE (xs.getD l (.bool am)))=sz/\CR.oneD (xs.getD l (.bool am))=J)):
  CD I w (.sl ((xs.take h).drop l)) (.slice (if m=l then b else b.map (·.add (l * sz))) (h - l) (m - l)):=by
 have g:Z ((xs.take h).drop l)=h - l:=by simp;omega
 by_cases A:l=h
 .subst A;have:(xs.take l).drop l=[]:=abO.1 (by simp;try omega);rw[this,ad2];exact .nil _ _
 .cases H with
  |nil=>simp at E;omega
  |sl k xs b off cap G K L U h1 B=>
   have s:m≠l:=by omega
   have q:off+l * sz=off+l * k:=by
    rcases F with e|e|⟨M,C⟩
    .subst e;simp
    .exact absurd e A
    .have t:l<Z xs:=by omega
     have u:xs.getD l (.bool am)=xs[l]:=by simp[List.getD,t]
     rw[u]at M C;obtain⟨c1,_⟩:=(h1 l t).cells C;have:=(B l t).1;have:sz=k:=by omega
     rw[this]
   simp only[a9 s,acF,Gm];rw[q];have z:=g;rw[<-g];refine .sl k _ b _ _ (λi=>G (l+i)) K (by omega) (by omega) (λi hi=>?_) (λi hi=>?_)
   .have:((xs.take h).drop l)[i]=xs[l+i]'(by omega):=by simp
    rw[this];exact h1 _ _
   .obtain⟨N,Q⟩:=B (l+i) (by omega);refine⟨N,λj hj=>?_⟩;rw[<-Q j hj];congr 2;rw[sw];omega
def EO(tm:Tm)(x:Option le):V:=match x with|some y=>strip (ev tm y)|none=>.d (.int .i64 0)
def Fp(tm:Tm)(x:Option le):Prop:=match x with|some y=>need (ev tm y)|none=>True
theorem B5{G:Gh}{w:World}{a:Act}(st:St P n G S w a tm){y:le}{k:IntKind}{i:Int}(g:need (ev tm y))(j:strip (ev tm y)=.d (.int k i)):a.eval y=.int k i:=by
 have h:=(BY st y).strip g;rw[j]at h;exact h.int
theorem GY{G:Gh}{w:World}{a:Act}(st:St P n G S w a tm){y:le}{k:IntKind}{i:Int}(g:need (ev tm y))(j:strip (ev tm y)=.d (.int k i)):IX k i=true:=by
 have h:=(BY st y).strip g;rw[j]at h;exact h.IX
theorem Ca{w:World}{k:IntKind}{i:Int}{y:Nat}{g:BoundsCode}(h0:0<=i)(h1:i<=y):(Instr.sliceBound (.int k i) y g).run P w=.ok i.toNat w:=by
 simp[Instr.sliceBound,asIntOf,h0,h1]
theorem U4{T:TypeId}{x:le}{lo hi:Option le}{s:ByteArray}{kl kh:IntKind}{l h:Int}(H:o.op=.slice T x lo hi br)(K:need (ev tm x))(L:strip (ev tm x)=.d (.str s))
  (M:∃t,ti P T=al t/\t.kind=.str) (k:Fp tm lo) (el:EO tm lo=.d (.int kl l)) (m:Fp tm hi) (N:hi=br->h=s.size) (q:hi≠br->EO tm hi=.d (.int kh h))
  (h0:0<=l) (h1:l<=h) (B:h<=s.size):CP P n o tm S (.d (.str (s.extract l.toNat h.toNat))) S:=.pure λG w a st=>by
 have C:=(BY st x).strip K;rw[L]at C;obtain⟨u,Q⟩:=C.str;obtain⟨t,t1,t2⟩:=M;obtain⟨d,R,E⟩:=An t1 w;have A:d=.string:=by rw[t2]at E;cases d<;>simp[tk]at E⊢
 subst A;refine⟨.string (s.extract l.toNat h.toNat),?_,.d _ _ (.str _ (by simp;omega))⟩;have hb:(Instr.sliceBounds am s.size s.size (lo.map a.eval) (hi.map a.eval) br).run P w=.ok (l.toNat,h.toNat,s.size) w:=by
  unfold Instr.sliceBounds;have i:∀y,hi=al y->a.eval y=.int kh h:=λy g=>B5 st (by simpa[Fp,g]using m) (by have:=q (by simp[g]);simpa[EO,g]using this);have j:∀y,lo=al y->a.eval y=.int kl l:=λy g=>B5 st (by simpa[Fp,g]using k) (by simpa[EO,g]using el);have F:lo=br->l=0:=λe=>by subst e;simp[EO]at el;exact el.2.symm
  cases hi with
  |none=>
   have:=N rfl;subst this;cases lo with
   |none=>have:=F rfl;subst this;simp
   |some z=>simp[j z rfl,Ca h0 h1]
  |some y=>
   have U:l<=(h.toNat:Int):=by omega
   cases lo with
   |none=>have:=F rfl;subst this;simp[i y rfl,Ca (show 0<=h by omega) B]
   |some z=>simp[i y rfl,Ca (show 0<=h by omega) B,j z rfl,Ca h0 U]
 simp[execOp,H,Instr.sliceAt,u,R,Instr.slice,hb]
theorem XA{T E:TypeId}{x:le}{lo hi i:Option le}{xs:List D}{kl kh:IntKind}{l h:Int}{e:TI}{t:TI}(ho:o.op=.slice T x lo hi i)(hx:need (ev tm x))
  (H:strip (ev tm x)=.d (.sl xs)\/strip (ev tm x)=.full xs) (hT:ti P T=al t) (hk:t.kind=.slice E) (he:ti P E=al e) (M:Fp tm lo) (el:EO tm lo=.d (.int kl l)) (N:Fp tm hi)
  (eh:hi=br->h=Z xs) (Q:hi≠br->EO tm hi=.d (.int kh h)) (R:Fp tm i) (em:i≠br->hi≠br/\EO tm i=.d (.int kh h))
  (h0:0<=l) (h1:l<=h) (h2:h<=Z xs) (hs:l.toNat=0\/l.toNat=h.toNat\/(Z (BE (xs.getD l.toNat (.bool am)))=e.size/\CR.oneD (xs.getD l.toNat (.bool am))=J)):
  CP P n o tm S (if i.isSome then .full ((xs.take h.toNat).drop l.toNat)else .d (.sl ((xs.take h.toNat).drop l.toNat))) S:=.pure λG w a st=>by
 have K:=(BY st x).strip hx;obtain⟨d,hd,U⟩:=An hT w;have W:d=.slice E:=by rw[hk]at U;cases d<;>simp[tk]at U⊢;exact U
 subst W;have u:∃b cap,a.eval x=.slice b (Z xs) cap/\Z xs<=cap/\CD G.I w (.sl xs) (.slice b (Z xs) cap):=by
  generalize a.eval x=X at K;rcases H with H|H<;>rw[H]at K
  .cases K with
   |d _ _ B=>
    cases B with
    |nil b c=>exact⟨b,c,rfl,ed _,.nil b c⟩
    |sl sz xs b off cap vs hI hl B h1 h2=>exact⟨_,_,rfl,B,.sl sz xs b off cap vs hI hl B h1 h2⟩
  .cases K with
   |full _ b B=>exact⟨b,_,rfl,ci _,B⟩
 obtain⟨b,cap,zF,hcap,u⟩:=u;have k:∀y,hi=al y->a.eval y=.int kh h:=λy j=>B5 st (by simpa[Fp,j]using N) (by have:=Q (by simp[j]);simpa[EO,j]using this);have A:∀y,lo=al y->a.eval y=.int kl l:=λy j=>B5 st (by simpa[Fp,j]using M) (by simpa[EO,j]using el);have F:∀y,i=al y->a.eval y=.int kh h:=λy j=>B5 st (by simpa[Fp,j]using R) (by have:=(em (by simp[j])).2;simpa[EO,j]using this);have Y:lo=br->l=0:=λe=>by subst e;simp[EO]at el;exact el.2.symm
 let m:Nat:=if i.isSome then h.toNat else cap;have hb:(Instr.sliceBounds J (Z xs) cap (lo.map a.eval) (hi.map a.eval) (i.map a.eval)).run P w=.ok (l.toNat,h.toNat,m) w:=by
  unfold Instr.sliceBounds;have e4:l<=(h.toNat:Int):=by omega
  have L:(h:Int)<=cap:=by omega
  have e6:h<=(h.toNat:Int):=by omega
  have C:(0:Int)<=h:=by omega
  cases i with
  |none=>
   cases hi with
   |none=>
    have:=eh rfl;subst this;cases lo with
    |none=>have:=Y rfl;subst this;simp[m]
    |some z=>simp[A z rfl,Ca h0 h1,m]
   |some y=>
    cases lo with
    |none=>have:=Y rfl;subst this;simp[k y rfl,Ca C L,m]
    |some z=>simp[k y rfl,Ca C L,A z rfl,Ca h0 e4,m]
  |some q=>
   cases hi with
   |none=>exact absurd rfl (em (by simp)).1
   |some y=>
    cases lo with
    |none=>have:=Y rfl;subst this;simp[F q rfl,k y rfl,Ca C L,Ca C e6,m]
    |some z=>simp[F q rfl,k y rfl,Ca C L,Ca C e6,A z rfl,Ca h0 e4,m]
 have hmh:h.toNat<=m:=by simp only[m];split<;>omega
 have g:=u.sub (l:=l.toNat) (h:=h.toNat) (m:=m) (sz:=e.size) (by omega) (by omega) hmh hs;refine⟨.slice (if m=l.toNat then b else b.map (·.add (l.toNat * e.size))) (h.toNat - l.toNat) (m - l.toNat),?_,?_⟩
 .simp[execOp,ho,Instr.sliceAt,zF,hd,Instr.slice,hb,Ba he]
 .have s:Z ((xs.take h.toNat).drop l.toNat)=h.toNat - l.toNat:=by simp;omega
  cases hm:i.isSome with
  |false=>simp only[su,li];exact .d _ _ g
  |true=>
   simp only[kw];have e1:m=h.toNat:=by simp[m,hm]
   have:m - l.toNat=h.toNat - l.toNat:=by rw[e1]
   rw[this]at g⊢;have:=CV.full (S:=S) _ _ (by rw[s];exact g);rwa [s]at this
theorem Tn{T E:TypeId}{x y:le}{U W:IntKind}{m:Nat}{t e:TI}{z:Value}(ho:o.op=.makeSlice T x y)(A:need (ev tm x))(hy:need (ev tm y))
  (ex:strip (ev tm x)=.d (.int U m)) (ey:strip (ev tm y)=.d (.int W m)) (hT:ti P T=al t) (B:t.kind=.slice E) (he:ti P E=al e) (hz:e.zero=al z) (g:z.cells.size=e.size)
  (C:(Ap (Og z)||Bu (Og z))=J) (hb:e.bytes<=65536) (hm:m<=2 ^ 30):
  CP P n o tm S (.row (Z S) m) (S++[.row J e.size (ke m (Og z))]):=.val λG w a st=>by
 have h1:=B5 st A ex;have h2:=B5 st hy ey;obtain⟨i1,d1,u1,u2,_,_,_,F⟩:=Ja hT;have H:d1=.slice E:=by rw[B]at F;cases d1<;>simp[tk]at F⊢;exact F
 subst H;obtain⟨X,d2,v1,v2,v3,v4,v5,v6⟩:=Ja he;have q:(m:Int)<=9223372036854775807:=by omega
 have K:(X.bytes:Int) * (m:Int)<=281474976710656:=by
  have h:e.bytes * m<=65536 * 2 ^ 30:=acA hb hm;rw[v4];have:((e.bytes * m:Nat):Int)<=281474976710656:=by omega
  rwa [Int.natCast_mul]at this
 have Y:=run_make (P:=P) w T E X z u2 v1 (v5.trans hz) U W m m (by omega) (H1 _) K q;simp only[jw,v3]at Y;obtain⟨r1,r2,r3⟩:=st.rel.add m (.row J e.size (ke m (Og z))) (.cells (madeCells z.cells (m * e.size)) E (0,0)) (λL=>by
  have hv:(G.at (Z S) w.heap.size m br).BJ (Z S)=none:=by simp[Gh.at]
  have M:(G.at (Z S) w.heap.size m br).Cf (Z S)=w.heap.size:=by simp[Gh.at]
  have N:(G.at (Z S) w.heap.size m br).cap (Z S)=(m,0):=by simp[Gh.at]
  simp only[OK,hv,M,N];refine⟨_,E,EK,by rw[size_madeCells,wl];exact ci _,by simp,by simp[maxLen];omega,λi hi=>?_⟩;have hi:i<m:=by simpa using hi
  have s:=Ia (G.at (Z S) w.heap.size m br) (S++[.row J e.size (ke m (Og z))]) (Bj w (.cells (madeCells z.cells (m * e.size)) E (0,0))) z;obtain⟨c1,c2,_⟩:=s.cells (by simpa using C);refine⟨z,by simpa using s,g,λx A=>?_,λj hj=>?_⟩
  .obtain⟨k,B,rfl⟩:=abF.1 A;exact c2 k B
  .have y7:=FZ hi hj;have u:(i * e.size+j) % z.cells.size=j:=by rw[g,acR,adK];exact ww hj
   have Q:j<z.cells.size:=by omega
   simp[madeCells,y7,u,Q])
 refine⟨.slice (al ⟨w.heap.size,0,br⟩) m m,_,_,?_,?_,r1,r2,r3⟩
 .simp[execOp,ho,h1,h2,Y];rfl
 .refine .row _ _ _ rfl (by simp) λm' R=>?_;have:m'=m:=by simpa[lenOf]using R.symm
  subst this;exact⟨ci _,λ_=>by simp[Gh.BP,Gh.at]⟩
theorem iA{T:TypeId}{x y:le}{s:ByteArray}{k:IntKind}{i:Int}{t:TI}(m:o.op=.index T x y)(q:need (ev tm x))(u:need (ev tm y))(z:strip (ev tm x)=.d (.str s))
  (A:strip (ev tm y)=.d (.int k i)) (B:ti P T=al t) (C:t.kind=.str) (h0:0<=i) (h1:i<s.size):CP P n o tm S (.d (.int .u8 (s.get! i.toNat).toNat)) S:=.pure λG w a st=>by
 have h:=(BY st x).strip q;rw[z]at h;have hi:=B5 st u A;obtain⟨d,E,j⟩:=An B w;have g:d=.string:=by rw[C]at j;cases d<;>simp[tk]at j⊢
 subst g;have F:i.toNat<s.size:=by omega
 refine⟨.int .u8 (s.get! i.toNat).toNat,?_,.d _ _ (.int _ _ (by have:=UInt8.toNat_lt (s.get! i.toNat);simp[IX];omega))⟩;have H:s[i.toNat]?=al (s.get! i.toNat):=by
  simp[ByteArray.get!,getElem?_pos,F];rfl
 simp[execOp,m,Instr.index,h.str.1,hi,asIntOf,E,h0,H]
theorem lu{c:Call}{x y:le}{k:IntKind}{i j:Int}(s:o.op=.call c)(t:c.callee=.builtin .min)(u:c.args=#[x,y])(g:need (ev tm x))(h:need (ev tm y))
  (m:strip (ev tm x)=.d (.int k i)) (q:strip (ev tm y)=.d (.int k j)):CP P n o tm S (.d (.int k (if j<i then j else i))) S:=.pure λG w a st=>by
 have h1:=B5 st g m;have z:=B5 st h q;have r1:=GY st g m;have r2:=GY st h q;exact⟨_,by simp[execOp,s,resolve,t,u,invoke,builtin,Builtin.min_,h1,z,Builtin.min2],.d _ _ (.int _ _ (by split<;>assumption))⟩
theorem oc{c:Call}{x y:le}{k:IntKind}{i j:Int}(s:o.op=.call c)(t:c.callee=.builtin .max)(u:c.args=#[x,y])(g:need (ev tm x))(h:need (ev tm y))
  (m:strip (ev tm x)=.d (.int k i)) (q:strip (ev tm y)=.d (.int k j)):CP P n o tm S (.d (.int k (if j>i then j else i))) S:=.pure λG w a st=>by
 have h1:=B5 st g m;have z:=B5 st h q;have r1:=GY st g m;have r2:=GY st h q;exact⟨_,by simp[execOp,s,resolve,t,u,invoke,builtin,Builtin.max_,h1,z,Builtin.max2],.d _ _ (.int _ _ (by split<;>assumption))⟩
theorem oF{c:Call}{x y z:le}{k:IntKind}{i j l:Int}(u:o.op=.call c)(A:c.callee=.builtin .max)(B:c.args=#[x,y,z])(g:need (ev tm x))(h:need (ev tm y))(m:need (ev tm z))
  (q:strip (ev tm x)=.d (.int k i)) (s:strip (ev tm y)=.d (.int k j)) (t:strip (ev tm z)=.d (.int k l)):
  CP P n o tm S (.d (.int k (if l>(if j>i then j else i)then l else(if j>i then j else i)))) S:=.pure λG w a st=>by
 have h1:=B5 st g q;have C:=B5 st h s;have E:=B5 st m t;have r1:=GY st g q;have r2:=GY st h s;have F:=GY st m t;exact⟨_,by simp[execOp,u,resolve,A,B,invoke,builtin,Builtin.max_,h1,C,E,Builtin.max2],.d _ _ (.int _ _ (by split<;>(try split)<;>assumption))⟩
theorem ni{c:Call}{x y z:le}{k:IntKind}{i j l:Int}(u:o.op=.call c)(A:c.callee=.builtin .min)(B:c.args=#[x,y,z])(g:need (ev tm x))(h:need (ev tm y))(m:need (ev tm z))
  (q:strip (ev tm x)=.d (.int k i)) (s:strip (ev tm y)=.d (.int k j)) (t:strip (ev tm z)=.d (.int k l)):
  CP P n o tm S (.d (.int k (if l<(if j<i then j else i)then l else(if j<i then j else i)))) S:=.pure λG w a st=>by
 have h1:=B5 st g q;have C:=B5 st h s;have E:=B5 st m t;have r1:=GY st g q;have r2:=GY st h s;have F:=GY st m t;exact⟨_,by simp[execOp,u,resolve,A,B,invoke,builtin,Builtin.min_,h1,C,E,Builtin.min2],.d _ _ (.int _ _ (by split<;>(try split)<;>assumption))⟩
theorem WV{T:TypeId}{x:le}{c:Call}{xs:List D}{t:TI}{E:TypeId}(j:o.op=.call c)(k:c.callee=.builtin .cap)(m:c.args=#[x])(q:c.argTypes=#[T])
  (s:need (ev tm x)) (u:strip (ev tm x)=.full xs) (z:ti P T=al t) (A:t.kind=.slice E):CP P n o tm S (.d (.int .i64 (Z xs))) S:=.pure λG w a st=>by
 have h1:=(BY st x).strip s;rw[u]at h1;obtain⟨d,B,g⟩:=An z w;have i:d=.slice E:=by rw[A]at g;cases d<;>simp[tk]at g⊢;exact g
 subst i;generalize C:a.eval x=X at h1;cases h1 with
 |full _ F h=>
  refine⟨.int .i64 (Z xs),?_,.d _ _ (.int _ _ (Ml h.len))⟩;simp[execOp,j,resolve,k,m,q,C,invoke,builtin,Builtin.cap_,B,goInt]
end
end Go.Koi
