/-
  Part 3 of the proof that the law ChangeFoldInline returns true for every input.
-/
import Derived.Test.YtgdfmldabcofeaaGreatDoorK01
import Derived.Laws.MakeOwn
set_option maxHeartbeats 64000000
set_option maxRecDepth 100000
namespace Go.Koi
open Go renaming Operand->gs
theorem Rel.pt{P:Program}{G:Gh}{S:Sg}{w:World}(R:Rel P G S w){r:Nat}{wr wr':Bool}{sz:Nat}{els els':List V}{cap:Nat}{H:Obj}(A:S[r]?=some (.row wr sz els))
  (T:els.length<els'.length)
  (K:BL G S w (G.at r w.heap.size cap none) (S.set r (.row wr' sz els')) (Bn w H)->OK (G.at r w.heap.size cap none) (S.set r (.row wr' sz els')) (Bn w H) r (.row wr' sz els')):
  Rel P (G.at r w.heap.size cap none) (S.set r (.row wr' sz els')) (Bn w H)/\Tr G S w (G.at r w.heap.size cap none) (S.set r (.row wr' sz els')) (Bn w H)/\BL G S w (G.at r w.heap.size cap none) (S.set r (.row wr' sz els')) (Bn w H):=by
 have M:=AZ A;have m:∀g,g≠r->(S.set r (.row wr' sz els'))[g]?=S[g]?:=λg h=>by simp[nt (le h)]
 have Df:(S.set r (.row wr' sz els'))[r]?=some (.row wr' sz els'):=by simp[M]
 have L:BL G S w (G.at r w.heap.size cap none) (S.set r (.row wr' sz els')) (Bn w H):=by
  refine⟨λ_ h=>h,λb hb=>DU (R.JY b hb),by simp,λg N B C=>?_,λg N v=>?_⟩
  .by_cases e:g=r
   .subst e;have q:B=els'.length:=by simpa[lenOf,Df]using C.symm
    exact⟨els.length,by simp[lenOf,A],by omega,λe=>by omega⟩
   .have:lenOf (S.set r (.row wr' sz els')) g=lenOf S g:=by simp[lenOf,m g e]
    exact⟨B,by rw[<-this];exact C,br _,λ_=>⟨by simp[Gh.at,e],by simp[Gh.at,e],by simp[Gh.at,e],.inl (by simp[C0,m g e])⟩⟩
  .by_cases e:g=r
   .subst e;simp[Bb,Df]at v
   .exact⟨by simp[Bb,m g e]at v;exact v,by simp[Gh.at,e]⟩
 have i:∀b,Fy (G.at r w.heap.size cap none) (S.set r (.row wr' sz els')) b->(∃g x,g≠r/\S[g]?=some x/\BQ G g x=true/\b=G.B3 g)\/b=w.heap.size:=by
  rintro b ⟨g,x,h1,k,t⟩;by_cases e:g=r
  .right;rw[t,e];simp[Gh.at]
  .left;rw[m g e]at h1;rw[En e]at k;exact⟨g,x,e,h1,k,by rw[t];simp[Gh.at,e]⟩
 have j:∀b,Fy (G.at r w.heap.size cap none) (S.set r (.row wr' sz els')) b->Fy G S b\/b=w.heap.size:=λb hb=>by
  rcases i b hb with⟨g,x,_,h1,k,t⟩|h
  .exact .inl ⟨g,x,h1,k,t⟩
  .exact .inr h
 refine⟨⟨R.GQ.later L,λg x s=>?_,λr1 r2 E F h1 k o1 u z=>?_,λb hb J=>?_,λb hb=>?_,λb hb=>?_⟩,⟨by simp,λ_ h=>h,λb hb _=>DU hb,λb hb=>?_,λb hb=>.inl hb,rfl,rfl⟩,L⟩
 .by_cases e:g=r
  .subst e;rw[Df]at s;cases s;exact K L
  .rw[m g e]at s;exact(R.DG g x s).later L (λQ=>DU (R.HL _ ⟨g,x,s,Q,rfl⟩)) (by simp[Gh.at,e]) (by simp[Gh.at,e]) (by simp[Gh.at,e])
 .by_cases q:r1=r
  .by_cases o:r2=r
   .omega
   .rw[m r2 o]at k;rw[En o]at u;have:=R.HL _ ⟨r2,F,k,u,rfl⟩;simp[Gh.at,q,o]at z;omega
  .rw[m r1 q]at h1;rw[En q]at o1;by_cases o:r2=r
   .have:=R.HL _ ⟨r1,E,h1,o1,rfl⟩;simp[Gh.at,q,o]at z;omega
   .rw[m r2 o]at k;rw[En o]at u;exact R.inj r1 r2 E F h1 k o1 u (by simpa[Gh.at,q,o]using z)
 .rcases j b hb with h|h
  .exact R.nI b h J
  .have:=R.JY b J;omega
 .have:=R.JY b hb;simp;omega
 .rcases j b hb with h|h
  .have:=R.HL b h;simp;omega
  .simp[h]
 .rcases j b hb with h|h
  .exact .inl h
  .exact .inr (by omega)
theorem Rel.MS{P:Program}{G:Gh}{S:Sg}{w:World}(R:Rel P G S w)(sz:Nat)(xs:List D)(a:Option Addr)(A:xs.length<=maxLen)(h:CD G.I w (.sl xs) (.slice a xs.length xs.length)):
  Rel P (G.at S.length 0 0 (some a)) (S++[.row false sz (xs.map .d)]) w/\Tr G S w (G.at S.length 0 0 (some a)) (S++[.row false sz (xs.map .d)]) w/\BL G S w (G.at S.length 0 0 (some a)) (S++[.row false sz (xs.map .d)]) w:=by
 have L:BL G S w (G.at S.length 0 0 (some a)) (S++[.row false sz (xs.map .d)]) w:=BL.add _ _ _ _ (λk _=>rfl);have Hy:∀r x,(S++[O.row false sz (xs.map .d)])[r]?=some x->r≠S.length->S[r]?=some x/\r<S.length:=λr x m J=>by
  have h1:=AZ m;have g:r<S.length:=by simp at h1;omega
  exact⟨by simpa[acI,g]using m,g⟩
 have i:∀b,Fy (G.at S.length 0 0 (some a)) (S++[.row false sz (xs.map .d)]) b->∃r x,r≠S.length/\S[r]?=some x/\BQ G r x=true/\b=G.B3 r:=by
  rintro b ⟨r,x,h1,g,o⟩;by_cases e:r=S.length
  .subst e;have:x=.row false sz (xs.map .d):=by simp at h1;exact h1.symm
   subst this;simp[BQ,Gh.at]at g
  .obtain⟨q,_⟩:=Hy r x h1 e;rw[En e]at g;exact⟨r,x,e,q,g,by rw[o];simp[Gh.at,e]⟩
 have j:∀b,Fy (G.at S.length 0 0 (some a)) (S++[.row false sz (xs.map .d)]) b->Fy G S b:=λb hb=>by
  obtain⟨r,x,_,h1,g,o⟩:=i b hb;exact⟨r,x,h1,g,o⟩
 refine⟨⟨R.GQ.later L,λr x m=>?_,λr1 r2 s t h1 g o1 u B=>?_,λb hb=>R.nI b (j b hb),R.JY,λb hb=>R.HL b (j b hb)⟩,⟨br _,λ_ h=>h,λ_ _ _=>rfl,λb hb=>.inl (j b hb),λb hb=>.inl hb,rfl,rfl⟩,L⟩
 .by_cases e:r=S.length
  .subst e;have:x=.row false sz (xs.map .d):=by simp at m;exact m.symm
   subst this;have C:(G.at S.length 0 0 (some a)).BB S.length=some a:=by simp[Gh.at]
   simp only[OK,C];refine⟨trivial,by simpa using A,xs,rfl,h⟩
  .obtain⟨q,_⟩:=Hy r x m e;exact(R.DG r x q).later L (λK=>rfl) (by simp[Gh.at,e]) (by simp[Gh.at,e]) (by simp[Gh.at,e])
 .have key:∀r x,(S++[O.row false sz (xs.map .d)])[r]?=some x->BQ (G.at S.length 0 0 (some a)) r x=true->r≠S.length:=λr x m E e=>by
   subst e;have:x=.row false sz (xs.map .d):=by simp at m;exact m.symm
   subst this;simp[BQ,Gh.at]at E
  have v:=key r1 s h1 o1;have z:=key r2 t g u;obtain⟨F,_⟩:=Hy r1 s h1 v;obtain⟨H,_⟩:=Hy r2 t g z;rw[En v]at o1;rw[En z]at u;exact R.inj r1 r2 s t F H o1 u (by simpa[Gh.at,v,z]using B)
theorem Q6(g:Nat):∀(r c:Nat),Builtin.growBy g r c<=max c (g+(g+768) / 4)
 |0,c=>by simp[Builtin.growBy];omega
 |r+1,c=>by
  simp[Builtin.growBy];split
  .omega
  .have:=Q6 g r (c+(c+768) / 4);omega
theorem Pe{need cap:Nat}(h:cap<need):Builtin.nextslicecap need cap<=2 * need+768:=by
 unfold Builtin.nextslicecap;split
 .omega
 .split
  .omega
  .have:=Q6 need 4 cap;omega
abbrev adr:=@List.getElem?_toArray
abbrev of:=@List.getElem?_cons_succ
abbrev Ot:=@Nat.mul_le_mul
section
variable {P:Program} {n:Nat} {o:Oper} {tm:Tm} {S S':Sg} {v:V}
def Am(P:Program)(T:TypeId):Option Nat:=(ti P T).map (·.bytes)
theorem Pw{w:World}{C xT E ty:TypeId}{e:TI}{z:Value}{base:Option Addr}{m cap k:Nat}{j:Value}{xs F:Array Value}
  (hs:As P C=some E) (G:ti P E=some e) (Z:e.zero=some z) (_:z.cells.size=e.size) (X:∀d,P.underlying xT=some d->tk d≠.other->(∀k,d≠.int k))
  (L:∃d,P.underlying xT=some d/\tk d≠.other)
  (u:∀h,(Builtin.lenOf j).run P h=.ok k h) (q:∀h,h.heap=w.heap->(Builtin.firstCells e.size k j).run P h=.ok F h) (_:F.size=k * e.size)
  (A:∀h,h.heap=w.heap->(Builtin.firstCells e.size m (.slice base m cap)).run P h=.ok xs h) (_:xs.size=m * e.size) (hb:m+k<=2 ^ 30) (x7:e.bytes<=65536) (_:m<=cap):
  (m+k<=cap/\(Builtin.append_ #[C,xT] ty #[.slice base m cap,j]).run P w=
   ((match base with|some a=>storeCells (a.add (m * e.size)) F.toList|none=>pure ()).run P w).andThen λ_ h=>.ok (.slice base (m+k) cap) h)\/(cap<m+k/\∃H J,m+k<=H/\H<=maxLen/\J.heap=w.heap/\J.os=w.os/\J.output=w.output/\(Builtin.append_ #[C,xT] ty #[.slice base m cap,j]).run P w=
    .ok (.slice (some ⟨w.heap.size,0,none⟩) (m+k) H) (Bn J (.cells (xs++F++Builtin.zeroCells z.cells (H - (m+k))) E (0,0)))):=by
 obtain⟨t,t1,t2⟩:=BJ hs;obtain⟨d,hd,M⟩:=An t1 w;have N:d=.slice E:=by rw[t2]at M;cases d<;>simp[tk]at M⊢;exact M
 subst N;obtain⟨K,s,B⟩:=L;have Q:(match K with|.int _=>true|_=>false)=false:=by
  cases K<;>first|rfl|exact absurd rfl (X _ s B _)
 have R:∀w,(underlying xT).run P w=.ok K w:=λw=>by simp[underlying,s]
 have vr:=Bi G;obtain⟨i,i1,i2,i3,i4⟩:=Ds G w;have wJ:(Builtin.append_ #[C,xT] ty #[.slice base m cap,j]).run P w=
   ((if m+k<=cap then do
     let new<-Builtin.firstCells e.size k j
     if let some a:=base then storeCells (a.add (m * e.size)) new.toList
     pure (.slice base (m+k) cap)
    else do
     if((m+k:Nat):Int)>IntKind.i64.max/\(false\/(<-typeInfo E).bytes=0)then runtimePanic (.error "growslice: len out of range")
     if Builtin.nextslicecap (m+k) cap * (<-typeInfo E).bytes>2 ^ 48 then(if false then runtimePanic (.error "growslice: len out of range")else do
      if !(<-Builtin.mayShare e.size m k base j)then mark .noRoom
      unsupported (.resourceLimit "append: a slice or a string whose bytes no memory bears"))
     let g<-choose (.appendCap (m+k) cap E)
     askRoom (g * (<-typeInfo E).bytes)
     let Hy<-Builtin.firstCells e.size m (.slice base m cap)
     let new<-Builtin.firstCells e.size k j
     let rest:=Builtin.zeroCells (<-zeroValue E).cells (g - (m+k))
     pure (.slice (some (<-newRow E (Hy++new++rest))) (m+k) g):Sem Value)).run P w:=by
  unfold Builtin.append_;simp only[adr,ab5,of,gI,hd,ge,vr,R];cases K<;>first|exact absurd rfl (X _ s B _)|(simp only[gI,l6,ge,lh,fc,u];rfl)
 rw[wJ];by_cases T:m+k<=cap
 .left;refine⟨T,?_⟩;simp[ap T,q w rfl];cases base<;>simp
 .right;refine⟨by omega,?_⟩;have h1:¬(((m+k:Nat):Int)>IntKind.i64.max/\(false=true\/i.bytes=0)):=by
   have:IntKind.i64.max=9223372036854775807:=by decide
   omega
  have h2:¬(Builtin.nextslicecap (m+k) cap * i.bytes>2 ^ 48):=by
   have h3:=Pe (need:=m+k) (cap:=cap) (by omega);have h4:Builtin.nextslicecap (m+k) cap * i.bytes<=(2 * (m+k)+768) * 65536:=Ot h3 (by omega);omega
  have ze:(Question.appendCap (m+k) cap E).forced=false:=rfl;refine⟨(Question.appendCap (m+k) cap E).cut (w.tape w.drawn (.appendCap (m+k) cap E)),{w with drawn:=w.drawn+1},?_,?_,rfl,rfl,rfl,?_⟩
  .simp[Question.cut]
  .simp only[Question.cut,maxLen];have:w.tape w.drawn (Question.appendCap (m+k) cap E) % (2 ^ 63 - (m+k))<2 ^ 63 - (m+k):=gc _ (by omega);omega
  .have yj:=q {w with drawn:=w.drawn+1} rfl;have U:=A {w with drawn:=w.drawn+1} rfl;obtain⟨Y,W,_,i3',_⟩:=Ds G {w with drawn:=w.drawn+1};simp only[ao T,gI,i1,ge,Sem.run_ite,ao h2,l6,run_choose,ze,lh,fc,W,run_askRoom,U,yj,EH G _ Z];have ya:¬(9223372036854775807<(m:Int)+k/\i.bytes=0):=by omega
   simp[newRow,Bn];rw[ao ya];rfl
end
abbrev abX:=@Array.getElem?_append_left
abbrev ab6:=@List.length_eq_zero_iff
abbrev ad3:=@Nat.le_of_eq
abbrev X7:=@Array.size_append
abbrev acp:=@List.ext_getElem?
abbrev j0:=@List.length_nil
abbrev xl:=@List.append_nil
abbrev adh:=@Bool.not_true
abbrev PP:=@Bool.or_false
section
variable {P:Program} {n:Nat} {o:Oper} {tm:Tm} {S S':Sg} {v:V}
def II(S:Sg)(sz:Nat)(x:V)(g:List V):Sg:=
 match x with
 |.full i=>S++[.row (!g.isEmpty) sz (i.map .d++g)]
 |.row r _=>match S[r]? with
  |some (.row j sz h)=>S.set r (.row (j||!g.isEmpty) sz (h++g))
  |_=>S
 |_=>S
def Uq(S:Sg)(x:V)(g:List V):V:=
 match x with
 |.full h=>.row S.length (h.length+g.length)
 |.row r m=>.row r (m+g.length)
 |_=>.any
def VF(S:Sg)(sz:Nat)(x:V)(h:List V):Prop:=
 Ah sz h/\match x with
 |.full j=>Ah sz (j.map .d)/\j.length+h.length<=2 ^ 30
 |.row r m=>match S[r]? with
  |some (.row _ i g)=>g.length=m/\i=sz/\Ah sz g/\m+h.length<=2 ^ 30
  |_=>False
 |_=>False
theorem aV.append{G:Gh}{w:World}{sz:Nat}{xs k:List V}{us vs:List Value}{c d rest:Array Value}(h:aV G S w sz xs us c 0)(g:aV G S w sz k vs d 0)(s:c.size=xs.length * sz)(t:d.size=k.length * sz):
  aV G S w sz (xs++k) (us++vs) (c++d++rest) 0:=by
 refine⟨by simp[h.len,g.len],λi hi z=>?_,λi hi j hj=>?_⟩
 .by_cases e:i<xs.length
  .rw[lg e,lg (by rw[h.len];exact e)];exact h.cv i e (by rw[h.len];exact e)
  .rw[rg (by omega),rg (by rw[h.len];omega)];simp[h.len];have m:i - xs.length<k.length:=by simp at hi;omega
   exact g.cv (i - xs.length) m (by rw[g.len];exact m)
 .rw[va];by_cases e:i<xs.length
  .rw[lg (by rw[h.len];exact e)];have q:i * sz+j<c.size:=by rw[s];exact FL e hj
   rw[Array.append_assoc,abX q];simpa using h.at_ i (by rw[h.len];exact e) j hj
  .rw[rg (by rw[h.len];omega)];simp only[h.len];have m:i - xs.length<k.length:=by simp[h.len,g.len]at hi;omega
   have u:i * sz+j=c.size+((i - xs.length) * sz+j):=by
    rw[s];have:i * sz=xs.length * sz+(i - xs.length) * sz:=by rw[<-nc];congr 1;omega
    omega
   have q:(i - xs.length) * sz+j<d.size:=by rw[t];exact FL m hj
   rw[u,Array.append_assoc,Array.getElem?_append_right (by omega),Nat.add_sub_cancel_left,abX q];simpa using g.at_ (i - xs.length) (by rw[g.len];exact m) j hj
theorem aV.later{G:Gh}{w:World}{j:Gh}{w':World}(L:BL G S w j S' w'){sz k:Nat}{m:List V}{us:List Value}{c:Array Value}(h:aV G S w sz m us c k):aV j S' w' sz m us c k:=
 ⟨h.len,λi hi g=>⟨(h.cv i hi g).1.later L,(h.cv i hi g).2.1,(h.cv i hi g).2.2⟩,h.at_⟩
theorem aV.rowAt{G:Gh}{w:World}{sz:Nat}{g:List V}{us:List Value}{c:Array Value}(h:aV G S w sz g us c 0):Oo G S w sz g c 0:=λi hi=>by
 have k:i<us.length:=by rw[h.len];exact hi
 obtain⟨h1,m,q⟩:=h.cv i hi k;exact⟨us[i],h1,m,q,λj hj=>by have:=h.at_ i k j hj;simpa using this⟩
theorem Eh(z:Array Value)(n:Nat):(Builtin.zeroCells z n).size=n * z.size:=by simp[Builtin.zeroCells]
theorem YE{c:Call}{sT xT E:TypeId}{x y:gs}{e:TI}{z:Value}{s:List V}(ho:o.op=.call c)(hc:c.callee=.builtin .append)(vl:c.args=#[x,y])(hT:c.argTypes=#[sT,xT])
  (hx:need (ev tm x)) (hy:need (ev tm y)) (hs:As P sT=some E) (hxT:(As P xT).isSome=true) (he:ti P E=some e) (hz:e.zero=some z) (zV:z.cells.size=e.size) (x7:e.bytes<=65536)
  (hsrc:IC S (strip (ev tm y))=some s) (Z:VF S e.size (strip (ev tm x)) s):
  Cf P n o tm S (Uq S (strip (ev tm x)) s) (II S e.size (strip (ev tm x)) s):=.val λG w a st=>by
 have h1:=(BV st x).strip hx;have h2:=(BV st y).strip hy;obtain⟨hys,Z⟩:=Z;obtain⟨vs,M,l1,l2,J,N⟩:=pH st.rel h2 hsrc hys;obtain⟨F,hF⟩:=jw.1 hxT;obtain⟨tx,tx1,tx2⟩:=BJ hF;obtain⟨ix,dx,ix1,ix2,_,_,_,ix3⟩:=I4 tx1;have hdx:dx=.slice F:=by rw[tx2]at ix3;cases dx<;>simp[tk]at ix3⊢;exact ix3
 subst hdx;have hxk:∀d,P.underlying xT=some d->tk d≠.other->∀k,d≠.int k:=λd hd _ k=>by rw[ix2]at hd;cases hd;simp
 have hxt:∃d,P.underlying xT=some d/\tk d≠.other:=⟨_,ix2,by simp[tk]⟩;have wj:(execOp a.eval o).run P w=((Builtin.append_ #[sT,xT] o.type #[a.eval x,a.eval y]).run P w).andThen λv w'=>.ok (.value v) w':=by
  simp[execOp,ho,resolve,hc,vl,hT,invoke,builtin]
 generalize strip (ev tm x)=X at *;split at Z
 .
  rename_i K;obtain⟨hxs,hb⟩:=Z;generalize hbx:a.eval x=B at h1 wj;cases h1 with
  |full _ base xa=>
   obtain⟨us,c0,m1,m2,m3,m4⟩:=HM (P:=P) (S:=S) xa hxs;rcases Pw (P:=P) (w:=w) (ty:=o.type) (base:=base) (m:=K.length) (cap:=K.length) hs he hz zV hxk hxt l1 l2 J m2 m3 hb x7 (br _)with⟨v7,vm⟩|⟨hgr,A,W,hnc,hncm,e1,e2,e3,vm⟩
   .have hk0:s.length=0:=by omega
    have Q:s=[]:=ab6.1 hk0;subst Q;have R:M.toList=[]:=by
     have:M.size=0:=by rw[J];simp
     exact ab6.1 (by simpa using this)
    have hl:K.length<=maxLen:=by
     simp[maxLen];have:K.length<=2 ^ 30:=by simpa using hb
     omega
    obtain⟨r1,r2,Y⟩:=st.rel.MS e.size K base hl xa;refine⟨.slice base K.length K.length,G.at S.length 0 0 (some base),w,?_,?_,by simpa[II]using r1,by simpa[II]using r2,by simpa[II]using Y⟩
    .rw[wj,vm];cases base<;>simp[R,storeCells]
    .simp[Uq,II];refine .row _ _ _ rfl (by simp) λm' wO=>?_;have:m'=K.length:=by simpa[lenOf]using wO.symm
     subst this;exact⟨by simp,λ_=>by simp[Gh.BZ,Gh.at]⟩
   .obtain⟨q1,q2,q3⟩:=st.rel.drawn e1 e2 e3;have zf:=(m4.later q3).append (N.later q3) (by simpa using m3) J (rest:=Builtin.zeroCells z.cells (A - (K.length+s.length)));obtain⟨r1,r2,Y⟩:=q1.add A (.row (!s.isEmpty) e.size (K.map .d++s)) (.cells (c0++M++Builtin.zeroCells z.cells (A - (K.length+s.length))) E (0,0)) (λL=>by
     have C:(G.at S.length W.heap.size A none).BB S.length=none:=by simp[Gh.at]
     have yk:(G.at S.length W.heap.size A none).B3 S.length=W.heap.size:=by simp[Gh.at]
     have zg:(G.at S.length W.heap.size A none).cap S.length=(A,0):=by simp[Gh.at]
     simp only[OK,C,yk,zg];refine⟨_,E,D2,?_,by simp;omega,by simp[maxLen];omega,(zf.later L).rowAt⟩;refine ad3 (Eq.symm ?_);simp[m3,J,Eh,zV];rw[<-nc,<-nc];congr 1;omega)
    rw[e1]at r1 r2 Y;have r2':=q2.trans r2;have r3':=q3.trans Y;refine⟨_,_,_,by rw[wj,vm];rfl,?_,by simpa[II]using r1,by simpa[II]using r2',by simpa[II]using r3'⟩;simp[Uq,II];refine .row _ _ _ rfl (by simp) λm' wO=>?_;have:m'=K.length+s.length:=by simpa[lenOf]using wO.symm
    subst this;exact⟨br _,λ_=>by simp[Gh.BZ,Gh.at]⟩
 .
  rename_i r m;split at Z
  .rename_i wr sz' g t;obtain⟨hm,vr,hels,hb⟩:=Z;subst vr;have wh:a.eval x=G.BZ r m/\r<S.length:=by
    cases h1 with|row _ _ _ _ vc h=>exact⟨(h m (by simp[lenOf,t,hm])).2 rfl,vc⟩
   obtain⟨wh,vc⟩:=wh;subst hm;obtain⟨us,c0,m1,m2,m3,m4⟩:=Ww st.rel t hels;have vp:=st.rel.DG r _ t;have hbase:∃base cap,G.BZ r g.length=.slice base g.length cap/\g.length<=cap:=by
    unfold Gh.BZ;simp only[OK]at vp;cases C:G.BB r with
    |none=>
     simp only[C]at vp;obtain⟨c,T,g1,g2,g3,g4,g5⟩:=vp;exact⟨_,_,rfl,g3⟩
    |some b=>exact⟨_,_,rfl,br _⟩
   obtain⟨base,cap,U,hmc⟩:=hbase;rw[U]at m2;have zh:=wj;rw[wh,U]at zh;have Df:∀w2:O,(S.set r w2)[r]?=some w2:=λw2=>by simp[vc]
   rcases Pw (P:=P) (w:=w) (ty:=o.type) (base:=base) (m:=g.length) (cap:=cap) hs he hz zV hxk hxt l1 l2 J m2 m3 hb x7 hmc with⟨v7,vm⟩|⟨hgr,A,W,hnc,hncm,e1,e2,e3,vm⟩
   .cases C:G.BB r with
    |some b=>
     have zW:base=b/\cap=g.length:=by
      have:=U;simp only[Gh.BZ,C,Value.slice.injEq]at this;exact⟨this.1.symm,this.2.2.symm⟩
     obtain⟨rfl,rfl⟩:=zW;have hk0:s.length=0:=by omega
     have Q:s=[]:=ab6.1 hk0;subst Q;have R:M.toList=[]:=by
      have:M.size=0:=by rw[J];simp
      exact ab6.1 (by simpa using this)
     have hS:S.set r (.row wr e.size g)=S:=by
      apply acp;intro i;by_cases hi:i=r
      .subst hi;rw[Df,t]
      .rw[nt (le hi)]
     refine⟨.slice base g.length g.length,G,w,?_,?_,?_⟩
     .rw[zh,vm];cases base<;>simp[R,storeCells]
     .simp[Uq,II,t];simp[hS];rw[<-U,<-wh];exact h1
     .simp[II,t,List.isEmpty_nil,hS];exact⟨st.rel,yL _ _ _,z0 _ _ _⟩
    |none=>
     have zW:base=some ⟨G.B3 r,(G.cap r).2,none⟩/\cap=(G.cap r).1:=by
      have:=U;simp only[Gh.BZ,C,Value.slice.injEq]at this;exact⟨this.1.symm,this.2.2.symm⟩
     obtain⟨rfl,rfl⟩:=zW;simp only[OK,C]at vp;obtain⟨c,T0,g1,g2,g3,g4,g5⟩:=vp;have hcz:(G.cap r).2+(g.length * e.size+M.size)<=c.size:=by
      refine ke ?_ g2;rw[J,<-nc];exact Nat.add_le_add_left (wT _ v7) _
     have hones:∀v∈M.toList,one v=true:=λv hv'=>by
      obtain⟨q,hq,rfl⟩:=jp.1 hv';have x9:q<s.length * e.size:=by rw[<-J];simpa using hq
      have hsp:0<e.size:=by
       rcases Nat.eq_zero_or_pos e.size with h0|h0
       .rw[h0]at x9;simp at x9
       .exact h0
      have hi:q / e.size<vs.length:=by rw[N.len];exact Nat.div_lt_of_lt_mul (by rw[R1];exact x9)
      have hj:q % e.size<e.size:=gc _ hsp;have hqe:q / e.size * e.size+q % e.size=q:=by rw[R1];exact Nat.div_add_mod q e.size
      have:=N.at_ (q / e.size) hi (q % e.size) hj;rw[va,hqe]at this;obtain⟨_,n1,n2⟩:=N.cv (q / e.size) (by rw[<-N.len];exact hi) hi;rw[i9 (show q<M.size by rw[J];exact x9),i9 (by omega)]at this;simp at this;simp;rw[this];exact n2 _ (by simp)
     have vn:=Jo (P:=P) (b:=G.B3 r) (off:=(G.cap r).2+g.length * e.size) (T:=T0) M.toList 0 w c g1 (by simp;omega) hones;simp at vn;have own1:BQ G r (.row wr e.size g)=true:=by simp[BQ,C]
     have own2:BQ G r (.row (wr||!s.isEmpty) e.size (g++s))=true:=by simp[BQ,C]
     have hup:=st.rel.update t own1 own2 (H:=.cells (DA c ((G.cap r).2+g.length * e.size) M.toList) T0 (0,0)) (λn' wg=>by
       have:n'=g.length+s.length:=by simpa[lenOf,Df]using wg.symm
       exact⟨g.length,by simp[lenOf,t],by omega,λ_=>.inl (by simp[C0,t];simp[vc])⟩) (λhm=>by simp[Bb,Df]at hm) (λL=>by
       simp only[OK,C];refine⟨_,T0,GP (FG g1),by rw[Ea];exact g2,by simpa using v7,by simp[maxLen];omega,λi hi=>?_⟩;by_cases h3:i<g.length
       .obtain⟨u,u1,u2,u3,u4⟩:=g5 i h3;refine⟨u,by rw[lg h3];exact u1.later L,u2,u3,λj hj=>?_⟩;rw[EL _ _ _ _ (by simp;omega),ao (by have:=FL h3 hj;omega)];exact u4 j hj
       .have yi:i - g.length<s.length:=by simp at hi;omega
        obtain⟨n1,n2,n3⟩:=N.cv (i - g.length) yi (by rw[N.len];exact yi);refine⟨vs[i - g.length]'(by rw[N.len];exact yi),by rw[rg (by omega)];exact n1.later L,n2,n3,λj hj=>?_⟩;have vM:=FL yi hj;have e2:i * e.size+j=g.length * e.size+((i - g.length) * e.size+j):=by
         have:i * e.size=g.length * e.size+(i - g.length) * e.size:=by rw[<-nc];congr 1;omega
         omega
        rw[EL _ _ _ _ (by simp;omega),ap (by simp[J];omega)];have:=N.at_ (i - g.length) (by rw[N.len];exact yi) j hj;rw[<-this];simp;congr 1;omega)
     obtain⟨r1,r2,Y⟩:=hup;refine⟨.slice (some ⟨G.B3 r,(G.cap r).2,none⟩) (g.length+s.length) (G.cap r).1,G,_,?_,?_,by simpa[II,t]using r1,by simpa[II,t]using r2,by simpa[II,t]using Y⟩
     .rw[zh,vm];simp[Gf,vn]
     .simp[Uq,II,t];refine .row _ _ _ rfl (by simpa using vc) λm' wO=>?_;have:m'=g.length+s.length:=by simpa[lenOf,Df]using wO.symm
      subst this;exact⟨br _,λ_=>by simp[Gh.BZ,C]⟩
   .
    have hyne:0<s.length:=by omega
    obtain⟨q1,q2,q3⟩:=st.rel.drawn e1 e2 e3;have zf:=(m4.later q3).append (N.later q3) m3 J (rest:=Builtin.zeroCells z.cells (A - (g.length+s.length)));obtain⟨r1,r2,Y⟩:=q1.pt (wr':=wr||!s.isEmpty) (els':=g++s) (cap:=A) (H:=.cells (c0++M++Builtin.zeroCells z.cells (A - (g.length+s.length))) E (0,0)) t (by simp;omega) (λL=>by
     have C:(G.at r W.heap.size A none).BB r=none:=by simp[Gh.at]
     have yk:(G.at r W.heap.size A none).B3 r=W.heap.size:=by simp[Gh.at]
     have zg:(G.at r W.heap.size A none).cap r=(A,0):=by simp[Gh.at]
     simp only[OK,C,yk,zg];refine⟨_,E,D2,?_,by simp;omega,by simp[maxLen];omega,(zf.later L).rowAt⟩;refine ad3 (Eq.symm ?_);simp[m3,J,Eh,zV];rw[<-nc,<-nc];congr 1;omega)
    rw[e1]at r1 r2 Y;have r2':=q2.trans r2;have r3':=q3.trans Y;refine⟨_,_,_,by rw[zh,vm];rfl,?_,by simpa[II,t]using r1,by simpa[II,t]using r2',by simpa[II,t]using r3'⟩;simp[Uq,II,t];refine .row _ _ _ rfl (by simpa using vc) λm' wO=>?_;have:m'=g.length+s.length:=by simpa[lenOf,Df]using wO.symm
    subst this;exact⟨br _,λ_=>by simp[Gh.BZ,Gh.at]⟩
  .exact Z.elim
 .exact Z.elim
end
abbrev cq:=@Nat.zero_le
abbrev vb:=@Int.le_refl
abbrev ii:=@Int.toNat_natCast
abbrev adL:=@Nat.mul_add_mod
abbrev qr:=@Nat.mod_eq_of_lt
section
variable {P:Program} {n:Nat} {o:Oper} {tm:Tm} {S S':Sg} {v:V}
def sm(x:V)(l h:Nat)(full:Bool):V:=
 match x with
 |.d (.str s)=>.d (.str (s.extract l h))
 |.d (.sl g)=>if full then .full ((g.take h).drop l)else .d (.sl ((g.take h).drop l))
 |.full g=>if full then .full ((g.take h).drop l)else .d (.sl ((g.take h).drop l))
 |_=>.any
theorem CD.sub{I:Nat->Prop}{w:World}{xs:List D}{b:Option Addr}{len cap:Nat}(H:CD I w (.sl xs) (.slice b len cap)){l h m sz:Nat}(N:l<=h)(C:h<=xs.length)(Q:h<=m)
  (hs:l=0\/l=h\/((BN (xs.getD l (.bool false))).length=sz/\CZ.oneD (xs.getD l (.bool false))=true)):
  CD I w (.sl ((xs.take h).drop l)) (.slice (if m=l then b else b.map (·.add (l * sz))) (h - l) (m - l)):=by
 have g:((xs.take h).drop l).length=h - l:=by simp;omega
 by_cases z:l=h
 .subst z;have:(xs.take l).drop l=[]:=ab6.1 (by simp;try omega);rw[this,ad2];exact .nil _ _
 .cases H with
  |nil=>simp at C;omega
  |sl k xs b off cap E F G R h1 A=>
   have s:m≠l:=by omega
   have q:off+l * sz=off+l * k:=by
    rcases hs with e|e|⟨J,B⟩
    .subst e;simp
    .exact absurd e z
    .have t:l<xs.length:=by omega
     have K:xs.getD l (.bool false)=xs[l]:=by simp[List.getD,t]
     rw[K]at J B;obtain⟨c1,_⟩:=(h1 l t).cells B;have:=(A l t).1;have:sz=k:=by omega
     rw[this]
   simp only[ao s,acK,Gf];rw[q];have u:=g;rw[<-g];refine .sl k _ b _ _ (λi=>E (l+i)) F (by omega) (by omega) (λi hi=>?_) (λi hi=>?_)
   .have:((xs.take h).drop l)[i]=xs[l+i]'(by omega):=by simp
    rw[this];exact h1 _ _
   .obtain⟨L,M⟩:=A (l+i) (by omega);refine⟨L,λj hj=>?_⟩;rw[<-M j hj];congr 2;rw[nc];omega
def EN(tm:Tm)(x:Option gs):V:=match x with|some y=>strip (ev tm y)|none=>.d (.int .i64 0)
def Fa(tm:Tm)(x:Option gs):Prop:=match x with|some y=>need (ev tm y)|none=>True
theorem CE{G:Gh}{w:World}{a:Act}(st:St P n G S w a tm){y:gs}{k:IntKind}{i:Int}(g:need (ev tm y))(j:strip (ev tm y)=.d (.int k i)):a.eval y=.int k i:=by
 have h:=(BV st y).strip g;rw[j]at h;exact h.int
theorem GC{G:Gh}{w:World}{a:Act}(st:St P n G S w a tm){y:gs}{k:IntKind}{i:Int}(g:need (ev tm y))(j:strip (ev tm y)=.d (.int k i)):IL k i=true:=by
 have h:=(BV st y).strip g;rw[j]at h;exact h.IL
theorem Cm{w:World}{k:IntKind}{i:Int}{y:Nat}{g:BoundsCode}(h0:0<=i)(h1:i<=y):(Instr.sliceBound (.int k i) y g).run P w=.ok i.toNat w:=by
 simp[Instr.sliceBound,asIntOf,h0,h1]
theorem UJ{T:TypeId}{x:gs}{lo hi:Option gs}{s:ByteArray}{kl kh:IntKind}{l h:Int}(F:o.op=.slice T x lo hi none)(H:need (ev tm x))(J:strip (ev tm x)=.d (.str s))
  (K:∃t,ti P T=some t/\t.kind=.str) (j:Fa tm lo) (el:EN tm lo=.d (.int kl l)) (L:Fa tm hi) (M:hi=none->h=s.size) (k:hi≠none->EN tm hi=.d (.int kh h))
  (h0:0<=l) (h1:l<=h) (u:h<=s.size):Cf P n o tm S (.d (.str (s.extract l.toNat h.toNat))) S:=.pure λG w a st=>by
 have A:=(BV st x).strip H;rw[J]at A;obtain⟨m,N⟩:=A.str;obtain⟨t,t1,t2⟩:=K;obtain⟨d,Q,B⟩:=An t1 w;have q:d=.string:=by rw[t2]at B;cases d<;>simp[tk]at B⊢
 subst q;refine⟨.string (s.extract l.toNat h.toNat),?_,.d _ _ (.str _ (by simp;omega))⟩;have hb:(Instr.sliceBounds false s.size s.size (lo.map a.eval) (hi.map a.eval) none).run P w=.ok (l.toNat,h.toNat,s.size) w:=by
  unfold Instr.sliceBounds;have i:∀y,hi=some y->a.eval y=.int kh h:=λy g=>CE st (by simpa[Fa,g]using L) (by have:=k (by simp[g]);simpa[EN,g]using this);have C:∀y,lo=some y->a.eval y=.int kl l:=λy g=>CE st (by simpa[Fa,g]using j) (by simpa[EN,g]using el);have E:lo=none->l=0:=λe=>by subst e;simp[EN]at el;exact el.2.symm
  cases hi with
  |none=>
   have:=M rfl;subst this;cases lo with
   |none=>have:=E rfl;subst this;simp
   |some z=>simp[C z rfl,Cm h0 h1]
  |some y=>
   have R:l<=(h.toNat:Int):=by omega
   cases lo with
   |none=>have:=E rfl;subst this;simp[i y rfl,Cm (show 0<=h by omega) u]
   |some z=>simp[i y rfl,Cm (show 0<=h by omega) u,C z rfl,Cm h0 R]
 simp[execOp,F,Instr.sliceAt,m,Q,Instr.slice,hb]
theorem U9{T E:TypeId}{x:gs}{lo hi g:Option gs}{xs:List D}{kl kh:IntKind}{l h:Int}{e:TI}{t:TI}(ho:o.op=.slice T x lo hi g)(hx:need (ev tm x))
  (B:strip (ev tm x)=.d (.sl xs)\/strip (ev tm x)=.full xs) (hT:ti P T=some t) (hk:t.kind=.slice E) (he:ti P E=some e) (H:Fa tm lo) (el:EN tm lo=.d (.int kl l)) (y7:Fa tm hi)
  (eh:hi=none->h=xs.length) (J:hi≠none->EN tm hi=.d (.int kh h)) (K:Fa tm g) (em:g≠none->hi≠none/\EN tm g=.d (.int kh h))
  (h0:0<=l) (h1:l<=h) (Y:h<=xs.length) (hs:l.toNat=0\/l.toNat=h.toNat\/((BN (xs.getD l.toNat (.bool false))).length=e.size/\CZ.oneD (xs.getD l.toNat (.bool false))=true)):
  Cf P n o tm S (if g.isSome then .full ((xs.take h.toNat).drop l.toNat)else .d (.sl ((xs.take h.toNat).drop l.toNat))) S:=.pure λG w a st=>by
 have C:=(BV st x).strip hx;obtain⟨d,hd,L⟩:=An hT w;have M:d=.slice E:=by rw[hk]at L;cases d<;>simp[tk]at L⊢;exact L
 subst M;have N:∃b cap,a.eval x=.slice b xs.length cap/\xs.length<=cap/\CD G.I w (.sl xs) (.slice b xs.length cap):=by
  generalize a.eval x=X at C;rcases B with B|B<;>rw[B]at C
  .cases C with
   |d _ _ s=>
    cases s with
    |nil b c=>exact⟨b,c,rfl,cq _,.nil b c⟩
    |sl sz xs b off cap vs hI hl s h1 Y=>exact⟨_,_,rfl,s,.sl sz xs b off cap vs hI hl s h1 Y⟩
  .cases C with
   |full _ b s=>exact⟨b,_,rfl,br _,s⟩
 obtain⟨b,cap,wh,zb,N⟩:=N;have j:∀y,hi=some y->a.eval y=.int kh h:=λy i=>CE st (by simpa[Fa,i]using y7) (by have:=J (by simp[i]);simpa[EN,i]using this);have Q:∀y,lo=some y->a.eval y=.int kl l:=λy i=>CE st (by simpa[Fa,i]using H) (by simpa[EN,i]using el);have A:∀y,g=some y->a.eval y=.int kh h:=λy i=>CE st (by simpa[Fa,i]using K) (by have:=(em (by simp[i])).2;simpa[EN,i]using this);have R:lo=none->l=0:=λe=>by subst e;simp[EN]at el;exact el.2.symm
 let m:Nat:=if g.isSome then h.toNat else cap;have hb:(Instr.sliceBounds true xs.length cap (lo.map a.eval) (hi.map a.eval) (g.map a.eval)).run P w=.ok (l.toNat,h.toNat,m) w:=by
  unfold Instr.sliceBounds;have Z:l<=(h.toNat:Int):=by omega
  have F:(h:Int)<=cap:=by omega
  have e6:h<=(h.toNat:Int):=by omega
  have u:(0:Int)<=h:=by omega
  cases g with
  |none=>
   cases hi with
   |none=>
    have:=eh rfl;subst this;cases lo with
    |none=>have:=R rfl;subst this;simp[m]
    |some z=>simp[Q z rfl,Cm h0 h1,m]
   |some y=>
    cases lo with
    |none=>have:=R rfl;subst this;simp[j y rfl,Cm u F,m]
    |some z=>simp[j y rfl,Cm u F,Q z rfl,Cm h0 Z,m]
  |some q=>
   cases hi with
   |none=>exact absurd rfl (em (by simp)).1
   |some y=>
    cases lo with
    |none=>have:=R rfl;subst this;simp[A q rfl,j y rfl,Cm u F,Cm u e6,m]
    |some z=>simp[A q rfl,j y rfl,Cm u F,Cm u e6,Q z rfl,Cm h0 Z,m]
 have U:h.toNat<=m:=by simp only[m];split<;>omega
 have W:=N.sub (l:=l.toNat) (h:=h.toNat) (m:=m) (sz:=e.size) (by omega) (by omega) U hs;refine⟨.slice (if m=l.toNat then b else b.map (·.add (l.toNat * e.size))) (h.toNat - l.toNat) (m - l.toNat),?_,?_⟩
 .simp[execOp,ho,Instr.sliceAt,wh,hd,Instr.slice,hb,Bi he]
 .have k:((xs.take h.toNat).drop l.toNat).length=h.toNat - l.toNat:=by simp;omega
  cases hm:g.isSome with
  |false=>simp only[lh,fc];exact .d _ _ W
  |true=>
   simp only[er];have e1:m=h.toNat:=by simp[m,hm]
   have:m - l.toNat=h.toNat - l.toNat:=by rw[e1]
   rw[this]at W⊢;have:=CV.full (S:=S) _ _ (by rw[k];exact W);rwa [k]at this
theorem Su{T E:TypeId}{x y:gs}{H J:IntKind}{m:Nat}{t e:TI}{z:Value}(R:o.op=.makeSlice T x y)(s:need (ev tm x))(U:need (ev tm y))
  (W:strip (ev tm x)=.d (.int H m)) (X:strip (ev tm y)=.d (.int J m)) (Y:ti P T=some t) (u:t.kind=.slice E) (Z:ti P E=some e) (hz:e.zero=some z) (K:z.cells.size=e.size)
  (A:(At (OC z)||Bw (OC z))=true) (hb:e.bytes<=65536) (hm:m<=2 ^ 30):
  Cf P n o tm S (.row S.length m) (S++[.row true e.size (List.replicate m (OC z))]):=.val λG w a st=>by
 have h1:=CE st s W;have h2:=CE st U X;obtain⟨i1,d1,u1,u2,_,_,_,B⟩:=I4 Y;have C:d1=.slice E:=by rw[u]at B;cases d1<;>simp[tk]at B⊢;exact B
 subst C;obtain⟨M,d2,v1,v2,v3,v4,v5,v6⟩:=I4 Z;have g:(m:Int)<=9223372036854775807:=by omega
 have F:(M.bytes:Int) * (m:Int)<=281474976710656:=by
  have h:e.bytes * m<=65536 * 2 ^ 30:=Ot hb hm;rw[v4];have:((e.bytes * m:Nat):Int)<=281474976710656:=by omega
  rwa [Int.natCast_mul]at this
 have N:=run_make (P:=P) w T E M z u2 v1 (v5.trans hz) H J m m (by omega) (vb _) F g;simp only[ii,v3]at N;obtain⟨r1,r2,r3⟩:=st.rel.add m (.row true e.size (List.replicate m (OC z))) (.cells (madeCells z.cells (m * e.size)) E (0,0)) (λL=>by
  have hv:(G.at S.length w.heap.size m none).BB S.length=none:=by simp[Gh.at]
  have yk:(G.at S.length w.heap.size m none).B3 S.length=w.heap.size:=by simp[Gh.at]
  have zg:(G.at S.length w.heap.size m none).cap S.length=(m,0):=by simp[Gh.at]
  simp only[OK,hv,yk,zg];refine⟨_,E,D2,by rw[size_madeCells,va];exact br _,by simp,by simp[maxLen];omega,λi hi=>?_⟩;have hi:i<m:=by simpa using hi
  have Q:=IJ (G.at S.length w.heap.size m none) (S++[.row true e.size (List.replicate m (OC z))]) (Bn w (.cells (madeCells z.cells (m * e.size)) E (0,0))) z;obtain⟨c1,c2,_⟩:=Q.cells (by simpa using A);refine⟨z,by simpa using Q,K,λx s=>?_,λj hj=>?_⟩
  .obtain⟨k,u,rfl⟩:=EQ.1 s;exact c2 k u
  .have vc:=FL hi hj;have q:(i * e.size+j) % z.cells.size=j:=by rw[K,R1,adL];exact qr hj
   have xe:j<z.cells.size:=by omega
   simp[madeCells,vc,q,xe])
 refine⟨.slice (some ⟨w.heap.size,0,none⟩) m m,_,_,?_,?_,r1,r2,r3⟩
 .simp[execOp,R,h1,h2,N];rfl
 .refine .row _ _ _ rfl (by simp) λm' wO=>?_;have:m'=m:=by simpa[lenOf]using wO.symm
  subst this;exact⟨br _,λ_=>by simp[Gh.BZ,Gh.at]⟩
theorem eE{T:TypeId}{x y:gs}{s:ByteArray}{k:IntKind}{i:Int}{t:TI}(m:o.op=.index T x y)(q:need (ev tm x))(u:need (ev tm y))(z:strip (ev tm x)=.d (.str s))
  (A:strip (ev tm y)=.d (.int k i)) (B:ti P T=some t) (C:t.kind=.str) (h0:0<=i) (h1:i<s.size):Cf P n o tm S (.d (.int .u8 (s.get! i.toNat).toNat)) S:=.pure λG w a st=>by
 have h:=(BV st x).strip q;rw[z]at h;have hi:=CE st u A;obtain⟨d,E,j⟩:=An B w;have g:d=.string:=by rw[C]at j;cases d<;>simp[tk]at j⊢
 subst g;have F:i.toNat<s.size:=by omega
 refine⟨.int .u8 (s.get! i.toNat).toNat,?_,.d _ _ (.int _ _ (by have:=UInt8.toNat_lt (s.get! i.toNat);simp[IL];omega))⟩;have H:s[i.toNat]?=some (s.get! i.toNat):=by
  simp[ByteArray.get!,getElem?_pos,F];rfl
 simp[execOp,m,Instr.index,h.str.1,hi,asIntOf,E,h0,H]
theorem jy{c:Call}{x y:gs}{k:IntKind}{i j:Int}(s:o.op=.call c)(t:c.callee=.builtin .min)(u:c.args=#[x,y])(g:need (ev tm x))(h:need (ev tm y))
  (m:strip (ev tm x)=.d (.int k i)) (q:strip (ev tm y)=.d (.int k j)):Cf P n o tm S (.d (.int k (if j<i then j else i))) S:=.pure λG w a st=>by
 have h1:=CE st g m;have z:=CE st h q;have r1:=GC st g m;have r2:=GC st h q;exact⟨_,by simp[execOp,s,resolve,t,u,invoke,builtin,Builtin.min_,h1,z,Builtin.min2],.d _ _ (.int _ _ (by split<;>assumption))⟩
theorem lp{c:Call}{x y:gs}{k:IntKind}{i j:Int}(s:o.op=.call c)(t:c.callee=.builtin .max)(u:c.args=#[x,y])(g:need (ev tm x))(h:need (ev tm y))
  (m:strip (ev tm x)=.d (.int k i)) (q:strip (ev tm y)=.d (.int k j)):Cf P n o tm S (.d (.int k (if j>i then j else i))) S:=.pure λG w a st=>by
 have h1:=CE st g m;have z:=CE st h q;have r1:=GC st g m;have r2:=GC st h q;exact⟨_,by simp[execOp,s,resolve,t,u,invoke,builtin,Builtin.max_,h1,z,Builtin.max2],.d _ _ (.int _ _ (by split<;>assumption))⟩
theorem kY{c:Call}{x y z:gs}{k:IntKind}{i j l:Int}(u:o.op=.call c)(A:c.callee=.builtin .max)(B:c.args=#[x,y,z])(g:need (ev tm x))(h:need (ev tm y))(m:need (ev tm z))
  (q:strip (ev tm x)=.d (.int k i)) (s:strip (ev tm y)=.d (.int k j)) (t:strip (ev tm z)=.d (.int k l)):
  Cf P n o tm S (.d (.int k (if l>(if j>i then j else i)then l else(if j>i then j else i)))) S:=.pure λG w a st=>by
 have h1:=CE st g q;have C:=CE st h s;have E:=CE st m t;have r1:=GC st g q;have r2:=GC st h s;have F:=GC st m t;exact⟨_,by simp[execOp,u,resolve,A,B,invoke,builtin,Builtin.max_,h1,C,E,Builtin.max2],.d _ _ (.int _ _ (by split<;>(try split)<;>assumption))⟩
theorem kI{c:Call}{x y z:gs}{k:IntKind}{i j l:Int}(u:o.op=.call c)(A:c.callee=.builtin .min)(B:c.args=#[x,y,z])(g:need (ev tm x))(h:need (ev tm y))(m:need (ev tm z))
  (q:strip (ev tm x)=.d (.int k i)) (s:strip (ev tm y)=.d (.int k j)) (t:strip (ev tm z)=.d (.int k l)):
  Cf P n o tm S (.d (.int k (if l<(if j<i then j else i)then l else(if j<i then j else i)))) S:=.pure λG w a st=>by
 have h1:=CE st g q;have C:=CE st h s;have E:=CE st m t;have r1:=GC st g q;have r2:=GC st h s;have F:=GC st m t;exact⟨_,by simp[execOp,u,resolve,A,B,invoke,builtin,Builtin.min_,h1,C,E,Builtin.min2],.d _ _ (.int _ _ (by split<;>(try split)<;>assumption))⟩
theorem VY{T:TypeId}{x:gs}{c:Call}{xs:List D}{t:TI}{E:TypeId}(j:o.op=.call c)(k:c.callee=.builtin .cap)(m:c.args=#[x])(q:c.argTypes=#[T])
  (s:need (ev tm x)) (u:strip (ev tm x)=.full xs) (z:ti P T=some t) (A:t.kind=.slice E):Cf P n o tm S (.d (.int .i64 xs.length)) S:=.pure λG w a st=>by
 have h1:=(BV st x).strip s;rw[u]at h1;obtain⟨d,B,g⟩:=An z w;have i:d=.slice E:=by rw[A]at g;cases d<;>simp[tk]at g⊢;exact g
 subst i;generalize C:a.eval x=X at h1;cases h1 with
 |full _ F h=>
  refine⟨.int .i64 xs.length,?_,.d _ _ (.int _ _ (MZ h.len))⟩;simp[execOp,j,resolve,k,m,q,C,invoke,builtin,Builtin.cap_,B,goInt]
end
end Go.Koi
