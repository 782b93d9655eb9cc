/-
  Part 4 of the proof that the law ChangeRenames of the package koinelaw31 returns true for every input.
-/
import Derived.Test.YtknmpedpidhhbaaGreatDoorK02
set_option maxHeartbeats 64000000
set_option maxRecDepth 100000
namespace Go.Koi
section
variable {P:Program} {n:Nat} {o:Oper} {tm:Tm} {S S':Sg} {v:V}
def ABN(S:Sg)(x:V):Option (List V):=
 match x with
 |.d (.sl ys)=>some (ys.map .d)
 |.full ys=>some (ys.map .d)
 |.row r m=>match S[r]? with
  |some (.row _ _ els)=>if els.length=m then some els else none
  |some (.BJ xs)=>if xs.length=m then some (xs.map .d)else none
  |_=>none
 |_=>none
def Af(sz:Nat)(ys:List V):Prop:=∀y∈ys,(AAD y).length=sz∧(Ar y||AAV y)=true
@[simp] theorem cC(sz:Nat):Af sz []:=fun y h=>by simp at h
@[simp] theorem ZT(sz:Nat)(y:V)(ys:List V):Af sz (y::ys)↔((AAD y).length=sz∧(Ar y||AAV y)=true)∧Af sz ys:=by
 simp[Af]
@[simp] theorem YN(sz:Nat)(xs ys:List V):Af sz (xs++ys)↔Af sz xs∧Af sz ys:=by
 simp only[Af,List.mem_append];exact⟨fun h=>⟨fun y hy=>h y (.inl hy),fun y hy=>h y (.inr hy)⟩,fun h y hy=>hy.elim (h.1 y) (h.2 y)⟩
@[simp] theorem bm{α:Type}(sz:Nat)(f:α→V)(ys:List α):Af sz (ys.map f)↔∀y∈ys,(AAD (f y)).length=sz∧(Ar (f y)||AAV (f y))=true:=by
 simp[Af]
structure TU(G:Gh)(S:Sg)(w:World)(sz:Nat)(ys:List V)(us:List Value)(c:Array Value)(k0:Nat):Prop where
 len:us.length=ys.length
 cv:∀i (h:i<ys.length) (h':i<us.length),CV G S w ys[i] us[i]∧us[i].cells.size=sz∧∀x∈us[i].cells,one x=true
 at_:∀i (h:i<us.length) j,j<sz→c[k0+i * sz+j]?=us[i].cells[j]?
theorem D0{i j sz m:Nat}(hi:i<m)(hj:j<sz):i * sz+j<m * sz:=by
 have:(i+1) * sz≤m * sz:=Nat.mul_le_mul_right _ hi;rw[Nat.add_mul]at this;omega
theorem N6{w:World}{b off sz m:Nat}{us:List Value}(hm:us.length=m)(hs:∀i (h:i<us.length),us[i].cells.size=sz)
  (h:∀i (h:i<us.length) j,j<sz→w.cell? ⟨b,off+i * sz+j,none⟩=us[i].cells[j]?):
  ∃c,(∀w',w'.heap=w.heap→(loadCells ⟨b,off,none⟩ (m * sz)).run P w'=.ok c w')∧c.size=m * sz∧∀i (h:i<us.length) j,j<sz→c[i * sz+j]?=us[i].cells[j]?:=by
 have key:∀k,k<m * sz→∃x,w.cell? ⟨b,off+k,none⟩=some x:=fun k hk=>by
  have hsz:0<sz:=by
   rcases Nat.eq_zero_or_pos sz with h0|h0
   ·subst h0;simp at hk
   ·exact h0
  have hi:k / sz<us.length:=by rw[hm];exact Nat.div_lt_of_lt_mul (by rw[Nat.mul_comm];exact hk)
  have hj:k % sz<sz:=Nat.mod_lt _ hsz;have e:k / sz * sz+k % sz=k:=by rw[Nat.mul_comm];exact Nat.div_add_mod k sz
  have:=h (k / sz) hi (k % sz) hj;rw[Nat.add_assoc,e]at this;have h2:=hs (k / sz) hi;refine⟨us[k / sz].cells[k % sz]'(by omega),?_⟩;rw[this,Array.getElem?_eq_getElem (by omega)]
 refine⟨Array.ofFn (n:=m * sz) fun k=>(w.cell? ⟨b,off+k.val,none⟩).getD undef,fun w' hw'=>?_,by simp,fun i hi j hj=>?_⟩
 ·refine run_loadCells _ (by simp) fun j hj=>?_;rw[HP (w:=w) (by rw[hw'])];obtain⟨x,hx⟩:=key j hj;simp[hx,hj]
 ·have hlt:i * sz+j<m * sz:=D0 (by omega) hj;have:=h i hi j hj;rw[Nat.add_assoc]at this;obtain⟨x,hx⟩:=key _ hlt;simp only[Array.getElem?_ofFn,hlt,dif_pos];rw[←this,hx];rfl
theorem FC{G:Gh}{w:World}{ys:List D}{cv:Value}{sz:Nat}(h:CD G.I w (.sl ys) cv)(hs:Af sz (ys.map .d)):
  ∃us c,(∀w',(Builtin.lenOf cv).run P w'=.ok ys.length w')∧(∀w',w'.heap=w.heap→(Builtin.firstCells sz ys.length cv).run P w'=.ok c w')∧c.size=ys.length * sz∧TU G S w sz (ys.map .d) us c 0:=by
 cases h with
 |nil a cap=>
  refine⟨[],#[],fun _=>by simp[Builtin.lenOf],fun w' _=>?_,by simp,⟨rfl,fun i h=>by simp at h,fun i h=>by simp at h⟩⟩;cases a<;>simp[Builtin.firstCells,loadCells,loadCellsFrom]
 |sl sz' xs b off cap vs hI hl hc h1 h2=>
  have hget:∀i (h:i<ys.length),CV G S w (.d ys[i]) (vs i)∧(vs i).cells.size=sz∧(∀x∈(vs i).cells,one x=true)∧sz'=sz:=fun i hi=>by
   have hcv:CV G S w (.d ys[i]) (vs i):=.d _ _ (h1 i hi);have hsz:=hs (.d ys[i]) (by simp);obtain⟨c1,c2,_⟩:=hcv.cells (by simpa using hsz.2);refine⟨hcv,by omega,fun x hx=>?_,?_⟩
   ·obtain⟨k,hk,rfl⟩:=Array.mem_iff_getElem.1 hx;exact c2 k hk
   ·have:=(h2 i hi).1;omega
  obtain⟨c,e1,e2,e3⟩:=N6 (P:=P) (w:=w) (b:=b) (off:=off) (sz:=sz) (m:=ys.length) (us:=(List.range ys.length).map vs) (by simp)
   (fun i hi=>by simp at hi;simpa using(hget i hi).2.1)
   (fun i hi j hj=>by
    simp at hi;have:=(h2 i hi).2 j (by have:=(hget i hi).2.2.2;omega);rw[(hget i hi).2.2.2]at this;simpa using this)
  refine⟨(List.range ys.length).map vs,c,fun _=>by simp[Builtin.lenOf],fun w' hw'=>by simp[Builtin.firstCells,e1 w' hw'],e2,⟨by simp,fun i hi hi'=>?_,fun i hi j hj=>by rw[Nat.zero_add];exact e3 i hi j hj⟩⟩;have hi2:i<ys.length:=by simpa using hi
  have:=hget i hi2;simp only[List.getElem_map,List.getElem_range];exact⟨this.1,this.2.1,this.2.2.1⟩
theorem QE{G:Gh}{w:World}(R:Rel P G S w){r:Nat}{wr:Bool}{sz:Nat}{els:List V}(hr:S[r]?=some (.row wr sz els))(hs:Af sz els):
  ∃us c,(∀w',(Builtin.lenOf (G.AAO r els.length)).run P w'=.ok els.length w')∧(∀w',w'.heap=w.heap→(Builtin.firstCells sz els.length (G.AAO r els.length)).run P w'=.ok c w')∧c.size=els.length * sz∧TU G S w sz els us c 0:=by
 have hob:=R.CT r _ hr;simp only[OK]at hob;cases hv:G.BB r with
 |none=>
  simp only[hv]at hob;obtain⟨c,T,g1,g2,g3,g4,g5⟩:=hob;let us:List Value:=(List.range els.length).map fun i=>if h:i<els.length then(g5 i h).choose else undef;have hus:∀i (h:i<els.length),CV G S w els[i] (us[i]'(by simp[us];exact h))∧(us[i]'(by simp[us];exact h)).cells.size=sz∧(∀x∈(us[i]'(by simp[us];exact h)).cells,one x=true)∧∀j,j<sz→c[(G.cap r).2+(i * sz+j)]?=(us[i]'(by simp[us];exact h)).cells[j]?:=fun i hi=>by
   have:=(g5 i hi).choose_spec;simpa[us,hi]using this
  obtain⟨c',e1,e2,e3⟩:=N6 (P:=P) (w:=w) (b:=G.BZ r) (off:=(G.cap r).2) (sz:=sz) (m:=els.length) (us:=us) (by simp[us])
   (fun i hi=>(hus i (by simpa[us]using hi)).2.1)
   (fun i hi j hj=>by
    rw[cell_of g1,Nat.add_assoc];exact(hus i (by simpa[us]using hi)).2.2.2 j hj)
  refine⟨us,c',fun _=>by simp[Gh.AAO,hv,Builtin.lenOf],fun w' hw'=>by simp[Gh.AAO,hv,Builtin.firstCells,e1 w' hw'],e2,⟨by simp[us],fun i hi hi'=>?_,fun i hi j hj=>by rw[Nat.zero_add];exact e3 i hi j hj⟩⟩;have:=hus i hi;exact⟨this.1,this.2.1,this.2.2.1⟩
 |some a=>
  simp only[hv]at hob;obtain⟨_,_,xs,rfl,hc⟩:=hob;have:=FC (P:=P) (S:=S) hc hs;simpa[Gh.AAO,hv]using this
theorem Zx{G:Gh}{w:World}(R:Rel P G S w){x:V}{cv:Value}{ys:List V}{sz:Nat}(h:CV G S w x cv)(he:ABN S x=some ys)(hs:Af sz ys):
  ∃us c,(∀w',(Builtin.lenOf cv).run P w'=.ok ys.length w')∧(∀w',w'.heap=w.heap→(Builtin.firstCells sz ys.length cv).run P w'=.ok c w')∧c.size=ys.length * sz∧TU G S w sz ys us c 0:=by
 cases h with
 |d d v h=>
  cases d<;>simp only[ABN,Option.some.injEq,reduceCtorEq]at he;subst he;simpa using FC (P:=P) (S:=S) h hs
 |full xs a h=>
  simp only[ABN,Option.some.injEq]at he;subst he;simpa using FC (P:=P) (S:=S) h hs
 |row r m v ho hr h=>
  simp only[ABN]at he;split at he
  ·rename_i wr sz' els hS;split at he
   ·rename_i hl;simp only[Option.some.injEq]at he;subst he;have hv:=(h m (by simp[lenOf,hS,hl])).2 rfl;subst hl;rw[hv];have hob:=R.CT r _ hS;by_cases hz:els=[]
    ·subst hz;refine⟨[],#[],fun w'=>?_,fun w' _=>?_,by simp,⟨rfl,fun i h=>by simp at h,fun i h=>by simp at h⟩⟩
     ·unfold Gh.AAO;split<;>simp[Builtin.lenOf]
     ·unfold Gh.AAO;split
      ·simp[Builtin.firstCells,loadCells,loadCellsFrom]
      ·rename_i a _;cases a<;>simp[Builtin.firstCells,loadCells,loadCellsFrom]
    ·have hlen:0<els.length:=List.length_pos_iff.2 hz;have hsz':sz'=sz∨G.BB r≠none:=by
      cases hvt:G.BB r with
      |some a=>exact .inr (by simp)
      |none=>
       left;simp only[OK,hvt]at hob;obtain⟨c,T,g1,g2,g3,g4,g5⟩:=hob;obtain⟨u,u1,u2,u3,u4⟩:=g5 0 hlen;have:=hs els[0] (by simp);obtain⟨c1,_⟩:=u1.cells (by simpa using this.2);omega
     rcases hsz' with e|e
     ·subst e;exact QE R hS hs
     ·cases hvt:G.BB r with
      |none=>exact absurd hvt e
      |some a=>
       simp only[OK,hvt]at hob;obtain⟨_,_,xs,rfl,hc⟩:=hob;have:=FC (P:=P) (S:=S) hc hs;simpa[Gh.AAO,hvt]using this
   ·cases he
  ·rename_i xs hS;split at he
   ·rename_i hl;simp only[Option.some.injEq]at he;subst he;have hv:=(h m (by simp[lenOf,hS,hl])).2 rfl;subst hl;rw[hv];have hob:=R.CT r _ hS;simp only[OK]at hob;have:=FC (P:=P) (S:=S) hob hs;simpa using this
   ·cases he
  ·cases he
 |_=>simp[ABN]at he
end
theorem Rel.bG{P:Program}{G:Gh}{S:Sg}{w:World}(R:Rel P G S w){r:Nat}{wr wr':Bool}{sz:Nat}{els els':List V}{cap:Nat}{H:Obj}(hr:S[r]?=some (.row wr sz els))
  (hl:els.length<els'.length)
  (hok:A9 G S w (G.at r w.heap.size cap none) (S.set r (.row wr' sz els')) (BS w H)→OK (G.at r w.heap.size cap none) (S.set r (.row wr' sz els')) (BS w H) r (.row wr' sz els')):
  Rel P (G.at r w.heap.size cap none) (S.set r (.row wr' sz els')) (BS w H)∧Tr G S w (G.at r w.heap.size cap none) (S.set r (.row wr' sz els')) (BS w H)∧A9 G S w (G.at r w.heap.size cap none) (S.set r (.row wr' sz els')) (BS w H):=by
 have hrl:=AZ hr;have hne:∀r',r'≠r→(S.set r (.row wr' sz els'))[r']?=S[r']?:=fun r' h=>by simp[List.getElem?_set_ne (Ne.symm h)]
 have hat:(S.set r (.row wr' sz els'))[r]?=some (.row wr' sz els'):=by simp[hrl]
 have L:A9 G S w (G.at r w.heap.size cap none) (S.set r (.row wr' sz els')) (BS w H):=by
  refine⟨fun _ h=>h,fun b hb=>CZ (R.G5 b hb),by simp,fun r' hr' n' hn'=>?_,fun r' hr' hm=>?_⟩
  ·by_cases e:r'=r
   ·subst e;have e1:n'=els'.length:=by simpa[lenOf,hat]using hn'.symm
    exact⟨els.length,by simp[lenOf,hr],by omega,fun e=>by omega⟩
   ·have:lenOf (S.set r (.row wr' sz els')) r'=lenOf S r':=by simp only[lenOf,hne r' e]
    exact⟨n',by rw[←this];exact hn',Nat.le_refl _,fun _=>⟨by simp[Gh.at,e],by simp[Gh.at,e],by simp[Gh.at,e],.inl (by simp only[AAf,hne r' e])⟩⟩
  ·by_cases e:r'=r
   ·subst e;simp[AAM,hat]at hm
   ·exact⟨by simp only[AAM,hne r' e]at hm;exact hm,by simp[Gh.at,e]⟩
 have ownCase:∀b,Eo (G.at r w.heap.size cap none) (S.set r (.row wr' sz els')) b→(∃r' x,r'≠r∧S[r']?=some x∧AAJ G r' x=true∧b=G.BZ r')∨b=w.heap.size:=by
  rintro b ⟨r',x,h1,h2,h3⟩;by_cases e:r'=r
  ·right;rw[h3,e];simp[Gh.at]
  ·left;rw[hne r' e]at h1;rw[Dd e]at h2;exact⟨r',x,e,h1,h2,by rw[h3];simp[Gh.at,e]⟩
 have own2:∀b,Eo (G.at r w.heap.size cap none) (S.set r (.row wr' sz els')) b→Eo G S b∨b=w.heap.size:=fun b hb=>by
  rcases ownCase b hb with⟨r',x,_,h1,h2,h3⟩|h
  ·exact .inl ⟨r',x,h1,h2,h3⟩
  ·exact .inr h
 refine⟨⟨R.Es.later L,fun r' x hx=>?_,fun r1 r2 x1 x2 h1 h2 o1 o2 he=>?_,fun b hb hI=>?_,fun b hb=>?_,fun b hb=>?_⟩,⟨by simp,fun _ h=>h,fun b hb _=>CZ hb,fun b hb=>?_,fun b hb=>.inl hb,rfl,rfl⟩,L⟩
 ·by_cases e:r'=r
  ·subst e;rw[hat]at hx;cases hx;exact hok L
  ·rw[hne r' e]at hx;exact(R.CT r' x hx).later L (fun hw=>CZ (R.FW _ ⟨r',x,hx,hw,rfl⟩)) (by simp[Gh.at,e]) (by simp[Gh.at,e]) (by simp[Gh.at,e])
 ·by_cases e1:r1=r
  ·by_cases e2:r2=r
   ·omega
   ·rw[hne r2 e2]at h2;rw[Dd e2]at o2;have:=R.FW _ ⟨r2,x2,h2,o2,rfl⟩;simp[Gh.at,e1,e2]at he;omega
  ·rw[hne r1 e1]at h1;rw[Dd e1]at o1;by_cases e2:r2=r
   ·have:=R.FW _ ⟨r1,x1,h1,o1,rfl⟩;simp[Gh.at,e1,e2]at he;omega
   ·rw[hne r2 e2]at h2;rw[Dd e2]at o2;exact R.inj r1 r2 x1 x2 h1 h2 o1 o2 (by simpa[Gh.at,e1,e2]using he)
 ·rcases own2 b hb with h|h
  ·exact R.nI b h hI
  ·have:=R.G5 b hI;omega
 ·have:=R.G5 b hb;simp;omega
 ·rcases own2 b hb with h|h
  ·have:=R.FW b h;simp;omega
  ·simp[h]
 ·rcases own2 b hb with h|h
  ·exact .inl h
  ·exact .inr (by omega)
theorem Rel.Js{P:Program}{G:Gh}{S:Sg}{w:World}(R:Rel P G S w)(sz:Nat)(xs:List D)(a:Option Addr)(hl:xs.length≤maxLen)(h:CD G.I w (.sl xs) (.slice a xs.length xs.length)):
  Rel P (G.at S.length 0 0 (some a)) (S++[.row false sz (xs.map .d)]) w∧Tr G S w (G.at S.length 0 0 (some a)) (S++[.row false sz (xs.map .d)]) w∧A9 G S w (G.at S.length 0 0 (some a)) (S++[.row false sz (xs.map .d)]) w:=by
 have L:A9 G S w (G.at S.length 0 0 (some a)) (S++[.row false sz (xs.map .d)]) w:=A9.add _ _ _ _ (fun k _=>rfl);have F8:∀r x,(S++[O.row false sz (xs.map .d)])[r]?=some x→r≠S.length→S[r]?=some x∧r<S.length:=fun r x hx hr=>by
  have h1:=AZ hx;have h2:r<S.length:=by simp at h1;omega
  exact⟨by simpa[List.getElem?_append,h2]using hx,h2⟩
 have ownCase:∀b,Eo (G.at S.length 0 0 (some a)) (S++[.row false sz (xs.map .d)]) b→∃r x,r≠S.length∧S[r]?=some x∧AAJ G r x=true∧b=G.BZ r:=by
  rintro b ⟨r,x,h1,h2,h3⟩;by_cases e:r=S.length
  ·subst e;have:x=.row false sz (xs.map .d):=by simp at h1;exact h1.symm
   subst this;simp[AAJ,Gh.at]at h2
  ·obtain⟨h4,_⟩:=F8 r x h1 e;rw[Dd e]at h2;exact⟨r,x,e,h4,h2,by rw[h3];simp[Gh.at,e]⟩
 have own2:∀b,Eo (G.at S.length 0 0 (some a)) (S++[.row false sz (xs.map .d)]) b→Eo G S b:=fun b hb=>by
  obtain⟨r,x,_,h1,h2,h3⟩:=ownCase b hb;exact⟨r,x,h1,h2,h3⟩
 refine⟨⟨R.Es.later L,fun r x hx=>?_,fun r1 r2 x1 x2 h1 h2 o1 o2 he=>?_,fun b hb=>R.nI b (own2 b hb),R.G5,fun b hb=>R.FW b (own2 b hb)⟩,⟨Nat.le_refl _,fun _ h=>h,fun _ _ _=>rfl,fun b hb=>.inl (own2 b hb),fun b hb=>.inl hb,rfl,rfl⟩,L⟩
 ·by_cases e:r=S.length
  ·subst e;have:x=.row false sz (xs.map .d):=by simp at hx;exact hx.symm
   subst this;have hv:(G.at S.length 0 0 (some a)).BB S.length=some a:=by simp[Gh.at]
   simp only[OK,hv];refine⟨trivial,by simpa using hl,xs,rfl,h⟩
  ·obtain⟨h4,_⟩:=F8 r x hx e;exact(R.CT r x h4).later L (fun hw=>rfl) (by simp[Gh.at,e]) (by simp[Gh.at,e]) (by simp[Gh.at,e])
 ·have key:∀r x,(S++[O.row false sz (xs.map .d)])[r]?=some x→AAJ (G.at S.length 0 0 (some a)) r x=true→r≠S.length:=fun r x hx ho e=>by
   subst e;have:x=.row false sz (xs.map .d):=by simp at hx;exact hx.symm
   subst this;simp[AAJ,Gh.at]at ho
  have e1:=key r1 x1 h1 o1;have e2:=key r2 x2 h2 o2;obtain⟨g1,_⟩:=F8 r1 x1 h1 e1;obtain⟨g2,_⟩:=F8 r2 x2 h2 e2;rw[Dd e1]at o1;rw[Dd e2]at o2;exact R.inj r1 r2 x1 x2 g1 g2 o1 o2 (by simpa[Gh.at,e1,e2]using he)
theorem Lu(newLen:Nat):∀(r c:Nat),Builtin.growBy newLen r c≤max c (newLen+(newLen+768) / 4)
 |0,c=>by simp[Builtin.growBy];omega
 |r+1,c=>by
  simp only[Builtin.growBy];split
  ·omega
  ·have:=Lu newLen r (c+(c+768) / 4);omega
theorem K2{need cap:Nat}(h:cap<need):Builtin.nextslicecap need cap≤2 * need+768:=by
 unfold Builtin.nextslicecap;split
 ·omega
 ·split
  ·omega
  ·have:=Lu need 4 cap;omega
section
variable {P:Program} {n:Nat} {o:Oper} {tm:Tm} {S S':Sg} {v:V}
def Ao(P:Program)(T:TypeId):Option Nat:=(ti P T).map (·.bytes)
theorem ACE{w:World}{sT xT E ty:TypeId}{e:TI}{z:Value}{base:Option Addr}{m cap k:Nat}{xv:Value}{xs cs:Array Value}
  (hs:AAF P sT=some E) (he:ti P E=some e) (hz:e.zero=some z) (_:z.cells.size=e.size) (hx:∀d,P.underlying xT=some d→tk d≠.other→(∀k,d≠.int k))
  (hxt:∃d,P.underlying xT=some d∧tk d≠.other)
  (hlen:∀w',(Builtin.lenOf xv).run P w'=.ok k w') (hnew:∀w',w'.heap=w.heap→(Builtin.firstCells e.size k xv).run P w'=.ok cs w') (_:cs.size=k * e.size)
  (hold:∀w',w'.heap=w.heap→(Builtin.firstCells e.size m (.slice base m cap)).run P w'=.ok xs w') (_:xs.size=m * e.size) (hb:m+k≤2 ^ 30) (hbytes:e.bytes≤65536) (_:m≤cap):
  (m+k≤cap∧(Builtin.append_ #[sT,xT] ty #[.slice base m cap,xv]).run P w=
   ((match base with|some a=>storeCells (a.add (m * e.size)) cs.toList|none=>pure ()).run P w).andThen fun _ w'=>.ok (.slice base (m+k) cap) w')∨(cap<m+k∧∃nc w0,m+k≤nc∧nc≤maxLen∧w0.heap=w.heap∧w0.os=w.os∧w0.output=w.output∧(Builtin.append_ #[sT,xT] ty #[.slice base m cap,xv]).run P w=
    .ok (.slice (some ⟨w.heap.size,0,none⟩) (m+k) nc) (BS w0 (.cells (xs++cs++Builtin.zeroCells z.cells (nc - (m+k))) E (0,0)))):=by
 obtain⟨t,t1,t2⟩:=BA hs;obtain⟨d,hd,hd'⟩:=Ai t1 w;have hdE:d=.slice E:=by rw[t2]at hd';cases d<;>simp[tk]at hd'⊢;exact hd'
 subst hdE;obtain⟨dx,hdx,hdo⟩:=hxt;have hnint:(match dx with|.int _=>true|_=>false)=false:=by
  cases dx<;>first|rfl|exact absurd rfl (hx _ hdx hdo _)
 have hux:∀w,(underlying xT).run P w=.ok dx w:=fun w=>by simp[underlying,hdx]
 have hsz:=BQ he;obtain⟨inf,i1,i2,i3,i4⟩:=Cv he w;have hpre:(Builtin.append_ #[sT,xT] ty #[.slice base m cap,xv]).run P w=
   ((if m+k≤cap then do
     let new←Builtin.firstCells e.size k xv
     if let some a:=base then storeCells (a.add (m * e.size)) new.toList
     pure (.slice base (m+k) cap)
    else do
     if((m+k:Nat):Int)>IntKind.i64.max∧(false∨(←typeInfo E).bytes=0)then runtimePanic (.error "growslice: len out of range")
     if Builtin.nextslicecap (m+k) cap * (←typeInfo E).bytes>2 ^ 48 then(if false then runtimePanic (.error "growslice: len out of range")else do
      if !(←Builtin.mayShare e.size m k base xv)then mark .noRoom
      unsupported (.resourceLimit "append: a slice or a string whose bytes no memory bears"))
     let newCap←choose (.appendCap (m+k) cap E)
     askRoom (newCap * (←typeInfo E).bytes)
     let F8←Builtin.firstCells e.size m (.slice base m cap)
     let new←Builtin.firstCells e.size k xv
     let rest:=Builtin.zeroCells (←zeroValue E).cells (newCap - (m+k))
     pure (.slice (some (←newRow E (F8++new++rest))) (m+k) newCap):Sem Value)).run P w:=by
  unfold Builtin.append_;simp only[List.getElem?_toArray,List.getElem?_cons_zero,List.getElem?_cons_succ,Sem.run_bind,hd,Result.andThen_ok,hsz,hux];cases dx<;>first|exact absurd rfl (hx _ hdx hdo _)|(simp only[Sem.run_bind,Sem.run_pure,Result.andThen_ok,Bool.false_eq_true,if_false,hlen];rfl)
 rw[hpre];by_cases hfit:m+k≤cap
 ·left;refine⟨hfit,?_⟩;simp only[if_pos hfit,Sem.run_bind,hnew w rfl,Result.andThen_ok];cases base<;>simp
 ·right;refine⟨by omega,?_⟩;have h1:¬(((m+k:Nat):Int)>IntKind.i64.max∧(false=true∨inf.bytes=0)):=by
   have:IntKind.i64.max=9223372036854775807:=by decide
   omega
  have h2:¬(Builtin.nextslicecap (m+k) cap * inf.bytes>2 ^ 48):=by
   have h3:=K2 (need:=m+k) (cap:=cap) (by omega);have h4:Builtin.nextslicecap (m+k) cap * inf.bytes≤(2 * (m+k)+768) * 65536:=Nat.mul_le_mul h3 (by omega);omega
  have hforced:(Question.appendCap (m+k) cap E).forced=false:=rfl;refine⟨(Question.appendCap (m+k) cap E).cut (w.tape w.drawn (.appendCap (m+k) cap E)),{w with drawn:=w.drawn+1},?_,?_,rfl,rfl,rfl,?_⟩
  ·simp[Question.cut]
  ·simp only[Question.cut,maxLen];have:w.tape w.drawn (Question.appendCap (m+k) cap E) % (2 ^ 63 - (m+k))<2 ^ 63 - (m+k):=Nat.mod_lt _ (by omega);omega
  ·have hn2:=hnew {w with drawn:=w.drawn+1} rfl;have ho2:=hold {w with drawn:=w.drawn+1} rfl;obtain⟨inf',i1',_,i3',_⟩:=Cv he {w with drawn:=w.drawn+1};simp only[if_neg hfit,Sem.run_bind,i1,Result.andThen_ok,Sem.run_ite,if_neg h2,Sem.run_pure,run_choose,hforced,Bool.false_eq_true,if_false,i1',run_askRoom,ho2,hn2,DF he _ hz];have h1':¬(9223372036854775807<(m:Int)+k∧inf.bytes=0):=by omega
   simp[newRow,BS];rw[if_neg h1'];rfl
end
section
variable {P:Program} {n:Nat} {o:Oper} {tm:Tm} {S S':Sg} {v:V}
def ABM(S:Sg)(sz:Nat)(x:V)(ys:List V):Sg:=
 match x with
 |.full xs=>S++[.row (!ys.isEmpty) sz (xs.map .d++ys)]
 |.row r _=>match S[r]? with
  |some (.row wr sz els)=>S.set r (.row (wr||!ys.isEmpty) sz (els++ys))
  |_=>S
 |_=>S
def OS(S:Sg)(x:V)(ys:List V):V:=
 match x with
 |.full xs=>.row S.length (xs.length+ys.length)
 |.row r m=>.row r (m+ys.length)
 |_=>.any
def PF(S:Sg)(sz:Nat)(x:V)(ys:List V):Prop:=
 Af sz ys∧match x with
 |.full xs=>Af sz (xs.map .d)∧xs.length+ys.length≤2 ^ 30
 |.row r m=>match S[r]? with
  |some (.row _ sz' els)=>els.length=m∧sz'=sz∧Af sz els∧m+ys.length≤2 ^ 30
  |_=>False
 |_=>False
theorem TU.append{G:Gh}{w:World}{sz:Nat}{xs ys:List V}{us vs:List Value}{c d rest:Array Value}(h:TU G S w sz xs us c 0)(h':TU G S w sz ys vs d 0)(hc:c.size=xs.length * sz)(hd:d.size=ys.length * sz):
  TU G S w sz (xs++ys) (us++vs) (c++d++rest) 0:=by
 refine⟨by simp[h.len,h'.len],fun i hi hi'=>?_,fun i hi j hj=>?_⟩
 ·by_cases e:i<xs.length
  ·rw[List.getElem_append_left e,List.getElem_append_left (by rw[h.len];exact e)];exact h.cv i e (by rw[h.len];exact e)
  ·rw[List.getElem_append_right (by omega),List.getElem_append_right (by rw[h.len];omega)];simp only[h.len];have hi2:i - xs.length<ys.length:=by simp at hi;omega
   exact h'.cv (i - xs.length) hi2 (by rw[h'.len];exact hi2)
 ·rw[Nat.zero_add];by_cases e:i<xs.length
  ·rw[List.getElem_append_left (by rw[h.len];exact e)];have hlt:i * sz+j<c.size:=by rw[hc];exact D0 e hj
   rw[Array.append_assoc,Array.getElem?_append_left hlt];simpa using h.at_ i (by rw[h.len];exact e) j hj
  ·rw[List.getElem_append_right (by rw[h.len];omega)];simp only[h.len];have hi2:i - xs.length<ys.length:=by simp[h.len,h'.len]at hi;omega
   have e2:i * sz+j=c.size+((i - xs.length) * sz+j):=by
    rw[hc];have:i * sz=xs.length * sz+(i - xs.length) * sz:=by rw[←Nat.add_mul];congr 1;omega
    omega
   have hlt:(i - xs.length) * sz+j<d.size:=by rw[hd];exact D0 hi2 hj
   rw[e2,Array.append_assoc,Array.getElem?_append_right (by omega),Nat.add_sub_cancel_left,Array.getElem?_append_left hlt];simpa using h'.at_ (i - xs.length) (by rw[h'.len];exact hi2) j hj
theorem TU.later{G:Gh}{w:World}{G':Gh}{w':World}(L:A9 G S w G' S' w'){sz k0:Nat}{ys:List V}{us:List Value}{c:Array Value}(h:TU G S w sz ys us c k0):TU G' S' w' sz ys us c k0:=
 ⟨h.len,fun i hi hi'=>⟨(h.cv i hi hi').1.later L,(h.cv i hi hi').2.1,(h.cv i hi hi').2.2⟩,h.at_⟩
theorem TU.rowAt{G:Gh}{w:World}{sz:Nat}{ys:List V}{us:List Value}{c:Array Value}(h:TU G S w sz ys us c 0):KO G S w sz ys c 0:=fun i hi=>by
 have hi':i<us.length:=by rw[h.len];exact hi
 obtain⟨h1,h2,h3⟩:=h.cv i hi hi';exact⟨us[i],h1,h2,h3,fun j hj=>by have:=h.at_ i hi' j hj;simpa using this⟩
theorem Da(z:Array Value)(n:Nat):(Builtin.zeroCells z n).size=n * z.size:=by simp[Builtin.zeroCells]
theorem Q9{c:Call}{sT xT E:TypeId}{x y:Operand}{e:TI}{z:Value}{ys:List V}(ho:o.op=.call c)(hc:c.callee=.builtin .append)(hargs:c.args=#[x,y])(hT:c.argTypes=#[sT,xT])
  (hx:need (ev tm x)) (hy:need (ev tm y)) (hs:AAF P sT=some E) (hxT:(AAF P xT).isSome=true) (he:ti P E=some e) (hz:e.zero=some z) (hzs:z.cells.size=e.size) (hbytes:e.bytes≤65536)
  (hsrc:ABN S (strip (ev tm y))=some ys) (hp:PF S e.size (strip (ev tm x)) ys):
  Bv P n o tm S (OS S (strip (ev tm x)) ys) (ABM S e.size (strip (ev tm x)) ys):=.val fun G w a st=>by
 have h1:=(BH st x).strip hx;have h2:=(BH st y).strip hy;obtain⟨hys,hp⟩:=hp;obtain⟨vs,cs,l1,l2,l3,l4⟩:=Zx st.rel h2 hsrc hys;obtain⟨F,hF⟩:=Option.isSome_iff_exists.1 hxT;obtain⟨tx,tx1,tx2⟩:=BA hF;obtain⟨ix,dx,ix1,ix2,_,_,_,ix3⟩:=GA tx1;have hdx:dx=.slice F:=by rw[tx2]at ix3;cases dx<;>simp[tk]at ix3⊢;exact ix3
 subst hdx;have hxk:∀d,P.underlying xT=some d→tk d≠.other→∀k,d≠.int k:=fun d hd _ k=>by rw[ix2]at hd;cases hd;simp
 have hxt:∃d,P.underlying xT=some d∧tk d≠.other:=⟨_,ix2,by simp[tk]⟩;have hexec:(execOp a.eval o).run P w=((Builtin.append_ #[sT,xT] o.type #[a.eval x,a.eval y]).run P w).andThen fun v w'=>.ok (.value v) w':=by
  simp[execOp,ho,resolve,hc,hargs,hT,invoke,builtin]
 generalize strip (ev tm x)=X at *;split at hp
 ·
  rename_i xs;obtain⟨hxs,hb⟩:=hp;generalize hbx:a.eval x=B at h1 hexec;cases h1 with
  |full _ base hcd=>
   obtain⟨us,c0,m1,m2,m3,m4⟩:=FC (P:=P) (S:=S) hcd hxs;rcases ACE (P:=P) (w:=w) (ty:=o.type) (base:=base) (m:=xs.length) (cap:=xs.length) hs he hz hzs hxk hxt l1 l2 l3 m2 m3 hb hbytes (Nat.le_refl _)with⟨hfit,hrun⟩|⟨hgr,nc,w0,hnc,hncm,e1,e2,e3,hrun⟩
   ·have hk0:ys.length=0:=by omega
    have hys0:ys=[]:=List.length_eq_zero_iff.1 hk0;subst hys0;have hcs0:cs.toList=[]:=by
     have:cs.size=0:=by rw[l3];simp
     exact List.length_eq_zero_iff.1 (by simpa using this)
    have hl:xs.length≤maxLen:=by
     simp[maxLen];have:xs.length≤2 ^ 30:=by simpa using hb
     omega
    obtain⟨r1,r2,r3⟩:=st.rel.Js e.size xs base hl hcd;refine⟨.slice base xs.length xs.length,G.at S.length 0 0 (some base),w,?_,?_,by simpa[ABM]using r1,by simpa[ABM]using r2,by simpa[ABM]using r3⟩
    ·rw[hexec,hrun];cases base<;>simp[hcs0,storeCells]
    ·simp only[OS,ABM];refine .row _ _ _ rfl (by simp) fun m' hm'=>?_;have:m'=xs.length:=by simpa[lenOf]using hm'.symm
     subst this;exact⟨by simp,fun _=>by simp[Gh.AAO,Gh.at]⟩
   ·obtain⟨q1,q2,q3⟩:=st.rel.drawn e1 e2 e3;have hrunall:=(m4.later q3).append (l4.later q3) (by simpa using m3) l3 (rest:=Builtin.zeroCells z.cells (nc - (xs.length+ys.length)));obtain⟨r1,r2,r3⟩:=q1.add nc (.row (!ys.isEmpty) e.size (xs.map .d++ys)) (.cells (c0++cs++Builtin.zeroCells z.cells (nc - (xs.length+ys.length))) E (0,0)) (fun L=>by
     have hv:(G.at S.length w0.heap.size nc none).BB S.length=none:=by simp[Gh.at]
     have hbk:(G.at S.length w0.heap.size nc none).BZ S.length=w0.heap.size:=by simp[Gh.at]
     have hcp:(G.at S.length w0.heap.size nc none).cap S.length=(nc,0):=by simp[Gh.at]
     simp only[OK,hv,hbk,hcp];refine⟨_,E,C0,?_,by simp;omega,by simp[maxLen];omega,(hrunall.later L).rowAt⟩;refine Nat.le_of_eq (Eq.symm ?_);simp only[Array.size_append,m3,l3,Da,hzs,Nat.zero_add];rw[←Nat.add_mul,←Nat.add_mul];congr 1;omega)
    rw[e1]at r1 r2 r3;have r2':=q2.trans r2;have r3':=q3.trans r3;refine⟨_,_,_,by rw[hexec,hrun];rfl,?_,by simpa[ABM]using r1,by simpa[ABM]using r2',by simpa[ABM]using r3'⟩;simp only[OS,ABM];refine .row _ _ _ rfl (by simp) fun m' hm'=>?_;have:m'=xs.length+ys.length:=by simpa[lenOf]using hm'.symm
    subst this;exact⟨Nat.le_refl _,fun _=>by simp[Gh.AAO,Gh.at]⟩
 ·
  rename_i r m;split at hp
  ·rename_i wr sz' els hr;obtain⟨hm,hsz,hels,hb⟩:=hp;subst hsz;have hval:a.eval x=G.AAO r m∧r<S.length:=by
    cases h1 with|row _ _ _ _ hlt h=>exact⟨(h m (by simp[lenOf,hr,hm])).2 rfl,hlt⟩
   obtain⟨hval,hlt⟩:=hval;subst hm;obtain⟨us,c0,m1,m2,m3,m4⟩:=QE st.rel hr hels;have hob:=st.rel.CT r _ hr;have hbase:∃base cap,G.AAO r els.length=.slice base els.length cap∧els.length≤cap:=by
    unfold Gh.AAO;simp only[OK]at hob;cases hv:G.BB r with
    |none=>
     simp only[hv]at hob;obtain⟨c,T,g1,g2,g3,g4,g5⟩:=hob;exact⟨_,_,rfl,g3⟩
    |some b=>exact⟨_,_,rfl,Nat.le_refl _⟩
   obtain⟨base,cap,hbv,hmc⟩:=hbase;rw[hbv]at m2;have hexec':=hexec;rw[hval,hbv]at hexec';have hat:∀w2:O,(S.set r w2)[r]?=some w2:=fun w2=>by simp[hlt]
   rcases ACE (P:=P) (w:=w) (ty:=o.type) (base:=base) (m:=els.length) (cap:=cap) hs he hz hzs hxk hxt l1 l2 l3 m2 m3 hb hbytes hmc with⟨hfit,hrun⟩|⟨hgr,nc,w0,hnc,hncm,e1,e2,e3,hrun⟩
   ·cases hv:G.BB r with
    |some b=>
     have hbb:base=b∧cap=els.length:=by
      have:=hbv;simp only[Gh.AAO,hv,Value.slice.injEq]at this;exact⟨this.1.symm,this.2.2.symm⟩
     obtain⟨rfl,rfl⟩:=hbb;have hk0:ys.length=0:=by omega
     have hys0:ys=[]:=List.length_eq_zero_iff.1 hk0;subst hys0;have hcs0:cs.toList=[]:=by
      have:cs.size=0:=by rw[l3];simp
      exact List.length_eq_zero_iff.1 (by simpa using this)
     have hS:S.set r (.row wr e.size els)=S:=by
      apply List.ext_getElem?;intro i;by_cases hi:i=r
      ·subst hi;rw[hat,hr]
      ·rw[List.getElem?_set_ne (Ne.symm hi)]
     refine⟨.slice base els.length els.length,G,w,?_,?_,?_⟩
     ·rw[hexec',hrun];cases base<;>simp[hcs0,storeCells]
     ·simp only[OS,ABM,hr];simp only[List.length_nil,Nat.add_zero,List.append_nil,List.isEmpty_nil,Bool.not_true,Bool.or_false,hS];rw[←hbv,←hval];exact h1
     ·simp only[ABM,hr,List.append_nil,List.isEmpty_nil,Bool.not_true,Bool.or_false,hS];exact⟨st.rel,Tr.refl _ _ _,A9.refl _ _ _⟩
    |none=>
     have hbb:base=some ⟨G.BZ r,(G.cap r).2,none⟩∧cap=(G.cap r).1:=by
      have:=hbv;simp only[Gh.AAO,hv,Value.slice.injEq]at this;exact⟨this.1.symm,this.2.2.symm⟩
     obtain⟨rfl,rfl⟩:=hbb;simp only[OK,hv]at hob;obtain⟨c,T0,g1,g2,g3,g4,g5⟩:=hob;have hcz:(G.cap r).2+(els.length * e.size+cs.size)≤c.size:=by
      refine Nat.le_trans ?_ g2;rw[l3,←Nat.add_mul];exact Nat.add_le_add_left (Nat.mul_le_mul_right _ hfit) _
     have hones:∀v∈cs.toList,one v=true:=fun v hv'=>by
      obtain⟨q,hq,rfl⟩:=List.mem_iff_getElem.1 hv';have hq':q<ys.length * e.size:=by rw[←l3];simpa using hq
      have hsp:0<e.size:=by
       rcases Nat.eq_zero_or_pos e.size with h0|h0
       ·rw[h0]at hq';simp at hq'
       ·exact h0
      have hi:q / e.size<vs.length:=by rw[l4.len];exact Nat.div_lt_of_lt_mul (by rw[Nat.mul_comm];exact hq')
      have hj:q % e.size<e.size:=Nat.mod_lt _ hsp;have hqe:q / e.size * e.size+q % e.size=q:=by rw[Nat.mul_comm];exact Nat.div_add_mod q e.size
      have:=l4.at_ (q / e.size) hi (q % e.size) hj;rw[Nat.zero_add,hqe]at this;obtain⟨_,n1,n2⟩:=l4.cv (q / e.size) (by rw[←l4.len];exact hi) hi;rw[Array.getElem?_eq_getElem (show q<cs.size by rw[l3];exact hq'),Array.getElem?_eq_getElem (by omega)]at this;simp only[Option.some.injEq]at this;simp only[Array.getElem_toList];rw[this];exact n2 _ (by simp)
     have hst:=Gf (P:=P) (b:=G.BZ r) (off:=(G.cap r).2+els.length * e.size) (T:=T0) cs.toList 0 w c g1 (by simp;omega) hones;simp only[Nat.add_zero]at hst;have own1:AAJ G r (.row wr e.size els)=true:=by simp[AAJ,hv]
     have own2:AAJ G r (.row (wr||!ys.isEmpty) e.size (els++ys))=true:=by simp[AAJ,hv]
     have hup:=st.rel.update hr own1 own2 (H:=.cells (AAh c ((G.cap r).2+els.length * e.size) cs.toList) T0 (0,0)) (fun n' hn'=>by
       have:n'=els.length+ys.length:=by simpa[lenOf,hat]using hn'.symm
       exact⟨els.length,by simp[lenOf,hr],by omega,fun _=>.inl (by simp only[AAf,hr];simp[hlt])⟩) (fun hm=>by simp[AAM,hat]at hm) (fun L=>by
       simp only[OK,hv];refine⟨_,T0,Ej (D3 g1),by rw[DO];exact g2,by simpa using hfit,by simp[maxLen];omega,fun i hi=>?_⟩;by_cases h3:i<els.length
       ·obtain⟨u,u1,u2,u3,u4⟩:=g5 i h3;refine⟨u,by rw[List.getElem_append_left h3];exact u1.later L,u2,u3,fun j hj=>?_⟩;rw[DH _ _ _ _ (by simp;omega),if_neg (by have:=D0 h3 hj;omega)];exact u4 j hj
       ·have hi2:i - els.length<ys.length:=by simp at hi;omega
        obtain⟨n1,n2,n3⟩:=l4.cv (i - els.length) hi2 (by rw[l4.len];exact hi2);refine⟨vs[i - els.length]'(by rw[l4.len];exact hi2),by rw[List.getElem_append_right (by omega)];exact n1.later L,n2,n3,fun j hj=>?_⟩;have hlt2:=D0 hi2 hj;have e2:i * e.size+j=els.length * e.size+((i - els.length) * e.size+j):=by
         have:i * e.size=els.length * e.size+(i - els.length) * e.size:=by rw[←Nat.add_mul];congr 1;omega
         omega
        rw[DH _ _ _ _ (by simp;omega),if_pos (by simp[l3];omega)];have:=l4.at_ (i - els.length) (by rw[l4.len];exact hi2) j hj;rw[←this];simp only[Array.getElem?_toList];congr 1;omega)
     obtain⟨r1,r2,r3⟩:=hup;refine⟨.slice (some ⟨G.BZ r,(G.cap r).2,none⟩) (els.length+ys.length) (G.cap r).1,G,_,?_,?_,by simpa[ABM,hr]using r1,by simpa[ABM,hr]using r2,by simpa[ABM,hr]using r3⟩
     ·rw[hexec',hrun];simp only[Eb,hst,Result.andThen_ok]
     ·simp only[OS,ABM,hr];refine .row _ _ _ rfl (by simpa using hlt) fun m' hm'=>?_;have:m'=els.length+ys.length:=by simpa[lenOf,hat]using hm'.symm
      subst this;exact⟨Nat.le_refl _,fun _=>by simp[Gh.AAO,hv]⟩
   ·
    have hyne:0<ys.length:=by omega
    obtain⟨q1,q2,q3⟩:=st.rel.drawn e1 e2 e3;have hrunall:=(m4.later q3).append (l4.later q3) m3 l3 (rest:=Builtin.zeroCells z.cells (nc - (els.length+ys.length)));obtain⟨r1,r2,r3⟩:=q1.bG (wr':=wr||!ys.isEmpty) (els':=els++ys) (cap:=nc) (H:=.cells (c0++cs++Builtin.zeroCells z.cells (nc - (els.length+ys.length))) E (0,0)) hr (by simp;omega) (fun L=>by
     have hv:(G.at r w0.heap.size nc none).BB r=none:=by simp[Gh.at]
     have hbk:(G.at r w0.heap.size nc none).BZ r=w0.heap.size:=by simp[Gh.at]
     have hcp:(G.at r w0.heap.size nc none).cap r=(nc,0):=by simp[Gh.at]
     simp only[OK,hv,hbk,hcp];refine⟨_,E,C0,?_,by simp;omega,by simp[maxLen];omega,(hrunall.later L).rowAt⟩;refine Nat.le_of_eq (Eq.symm ?_);simp only[Array.size_append,m3,l3,Da,hzs,Nat.zero_add];rw[←Nat.add_mul,←Nat.add_mul];congr 1;omega)
    rw[e1]at r1 r2 r3;have r2':=q2.trans r2;have r3':=q3.trans r3;refine⟨_,_,_,by rw[hexec',hrun];rfl,?_,by simpa[ABM,hr]using r1,by simpa[ABM,hr]using r2',by simpa[ABM,hr]using r3'⟩;simp only[OS,ABM,hr];refine .row _ _ _ rfl (by simpa using hlt) fun m' hm'=>?_;have:m'=els.length+ys.length:=by simpa[lenOf,hat]using hm'.symm
    subst this;exact⟨Nat.le_refl _,fun _=>by simp[Gh.AAO,Gh.at]⟩
  ·exact hp.elim
 ·exact hp.elim
end
end Go.Koi
