/- Part 4 of the proof that the law ChangeValid returns true for every input. -/
import Derived.Test.YtlgjmkfbkhfakaaGreatDoorK02
import Derived.Laws.MakeOwn
set_option maxHeartbeats 64000000
set_option maxRecDepth 100000
namespace Go.Koi
theorem Rel.bG{P:Program}{G:Gh}{S:Sg}{w:World}(R:Rel P G S w){r:Nat}{wr wr':Bool}{sz:Nat}{els els':List V}{cap:Nat}{H:Obj}(hr:S[r]?=some (.row wr sz els))
  (hl:els.length<els'.length)
  (ig:A9 G S w (G.at r w.heap.size cap none) (S.set r (.row wr' sz els')) (BS w H)→OK (G.at r w.heap.size cap none) (S.set r (.row wr' sz els')) (BS w H) r (.row wr' sz els')):
  Rel P (G.at r w.heap.size cap none) (S.set r (.row wr' sz els')) (BS w H)∧Tr G S w (G.at r w.heap.size cap none) (S.set r (.row wr' sz els')) (BS w H)∧A9 G S w (G.at r w.heap.size cap none) (S.set r (.row wr' sz els')) (BS w H):=by
 have iH:=AZ hr;have dI:∀r',r'≠r→(S.set r (.row wr' sz els'))[r']?=S[r']?:=fun r' h=>by simp[List.getElem?_set_ne (Ne.symm h)]
 have gz:(S.set r (.row wr' sz els'))[r]?=some (.row wr' sz els'):=by simp[iH]
 have L:A9 G S w (G.at r w.heap.size cap none) (S.set r (.row wr' sz els')) (BS w H):=by
  refine⟨fun _ h=>h,fun b hb=>CZ (R.G5 b hb),by simp,fun r' jf n' iz=>?_,fun r' jf hm=>?_⟩
  ·by_cases e:r'=r
   ·subst e;have e1:n'=els'.length:=by simpa[lenOf,gz]using iz.symm
    exact⟨els.length,by simp[lenOf,hr],by omega,fun e=>by omega⟩
   ·have:lenOf (S.set r (.row wr' sz els')) r'=lenOf S r':=by simp only[lenOf,dI r' e]
    exact⟨n',by rw[←this];exact iz,Nat.le_refl _,fun _=>⟨by simp[Gh.at,e],by simp[Gh.at,e],by simp[Gh.at,e],.inl (by simp only[AAf,dI r' e])⟩⟩
  ·by_cases e:r'=r
   ·subst e;simp[AAN,gz]at hm
   ·exact⟨by simp only[AAN,dI r' e]at hm;exact hm,by simp[Gh.at,e]⟩
 have ownCase:∀b,Eo (G.at r w.heap.size cap none) (S.set r (.row wr' sz els')) b→(∃r' x,r'≠r∧S[r']?=some x∧AAJ G r' x=true∧b=G.BZ r')∨b=w.heap.size:=by
  rintro b ⟨r',x,h1,h2,h3⟩;by_cases e:r'=r
  ·right;rw[h3,e];simp[Gh.at]
  ·left;rw[dI r' e]at h1;rw[Dd e]at h2;exact⟨r',x,e,h1,h2,by rw[h3];simp[Gh.at,e]⟩
 have own2:∀b,Eo (G.at r w.heap.size cap none) (S.set r (.row wr' sz els')) b→Eo G S b∨b=w.heap.size:=fun b hb=>by
  rcases ownCase b hb with⟨r',x,_,h1,h2,h3⟩|h
  ·exact .inl ⟨r',x,h1,h2,h3⟩
  ·exact .inr h
 refine⟨⟨R.Es.later L,fun r' x hx=>?_,fun r1 r2 x1 x2 h1 h2 o1 o2 he=>?_,fun b hb hI=>?_,fun b hb=>?_,fun b hb=>?_⟩,⟨by simp,fun _ h=>h,fun b hb _=>CZ hb,fun b hb=>?_,fun b hb=>.inl hb,rfl,rfl⟩,L⟩
 ·by_cases e:r'=r
  ·subst e;rw[gz]at hx;cases hx;exact ig L
  ·rw[dI r' e]at hx;exact(R.CT r' x hx).later L (fun hw=>CZ (R.FW _ ⟨r',x,hx,hw,rfl⟩)) (by simp[Gh.at,e]) (by simp[Gh.at,e]) (by simp[Gh.at,e])
 ·by_cases e1:r1=r
  ·by_cases e2:r2=r
   ·omega
   ·rw[dI r2 e2]at h2;rw[Dd e2]at o2;have:=R.FW _ ⟨r2,x2,h2,o2,rfl⟩;simp[Gh.at,e1,e2]at he;omega
  ·rw[dI r1 e1]at h1;rw[Dd e1]at o1;by_cases e2:r2=r
   ·have:=R.FW _ ⟨r1,x1,h1,o1,rfl⟩;simp[Gh.at,e1,e2]at he;omega
   ·rw[dI r2 e2]at h2;rw[Dd e2]at o2;exact R.inj r1 r2 x1 x2 h1 h2 o1 o2 (by simpa[Gh.at,e1,e2]using he)
 ·rcases own2 b hb with h|h
  ·exact R.nI b h hI
  ·have:=R.G5 b hI;omega
 ·have:=R.G5 b hb;simp;omega
 ·rcases own2 b hb with h|h
  ·have:=R.FW b h;simp;omega
  ·simp[h]
 ·rcases own2 b hb with h|h
  ·exact .inl h
  ·exact .inr (by omega)
theorem Rel.Js{P:Program}{G:Gh}{S:Sg}{w:World}(R:Rel P G S w)(sz:Nat)(xs:List D)(a:Option Addr)(hl:xs.length≤maxLen)(h:CD G.I w (.sl xs) (.slice a xs.length xs.length)):
  Rel P (G.at S.length 0 0 (some a)) (S++[.row false sz (xs.map .d)]) w∧Tr G S w (G.at S.length 0 0 (some a)) (S++[.row false sz (xs.map .d)]) w∧A9 G S w (G.at S.length 0 0 (some a)) (S++[.row false sz (xs.map .d)]) w:=by
 have L:A9 G S w (G.at S.length 0 0 (some a)) (S++[.row false sz (xs.map .d)]) w:=A9.add _ _ _ _ (fun k _=>rfl);have F8:∀r x,(S++[O.row false sz (xs.map .d)])[r]?=some x→r≠S.length→S[r]?=some x∧r<S.length:=fun r x hx hr=>by
  have h1:=AZ hx;have h2:r<S.length:=by simp at h1;omega
  exact⟨by simpa[List.getElem?_append,h2]using hx,h2⟩
 have ownCase:∀b,Eo (G.at S.length 0 0 (some a)) (S++[.row false sz (xs.map .d)]) b→∃r x,r≠S.length∧S[r]?=some x∧AAJ G r x=true∧b=G.BZ r:=by
  rintro b ⟨r,x,h1,h2,h3⟩;by_cases e:r=S.length
  ·subst e;have:x=.row false sz (xs.map .d):=by simp at h1;exact h1.symm
   subst this;simp[AAJ,Gh.at]at h2
  ·obtain⟨h4,_⟩:=F8 r x h1 e;rw[Dd e]at h2;exact⟨r,x,e,h4,h2,by rw[h3];simp[Gh.at,e]⟩
 have own2:∀b,Eo (G.at S.length 0 0 (some a)) (S++[.row false sz (xs.map .d)]) b→Eo G S b:=fun b hb=>by
  obtain⟨r,x,_,h1,h2,h3⟩:=ownCase b hb;exact⟨r,x,h1,h2,h3⟩
 refine⟨⟨R.Es.later L,fun r x hx=>?_,fun r1 r2 x1 x2 h1 h2 o1 o2 he=>?_,fun b hb=>R.nI b (own2 b hb),R.G5,fun b hb=>R.FW b (own2 b hb)⟩,⟨Nat.le_refl _,fun _ h=>h,fun _ _ _=>rfl,fun b hb=>.inl (own2 b hb),fun b hb=>.inl hb,rfl,rfl⟩,L⟩
 ·by_cases e:r=S.length
  ·subst e;have:x=.row false sz (xs.map .d):=by simp at hx;exact hx.symm
   subst this;have hv:(G.at S.length 0 0 (some a)).BB S.length=some a:=by simp[Gh.at]
   simp only[OK,hv];refine⟨trivial,by simpa using hl,xs,rfl,h⟩
  ·obtain⟨h4,_⟩:=F8 r x hx e;exact(R.CT r x h4).later L (fun hw=>rfl) (by simp[Gh.at,e]) (by simp[Gh.at,e]) (by simp[Gh.at,e])
 ·have key:∀r x,(S++[O.row false sz (xs.map .d)])[r]?=some x→AAJ (G.at S.length 0 0 (some a)) r x=true→r≠S.length:=fun r x hx ho e=>by
   subst e;have:x=.row false sz (xs.map .d):=by simp at hx;exact hx.symm
   subst this;simp[AAJ,Gh.at]at ho
  have e1:=key r1 x1 h1 o1;have e2:=key r2 x2 h2 o2;obtain⟨g1,_⟩:=F8 r1 x1 h1 e1;obtain⟨g2,_⟩:=F8 r2 x2 h2 e2;rw[Dd e1]at o1;rw[Dd e2]at o2;exact R.inj r1 r2 x1 x2 g1 g2 o1 o2 (by simpa[Gh.at,e1,e2]using he)
theorem Lu(newLen:Nat):∀(r c:Nat),Builtin.growBy newLen r c≤max c (newLen+(newLen+768) / 4)
 |0,c=>by simp[Builtin.growBy];omega
 |r+1,c=>by
  simp only[Builtin.growBy];split
  ·omega
  ·have:=Lu newLen r (c+(c+768) / 4);omega
theorem K2{need cap:Nat}(h:cap<need):Builtin.nextslicecap need cap≤2 * need+768:=by
 unfold Builtin.nextslicecap;split
 ·omega
 ·split
  ·omega
  ·have:=Lu need 4 cap;omega
section
variable {P:Program} {n:Nat} {o:Oper} {tm:Tm} {S S':Sg} {v:V}
def Ao(P:Program)(T:TypeId):Option Nat:=(ti P T).map (·.bytes)
theorem ACP{w:World}{sT xT E ty:TypeId}{e:TI}{z:Value}{base:Option Addr}{m cap k:Nat}{xv:Value}{xs cs:Array Value}
  (hs:AAH P sT=some E) (he:ti P E=some e) (hz:e.zero=some z) (_:z.cells.size=e.size) (hx:∀d,P.underlying xT=some d→tk d≠.other→(∀k,d≠.int k))
  (n7:∃d,P.underlying xT=some d∧tk d≠.other)
  (hlen:∀w',(Builtin.lenOf xv).run P w'=.ok k w') (lH:∀w',w'.heap=w.heap→(Builtin.firstCells e.size k xv).run P w'=.ok cs w') (_:cs.size=k * e.size)
  (hold:∀w',w'.heap=w.heap→(Builtin.firstCells e.size m (.slice base m cap)).run P w'=.ok xs w') (_:xs.size=m * e.size) (hb:m+k≤2 ^ 30) (jJ:e.bytes≤65536) (_:m≤cap):
  (m+k≤cap∧(Builtin.append_ #[sT,xT] ty #[.slice base m cap,xv]).run P w=
   ((match base with|some a=>storeCells (a.add (m * e.size)) cs.toList|none=>pure ()).run P w).andThen fun _ w'=>.ok (.slice base (m+k) cap) w')∨(cap<m+k∧∃nc w0,m+k≤nc∧nc≤maxLen∧w0.heap=w.heap∧w0.os=w.os∧w0.output=w.output∧(Builtin.append_ #[sT,xT] ty #[.slice base m cap,xv]).run P w=
    .ok (.slice (some ⟨w.heap.size,0,none⟩) (m+k) nc) (BS w0 (.cells (xs++cs++Builtin.zeroCells z.cells (nc - (m+k))) E (0,0)))):=by
 obtain⟨t,t1,t2⟩:=BA hs;obtain⟨d,hd,gv⟩:=Ai t1 w;have hdE:d=.slice E:=by rw[t2]at gv;cases d<;>simp[tk]at gv⊢;exact gv
 subst hdE;obtain⟨dx,q9,sC⟩:=n7;have vj:(match dx with|.int _=>true|_=>false)=false:=by
  cases dx<;>first|rfl|exact absurd rfl (hx _ q9 sC _)
 have tj:∀w,(underlying xT).run P w=.ok dx w:=fun w=>by simp[underlying,q9]
 have gp:=BQ he;obtain⟨inf,i1,i2,i3,i4⟩:=Cv he w;have lJ:(Builtin.append_ #[sT,xT] ty #[.slice base m cap,xv]).run P w=
   ((if m+k≤cap then do
     let new←Builtin.firstCells e.size k xv
     if let some a:=base then storeCells (a.add (m * e.size)) new.toList
     pure (.slice base (m+k) cap)
    else do
     if((m+k:Nat):Int)>IntKind.i64.max∧(false∨(←typeInfo E).bytes=0)then runtimePanic (.error "growslice: len out of range")
     if Builtin.nextslicecap (m+k) cap * (←typeInfo E).bytes>2 ^ 48 then(if false then runtimePanic (.error "growslice: len out of range")else do
      if !(←Builtin.mayShare e.size m k base xv)then mark .noRoom
      unsupported (.resourceLimit "append: a slice or a string whose bytes no memory bears"))
     let newCap←choose (.appendCap (m+k) cap E)
     askRoom (newCap * (←typeInfo E).bytes)
     let F8←Builtin.firstCells e.size m (.slice base m cap)
     let new←Builtin.firstCells e.size k xv
     let rest:=Builtin.zeroCells (←zeroValue E).cells (newCap - (m+k))
     pure (.slice (some (←newRow E (F8++new++rest))) (m+k) newCap):Sem Value)).run P w:=by
  unfold Builtin.append_;simp only[List.getElem?_toArray,List.getElem?_cons_zero,List.getElem?_cons_succ,Sem.run_bind,hd,Result.andThen_ok,gp,tj];cases dx<;>first|exact absurd rfl (hx _ q9 sC _)|(simp only[Sem.run_bind,Sem.run_pure,Result.andThen_ok,Bool.false_eq_true,if_false,hlen];rfl)
 rw[lJ];by_cases iw:m+k≤cap
 ·left;refine⟨iw,?_⟩;simp only[if_pos iw,Sem.run_bind,lH w rfl,Result.andThen_ok];cases base<;>simp
 ·right;refine⟨by omega,?_⟩;have h1:¬(((m+k:Nat):Int)>IntKind.i64.max∧(false=true∨inf.bytes=0)):=by
   have:IntKind.i64.max=9223372036854775807:=by decide
   omega
  have h2:¬(Builtin.nextslicecap (m+k) cap * inf.bytes>2 ^ 48):=by
   have h3:=K2 (need:=m+k) (cap:=cap) (by omega);have h4:Builtin.nextslicecap (m+k) cap * inf.bytes≤(2 * (m+k)+768) * 65536:=Nat.mul_le_mul h3 (by omega);omega
  have kz:(Question.appendCap (m+k) cap E).forced=false:=rfl;refine⟨(Question.appendCap (m+k) cap E).cut (w.tape w.drawn (.appendCap (m+k) cap E)),{w with drawn:=w.drawn+1},?_,?_,rfl,rfl,rfl,?_⟩
  ·simp[Question.cut]
  ·simp only[Question.cut,maxLen];have:w.tape w.drawn (Question.appendCap (m+k) cap E) % (2 ^ 63 - (m+k))<2 ^ 63 - (m+k):=Nat.mod_lt _ (by omega);omega
  ·have kO:=lH {w with drawn:=w.drawn+1} rfl;have pz:=hold {w with drawn:=w.drawn+1} rfl;obtain⟨inf',i1',_,i3',_⟩:=Cv he {w with drawn:=w.drawn+1};simp only[if_neg iw,Sem.run_bind,i1,Result.andThen_ok,Sem.run_ite,if_neg h2,Sem.run_pure,run_choose,kz,Bool.false_eq_true,if_false,i1',run_askRoom,pz,kO,DF he _ hz];have jZ:¬(9223372036854775807<(m:Int)+k∧inf.bytes=0):=by omega
   simp[newRow,BS];rw[if_neg jZ];rfl
end
section
variable {P:Program} {n:Nat} {o:Oper} {tm:Tm} {S S':Sg} {v:V}
def ABT(S:Sg)(sz:Nat)(x:V)(ys:List V):Sg:=
 match x with
 |.full xs=>S++[.row (!ys.isEmpty) sz (xs.map .d++ys)]
 |.row r _=>match S[r]? with
  |some (.row wr sz els)=>S.set r (.row (wr||!ys.isEmpty) sz (els++ys))
  |_=>S
 |_=>S
def OS(S:Sg)(x:V)(ys:List V):V:=
 match x with
 |.full xs=>.row S.length (xs.length+ys.length)
 |.row r m=>.row r (m+ys.length)
 |_=>.any
def PF(S:Sg)(sz:Nat)(x:V)(ys:List V):Prop:=
 Af sz ys∧match x with
 |.full xs=>Af sz (xs.map .d)∧xs.length+ys.length≤2 ^ 30
 |.row r m=>match S[r]? with
  |some (.row _ sz' els)=>els.length=m∧sz'=sz∧Af sz els∧m+ys.length≤2 ^ 30
  |_=>False
 |_=>False
theorem TU.append{G:Gh}{w:World}{sz:Nat}{xs ys:List V}{us vs:List Value}{c d rest:Array Value}(h:TU G S w sz xs us c 0)(h':TU G S w sz ys vs d 0)(hc:c.size=xs.length * sz)(hd:d.size=ys.length * sz):
  TU G S w sz (xs++ys) (us++vs) (c++d++rest) 0:=by
 refine⟨by simp[h.len,h'.len],fun i hi gj=>?_,fun i hi j hj=>?_⟩
 ·by_cases e:i<xs.length
  ·rw[List.getElem_append_left e,List.getElem_append_left (by rw[h.len];exact e)];exact h.cv i e (by rw[h.len];exact e)
  ·rw[List.getElem_append_right (by omega),List.getElem_append_right (by rw[h.len];omega)];simp only[h.len];have jR:i - xs.length<ys.length:=by simp at hi;omega
   exact h'.cv (i - xs.length) jR (by rw[h'.len];exact jR)
 ·rw[Nat.zero_add];by_cases e:i<xs.length
  ·rw[List.getElem_append_left (by rw[h.len];exact e)];have cx:i * sz+j<c.size:=by rw[hc];exact D0 e hj
   rw[Array.append_assoc,Array.getElem?_append_left cx];simpa using h.at_ i (by rw[h.len];exact e) j hj
  ·rw[List.getElem_append_right (by rw[h.len];omega)];simp only[h.len];have jR:i - xs.length<ys.length:=by simp[h.len,h'.len]at hi;omega
   have e2:i * sz+j=c.size+((i - xs.length) * sz+j):=by
    rw[hc];have:i * sz=xs.length * sz+(i - xs.length) * sz:=by rw[←Nat.add_mul];congr 1;omega
    omega
   have cx:(i - xs.length) * sz+j<d.size:=by rw[hd];exact D0 jR hj
   rw[e2,Array.append_assoc,Array.getElem?_append_right (by omega),Nat.add_sub_cancel_left,Array.getElem?_append_left cx];simpa using h'.at_ (i - xs.length) (by rw[h'.len];exact jR) j hj
theorem TU.later{G:Gh}{w:World}{G':Gh}{w':World}(L:A9 G S w G' S' w'){sz k0:Nat}{ys:List V}{us:List Value}{c:Array Value}(h:TU G S w sz ys us c k0):TU G' S' w' sz ys us c k0:=
 ⟨h.len,fun i hi gj=>⟨(h.cv i hi gj).1.later L,(h.cv i hi gj).2.1,(h.cv i hi gj).2.2⟩,h.at_⟩
theorem TU.rowAt{G:Gh}{w:World}{sz:Nat}{ys:List V}{us:List Value}{c:Array Value}(h:TU G S w sz ys us c 0):KO G S w sz ys c 0:=fun i hi=>by
 have gj:i<us.length:=by rw[h.len];exact hi
 obtain⟨h1,h2,h3⟩:=h.cv i hi gj;exact⟨us[i],h1,h2,h3,fun j hj=>by have:=h.at_ i gj j hj;simpa using this⟩
theorem Da(z:Array Value)(n:Nat):(Builtin.zeroCells z n).size=n * z.size:=by simp[Builtin.zeroCells]
theorem Q9{c:Call}{sT xT E:TypeId}{x y:Operand}{e:TI}{z:Value}{ys:List V}(ho:o.op=.call c)(hc:c.callee=.builtin .append)(gi:c.args=#[x,y])(hT:c.argTypes=#[sT,xT])
  (hx:need (ev tm x)) (hy:need (ev tm y)) (hs:AAH P sT=some E) (hxT:(AAH P xT).isSome=true) (he:ti P E=some e) (hz:e.zero=some z) (lu:z.cells.size=e.size) (jJ:e.bytes≤65536)
  (tn:ABS S (strip (ev tm y))=some ys) (hp:PF S e.size (strip (ev tm x)) ys):
  Bv P n o tm S (OS S (strip (ev tm x)) ys) (ABT S e.size (strip (ev tm x)) ys):=.val fun G w a st=>by
 have h1:=(BH st x).strip hx;have h2:=(BH st y).strip hy;obtain⟨sD,hp⟩:=hp;obtain⟨vs,cs,l1,l2,l3,l4⟩:=Zx st.rel h2 tn sD;obtain⟨F,hF⟩:=Option.isSome_iff_exists.1 hxT;obtain⟨tx,tx1,tx2⟩:=BA hF;obtain⟨ix,dx,ix1,ix2,_,_,_,ix3⟩:=GA tx1;have q9:dx=.slice F:=by rw[tx2]at ix3;cases dx<;>simp[tk]at ix3⊢;exact ix3
 subst q9;have tp:∀d,P.underlying xT=some d→tk d≠.other→∀k,d≠.int k:=fun d hd _ k=>by rw[ix2]at hd;cases hd;simp
 have n7:∃d,P.underlying xT=some d∧tk d≠.other:=⟨_,ix2,by simp[tk]⟩;have iA:(execOp a.eval o).run P w=((Builtin.append_ #[sT,xT] o.type #[a.eval x,a.eval y]).run P w).andThen fun v w'=>.ok (.value v) w':=by
  simp[execOp,ho,resolve,hc,gi,hT,invoke,builtin]
 generalize strip (ev tm x)=X at *;split at hp
 ·
  rename_i xs;obtain⟨sB,hb⟩:=hp;generalize vk:a.eval x=B at h1 iA;cases h1 with
  |full _ base jo=>
   obtain⟨us,c0,m1,m2,m3,m4⟩:=FC (P:=P) (S:=S) jo sB;rcases ACP (P:=P) (w:=w) (ty:=o.type) (base:=base) (m:=xs.length) (cap:=xs.length) hs he hz lu tp n7 l1 l2 l3 m2 m3 hb jJ (Nat.le_refl _)with⟨iw,gl⟩|⟨sE,nc,w0,tq,ra,e1,e2,e3,gl⟩
   ·have sF:ys.length=0:=by omega
    have pA:ys=[]:=List.length_eq_zero_iff.1 sF;subst pA;have pB:cs.toList=[]:=by
     have:cs.size=0:=by rw[l3];simp
     exact List.length_eq_zero_iff.1 (by simpa using this)
    have hl:xs.length≤maxLen:=by
     simp[maxLen];have:xs.length≤2 ^ 30:=by simpa using hb
     omega
    obtain⟨r1,r2,r3⟩:=st.rel.Js e.size xs base hl jo;refine⟨.slice base xs.length xs.length,G.at S.length 0 0 (some base),w,?_,?_,by simpa[ABT]using r1,by simpa[ABT]using r2,by simpa[ABT]using r3⟩
    ·rw[iA,gl];cases base<;>simp[pB,storeCells]
    ·simp only[OS,ABT];refine .row _ _ _ rfl (by simp) fun m' iS=>?_;have:m'=xs.length:=by simpa[lenOf]using iS.symm
     subst this;exact⟨by simp,fun _=>by simp[Gh.AAP,Gh.at]⟩
   ·obtain⟨q1,q2,q3⟩:=st.rel.drawn e1 e2 e3;have kA:=(m4.later q3).append (l4.later q3) (by simpa using m3) l3 (rest:=Builtin.zeroCells z.cells (nc - (xs.length+ys.length)));obtain⟨r1,r2,r3⟩:=q1.add nc (.row (!ys.isEmpty) e.size (xs.map .d++ys)) (.cells (c0++cs++Builtin.zeroCells z.cells (nc - (xs.length+ys.length))) E (0,0)) (fun L=>by
     have hv:(G.at S.length w0.heap.size nc none).BB S.length=none:=by simp[Gh.at]
     have mW:(G.at S.length w0.heap.size nc none).BZ S.length=w0.heap.size:=by simp[Gh.at]
     have kB:(G.at S.length w0.heap.size nc none).cap S.length=(nc,0):=by simp[Gh.at]
     simp only[OK,hv,mW,kB];refine⟨_,E,C0,?_,by simp;omega,by simp[maxLen];omega,(kA.later L).rowAt⟩;refine Nat.le_of_eq (Eq.symm ?_);simp only[Array.size_append,m3,l3,Da,lu,Nat.zero_add];rw[←Nat.add_mul,←Nat.add_mul];congr 1;omega)
    rw[e1]at r1 r2 r3;have r2':=q2.trans r2;have r3':=q3.trans r3;refine⟨_,_,_,by rw[iA,gl];rfl,?_,by simpa[ABT]using r1,by simpa[ABT]using r2',by simpa[ABT]using r3'⟩;simp only[OS,ABT];refine .row _ _ _ rfl (by simp) fun m' iS=>?_;have:m'=xs.length+ys.length:=by simpa[lenOf]using iS.symm
    subst this;exact⟨Nat.le_refl _,fun _=>by simp[Gh.AAP,Gh.at]⟩
 ·
  rename_i r m;split at hp
  ·rename_i wr sz' els hr;obtain⟨hm,gp,tt,hb⟩:=hp;subst gp;have iI:a.eval x=G.AAP r m∧r<S.length:=by
    cases h1 with|row _ _ _ _ cx h=>exact⟨(h m (by simp[lenOf,hr,hm])).2 rfl,cx⟩
   obtain⟨iI,cx⟩:=iI;subst hm;obtain⟨us,c0,m1,m2,m3,m4⟩:=QE st.rel hr tt;have gw:=st.rel.CT r _ hr;have rb:∃base cap,G.AAP r els.length=.slice base els.length cap∧els.length≤cap:=by
    unfold Gh.AAP;simp only[OK]at gw;cases hv:G.BB r with
    |none=>
     simp only[hv]at gw;obtain⟨c,T,g1,g2,g3,g4,g5⟩:=gw;exact⟨_,_,rfl,g3⟩
    |some b=>exact⟨_,_,rfl,Nat.le_refl _⟩
   obtain⟨base,cap,pC,q8⟩:=rb;rw[pC]at m2;have kC:=iA;rw[iI,pC]at kC;have gz:∀w2:O,(S.set r w2)[r]?=some w2:=fun w2=>by simp[cx]
   rcases ACP (P:=P) (w:=w) (ty:=o.type) (base:=base) (m:=els.length) (cap:=cap) hs he hz lu tp n7 l1 l2 l3 m2 m3 hb jJ q8 with⟨iw,gl⟩|⟨sE,nc,w0,tq,ra,e1,e2,e3,gl⟩
   ·cases hv:G.BB r with
    |some b=>
     have kb:base=b∧cap=els.length:=by
      have:=pC;simp only[Gh.AAP,hv,Value.slice.injEq]at this;exact⟨this.1.symm,this.2.2.symm⟩
     obtain⟨rfl,rfl⟩:=kb;have sF:ys.length=0:=by omega
     have pA:ys=[]:=List.length_eq_zero_iff.1 sF;subst pA;have pB:cs.toList=[]:=by
      have:cs.size=0:=by rw[l3];simp
      exact List.length_eq_zero_iff.1 (by simpa using this)
     have hS:S.set r (.row wr e.size els)=S:=by
      apply List.ext_getElem?;intro i;by_cases hi:i=r
      ·subst hi;rw[gz,hr]
      ·rw[List.getElem?_set_ne (Ne.symm hi)]
     refine⟨.slice base els.length els.length,G,w,?_,?_,?_⟩
     ·rw[kC,gl];cases base<;>simp[pB,storeCells]
     ·simp only[OS,ABT,hr];simp only[List.length_nil,Nat.add_zero,List.append_nil,List.isEmpty_nil,Bool.not_true,Bool.or_false,hS];rw[←pC,←iI];exact h1
     ·simp only[ABT,hr,List.append_nil,List.isEmpty_nil,Bool.not_true,Bool.or_false,hS];exact⟨st.rel,Tr.refl _ _ _,A9.refl _ _ _⟩
    |none=>
     have kb:base=some ⟨G.BZ r,(G.cap r).2,none⟩∧cap=(G.cap r).1:=by
      have:=pC;simp only[Gh.AAP,hv,Value.slice.injEq]at this;exact⟨this.1.symm,this.2.2.symm⟩
     obtain⟨rfl,rfl⟩:=kb;simp only[OK,hv]at gw;obtain⟨c,T0,g1,g2,g3,g4,g5⟩:=gw;have yi:(G.cap r).2+(els.length * e.size+cs.size)≤c.size:=by
      refine Nat.le_trans ?_ g2;rw[l3,←Nat.add_mul];exact Nat.add_le_add_left (Nat.mul_le_mul_right _ iw) _
     have rh:∀v∈cs.toList,one v=true:=fun v mX=>by
      obtain⟨q,hq,rfl⟩:=List.mem_iff_getElem.1 mX;have kf:q<ys.length * e.size:=by rw[←l3];simpa using hq
      have oX:0<e.size:=by
       rcases Nat.eq_zero_or_pos e.size with h0|h0
       ·rw[h0]at kf;simp at kf
       ·exact h0
      have hi:q / e.size<vs.length:=by rw[l4.len];exact Nat.div_lt_of_lt_mul (by rw[Nat.mul_comm];exact kf)
      have hj:q % e.size<e.size:=Nat.mod_lt _ oX;have mG:q / e.size * e.size+q % e.size=q:=by rw[Nat.mul_comm];exact Nat.div_add_mod q e.size
      have:=l4.at_ (q / e.size) hi (q % e.size) hj;rw[Nat.zero_add,mG]at this;obtain⟨_,n1,n2⟩:=l4.cv (q / e.size) (by rw[←l4.len];exact hi) hi;rw[Array.getElem?_eq_getElem (show q<cs.size by rw[l3];exact kf),Array.getElem?_eq_getElem (by omega)]at this;simp only[Option.some.injEq]at this;simp only[Array.getElem_toList];rw[this];exact n2 _ (by simp)
     have gn:=Gf (P:=P) (b:=G.BZ r) (off:=(G.cap r).2+els.length * e.size) (T:=T0) cs.toList 0 w c g1 (by simp;omega) rh;simp only[Nat.add_zero]at gn;have own1:AAJ G r (.row wr e.size els)=true:=by simp[AAJ,hv]
     have own2:AAJ G r (.row (wr||!ys.isEmpty) e.size (els++ys))=true:=by simp[AAJ,hv]
     have wi:=st.rel.update hr own1 own2 (H:=.cells (AAh c ((G.cap r).2+els.length * e.size) cs.toList) T0 (0,0)) (fun n' iz=>by
       have:n'=els.length+ys.length:=by simpa[lenOf,gz]using iz.symm
       exact⟨els.length,by simp[lenOf,hr],by omega,fun _=>.inl (by simp only[AAf,hr];simp[cx])⟩) (fun hm=>by simp[AAN,gz]at hm) (fun L=>by
       simp only[OK,hv];refine⟨_,T0,Ej (D3 g1),by rw[DO];exact g2,by simpa using iw,by simp[maxLen];omega,fun i hi=>?_⟩;by_cases h3:i<els.length
       ·obtain⟨u,u1,u2,u3,u4⟩:=g5 i h3;refine⟨u,by rw[List.getElem_append_left h3];exact u1.later L,u2,u3,fun j hj=>?_⟩;rw[DH _ _ _ _ (by simp;omega),if_neg (by have:=D0 h3 hj;omega)];exact u4 j hj
       ·have jR:i - els.length<ys.length:=by simp at hi;omega
        obtain⟨n1,n2,n3⟩:=l4.cv (i - els.length) jR (by rw[l4.len];exact jR);refine⟨vs[i - els.length]'(by rw[l4.len];exact jR),by rw[List.getElem_append_right (by omega)];exact n1.later L,n2,n3,fun j hj=>?_⟩;have ik:=D0 jR hj;have e2:i * e.size+j=els.length * e.size+((i - els.length) * e.size+j):=by
         have:i * e.size=els.length * e.size+(i - els.length) * e.size:=by rw[←Nat.add_mul];congr 1;omega
         omega
        rw[DH _ _ _ _ (by simp;omega),if_pos (by simp[l3];omega)];have:=l4.at_ (i - els.length) (by rw[l4.len];exact jR) j hj;rw[←this];simp only[Array.getElem?_toList];congr 1;omega)
     obtain⟨r1,r2,r3⟩:=wi;refine⟨.slice (some ⟨G.BZ r,(G.cap r).2,none⟩) (els.length+ys.length) (G.cap r).1,G,_,?_,?_,by simpa[ABT,hr]using r1,by simpa[ABT,hr]using r2,by simpa[ABT,hr]using r3⟩
     ·rw[kC,gl];simp only[Eb,gn,Result.andThen_ok]
     ·simp only[OS,ABT,hr];refine .row _ _ _ rfl (by simpa using cx) fun m' iS=>?_;have:m'=els.length+ys.length:=by simpa[lenOf,gz]using iS.symm
      subst this;exact⟨Nat.le_refl _,fun _=>by simp[Gh.AAP,hv]⟩
   ·
    have wj:0<ys.length:=by omega
    obtain⟨q1,q2,q3⟩:=st.rel.drawn e1 e2 e3;have kA:=(m4.later q3).append (l4.later q3) m3 l3 (rest:=Builtin.zeroCells z.cells (nc - (els.length+ys.length)));obtain⟨r1,r2,r3⟩:=q1.bG (wr':=wr||!ys.isEmpty) (els':=els++ys) (cap:=nc) (H:=.cells (c0++cs++Builtin.zeroCells z.cells (nc - (els.length+ys.length))) E (0,0)) hr (by simp;omega) (fun L=>by
     have hv:(G.at r w0.heap.size nc none).BB r=none:=by simp[Gh.at]
     have mW:(G.at r w0.heap.size nc none).BZ r=w0.heap.size:=by simp[Gh.at]
     have kB:(G.at r w0.heap.size nc none).cap r=(nc,0):=by simp[Gh.at]
     simp only[OK,hv,mW,kB];refine⟨_,E,C0,?_,by simp;omega,by simp[maxLen];omega,(kA.later L).rowAt⟩;refine Nat.le_of_eq (Eq.symm ?_);simp only[Array.size_append,m3,l3,Da,lu,Nat.zero_add];rw[←Nat.add_mul,←Nat.add_mul];congr 1;omega)
    rw[e1]at r1 r2 r3;have r2':=q2.trans r2;have r3':=q3.trans r3;refine⟨_,_,_,by rw[kC,gl];rfl,?_,by simpa[ABT,hr]using r1,by simpa[ABT,hr]using r2',by simpa[ABT,hr]using r3'⟩;simp only[OS,ABT,hr];refine .row _ _ _ rfl (by simpa using cx) fun m' iS=>?_;have:m'=els.length+ys.length:=by simpa[lenOf,gz]using iS.symm
    subst this;exact⟨Nat.le_refl _,fun _=>by simp[Gh.AAP,Gh.at]⟩
  ·exact hp.elim
 ·exact hp.elim
end
section
variable {P:Program} {n:Nat} {o:Oper} {tm:Tm} {S S':Sg} {v:V}
def AFE(x:V)(l h:Nat)(full:Bool):V:=
 match x with
 |.d (.str s)=>.d (.str (s.extract l h))
 |.d (.sl xs)=>if full then .full ((xs.take h).drop l)else .d (.sl ((xs.take h).drop l))
 |.full xs=>if full then .full ((xs.take h).drop l)else .d (.sl ((xs.take h).drop l))
 |_=>.any
theorem CD.sub{I:Nat→Prop}{w:World}{xs:List D}{b:Option Addr}{len cap:Nat}(H:CD I w (.sl xs) (.slice b len cap)){l h m sz:Nat}(hl:l≤h)(hh:h≤xs.length)(hm:h≤m)
  (hs:l=0∨l=h∨((AAL (xs.getD l (.bool false))).length=sz∧AAe.oneD (xs.getD l (.bool false))=true)):
  CD I w (.sl ((xs.take h).drop l)) (.slice (if m=l then b else b.map (·.add (l * sz))) (h - l) (m - l)):=by
 have hlen:((xs.take h).drop l).length=h - l:=by simp;omega
 by_cases he:l=h
 ·subst he;have:(xs.take l).drop l=[]:=List.length_eq_zero_iff.1 (by simp;try omega);rw[this,Nat.sub_self];exact .nil _ _
 ·cases H with
  |nil=>simp at hh;omega
  |sl sz' xs b off cap vs hI ri hc h1 h2=>
   have kI:m≠l:=by omega
   have rj:off+l * sz=off+l * sz':=by
    rcases hs with e|e|⟨e1,e2⟩
    ·subst e;simp
    ·exact absurd e he
    ·have cx:l<xs.length:=by omega
     have jn:xs.getD l (.bool false)=xs[l]:=by simp[List.getD,cx]
     rw[jn]at e1 e2;obtain⟨c1,_⟩:=(h1 l cx).cells e2;have:=(h2 l cx).1;have:sz=sz':=by omega
     rw[this]
   simp only[if_neg kI,Option.map_some,Eb];rw[rj];have vl:=hlen;rw[←hlen];refine .sl sz' _ b _ _ (fun i=>vs (l+i)) hI (by omega) (by omega) (fun i hi=>?_) (fun i hi=>?_)
   ·have:((xs.take h).drop l)[i]=xs[l+i]'(by omega):=by simp
    rw[this];exact h1 _ _
   ·obtain⟨g1,g2⟩:=h2 (l+i) (by omega);refine⟨g1,fun j hj=>?_⟩;rw[←g2 j hj];congr 2;rw[Nat.add_mul];omega
def AAs(tm:Tm)(x:Option Operand):V:=match x with|some y=>strip (ev tm y)|none=>.d (.int .i64 0)
def EH(tm:Tm)(x:Option Operand):Prop:=match x with|some y=>need (ev tm y)|none=>True
theorem Bg{G:Gh}{w:World}{a:Act}(st:St P n G S w a tm){y:Operand}{k:IntKind}{i:Int}(hy:need (ev tm y))(ey:strip (ev tm y)=.d (.int k i)):a.eval y=.int k i:=by
 have h:=(BH st y).strip hy;rw[ey]at h;exact h.int
theorem EX{G:Gh}{w:World}{a:Act}(st:St P n G S w a tm){y:Operand}{k:IntKind}{i:Int}(hy:need (ev tm y))(ey:strip (ev tm y)=.d (.int k i)):rng k i=true:=by
 have h:=(BH st y).strip hy;rw[ey]at h;exact h.rng
theorem By{w:World}{k:IntKind}{i:Int}{y:Nat}{code:BoundsCode}(h0:0≤i)(h1:i≤y):(Instr.sliceBound (.int k i) y code).run P w=.ok i.toNat w:=by
 simp[Instr.sliceBound,asIntOf,h0,h1]
theorem Nx{T:TypeId}{x:Operand}{lo hi:Option Operand}{s:ByteArray}{kl kh:IntKind}{l h:Int}(ho:o.op=.slice T x lo hi none)(hx:need (ev tm x))(ex:strip (ev tm x)=.d (.str s))
  (hT:∃t,ti P T=some t∧t.kind=.str) (lK:EH tm lo) (el:AAs tm lo=.d (.int kl l)) (kP:EH tm hi) (eh:hi=none→h=s.size) (eh':hi≠none→AAs tm hi=.d (.int kh h))
  (h0:0≤l) (h1:l≤h) (h2:h≤s.size):Bv P n o tm S (.d (.str (s.extract l.toNat h.toNat))) S:=.pure fun G w a st=>by
 have hv:=(BH st x).strip hx;rw[ex]at hv;obtain⟨wm,vm⟩:=hv.str;obtain⟨t,t1,t2⟩:=hT;obtain⟨d,hd,gv⟩:=Ai t1 w;have hdE:d=.string:=by rw[t2]at gv;cases d<;>simp[tk]at gv⊢
 subst hdE;refine⟨.string (s.extract l.toNat h.toNat),?_,.d _ _ (.str _ (by simp;omega))⟩;have hb:(Instr.sliceBounds false s.size s.size (lo.map a.eval) (hi.map a.eval) none).run P w=.ok (l.toNat,h.toNat,s.size) w:=by
  unfold Instr.sliceBounds;have n8:∀y,hi=some y→a.eval y=.int kh h:=fun y hy=>Bg st (by simpa[EH,hy]using kP) (by have:=eh' (by simp[hy]);simpa[AAs,hy]using this);have lx:∀y,lo=some y→a.eval y=.int kl l:=fun y hy=>Bg st (by simpa[EH,hy]using lK) (by simpa[AAs,hy]using el);have e3:lo=none→l=0:=fun e=>by subst e;simp[AAs]at el;exact el.2.symm
  cases hi with
  |none=>
   have:=eh rfl;subst this;cases lo with
   |none=>have:=e3 rfl;subst this;simp
   |some z=>simp[lx z rfl,By h0 h1]
  |some y=>
   have e4:l≤(h.toNat:Int):=by omega
   cases lo with
   |none=>have:=e3 rfl;subst this;simp[n8 y rfl,By (show 0≤h by omega) h2]
   |some z=>simp[n8 y rfl,By (show 0≤h by omega) h2,lx z rfl,By h0 e4]
 simp[execOp,ho,Instr.sliceAt,wm,hd,Instr.slice,hb]
theorem Pg{T E:TypeId}{x:Operand}{lo hi mx:Option Operand}{xs:List D}{kl kh:IntKind}{l h:Int}{e:TI}{t:TI}(ho:o.op=.slice T x lo hi mx)(hx:need (ev tm x))
  (ex:strip (ev tm x)=.d (.sl xs)∨strip (ev tm x)=.full xs) (hT:ti P T=some t) (hk:t.kind=.slice E) (he:ti P E=some e) (lK:EH tm lo) (el:AAs tm lo=.d (.int kl l)) (kP:EH tm hi)
  (eh:hi=none→h=xs.length) (eh':hi≠none→AAs tm hi=.d (.int kh h)) (qG:EH tm mx) (em:mx≠none→hi≠none∧AAs tm mx=.d (.int kh h))
  (h0:0≤l) (h1:l≤h) (h2:h≤xs.length) (hs:l.toNat=0∨l.toNat=h.toNat∨((AAL (xs.getD l.toNat (.bool false))).length=e.size∧AAe.oneD (xs.getD l.toNat (.bool false))=true)):
  Bv P n o tm S (if mx.isSome then .full ((xs.take h.toNat).drop l.toNat)else .d (.sl ((xs.take h.toNat).drop l.toNat))) S:=.pure fun G w a st=>by
 have hv:=(BH st x).strip hx;obtain⟨d,hd,gv⟩:=Ai hT w;have hdE:d=.slice E:=by rw[hk]at gv;cases d<;>simp[tk]at gv⊢;exact gv
 subst hdE;have jo:∃b cap,a.eval x=.slice b xs.length cap∧xs.length≤cap∧CD G.I w (.sl xs) (.slice b xs.length cap):=by
  generalize a.eval x=X at hv;rcases ex with ex|ex<;>rw[ex]at hv
  ·cases hv with
   |d _ _ hc=>
    cases hc with
    |nil b c=>exact⟨b,c,rfl,Nat.zero_le _,.nil b c⟩
    |sl sz xs b off cap vs hI hl hc h1 h2=>exact⟨_,_,rfl,hc,.sl sz xs b off cap vs hI hl hc h1 h2⟩
  ·cases hv with
   |full _ b hc=>exact⟨b,_,rfl,Nat.le_refl _,hc⟩
 obtain⟨b,cap,iI,om,jo⟩:=jo;have n8:∀y,hi=some y→a.eval y=.int kh h:=fun y hy=>Bg st (by simpa[EH,hy]using kP) (by have:=eh' (by simp[hy]);simpa[AAs,hy]using this);have lx:∀y,lo=some y→a.eval y=.int kl l:=fun y hy=>Bg st (by simpa[EH,hy]using lK) (by simpa[AAs,hy]using el);have vn:∀y,mx=some y→a.eval y=.int kh h:=fun y hy=>Bg st (by simpa[EH,hy]using qG) (by have:=(em (by simp[hy])).2;simpa[AAs,hy]using this);have e3:lo=none→l=0:=fun e=>by subst e;simp[AAs]at el;exact el.2.symm
 let m:Nat:=if mx.isSome then h.toNat else cap;have hb:(Instr.sliceBounds true xs.length cap (lo.map a.eval) (hi.map a.eval) (mx.map a.eval)).run P w=.ok (l.toNat,h.toNat,m) w:=by
  unfold Instr.sliceBounds;have e4:l≤(h.toNat:Int):=by omega
  have e5:(h:Int)≤cap:=by omega
  have e6:h≤(h.toNat:Int):=by omega
  have e7:(0:Int)≤h:=by omega
  cases mx with
  |none=>
   cases hi with
   |none=>
    have:=eh rfl;subst this;cases lo with
    |none=>have:=e3 rfl;subst this;simp[m]
    |some z=>simp[lx z rfl,By h0 h1,m]
   |some y=>
    cases lo with
    |none=>have:=e3 rfl;subst this;simp[n8 y rfl,By e7 e5,m]
    |some z=>simp[n8 y rfl,By e7 e5,lx z rfl,By h0 e4,m]
  |some q=>
   cases hi with
   |none=>exact absurd rfl (em (by simp)).1
   |some y=>
    cases lo with
    |none=>have:=e3 rfl;subst this;simp[vn q rfl,n8 y rfl,By e7 e5,By e7 e6,m]
    |some z=>simp[vn q rfl,n8 y rfl,By e7 e5,By e7 e6,lx z rfl,By h0 e4,m]
 have wo:h.toNat≤m:=by simp only[m];split<;>omega
 have jS:=jo.sub (l:=l.toNat) (h:=h.toNat) (m:=m) (sz:=e.size) (by omega) (by omega) wo hs;refine⟨.slice (if m=l.toNat then b else b.map (·.add (l.toNat * e.size))) (h.toNat - l.toNat) (m - l.toNat),?_,?_⟩
 ·simp[execOp,ho,Instr.sliceAt,iI,hd,Instr.slice,hb,BQ he]
 ·have hlen:((xs.take h.toNat).drop l.toNat).length=h.toNat - l.toNat:=by simp;omega
  cases hm:mx.isSome with
  |false=>simp only[Bool.false_eq_true,if_false];exact .d _ _ jS
  |true=>
   simp only[if_true];have e1:m=h.toNat:=by simp[m,hm]
   have:m - l.toNat=h.toNat - l.toNat:=by rw[e1]
   rw[this]at jS⊢;have:=CV.full (S:=S) _ _ (by rw[hlen];exact jS);rwa [hlen]at this
theorem M6{T E:TypeId}{x y:Operand}{kx ky:IntKind}{m:Nat}{t e:TI}{z:Value}(ho:o.op=.makeSlice T x y)(hx:need (ev tm x))(hy:need (ev tm y))
  (ex:strip (ev tm x)=.d (.int kx m)) (ey:strip (ev tm y)=.d (.int ky m)) (hT:ti P T=some t) (hk:t.kind=.slice E) (he:ti P E=some e) (hz:e.zero=some z) (lu:z.cells.size=e.size)
  (qE:(Ar (cst z)||AAW (cst z))=true) (hb:e.bytes≤65536) (hm:m≤2 ^ 30):
  Bv P n o tm S (.row S.length m) (S++[.row true e.size (List.replicate m (cst z))]):=.val fun G w a st=>by
 have h1:=Bg st hx ex;have h2:=Bg st hy ey;obtain⟨i1,d1,u1,u2,_,_,_,u3⟩:=GA hT;have hdE:d1=.slice E:=by rw[hk]at u3;cases d1<;>simp[tk]at u3⊢;exact u3
 subst hdE;obtain⟨i2,d2,v1,v2,v3,v4,v5,v6⟩:=GA he;have tu:(m:Int)≤9223372036854775807:=by omega
 have sG:(i2.bytes:Int) * (m:Int)≤281474976710656:=by
  have h:e.bytes * m≤65536 * 2 ^ 30:=Nat.mul_le_mul hb hm;rw[v4];have:((e.bytes * m:Nat):Int)≤281474976710656:=by omega
  rwa [Int.natCast_mul]at this
 have gl:=run_make (P:=P) w T E i2 z u2 v1 (v5.trans hz) kx ky m m (by omega) (Int.le_refl _) sG tu;simp only[Int.toNat_natCast,v3]at gl;obtain⟨r1,r2,r3⟩:=st.rel.add m (.row true e.size (List.replicate m (cst z))) (.cells (madeCells z.cells (m * e.size)) E (0,0)) (fun L=>by
  have hv:(G.at S.length w.heap.size m none).BB S.length=none:=by simp[Gh.at]
  have mW:(G.at S.length w.heap.size m none).BZ S.length=w.heap.size:=by simp[Gh.at]
  have kB:(G.at S.length w.heap.size m none).cap S.length=(m,0):=by simp[Gh.at]
  simp only[OK,hv,mW,kB];refine⟨_,E,C0,by rw[size_madeCells,Nat.zero_add];exact Nat.le_refl _,by simp,by simp[maxLen];omega,fun i hi=>?_⟩;have hi:i<m:=by simpa using hi
  have iO:=Fo (G.at S.length w.heap.size m none) (S++[.row true e.size (List.replicate m (cst z))]) (BS w (.cells (madeCells z.cells (m * e.size)) E (0,0))) z;obtain⟨c1,c2,_⟩:=iO.cells (by simpa using qE);refine⟨z,by simpa using iO,lu,fun x hx=>?_,fun j hj=>?_⟩
  ·obtain⟨k,hk,rfl⟩:=Array.mem_iff_getElem.1 hx;exact c2 k hk
  ·have cx:=D0 hi hj;have pD:(i * e.size+j) % z.cells.size=j:=by rw[lu,Nat.mul_comm,Nat.mul_add_mod];exact Nat.mod_eq_of_lt hj
   have jL:j<z.cells.size:=by omega
   simp[madeCells,cx,pD,jL])
 refine⟨.slice (some ⟨w.heap.size,0,none⟩) m m,_,_,?_,?_,r1,r2,r3⟩
 ·simp[execOp,ho,h1,h2,gl];rfl
 ·refine .row _ _ _ rfl (by simp) fun m' iS=>?_;have:m'=m:=by simpa[lenOf]using iS.symm
  subst this;exact⟨Nat.le_refl _,fun _=>by simp[Gh.AAP,Gh.at]⟩
theorem Uq{T:TypeId}{x y:Operand}{s:ByteArray}{k:IntKind}{i:Int}{t:TI}(ho:o.op=.index T x y)(hx:need (ev tm x))(hy:need (ev tm y))(ex:strip (ev tm x)=.d (.str s))
  (ey:strip (ev tm y)=.d (.int k i)) (ht:ti P T=some t) (hk:t.kind=.str) (h0:0≤i) (h1:i<s.size):Bv P n o tm S (.d (.int .u8 (s.get! i.toNat).toNat)) S:=.pure fun G w a st=>by
 have hv:=(BH st x).strip hx;rw[ex]at hv;have hi:=Bg st hy ey;obtain⟨d,hd,gv⟩:=Ai ht w;have hdE:d=.string:=by rw[hk]at gv;cases d<;>simp[tk]at gv⊢
 subst hdE;have cx:i.toNat<s.size:=by omega
 refine⟨.int .u8 (s.get! i.toNat).toNat,?_,.d _ _ (.int _ _ (by have:=UInt8.toNat_lt (s.get! i.toNat);simp[rng];omega))⟩;have hg:s[i.toNat]?=some (s.get! i.toNat):=by
  simp[ByteArray.get!,getElem?_pos,cx];rfl
 simp[execOp,ho,Instr.index,hv.str.1,hi,asIntOf,hd,h0,hg]
theorem YY{c:Call}{x y:Operand}{k:IntKind}{i j:Int}(ho:o.op=.call c)(hc:c.callee=.builtin .min)(gi:c.args=#[x,y])(hx:need (ev tm x))(hy:need (ev tm y))
  (ex:strip (ev tm x)=.d (.int k i)) (ey:strip (ev tm y)=.d (.int k j)):Bv P n o tm S (.d (.int k (if j<i then j else i))) S:=.pure fun G w a st=>by
 have h1:=Bg st hx ex;have h2:=Bg st hy ey;have r1:=EX st hx ex;have r2:=EX st hy ey;exact⟨_,by simp[execOp,ho,resolve,hc,gi,invoke,builtin,Builtin.min_,h1,h2,Builtin.min2],.d _ _ (.int _ _ (by split<;>assumption))⟩
theorem Ye{c:Call}{x y:Operand}{k:IntKind}{i j:Int}(ho:o.op=.call c)(hc:c.callee=.builtin .max)(gi:c.args=#[x,y])(hx:need (ev tm x))(hy:need (ev tm y))
  (ex:strip (ev tm x)=.d (.int k i)) (ey:strip (ev tm y)=.d (.int k j)):Bv P n o tm S (.d (.int k (if j>i then j else i))) S:=.pure fun G w a st=>by
 have h1:=Bg st hx ex;have h2:=Bg st hy ey;have r1:=EX st hx ex;have r2:=EX st hy ey;exact⟨_,by simp[execOp,ho,resolve,hc,gi,invoke,builtin,Builtin.max_,h1,h2,Builtin.max2],.d _ _ (.int _ _ (by split<;>assumption))⟩
theorem Xw{c:Call}{x y z:Operand}{k:IntKind}{i j l:Int}(ho:o.op=.call c)(hc:c.callee=.builtin .max)(gi:c.args=#[x,y,z])(hx:need (ev tm x))(hy:need (ev tm y))(hz:need (ev tm z))
  (ex:strip (ev tm x)=.d (.int k i)) (ey:strip (ev tm y)=.d (.int k j)) (ez:strip (ev tm z)=.d (.int k l)):
  Bv P n o tm S (.d (.int k (if l>(if j>i then j else i)then l else(if j>i then j else i)))) S:=.pure fun G w a st=>by
 have h1:=Bg st hx ex;have h2:=Bg st hy ey;have h3:=Bg st hz ez;have r1:=EX st hx ex;have r2:=EX st hy ey;have r3:=EX st hz ez;exact⟨_,by simp[execOp,ho,resolve,hc,gi,invoke,builtin,Builtin.max_,h1,h2,h3,Builtin.max2],.d _ _ (.int _ _ (by split<;>(try split)<;>assumption))⟩
theorem Xz{c:Call}{x y z:Operand}{k:IntKind}{i j l:Int}(ho:o.op=.call c)(hc:c.callee=.builtin .min)(gi:c.args=#[x,y,z])(hx:need (ev tm x))(hy:need (ev tm y))(hz:need (ev tm z))
  (ex:strip (ev tm x)=.d (.int k i)) (ey:strip (ev tm y)=.d (.int k j)) (ez:strip (ev tm z)=.d (.int k l)):
  Bv P n o tm S (.d (.int k (if l<(if j<i then j else i)then l else(if j<i then j else i)))) S:=.pure fun G w a st=>by
 have h1:=Bg st hx ex;have h2:=Bg st hy ey;have h3:=Bg st hz ez;have r1:=EX st hx ex;have r2:=EX st hy ey;have r3:=EX st hz ez;exact⟨_,by simp[execOp,ho,resolve,hc,gi,invoke,builtin,Builtin.min_,h1,h2,h3,Builtin.min2],.d _ _ (.int _ _ (by split<;>(try split)<;>assumption))⟩
theorem O8{T:TypeId}{x:Operand}{c:Call}{xs:List D}{t:TI}{E:TypeId}(ho:o.op=.call c)(hc:c.callee=.builtin .cap)(gi:c.args=#[x])(hT:c.argTypes=#[T])
  (hx:need (ev tm x)) (ex:strip (ev tm x)=.full xs) (ht:ti P T=some t) (hk:t.kind=.slice E):Bv P n o tm S (.d (.int .i64 xs.length)) S:=.pure fun G w a st=>by
 have h1:=(BH st x).strip hx;rw[ex]at h1;obtain⟨d,hd,gv⟩:=Ai ht w;have hdE:d=.slice E:=by rw[hk]at gv;cases d<;>simp[tk]at gv⊢;exact gv
 subst hdE;generalize hv:a.eval x=X at h1;cases h1 with
 |full _ a0 h=>
  refine⟨.int .i64 xs.length,?_,.d _ _ (.int _ _ (IF h.len))⟩;simp[execOp,ho,resolve,hc,gi,hT,hv,invoke,builtin,Builtin.cap_,hd,goInt]
end
end Go.Koi
