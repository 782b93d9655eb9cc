/- Part 12 of the proof that the law ChangeValid returns true for every input. -/
import Derived.Test.YtlgjmkfbkhfakaaGreatDoorK10
import Derived.Maps.RangeRun
set_option maxHeartbeats 64000000
set_option maxRecDepth 100000
namespace Go.Koi
open Go.ChangeMaps (setBlock)
section
variable {P:Program} {n b:Nat} {o:Oper} {tm tm':Tm} {S S0 S0' S':Sg} {v:V} {ops:Array Oper} {Q:Exit→Tm→Sg→Prop}
structure Vq(G:Gh)(S:Sg)(w:World)(r k it:Nat)(seen:Array Nat):Prop where
 heap:w.heap[it]?=some (.mapIter (some (G.BZ r)) k seen k)
 own:¬Eo G S it
 Sk:¬G.I it
theorem Vq.later{G:Gh}{w:World}{G':Gh}{w':World}{r k it:Nat}{seen:Array Nat}(h:Vq G S w r k it seen)(T:Tr G S w G' S' w')(hb:G'.BZ r=G.BZ r):Vq G' S' w' r k it seen:=by
 have hl:=D3 h.heap;refine⟨by rw[T.DG it hl h.own,hb];exact h.heap,fun ho=>?_,fun hi=>?_⟩
 ·rcases T.own it ho with h1|h1
  ·exact h.own h1
  ·omega
 ·rcases T.im it hi with h1|h1|h1
  ·exact h.Sk h1
  ·exact h.own h1
  ·omega
theorem Rel.Tx{G:Gh}{w:World}(R:Rel P G S w)(H:Obj):Rel P G S (BS w H)∧Tr G S w G S (BS w H)∧A9 G S w G S (BS w H):=by
 have L:A9 G S w G S (BS w H):=⟨fun _ h=>h,fun k hk=>CZ (R.G5 k hk),Nat.le_refl _,fun r _ n h=>⟨n,h,Nat.le_refl _,fun _=>⟨rfl,rfl,rfl,.inl rfl⟩⟩,fun r _ h=>⟨h,rfl⟩⟩;exact⟨⟨R.Es.later L,fun r x hx=>(R.CT r x hx).later L (fun hw=>CZ (R.FW _ ⟨r,x,hx,hw,rfl⟩)) rfl rfl rfl,R.inj,R.nI,fun k hk=>by have:=R.G5 k hk;simp;omega,fun k hk=>by have:=R.FW k hk;simp;omega⟩,⟨by simp,fun _ h=>h,fun k hk _=>CZ hk,fun _ h=>.inl h,fun _ h=>.inl h,rfl,rfl⟩,L⟩
theorem Rel.hidden{G:Gh}{w w':World}(R:Rel P G S w){it:Nat}(h1:¬Eo G S it)(h2:¬G.I it)(hs:w'.heap.size=w.heap.size)(hh:∀k,k≠it→w'.heap[k]?=w.heap[k]?):Rel P G S w'∧A9 G S w G S w':=by
 have L:A9 G S w G S w':=⟨fun _ h=>h,fun k hk=>hh k (fun e=>h2 (e▸hk)),Nat.le_refl _,fun r _ n h=>⟨n,h,Nat.le_refl _,fun _=>⟨rfl,rfl,rfl,.inl rfl⟩⟩,fun r _ h=>⟨h,rfl⟩⟩;exact⟨⟨R.Es.later L,fun r x hx=>(R.CT r x hx).later L (fun hw=>hh _ (fun e=>h1 (e▸⟨r,x,hx,hw,rfl⟩))) rfl rfl rfl,R.inj,R.nI,fun k hk=>by rw[hs];exact R.G5 k hk,fun k hk=>by rw[hs];exact R.FW k hk⟩,L⟩
def HU(P:Program)(n b:Nat)(ops:Array Oper)(l:List Oper)(tm:Tm)(S:Sg)(r _ k:Nat)(K:Nat→Tm→Sg→Prop):Prop:=
 ∀j0,(∀j,l[j]?=ops[j0+j]?)→∀G w a Q,St P n G S w a tm→b≤S.length→(∀a' w' G' S' tm' it,E1 P n b G S w a.defers a' w' G' S' tm'→Vq G' S' w' r k it #[]→w.heap.size≤it→K it tm' S'→Q .normal a' w')→wpOps P ops Q (List.range' j0 l.length) a w
theorem HU.step{rest:List Oper}{r t k:Nat}{K:Nat→Tm→Sg→Prop}(hs:∀i,ops[i]?=some o→Step P n b ops i tm S tm' S')(h:HU P n b ops rest tm' S' r t k K):HU P n b ops (o::rest) tm S r t k K:=fun j0 hk G w a Q st hb hq=>by
 have h0:ops[j0]?=some o:=by simpa using(hk 0).symm
 simp only[List.length_cons,List.range'_succ];rw[wpOps_cons];refine hs j0 h0 G w a _ Q st hb fun a' w' G' hc=>?_;refine h (j0+1) (fun j=>by have:=hk (j+1);simp only[List.getElem?_cons_succ]at this;rw[this];congr 1;omega) G' w' a' Q hc.st hc.late.len fun a2 w2 G2 S2 tm2 it gx km hle hK=>?_;exact hq a2 w2 G2 S2 tm2 it ⟨gx.st,gx.ds.trans hc.ds,hc.tr.trans gx.tr,hc.late.trans gx.late⟩ km (Nat.le_trans hc.tr.size hle) hK
theorem HU.op{rest:List Oper}{r t k:Nat}{K:Nat→Tm→Sg→Prop}(h1:AAw P n ops o tm S)(h2:HU P n b ops rest (put tm o.dst (Cq P ops o tm S)) (oS P o tm S) r t k K):HU P n b ops (o::rest) tm S r t k K:=
 HU.step (fun _ hi=>Step.B5 hi h1) h2
theorem HU.Ds{rest:List Oper}{r t k:Nat}{K:Nat→Tm→Sg→Prop}{c:Call}{f:FuncId}{args0:List V}(h:AE P f args0 S0 v S0')(rs:List Nat)(ho:o.op=.call c)
  (hp:o.guard=none∧A6 n o.dst∧A5 tm c∧AAb tm c f args0 rs∧DZ S S0 rs∧rs.length≤S0'.length∧args0.all (AAB rs.length)=true)
  (h2:HU P n b ops rest (put tm o.dst (AAO (CN (nameOf rs) rs.length S.length) v)) (CF S S0' rs) r t k K):HU P n b ops (o::rest) tm S r t k K:=by
 obtain⟨h3,h4,h5,h6,h7,h8,h9⟩:=hp;unfold AAb at h6;split at h6
 ·rename_i f' args hc;obtain⟨rfl,rfl⟩:=h6;exact HU.step (fun _ hi=>Step.Hd hi h4 h3 (E2 ho hc h5 (h.Bq rs h7 h8 h9))) h2
 ·exact h6.elim
theorem HU.range{r t:Nat}{es:List (D×V)}{K:Nat→Tm→Sg→Prop}{T:TypeId}{x:Operand}(ho:o.op=.range T x)
  (hp:o.guard=none∧o.dst=some t∧t<n∧need (ev tm x)∧strip (ev tm x)=.map r∧S[r]?=some (.map es)∧(ABb P T).isSome=true)
  (h:∀it,K it (EJ tm t (.d (.raw (.pointer (some ⟨it,0,none⟩))))) S):HU P n b ops [o] tm S r t es.length K:=fun j0 hk G w a Q st hb hq=>by
 obtain⟨hg,hd,tA,hx,ex,hr,hT⟩:=hp;have h0:ops[j0]?=some o:=by simpa using(hk 0).symm
 simp only[List.length_cons,List.length_nil,List.range'_succ,List.range'_zero];rw[wpOps_cons];unfold wpOp;simp only[h0,Region.wanted,hg,if_true];left;have h1:=(BH st x).strip hx;rw[ex]at h1;have ou:a.eval x=.map (some (G.BZ r)):=by cases h1 with|map _ _ _ _ h=>exact h (by simp[AAN,hr])
 have gw:=st.rel.CT r _ hr;simp only[OK]at gw;obtain⟨ents,clock,q1,q2,qk,q3⟩:=gw;obtain⟨p,hp⟩:=Option.isSome_iff_exists.1 hT;obtain⟨ti,e1,e2⟩:=F7 hp;obtain⟨d,o8,lO⟩:=Ai e1 w;have hdE:d=.map p.1 p.2:=by rw[e2]at lO;cases d<;>simp[tk]at lO⊢;exact lO
 subst hdE;have ov:=MapKept.run_getObj_map (P:=P) q1;have gl:(execOp a.eval o).run P w=.ok (.value (.pointer (some ⟨w.heap.size,0,none⟩))) (BS w (.mapIter (some (G.BZ r)) clock #[] clock)):=by
  simp[execOp,ho,Instr.range,o8,ou,ov];rfl
 unfold Oper.wp;rw[gl];simp only[Oper.upon];obtain⟨r1,r2,r3⟩:=st.rel.Tx (.mapIter (some (G.BZ r)) clock #[] clock);have st':St P n G S (BS w (.mapIter (some (G.BZ r)) clock #[] clock)) (a.put o.dst (.pointer (some ⟨w.heap.size,0,none⟩))) (put tm o.dst (.d (.raw (.pointer (some ⟨w.heap.size,0,none⟩))))):=
  st.put (by rw[hd];exact tA) (.d _ _ (.raw _)) r1 r3
 simp only[wpOps];refine hq _ _ G S _ w.heap.size ⟨st',Be,r2,r3.late hb⟩ ⟨?_,fun ho=>?_,fun hi=>?_⟩ (Nat.le_refl _) (by rw[hd];exact h _)
 ·rw[C0,qk]
 ·exact Nat.lt_irrefl _ (st.rel.FW _ ho)
 ·exact Nat.lt_irrefl _ (st.rel.G5 _ hi)
theorem AW.AD0{i0 id0 id1 i1 i2 tk:Nat}{nx en:Array Oper}{body:Code}(r t:Nat)(es:List (D×V))(Inv:Nat→List Nat→Tm→Sg→Prop){onx oen:Oper}(iP:b≤r+1)
  (rp:nx.toList.head? =some onx∧onx.op=.next (.tmp t) false∧onx.guard=none∧A6 n onx.dst) (lY:en.toList.head? =some oen∧oen.op=.entry (.tmp t)∧oen.guard=none∧A6 n oen.dst)
  (hInv:∀it vis tm S,Inv it vis tm S→S[r]?=some (.map es)∧tm t=.d (.raw (.pointer (some ⟨it,0,none⟩))))
  (ni:HU P n b ops ops.toList tm S r t es.length fun it tm1 S1=>Inv it [] tm1 S1)
  (lP:∀it vis tm S i (hi:i<es.length),Inv it vis tm S→i∉vis→AS P n (r+1) nx (nx.toList.drop 1) (put tm onx.dst (.Bd [.d (.bool true),.d es[i].1,es[i].2])) S fun tm1 S1=>S1=S∧tm1 tk=.d (.bool true)∧tm1 t=.d (.raw (.pointer (some ⟨it,0,none⟩)))∧AS P n (r+1) en (en.toList.drop 1) (put tm1 oen.dst (.Bd [.d es[i].1,es[i].2])) S fun tm2 S2=>
     AW P n (r+1) body (AAA id1 (AAE (fun tm3 S3=>∃tm4 S4,AJ P n (r+1) tm3 S3 tm4 S4∧Inv it (vis++[i]) tm4 S4) (AAA id0 Q))) tm2 S2)
  (pJ:∀it vis tm S,Inv it vis tm S→(∀i,i<es.length→i∈vis)→AS P n (r+1) nx (nx.toList.drop 1) (put tm onx.dst (.Bd [.d (.bool false)])) S fun tm1 S1=>tm1 tk=.d (.bool false)∧Q .normal tm1 S1):
  AW P n b (.seq (.region i0 ops false) (.block id0 (.loop (.seq (.region i1 nx false) (.seq (.cond (.tmp tk) .skip (.exit id0)) (.block id1 (.seq (.region i2 en false) body))))))) Q tm S:=by
 intro G w a st hb;obtain⟨j6,nj,pK,nk⟩:=rp;obtain⟨j7,pL,pM,pN⟩:=lY;have mf:nx.toList=onx::nx.toList.drop 1:=by
  cases h:nx.toList with
  |nil=>rw[h]at j6;simp at j6
  |cons x xs=>rw[h]at j6;simp only[List.head?_cons,Option.some.injEq]at j6;subst j6;rfl
 have lE:en.toList=oen::en.toList.drop 1:=by
  cases h:en.toList with
  |nil=>rw[h]at j7;simp at j7
  |cons x xs=>rw[h]at j7;simp only[List.head?_cons,Option.some.injEq]at j7;subst j7;rfl
 have j8:∀j,(onx::nx.toList.drop 1)[j]?=nx[j]?:=fun j=>by rw[←mf,Array.getElem?_toList]
 have kU:∀j,(oen::en.toList.drop 1)[j]?=en[j]?:=fun j=>by rw[←lE,Array.getElem?_toList]
 refine wp_seq (wp_region ?_);have nh:=ni 0 (fun j=>by simp) G w a (Exit.then ((Code.block id0 (.loop (.seq (.region i1 nx false) (.seq (.cond (.tmp tk) .skip (.exit id0)) (.block id1 (.seq (.region i2 en false) body)))))).wp P (K7 P n b Q G S w a.defers)) (K7 P n b Q G S w a.defers)) st hb ?_
 ·rw[List.range_eq_range'];simpa using nh
 intro a1 w1 G1 S1 tm1 it iW pO hfresh hI1;refine wp_block ?_;refine wp_loop (I:=fun a' w'=>∃G' S' tm' vis,E1 P n b G S w a.defers a' w' G' S' tm'∧Vq G' S' w' r es.length it vis.toArray∧Inv it vis tm' S'∧vis.Nodup∧∀i∈vis,i<es.length)
  (μ:=fun _ w'=>match w'.heap[it]? with|some (.mapIter _ _ seen _)=>es.length - seen.size|_=>0) ⟨G1,S1,tm1,[],iW,pO,hI1,List.nodup_nil,fun i h=>by simp at h⟩ ?_
 rintro a' w' ⟨G',S',tm',vis,hc,km,hI,ju,cx⟩;obtain⟨hS,ht⟩:=hInv it vis tm' S' hI;have pP:=D3 km.heap;have iH:=AZ hS;have gw:=hc.st.rel.CT r _ hS;simp only[OK]at gw;obtain⟨ents,clock,q1,q2,qk,q3⟩:=gw;have kV:∀i (h:i<ents.size),ents[i].born=i:=fun i h=>by
  obtain⟨e,e1,_,_,e4,_⟩:=q3 i (by omega);rw[Array.getElem?_eq_getElem h]at e1;cases e1;exact e4
 have gg:∀x∈ents.toList,∃i,i<es.length∧x.born=i∧ents[i]?=some x:=fun x hx=>by
  obtain⟨i,hi,rfl⟩:=List.mem_iff_getElem.1 hx;have gj:i<ents.size:=by simpa using hi
  exact⟨i,by omega,by simpa using kV i gj,by rw[Array.getElem?_eq_getElem gj];simp⟩
 have kW:a'.eval (.tmp t)=.pointer (some ⟨it,0,none⟩):=by
  have:=hc.st.tm t;rw[ht]at this;simp only[Act.eval];generalize a'.tmps.getD t undef=X at this;cases this with|d _ _ h=>cases h;rfl
 have iL:nx[0]?=some onx:=by have:=j8 0;simpa using this.symm
 have tB:en[0]?=some oen:=by have:=kU 0;simpa using this.symm
 refine wp_seq (wp_region ?_);rw[List.range_eq_range'];have gp:nx.size=(nx.toList.drop 1).length+1:=by have:=congrArg List.length mf;simpa using this
 rw[gp,List.range'_succ,wpOps_cons];unfold wpOp;simp only[iL,Region.wanted,pK,if_true];left;unfold Oper.wp;rcases run_next_at (P:=P) w' onx.type it (G'.BZ r) es.length es.length vis.toArray ents clock km.heap q1 (fun x hx=>by obtain⟨i,h1,h2,_⟩:=gg x hx;omega) (Nat.le_refl _)with⟨hz,gl⟩|⟨e,he,w2,jm,gl⟩
 ·
  have iA:(execOp a'.eval onx).run P w'=.ok (.value (.tuple #[.bool false])) w':=by
   simp only[execOp,nj,kW,Sem.run_bind,gl,Result.andThen_ok,Sem.run_pure]
  rw[iA];simp only[Oper.upon];have st2:St P n G' S' w' (a'.put onx.dst (.tuple #[.bool false])) (put tm' onx.dst (.Bd [.d (.bool false)])):=
   hc.st.put nk (.Bd _ _ rfl (fun i h=>by
    have:i=0:=by simp at h;omega
    subst this;exact .d _ _ (.bool _))) hc.st.rel (A9.refl _ _ _)
  have nn:∀i,i<es.length→i∈vis:=fun i hi=>by
   by_cases hm:i∈vis
   ·exact hm
   ·exfalso;have m0:i<ents.size:=by omega
    have:ents[i]∈(leftOf ents vis.toArray).toList:=by
     simp only[leftOf,Array.toList_filter,List.mem_filter];refine⟨by simp,?_⟩;rw[kV i m0];simpa using hm
    have h0:(leftOf ents vis.toArray).toList=[]:=by
     apply List.eq_nil_of_length_eq_zero;simpa using hz
    rw[h0]at this;simp at this
  refine pJ it vis tm' S' hI nn 1 (fun j=>by have:=j8 (j+1);simp only[List.getElem?_cons_succ]at this;rw[this];congr 1;omega) G' w' _ _ st2 (by omega) fun a3 w3 hh=>?_;obtain⟨G3,S3,tm3,np,hk,hQ⟩:=hh;refine wp_seq (wp_cond_false ?_ (wp_exit ?_))
  ·have:=np.st.tm tk;rw[hk]at this;simp only[Act.eval];generalize a3.tmps.getD tk undef=X at this;cases this with|d _ _ h=>cases h;rfl
  ·simp only[Exit.then,Exit.inBlock,if_true];exact⟨G3,S3,tm3,⟨np.st,(np.ds.trans Be).trans hc.ds,hc.tr.trans np.tr,hc.late.trans (np.late.I4 iP)⟩,hQ⟩
 ·
  obtain⟨i,hi,rq,oZ⟩:=gg e (by simp only[leftOf,Array.toList_filter,List.mem_filter]at he;exact he.1);have nq:i∉vis:=by
   simp only[leftOf,Array.toList_filter,List.mem_filter]at he;have:=he.2;rw[rq]at this;simpa using this
  have iA:(execOp a'.eval onx).run P w'=.ok (.value (.tuple #[.bool true,e.key,e.val])) (setBlock w2 it (.mapIter (some (G'.BZ r)) es.length (vis.toArray.push e.born) clock)):=by
   simp only[execOp,nj,kW,Sem.run_bind,gl,Result.andThen_ok,Sem.run_pure]
  rw[iA];simp only[Oper.upon];generalize nr:setBlock w2 it (.mapIter (some (G'.BZ r)) es.length (vis.toArray.push e.born) clock)=w3;have lQ:w2.heap=w'.heap:=by rcases jm with rfl|rfl<;>rfl
  have nt:w3.heap.size=w'.heap.size:=by rw[←nr];simp[setBlock,lQ]
  have nv:∀k,k≠it→w3.heap[k]?=w'.heap[k]?:=fun k hk=>by rw[←nr];simp only[setBlock,lQ];rw[Array.getElem?_setIfInBounds_ne (Ne.symm hk)]
  have pQ:w3.heap[it]?=some (.mapIter (some (G'.BZ r)) es.length (vis++[i]).toArray es.length):=by
   rw[←nr];simp[setBlock,lQ,pP,rq,qk]
  have kX:w3.os=w'.os∧w3.output=w'.output:=by rw[←nr];rcases jm with rfl|rfl<;>exact⟨rfl,rfl⟩
  obtain⟨r1,r3⟩:=hc.st.rel.hidden km.own km.Sk nt nv;obtain⟨e',f1,f2,f3,f4,f5⟩:=q3 i hi;rw[oZ]at f1;cases f1;have lR:E1 P n b G S w a.defers a' w3 G' S' tm':=
   ⟨⟨hc.st.size,hc.st.tm.later r3,r1⟩,hc.ds,⟨by rw[nt];exact hc.tr.size,hc.tr.I,fun k hk gy=>by rw[nv k (by omega)];exact hc.tr.DG k hk gy,hc.tr.own,hc.tr.im,kX.1.trans hc.tr.os,kX.2.trans hc.tr.out⟩,hc.late⟩
  have pR:Vq G' S' w3 r es.length it (vis++[i]).toArray:=⟨pQ,km.own,km.Sk⟩;have st2:St P n G' S' w3 (a'.put onx.dst (.tuple #[.bool true,e.key,e.val])) (put tm' onx.dst (.Bd [.d (.bool true),.d es[i].1,es[i].2])):=
   lR.st.put nk (.Bd _ _ rfl (fun j h=>by
    have h3:j<3:=by simpa using h
    match j,h3 with
    |0,_=>exact .d _ _ (.bool _)
    |1,_=>exact .W4 (f2.mono r3.I r3.DG)
    |2,_=>exact f3.later r3)) r1 (A9.refl _ _ _)
  refine lP it vis tm' S' i hi hI nq 1 (fun j=>by have:=j8 (j+1);simp only[List.getElem?_cons_succ]at this;rw[this];congr 1;omega) G' w3 _ _ st2 (by omega) fun a4 w4 hh=>?_;obtain⟨G4,S4,tm4,jM,hS4,oA,tC,pS⟩:=hh;subst hS4;have qJ:G4.BZ r=G'.BZ r:=(jM.late.map r (by omega) (by simp[AAN,hS])).2;have nw:=pR.later jM.tr qJ;refine wp_seq (wp_cond_true ?_ (wp_skip ?_))
  ·have:=jM.st.tm tk;rw[oA]at this;simp only[Act.eval];generalize a4.tmps.getD tk undef=X at this;cases this with|d _ _ h=>cases h;rfl
  simp only[Exit.then];refine wp_block (wp_seq (wp_region ?_));rw[List.range_eq_range'];have pU:en.size=(en.toList.drop 1).length+1:=by have:=congrArg List.length lE;simpa using this
  rw[pU,List.range'_succ,wpOps_cons];unfold wpOp;simp only[tB,Region.wanted,pM,if_true];left;unfold Oper.wp;have pV:a4.eval (.tmp t)=.pointer (some ⟨it,0,none⟩):=by
   have:=jM.st.tm t;rw[tC]at this;simp only[Act.eval];generalize a4.tmps.getD t undef=X at this;cases this with|d _ _ h=>cases h;rfl
  have ny:=jM.st.rel.CT r _ hS;simp only[OK]at ny;obtain⟨ents4,clock4,p1,p2,pk,p3⟩:=ny;obtain⟨e4,g1,g2,g3,g4,g5⟩:=p3 i hi;have lS:∀j (h:j<ents4.size),ents4[j].born=j:=fun j h=>by
   obtain⟨x,x1,_,_,x4,_⟩:=p3 j (by omega);rw[Array.getElem?_eq_getElem h]at x1;cases x1;exact x4
  have nz:ents4.toList.map (·.born)=List.range ents4.size:=by
   apply List.ext_getElem
   ·simp
   ·intro j h1 h2;simp only[List.getElem_map,Array.getElem_toList,List.getElem_range];exact lS j (by simpa using h1)
  have rv:=nw.heap;have nA:(vis++[i]).toArray=vis.toArray.push e4.born:=by rw[g4];simp
  rw[nA]at rv;have nB:=run_entry_at (P:=P) w4 it (G4.BZ r) es.length vis.toArray ents4 clock4 e4 (by rw[pk];exact rv) p1 (by have:=Array.mem_of_getElem? g1;simpa using this) (by rw[nz];exact List.nodup_range);have lT:(execOp a4.eval oen).run P w4=.ok (.value (.tuple #[e4.key,e4.val])) w4:=by
   simp only[execOp,pL,pV,Sem.run_bind,nB,Result.andThen_ok,Sem.run_pure]
  rw[lT];simp only[Oper.upon];have st5:St P n G4 S4 w4 (a4.put oen.dst (.tuple #[e4.key,e4.val])) (put tm4 oen.dst (.Bd [.d es[i].1,es[i].2])):=
   jM.st.put pN (.Bd _ _ rfl (fun j h=>by
    have h3:j<2:=by simpa using h
    match j,h3 with
    |0,_=>exact .W4 g2
    |1,_=>exact g3)) jM.st.rel (A9.refl _ _ _)
  refine pS 1 (fun j=>by have:=kU (j+1);simp only[List.getElem?_cons_succ]at this;rw[this];congr 1;omega) G4 w4 _ _ st5 (by omega) fun a6 w6 hh=>?_;obtain⟨G6,S6,tm6,nC,nD⟩:=hh;have nE:r+1≤S6.length:=nC.late.len;refine wp_mono (nD G6 w6 a6 nC.st nE) fun ex a7 w7 hl=>?_;obtain⟨G7,S7,tm7,mg,jE⟩:=hl;have d7:a7.defers=a.defers:=mg.ds.trans (nC.ds.trans (Be.trans (jM.ds.trans (Be.trans hc.ds))));have t7:Tr G4 S4 w4 G7 S7 w7:=nC.tr.trans mg.tr;have l7:Dt (r+1) G4 S4 G7 S7:=nC.late.trans mg.late;have full:E1 P n b G S w a.defers a7 w7 G7 S7 tm7:=⟨mg.st,d7,(lR.tr.trans jM.tr).trans t7,(hc.late.trans (jM.late.I4 iP)).trans (l7.I4 iP)⟩;have cont:(∃tm4 S4,AJ P n (r+1) tm7 S7 tm4 S4∧Inv it (vis++[i]) tm4 S4)→(∃G' S' tm' vis,E1 P n b G S w a.defers a7 w7 G' S' tm'∧Vq G' S' w7 r es.length it vis.toArray∧Inv it vis tm' S'∧vis.Nodup∧∀i∈vis,i<es.length)∧(match w7.heap[it]? with|some (.mapIter _ _ seen _)=>es.length - seen.size|_=>0)<(match w'.heap[it]? with|some (.mapIter _ _ seen _)=>es.length - seen.size|_=>0):=by
   rintro⟨tm8,S8,g8,hI8⟩;obtain⟨G8,st8,t8,l8⟩:=g8 G7 w7 a7 mg.st mg.late.len;obtain⟨hS8,_⟩:=hInv _ _ _ _ hI8;have ry:G8.BZ r=G4.BZ r:=((l7.trans l8).map r (by omega) (by simp[AAN,hS8])).2;have nF:=nw.later (t7.trans t8) ry;refine⟨⟨G8,S8,tm8,vis++[i],⟨st8,d7,full.tr.trans t8,full.late.trans (l8.I4 iP)⟩,nF,hI8,?_,?_⟩,?_⟩
   ·rw[List.nodup_append];exact⟨ju,by simp,fun x hx y hy e=>by simp only[List.mem_singleton]at hy;subst e;subst hy;exact nq hx⟩
   ·intro x hx;rcases List.mem_append.1 hx with hx|hx
    ·exact cx x hx
    ·simp only[List.mem_singleton]at hx;subst hx;exact hi
   ·rw[nF.heap,km.heap];have h1:vis.length<es.length:=by
     have h2:=FL id (l:=vis++[i]) (n:=es.length) (by
      rw[List.nodup_append];exact⟨ju,by simp,fun x hx y hy e=>by simp only[List.mem_singleton]at hy;subst e;subst hy;exact nq hx⟩) (fun x hx=>by
       rcases List.mem_append.1 hx with hx|hx
       ·exact cx x hx
       ·simp only[List.mem_singleton]at hx;subst hx;exact hi) (fun x _ y _ e=>e)
     simp at h2;omega
    simp;omega
  cases ex with
  |normal=>
   simp only[AAA,AAE]at jE;simp only[Exit.then,Exit.inBlock];exact cont jE
  |exit id'=>
   simp only[AAA]at jE;simp only[Exit.then,Exit.inBlock];by_cases e1:id'=id1
   ·simp only[e1,if_true,AAE]at jE⊢;exact cont jE
   ·simp only[e1,if_false,AAE,AAA]at jE⊢;by_cases e0:id'=id0
    ·simp only[e0,if_true]at jE⊢;exact⟨G7,S7,tm7,full,jE⟩
    ·simp only[e0,if_false]at jE⊢;exact⟨G7,S7,tm7,full,jE⟩
  |goto l=>exact⟨G7,S7,tm7,full,jE⟩
  |ret=>exact⟨G7,S7,tm7,full,jE⟩
  |panic c=>exact⟨G7,S7,tm7,full,jE⟩
  |outgrown=>exact⟨G7,S7,tm7,full,jE⟩
end
section
variable {P:Program} {n b:Nat} {o:Oper} {tm tm':Tm} {S S':Sg} {v:V} {ops:Array Oper} {K:Tm→Sg→Prop}
def Gh.dB(G:Gh)(r b:Nat)(c:Nat×Nat):Gh:=
 {I:=G.I,BZ:=fun k=>if k=r then b else G.BZ k,cap:=fun k=>if k=r then c else G.cap k,BB:=fun k=>if k=r then none else G.BB k}
theorem PU{G G':Gh}{k:Nat}(h:G'.BB k=G.BB k)(x:O):AAJ G' k x=AAJ G k x:=by cases x<;>simp[AAJ,h]
theorem JR{T E:TypeId}{x:Operand}{lo hi:Option Operand}{r m sz:Nat}{els:List V}{kl kh:IntKind}{l h:Int}{e:TI}{t:TI}(ho:o.op=.slice T x lo hi none)(hx:need (ev tm x))
  (ex:strip (ev tm x)=.row r m) (hr:S[r]?=some (.row true sz els)) (hm:els.length=m) (hT:ti P T=some t) (hk:t.kind=.slice E) (he:ti P E=some e) (gp:e.size=sz) (lK:EH tm lo) (el:AAs tm lo=.d (.int kl l)) (kP:EH tm hi)
  (eh:hi=none→h=m) (eh':hi≠none→AAs tm hi=.d (.int kh h)) (h0:0≤l) (h1:l≤h) (h2:h≤m):
  Bv P n o tm S (.row S.length (h - l).toNat) (S.set r .dead++[.row true sz ((els.take h.toNat).drop l.toNat)]):=.val fun G w a st=>by
 have hv:=(BH st x).strip hx;rw[ex]at hv;obtain⟨d,hd,gv⟩:=Ai hT w;have hdE:d=.slice E:=by rw[hk]at gv;cases d<;>simp[tk]at gv⊢;exact gv
 subst hdE;have R:=st.rel;have iH:=AZ hr;have iI:a.eval x=G.AAP r m:=by cases hv with|row _ _ _ _ _ h=>exact(h m (by simp[lenOf,hr,hm])).2 rfl
 have gw:=R.CT r _ hr;simp only[OK]at gw;cases ku:G.BB r with
 |some q=>simp only[ku]at gw;exact absurd gw.1 (by simp)
 |none=>
  simp only[ku]at gw;obtain⟨c,T0,g1,g2,g3,g4,g5⟩:=gw;simp only[Gh.AAP,ku]at iI;generalize om:(G.cap r).1=cap at *;generalize rj:(G.cap r).2=off at *;have n8:∀y,hi=some y→a.eval y=.int kh h:=fun y hy=>Bg st (by simpa[EH,hy]using kP) (by have:=eh' (by simp[hy]);simpa[AAs,hy]using this);have lx:∀y,lo=some y→a.eval y=.int kl l:=fun y hy=>Bg st (by simpa[EH,hy]using lK) (by simpa[AAs,hy]using el);have e3:lo=none→l=0:=fun e=>by subst e;simp[AAs]at el;exact el.2.symm
  have hb:(Instr.sliceBounds true m cap (lo.map a.eval) (hi.map a.eval) none).run P w=.ok (l.toNat,h.toNat,cap) w:=by
   unfold Instr.sliceBounds;have e4:l≤(h.toNat:Int):=by omega
   have e5:(h:Int)≤cap:=by omega
   have e7:(0:Int)≤h:=by omega
   cases hi with
   |none=>
    have:=eh rfl;subst this;cases lo with
    |none=>have:=e3 rfl;subst this;simp
    |some z=>simp[lx z rfl,By h0 h1]
   |some y=>
    cases lo with
    |none=>have:=e3 rfl;subst this;simp[n8 y rfl,By e7 e5]
    |some z=>simp[n8 y rfl,By e7 e5,lx z rfl,By h0 e4]
  let off':=if cap=l.toNat then off else off+l.toNat * sz;let G':=G.dB S.length (G.BZ r) (cap - l.toNat,off');have wB:l.toNat≤h.toNat∧h.toNat≤m:=by omega
  have nG:G'.BZ S.length=G.BZ r:=by simp[G',Gh.dB]
  have kB:G'.cap S.length=(cap - l.toNat,off'):=by simp[G',Gh.dB]
  have vt:G'.BB S.length=none:=by simp[G',Gh.dB]
  have dI:∀k,k≠S.length→G'.BZ k=G.BZ k∧G'.cap k=G.cap k∧G'.BB k=G.BB k:=fun k hk=>by simp[G',Gh.dB,hk]
  have F8:∀k,k<S.length→k≠r→(S.set r .dead++[.row true sz ((els.take h.toNat).drop l.toNat)])[k]?=S[k]?:=fun k hk hkr=>by
   rw[List.getElem?_append_left (by simpa using hk),List.getElem?_set_ne (Ne.symm hkr)]
  have atr:(S.set r .dead++[.row true sz ((els.take h.toNat).drop l.toNat)])[r]?=some .dead:=by
   rw[List.getElem?_append_left (by simpa using iH)];simp[iH]
  have new:(S.set r .dead++[.row true sz ((els.take h.toNat).drop l.toNat)])[S.length]?=some (.row true sz ((els.take h.toNat).drop l.toNat)):=by simp
  have L:A9 G S w G' (S.set r .dead++[.row true sz ((els.take h.toNat).drop l.toNat)]) w:=by
   refine⟨fun _ h=>h,fun _ _=>rfl,by simp,fun k hk n' iz=>?_,fun k hk iS=>?_⟩
   ·by_cases e:k=r
    ·subst e;simp only[lenOf,atr]at iz;cases iz
    ·obtain⟨a1,a2,a3⟩:=dI k (by omega);exact⟨n',by simpa only[lenOf,F8 k hk e]using iz,Nat.le_refl _,fun _=>⟨a1,a2,a3,.inl (by simp only[AAf,F8 k hk e])⟩⟩
   ·by_cases e:k=r
    ·subst e;simp only[AAN,atr]at iS;cases iS
    ·exact⟨by simpa only[AAN,F8 k hk e]using iS,(dI k (by omega)).1⟩
  have cases':∀k x,(S.set r .dead++[.row true sz ((els.take h.toNat).drop l.toNat)])[k]?=some x→AAJ G' k x=true→(k≠r∧k<S.length∧S[k]?=some x∧AAJ G k x=true)∨k=S.length:=fun k x hx hw=>by
   have iX:=AZ hx;simp only[List.length_append,List.length_set,List.length_cons,List.length_nil]at iX;by_cases e2:k=S.length
   ·exact .inr e2
   ·left;by_cases e:k=r
    ·subst e;rw[atr]at hx;cases hx;simp[AAJ]at hw
    ·rw[F8 k (by omega) e]at hx;refine⟨e,by omega,hx,?_⟩;rw[←PU (dI k e2).2.2 x];exact hw
  have rz:Eo G S (G.BZ r):=⟨r,_,hr,by simp[AAJ,ku],rfl⟩;have own:∀k,Eo G' (S.set r .dead++[.row true sz ((els.take h.toNat).drop l.toNat)]) k→Eo G S k:=by
   rintro k ⟨i,x,q1,q2,q3⟩;rcases cases' i x q1 q2 with⟨_,iD,p1,p2⟩|e
   ·exact⟨i,x,p1,p2,by rw[q3,(dI i (by omega)).1]⟩
   ·subst e;rw[q3,nG];exact rz
  refine⟨.slice (if cap=l.toNat then some ⟨G.BZ r,off,none⟩else(some (⟨G.BZ r,off,none⟩:Addr)).map (·.add (l.toNat * sz))) (h.toNat - l.toNat) (cap - l.toNat),G',w,?_,?_,⟨R.Es.later L,fun k x hx=>?_,fun i j x y hx hy ox oy hij=>?_,fun k hk=>R.nI k (own k hk),R.G5,fun k hk=>R.FW k (own k hk)⟩,⟨Nat.le_refl _,fun _ h=>h,fun _ _ _=>rfl,fun k hk=>.inl (own k hk),fun k hk=>.inl hk,rfl,rfl⟩,L⟩
  ·subst gp;simp[execOp,ho,Instr.sliceAt,iI,hd,Instr.slice,hb,BQ he]
  ·refine .row _ _ _ rfl (by simp) fun m' iS=>?_;have e1:m'=h.toNat - l.toNat:=by
    simp only[lenOf,new,Option.some.injEq]at iS;rw[←iS];simp;omega
   subst e1;refine⟨by omega,fun _=>?_⟩;simp only[Gh.AAP,vt,nG,kB];have e2:h.toNat - l.toNat=(h - l).toNat:=by omega
   rw[e2];simp only[off'];split<;>simp[Addr.add]
  ·by_cases e2:k=S.length
   ·subst e2;rw[new]at hx;cases hx;simp only[OK,vt,nG,kB];refine⟨c,T0,g1,?_,by simp;omega,by simp;omega,fun i hi=>?_⟩
    ·simp only[off'];split
     ·next e=>rw[e,Nat.sub_self,Nat.zero_mul];have:=Nat.le_trans (Nat.le_add_right off (cap * sz)) g2;omega
     ·have:l.toNat * sz+(cap - l.toNat) * sz=cap * sz:=by rw[←Nat.add_mul];congr 1;omega
      omega
    ·have gj:i<h.toNat - l.toNat:=by simp at hi;omega
     obtain⟨u,u1,u2,u3,u4⟩:=g5 (l.toNat+i) (by omega);refine⟨u,?_,u2,u3,fun j hj=>?_⟩
     ·have:((els.take h.toNat).drop l.toNat)[i]=els[l.toNat+i]:=by simp
      rw[this];exact u1.later L
     ·have:off'+(i * sz+j)=off+((l.toNat+i) * sz+j):=by
       simp only[off'];rw[if_neg (by omega),Nat.add_mul];omega
      rw[this];exact u4 j hj
   ·have iX:=AZ hx;simp only[List.length_append,List.length_set,List.length_cons,List.length_nil]at iX;by_cases e:k=r
    ·subst e;rw[atr]at hx;cases hx;trivial
    ·rw[F8 k (by omega) e]at hx;obtain⟨a1,a2,a3⟩:=dI k e2;exact(R.CT k x hx).later L (fun _=>rfl) a1 a2 a3
  ·rcases cases' i x hx ox with⟨ir,il,p1,p2⟩|e1
   ·rcases cases' j y hy oy with⟨jr,jl,p3,p4⟩|e2
    ·rw[(dI i (by omega)).1,(dI j (by omega)).1]at hij;exact R.inj i j x y p1 p3 p2 p4 hij
    ·subst e2;rw[(dI i (by omega)).1,nG]at hij;exact absurd (R.inj i r x _ p1 hr p2 (by simp[AAJ,ku]) hij) ir
   ·rcases cases' j y hy oy with⟨jr,jl,p3,p4⟩|e2
    ·subst e1;rw[(dI j (by omega)).1,nG]at hij;exact absurd (R.inj j r y _ p3 hr p4 (by simp[AAJ,ku]) hij.symm) jr
    ·omega
def srQ(P:Program)(T:TypeId)(x:Operand)(lo hi:Option Operand)(r m sz:Nat)(els:List V)(l h:Int)(tm:Tm)(S:Sg):Prop:=
 need (ev tm x)∧strip (ev tm x)=.row r m∧S[r]?=some (.row true sz els)∧els.length=m∧(match AAH P T with|some E=>Aq P E=some sz|none=>False)∧EH tm lo∧(∃kl,AAs tm lo=.d (.int kl l))∧EH tm hi∧(match hi with|none=>h=m|some _=>∃kh,AAs tm hi=.d (.int kh h))∧0≤l∧l≤h∧h≤m
theorem AS.OL{rest:List Oper}{T:TypeId}{x:Operand}{lo hi:Option Operand}(r m sz:Nat)(els:List V)(l h:Int)(ho:o.op=.slice T x lo hi none)
  (hp:o.guard=none∧A6 n o.dst∧srQ P T x lo hi r m sz els l h tm S)
  (h2:AS P n b ops rest (put tm o.dst (.row S.length (h - l).toNat)) (S.set r .dead++[.row true sz ((els.take h.toNat).drop l.toNat)]) K):AS P n b ops (o::rest) tm S K:=by
 obtain⟨h3,h4,hx,ex,hr,hm,hE,q1,⟨kl,q2⟩,q3,q4,q5,q6,q7⟩:=hp;split at hE
 ·rename_i E hE';obtain⟨t,e1,e2⟩:=BA hE';obtain⟨e,f1,f2,_⟩:=Bn hE;cases hi with
  |none=>exact AS.Rm ⟨h3,h4⟩ (JR (kh:=.i64) ho hx ex hr hm e1 e2 f1 f2 q1 q2 q3 (fun _=>q4) (fun h=>absurd rfl h) q5 q6 q7) h2
  |some y=>
   obtain⟨kh,q4⟩:=q4;exact AS.Rm ⟨h3,h4⟩ (JR ho hx ex hr hm e1 e2 f1 f2 q1 q2 q3 (fun h=>by cases h) (fun _=>q4) q5 q6 q7) h2
 ·exact hE.elim
def AR(P:Program)(n:Nat)(ops:Array Oper)(o:Oper)(tm:Tm)(v:V)(S':Sg):Prop:=AAw P n ops o tm S'∧Cq P ops o tm S'=v∧oS P o tm S'=S'
theorem xG{B:List (Nat×(Sg→Prop))}{i:Nat}{rest:List (Nat×Bool×Oper)}(h1:AAw P n ops o tm S∧oS P o tm S=S)
  (h:Ae P n b ops ((i,AR P n ops o tm (Cq P ops o tm S))::B) rest (put tm o.dst (Cq P ops o tm S)) S K):Ae P n b ops B ((i,true,o)::rest) tm S K:=
 Ae.Yp _ ⟨h1.1,rfl,h1.2⟩ (fun _ h=>h) h
def Al(tm:Tm)(c:Call)(f:FuncId)(ds:List D)(S':Sg):Prop:=AA6 S' tm c f ds
theorem Bj{B:List (Nat×(Sg→Prop))}{i:Nat}{rest:List (Nat×Bool×Oper)}{c:Call}{f:FuncId}{ds:List D}{d:D}(h:Pure P f ds d)(ho:o.op=.call c)
  (hp:o.guard=none∧A6 n o.dst∧A5 tm c∧AA6 S tm c f ds) (h2:Ae P n b ops ((i,Al tm c f ds)::B) rest (put tm o.dst (.d d)) S K):Ae P n b ops B ((i,true,o)::rest) tm S K:=by
 obtain⟨h3,h4,h5,h6⟩:=hp;refine Ae.quiet _ h6 (fun hi S' hS=>?_) h2;obtain⟨args,h7,h8⟩:=ER (show AA6 S' tm c f ds from hS);exact A7.call hi ho h3 h4 h7 h5 (h.call h8)
theorem AJ.eX(t:Nat){d:D}(h:asD S (tm t)=some d):AJ P n b tm S (EJ tm t (.d d)) S:=fun G w a st hb=>by
 refine⟨G,⟨st.size,fun k=>?_,st.rel⟩,Tr.refl _ _ _,Dt.refl hb⟩;unfold EJ;by_cases e:k=t
 ·subst e;rw[if_pos rfl];exact .W4 ((st.tm k).asD st.rel h)
 ·rw[if_neg e];exact st.tm k
end
attribute [simp] srQ
section
variable {P:Program} {n b:Nat} {o:Oper} {tm tm':Tm} {S S':Sg} {v:V} {ops:Array Oper} {K:Tm→Sg→Prop}
theorem AJ.dh(r:Nat){es es':List (D×V)}(hr:S[r]?=some (.map es))(hl:es'.length=es.length)(hw:∀i (h:i<es.length) (h':i<es'.length),es'[i].1=es[i].1∧Lt S es[i].2 es'[i].2):
  AJ P n b tm S tm (S.set r (.map es')):=fun G w a st hb=>by
 have R:=st.rel;have iH:=AZ hr;have gz:(S.set r (.map es'))[r]?=some (.map es'):=by simp[iH]
 have dI:∀r',r'≠r→(S.set r (.map es'))[r']?=S[r']?:=fun r' h=>by simp[List.getElem?_set_ne (Ne.symm h)]
 have el:∀r',lenOf (S.set r (.map es')) r'=lenOf S r':=fun r'=>by
  by_cases e:r'=r
  ·subst e;simp[lenOf,gz,hr]
  ·simp only[lenOf,dI r' e]
 have es_:∀r',AAf (S.set r (.map es')) r'=AAf S r':=fun r'=>by
  by_cases e:r'=r
  ·subst e;simp[AAf,gz,hr]
  ·simp only[AAf,dI r' e]
 have em:∀r',AAN (S.set r (.map es')) r'=AAN S r':=fun r'=>by
  by_cases e:r'=r
  ·subst e;simp[AAN,gz,hr]
  ·simp only[AAN,dI r' e]
 have L:A9 G S w G (S.set r (.map es')) w:=
  ⟨fun _ h=>h,fun _ _=>rfl,by simp,fun r' _ n' iz=>⟨n',by rw[←el];exact iz,Nat.le_refl _,fun _=>⟨rfl,rfl,rfl,.inl (es_ r')⟩⟩,fun r' _ hm=>⟨by rw[←em];exact hm,rfl⟩⟩
 have own:∀r' x,(S.set r (.map es'))[r']?=some x→∃x',S[r']?=some x'∧AAJ G r' x'=AAJ G r' x:=fun r' x hx=>by
  by_cases e:r'=r
  ·subst e;rw[gz]at hx;cases hx;exact⟨_,hr,rfl⟩
  ·rw[dI r' e]at hx;exact⟨x,hx,rfl⟩
 have ownS:∀k,Eo G (S.set r (.map es')) k→Eo G S k:=by
  rintro k ⟨r',x,h1,h2,h3⟩;obtain⟨x',g1,g2⟩:=own r' x h1;exact⟨r',x',g1,by rw[g2];exact h2,h3⟩
 refine⟨G,⟨st.size,st.tm.later L,⟨R.Es.later L,fun r' x jD=>?_,fun r1 r2 x1 x2 h1 h2 o1 o2 he=>?_,fun k hk=>R.nI k (ownS k hk),R.G5,fun k hk=>R.FW k (ownS k hk)⟩⟩,⟨Nat.le_refl _,fun _ h=>h,fun _ _ _=>rfl,fun k hk=>.inl (ownS k hk),fun k hk=>.inl hk,rfl,rfl⟩,L.late hb⟩
 ·by_cases e:r'=r
  ·subst e;rw[gz]at jD;cases jD;have gw:=R.CT r' _ hr;simp only[OK]at gw⊢;obtain⟨ents,clock,g1,g2,g3,g4⟩:=gw;refine⟨ents,clock,g1,by omega,by omega,fun i hi=>?_⟩;obtain⟨e,f1,f2,f3,f4⟩:=g4 i (by omega);obtain⟨q1,q2⟩:=hw i (by omega) hi;exact⟨e,f1,by rw[q1];exact f2,(KH R q2 f3).later L,f4⟩
  ·rw[dI r' e]at jD;exact(R.CT r' x jD).later L (fun _=>rfl) rfl rfl rfl
 ·obtain⟨y1,g1,p1⟩:=own r1 x1 h1;obtain⟨y2,g2,p2⟩:=own r2 x2 h2;exact R.inj r1 r2 y1 y2 g1 g2 (by rw[p1];exact o1) (by rw[p2];exact o2) he
theorem AJ.Qu:∀(l:List (Nat×List D)) {S:Sg},(l.map (·.1)).Nodup→(∀p∈l,∃wr sz,S[p.1]?=some (.row wr sz (p.2.map .d)))→∃S',AJ P n b tm S tm S'∧S'.length=S.length∧(∀p∈l,S'[p.1]?=some (.BJ p.2))∧∀i,i∉l.map (·.1)→S'[i]?=S[i]?
 |[],S,_,_=>⟨S,AJ.refl,rfl,by simp,fun _ _=>rfl⟩
 |p::l,S,ju,h=>by
  rw[List.map_cons,List.nodup_cons]at ju;obtain⟨wr,sz,h0⟩:=h p (by simp);have dI:∀i,i≠p.1→(S.set p.1 (.BJ p.2))[i]?=S[i]?:=fun i hi=>List.getElem?_set_ne (Ne.symm hi);obtain⟨S',g1,g2,g3,g4⟩:=AJ.Qu l (S:=S.set p.1 (.BJ p.2)) ju.2 (fun q hq=>by
   obtain⟨wr,sz,kf⟩:=h q (by simp[hq]);exact⟨wr,sz,by rw[dI q.1 (fun e=>ju.1 (e▸List.mem_map.2 ⟨q,hq,rfl⟩))];exact kf⟩)
  refine⟨S',(AJ.B6 p.1 h0 (by simp)).trans g1,by simpa using g2,fun q hq=>?_,fun i hi=>?_⟩
  ·rcases List.mem_cons.1 hq with rfl|hq
   ·rw[g4 _ ju.1];simp[AZ h0]
   ·exact g3 q hq
  ·simp only[List.map_cons,List.mem_cons,not_or]at hi;rw[g4 i hi.2,dI i hi.1]
end
end Go.Koi
