/-
  Part 8 of the proof that the law ChangeFoldInline returns true for every input.
-/
import Derived.Test.YtgdfmldabcofeaaGreatDoorK06
import Derived.Maps.RangeRun
set_option maxHeartbeats 64000000
set_option maxRecDepth 100000
namespace Go.Koi
open Go.ChangeMaps (setBlock)
abbrev QQ:=@Nat.lt_irrefl
abbrev adN:=@List.head?_cons
abbrev acv:=@Array.toList_filter
abbrev acS:=@List.eq_nil_of_length_eq_zero
section
variable {P:Program} {n b:Nat} {o:Oper} {tm tm':Tm} {S S0 S0' S':Sg} {v:V} {ops:Array Oper} {Q:Exit->Tm->Sg->Prop}
structure cm(G:Gh)(S:Sg)(w:World)(r k it:Nat)(seen:Array Nat):Prop where
 heap:w.heap[it]?=some (.mapIter (some (G.B3 r)) k seen k)
 own:¬Fy G S it
 Y9:¬G.I it
theorem cm.later{G:Gh}{w:World}{i:Gh}{w':World}{r k g:Nat}{seen:Array Nat}(h:cm G S w r k g seen)(T:Tr G S w i S' w')(hb:i.B3 r=G.B3 r):cm i S' w' r k g seen:=by
 have j:=FG h.heap;refine⟨by rw[T.Dz g j h.own,hb];exact h.heap,λm=>?_,λhi=>?_⟩
 .rcases T.own g m with h1|h1
  .exact h.own h1
  .omega
 .rcases T.im g hi with h1|h1|h1
  .exact h.Y9 h1
  .exact h.own h1
  .omega
theorem Rel.cE{G:Gh}{w:World}(R:Rel P G S w)(H:Obj):Rel P G S (Bn w H)/\Tr G S w G S (Bn w H)/\BL G S w G S (Bn w H):=by
 have L:BL G S w G S (Bn w H):=⟨λ_ h=>h,λk g=>DU (R.JY k g),br _,λr _ n h=>⟨n,h,br _,λ_=>⟨rfl,rfl,rfl,.inl rfl⟩⟩,λr _ h=>⟨h,rfl⟩⟩;exact⟨⟨R.GQ.later L,λr x i=>(R.DG r x i).later L (λj=>DU (R.HL _ ⟨r,x,i,j,rfl⟩)) rfl rfl rfl,R.inj,R.nI,λk g=>by have:=R.JY k g;simp;omega,λk g=>by have:=R.HL k g;simp;omega⟩,⟨by simp,λ_ h=>h,λk g _=>DU g,λ_ h=>.inl h,λ_ h=>.inl h,rfl,rfl⟩,L⟩
theorem Rel.hidden{G:Gh}{w w':World}(R:Rel P G S w){i:Nat}(h1:¬Fy G S i)(q:¬G.I i)(hs:w'.heap.size=w.heap.size)(j:∀k,k≠i->w'.heap[k]?=w.heap[k]?):Rel P G S w'/\BL G S w G S w':=by
 have L:BL G S w G S w':=⟨λ_ h=>h,λk g=>j k (λe=>q (e▸g)),br _,λr _ n h=>⟨n,h,br _,λ_=>⟨rfl,rfl,rfl,.inl rfl⟩⟩,λr _ h=>⟨h,rfl⟩⟩;exact⟨⟨R.GQ.later L,λr x m=>(R.DG r x m).later L (λs=>j _ (λe=>h1 (e▸⟨r,x,m,s,rfl⟩))) rfl rfl rfl,R.inj,R.nI,λk g=>by rw[hs];exact R.JY k g,λk g=>by rw[hs];exact R.HL k g⟩,L⟩
def Kj(P:Program)(n b:Nat)(ops:Array Oper)(l:List Oper)(tm:Tm)(S:Sg)(r _ k:Nat)(K:Nat->Tm->Sg->Prop):Prop:=
 ∀i,(∀j,l[j]?=ops[i+j]?)->∀G w a Q,St P n G S w a tm->b<=S.length->(∀m g q S' tm' h,Gu P n b G S w a.defers m g q S' tm'->cm q S' g r k h #[]->w.heap.size<=h->K h tm' S'->Q .normal m g)->wpOps P ops Q (List.range' i l.length) a w
theorem Kj.step{rest:List Oper}{r t k:Nat}{K:Nat->Tm->Sg->Prop}(hs:∀i,ops[i]?=some o->Step P n b ops i tm S tm' S')(h:Kj P n b ops rest tm' S' r t k K):Kj P n b ops (o::rest) tm S r t k K:=λq z G w a Q st hb A=>by
 have h0:ops[q]?=some o:=by simpa using(z 0).symm
 simp only[ea,xj];rw[vj];refine hs q h0 G w a _ Q st hb λB C E g=>?_;refine h (q+1) (λj=>by have:=z (j+1);simp only[of]at this;rw[this];congr 1;omega) E C B Q g.st g.late.len λF H J L s M m N u R=>?_;exact A F H J L s M ⟨m.st,m.ds.trans g.ds,g.tr.trans m.tr,g.late.trans m.late⟩ N (ke g.tr.size u) R
theorem Kj.op{rest:List Oper}{r t k:Nat}{K:Nat->Tm->Sg->Prop}(h1:EE P n ops o tm S)(g:Kj P n b ops rest (put tm o.dst (Dc P ops o tm S)) (oS P o tm S) r t k K):Kj P n b ops (o::rest) tm S r t k K:=
 Kj.step (λ_ hi=>Step.D7 hi h1) g
theorem Kj.El{rest:List Oper}{r t k:Nat}{K:Nat->Tm->Sg->Prop}{c:Call}{f:FuncId}{g:List V}(h:AG P f g S0 v S0')(i:List Nat)(m:o.op=.call c)
  (q:o.guard=none/\BA n o.dst/\BE tm c/\Ch tm c f g i/\Eg S S0 i/\i.length<=S0'.length/\g.all (AP i.length)=true)
  (s:Kj P n b ops rest (put tm o.dst (Bc (EF (nameOf i) i.length S.length) v)) (C8 S S0' i) r t k K):Kj P n b ops (o::rest) tm S r t k K:=by
 obtain⟨u,w,z,j,A,B,C⟩:=q;unfold Ch at j;split at j
 .rename_i F args E;obtain⟨rfl,rfl⟩:=j;exact Kj.step (λ_ hi=>AC hi w u (HH m E z (h.Eb i A B C))) s
 .exact j.elim
theorem Kj.range{r t:Nat}{es:List (D×V)}{K:Nat->Tm->Sg->Prop}{T:TypeId}{x:Operand}(i:o.op=.range T x)
  (j:o.guard=none/\o.dst=some t/\t<n/\need (ev tm x)/\strip (ev tm x)=.map r/\S[r]?=some (.map es)/\(Jj P T).isSome=true)
  (h:∀B,K B (FP tm t (.d (.raw (.pointer (some ⟨B,0,none⟩))))) S):Kj P n b ops [o] tm S r t es.length K:=λL M G w a Q st hb N=>by
 obtain⟨R,C,k,U,W,E,X⟩:=j;have h0:ops[L]?=some o:=by simpa using(M 0).symm
 simp only[ea,j0,xj,List.range'_zero];rw[vj];unfold wpOp;simp only[h0,Region.wanted,R,er];left;have h1:=(BV st x).strip U;rw[W]at h1;have m:a.eval x=.map (some (G.B3 r)):=by cases h1 with|map _ _ _ _ h=>exact h (by simp[Bb,E])
 have F:=st.rel.DG r _ E;simp only[OK]at F;obtain⟨H,g,Y,q2,Z,q3⟩:=F;obtain⟨p,j⟩:=jw.1 X;obtain⟨ti,e1,e2⟩:=IV j;obtain⟨d,q,s⟩:=An e1 w;have u:d=.map p.1 p.2:=by rw[e2]at s;cases d<;>simp[tk]at s⊢;exact s
 subst u;have z:=acW (P:=P) Y;have vm:(execOp a.eval o).run P w=.ok (.value (.pointer (some ⟨w.heap.size,0,none⟩))) (Bn w (.mapIter (some (G.B3 r)) g #[] g)):=by
  simp[execOp,i,Instr.range,q,m,z];rfl
 unfold Oper.wp;rw[vm];simp only[Oper.upon];obtain⟨r1,r2,J⟩:=st.rel.cE (.mapIter (some (G.B3 r)) g #[] g);have A:St P n G S (Bn w (.mapIter (some (G.B3 r)) g #[] g)) (a.put o.dst (.pointer (some ⟨w.heap.size,0,none⟩))) (put tm o.dst (.d (.raw (.pointer (some ⟨w.heap.size,0,none⟩))))):=
  st.put (by rw[C];exact k) (.d _ _ (.raw _)) r1 J
 simp only[wpOps];refine N _ _ G S _ w.heap.size ⟨A,B8,r2,J.late hb⟩ ⟨?_,λi=>?_,λhi=>?_⟩ (br _) (by rw[C];exact h _)
 .rw[D2,Z]
 .exact QQ _ (st.rel.HL _ i)
 .exact QQ _ (st.rel.JY _ hi)
theorem AW.fI{i0 N id1 i1 i2 tk:Nat}{J R:Array Oper}{body:Code}(r t:Nat)(es:List (D×V))(Inv:Nat->List Nat->Tm->Sg->Prop){m u:Oper}(wH:b<=r+1)
  (hnx:J.toList.head? =some m/\m.op=.next (.tmp t) false/\m.guard=none/\BA n m.dst) (wB:R.toList.head? =some u/\u.op=.entry (.tmp t)/\u.guard=none/\BA n u.dst)
  (hInv:∀s g tm S,Inv s g tm S->S[r]?=some (.map es)/\tm t=.d (.raw (.pointer (some ⟨s,0,none⟩))))
  (hreg:Kj P n b ops ops.toList tm S r t es.length λs A S1=>Inv s [] A S1)
  (hround:∀s g tm S i (hi:i<es.length),Inv s g tm S->i∉g->AV P n (r+1) J (J.toList.drop 1) (put tm m.dst (.Cb [.d (.bool true),.d es[i].1,es[i].2])) S λA S1=>S1=S/\A tk=.d (.bool true)/\A t=.d (.raw (.pointer (some ⟨s,0,none⟩)))/\AV P n (r+1) R (R.toList.drop 1) (put A u.dst (.Cb [.d es[i].1,es[i].2])) S λtm2 S2=>
     AW P n (r+1) body (BW id1 (C4 (λtm3 S3=>∃K S4,AJ P n (r+1) tm3 S3 K S4/\Inv s (g++[i]) K S4) (BW N Q))) tm2 S2)
  (hend:∀s g tm S,Inv s g tm S->(∀i,i<es.length->i∈g)->AV P n (r+1) J (J.toList.drop 1) (put tm m.dst (.Cb [.d (.bool false)])) S λA S1=>A tk=.d (.bool false)/\Q .normal A S1):
  AW P n b (.seq (.region i0 ops false) (.block N (.loop (.seq (.region i1 J false) (.seq (.cond (.tmp tk) .skip (.exit N)) (.block id1 (.seq (.region i2 R false) body))))))) Q tm S:=by
 intro G w a st hb;obtain⟨yC,hnx2,hnx3,hnx4⟩:=hnx;obtain⟨yF,hen2,hen3,hen4⟩:=wB;have hnl:J.toList=m::J.toList.drop 1:=by
  cases h:J.toList with
  |nil=>rw[h]at yC;simp at yC
  |cons x xs=>rw[h]at yC;simp only[adN,fd]at yC;subst yC;rfl
 have hel:R.toList=u::R.toList.drop 1:=by
  cases h:R.toList with
  |nil=>rw[h]at yF;simp at yF
  |cons x xs=>rw[h]at yF;simp only[adN,fd]at yF;subst yF;rfl
 have yG:∀j,(m::J.toList.drop 1)[j]?=J[j]?:=λj=>by rw[<-hnl,H1]
 have zB:∀j,(u::R.toList.drop 1)[j]?=R[j]?:=λj=>by rw[<-hel,H1]
 refine vw (R3 ?_);have zA:=hreg 0 (λj=>by simp) G w a (Exit.then ((Code.block N (.loop (.seq (.region i1 J false) (.seq (.cond (.tmp tk) .skip (.exit N)) (.block id1 (.seq (.region i2 R false) body)))))).wp P (Qa P n b Q G S w a.defers)) (Qa P n b Q G S w a.defers)) st hb ?_
 .rw[In];simpa using zA
 intro a1 w1 G1 S1 A s wD hit1 hfresh hI1;refine wp_block ?_;refine wp_loop (I:=λa' E=>∃F S' tm' g,Gu P n b G S w a.defers a' E F S' tm'/\cm F S' E r es.length s g.toArray/\Inv s g tm' S'/\g.Nodup/\∀i∈g,i<es.length)
  (μ:=λ_ E=>match E.heap[s]? with|some (.mapIter _ _ seen _)=>es.length - seen.size|_=>0) ⟨G1,S1,A,[],wD,hit1,hI1,acU,λi h=>by simp at h⟩ ?_
 rintro a' E ⟨F,S',tm',g,B,yr,hI,vW,vc⟩;obtain⟨hS,ht⟩:=hInv s g tm' S' hI;have hitl:=FG yr.heap;have wi:=AZ hS;have vp:=B.st.rel.DG r _ hS;simp only[OK]at vp;obtain⟨q,L,q1,q2,qk,q3⟩:=vp;have zE:∀i (h:i<q.size),q[i].born=i:=λi h=>by
  obtain⟨e,e1,_,_,e4,_⟩:=q3 i (by omega);rw[i9 h]at e1;cases e1;exact e4
 have vk:∀x∈q.toList,∃i,i<es.length/\x.born=i/\q[i]?=some x:=λx C=>by
  obtain⟨i,hi,rfl⟩:=jp.1 C;have vo:i<q.size:=by simpa using hi
  exact⟨i,by omega,by simpa using zE i vo,by rw[i9 vo];simp⟩
 have hev:a'.eval (.tmp t)=.pointer (some ⟨s,0,none⟩):=by
  have:=B.st.tm t;rw[ht]at this;simp only[Act.eval];generalize a'.tmps.getD t undef=X at this;cases this with|d _ _ h=>cases h;rfl
 have wv:J[0]?=some m:=by have:=yG 0;simpa using this.symm
 have he0:R[0]?=some u:=by have:=zB 0;simpa using this.symm
 refine vw (R3 ?_);rw[In];have vr:J.size=(J.toList.drop 1).length+1:=by have:=i6 List.length hnl;simpa using this
 rw[vr,xj,vj];unfold wpOp;simp only[wv,Region.wanted,hnx3,er];left;unfold Oper.wp;rcases run_next_at (P:=P) E m.type s (F.B3 r) es.length es.length g.toArray q L yr.heap q1 (λx C=>by obtain⟨i,h1,h2,_⟩:=vk x C;omega) (br _)with⟨hz,vm⟩|⟨e,he,w2,wm,vm⟩
 .
  have wj:(execOp a'.eval m).run P E=.ok (.value (.tuple #[.bool false])) E:=by
   simp only[execOp,hnx2,hev,gI,vm,ge,l6]
  rw[wj];simp only[Oper.upon];have st2:St P n F S' E (a'.put m.dst (.tuple #[.bool false])) (put tm' m.dst (.Cb [.d (.bool false)])):=
   B.st.put hnx4 (.Cb _ _ rfl (λi h=>by
    have:i=0:=by simp at h;omega
    subst this;exact .d _ _ (.bool _))) B.st.rel (z0 _ _ _)
  have hdone:∀i,i<es.length->i∈g:=λi hi=>by
   by_cases hm:i∈g
   .exact hm
   .exfalso;have hie:i<q.size:=by omega
    have:q[i]∈(leftOf q g.toArray).toList:=by
     simp only[leftOf,acv,ms];refine⟨by simp,?_⟩;rw[zE i hie];simpa using hm
    have h0:(leftOf q g.toArray).toList=[]:=by
     apply acS;simpa using hz
    rw[h0]at this;simp at this
  refine hend s g tm' S' hI hdone 1 (λj=>by have:=yG (j+1);simp only[of]at this;rw[this];congr 1;omega) F E _ _ st2 (by omega) λa3 Y hh=>?_;obtain⟨G3,S3,tm3,zr,hk,hQ⟩:=hh;refine vw (wp_cond_false ?_ (wp_exit ?_))
  .have:=zr.st.tm tk;rw[hk]at this;simp only[Act.eval];generalize a3.tmps.getD tk undef=X at this;cases this with|d _ _ h=>cases h;rfl
  .simp only[Exit.then,Exit.inBlock,er];exact⟨G3,S3,tm3,⟨zr.st,(zr.ds.trans B8).trans B.ds,B.tr.trans zr.tr,B.late.trans (zr.late.NJ wH)⟩,hQ⟩
 .
  obtain⟨i,hi,hbi,hei⟩:=vk e (by simp only[leftOf,acv,ms]at he;exact he.1);have hiv:i∉g:=by
   simp only[leftOf,acv,ms]at he;have:=he.2;rw[hbi]at this;simpa using this
  have wj:(execOp a'.eval m).run P E=.ok (.value (.tuple #[.bool true,e.key,e.val])) (setBlock w2 s (.mapIter (some (F.B3 r)) es.length (g.toArray.push e.born) L)):=by
   simp only[execOp,hnx2,hev,gI,vm,ge,l6]
  rw[wj];simp only[Oper.upon];generalize zZ:setBlock w2 s (.mapIter (some (F.B3 r)) es.length (g.toArray.push e.born) L)=Y;have U:w2.heap=E.heap:=by rcases wm with rfl|rfl<;>rfl
  have hw3s:Y.heap.size=E.heap.size:=by rw[<-zZ];simp[setBlock,U]
  have hw3o:∀k,k≠s->Y.heap[k]?=E.heap[k]?:=λk hk=>by rw[<-zZ];simp only[setBlock,U];rw[abV (le hk)]
  have hw3i:Y.heap[s]?=some (.mapIter (some (F.B3 r)) es.length (g++[i]).toArray es.length):=by
   rw[<-zZ];simp[setBlock,U,hitl,hbi,qk]
  have zF:Y.os=E.os/\Y.output=E.output:=by rw[<-zZ];rcases wm with rfl|rfl<;>exact⟨rfl,rfl⟩
  obtain⟨r1,r3⟩:=B.st.rel.hidden yr.own yr.Y9 hw3s hw3o;obtain⟨e',f1,f2,f3,f4,f5⟩:=q3 i hi;rw[hei]at f1;cases f1;have zs:Gu P n b G S w a.defers a' Y F S' tm':=
   ⟨⟨B.st.size,B.st.tm.later r3,r1⟩,B.ds,⟨by rw[hw3s];exact B.tr.size,B.tr.I,λk hk vt=>by rw[hw3o k (by omega)];exact B.tr.Dz k hk vt,B.tr.own,B.tr.im,zF.1.trans B.tr.os,zF.2.trans B.tr.out⟩,B.late⟩
  have hit3:cm F S' Y r es.length s (g++[i]).toArray:=⟨hw3i,yr.own,yr.Y9⟩;have st2:St P n F S' Y (a'.put m.dst (.tuple #[.bool true,e.key,e.val])) (put tm' m.dst (.Cb [.d (.bool true),.d es[i].1,es[i].2])):=
   zs.st.put hnx4 (.Cb _ _ rfl (λj h=>by
    have h3:j<3:=by simpa using h
    match j,h3 with
    |0,_=>exact .d _ _ (.bool _)
    |1,_=>exact .jO (f2.mono r3.I r3.Dz)
    |2,_=>exact f3.later r3)) r1 (z0 _ _ _)
  refine hround s g tm' S' i hi hI hiv 1 (λj=>by have:=yG (j+1);simp only[of]at this;rw[this];congr 1;omega) F Y _ _ st2 (by omega) λa4 w4 hh=>?_;obtain⟨G4,S4,K,Z,hS4,hk4,ht4,hen'⟩:=hh;subst hS4;have hb4:G4.B3 r=F.B3 r:=(Z.late.map r (by omega) (by simp[Bb,hS])).2;have hit4:=hit3.later Z.tr hb4;refine vw (wp_cond_true ?_ (wp_skip ?_))
  .have:=Z.st.tm tk;rw[hk4]at this;simp only[Act.eval];generalize a4.tmps.getD tk undef=X at this;cases this with|d _ _ h=>cases h;rfl
  simp only[Exit.then];refine wp_block (vw (R3 ?_));rw[In];have hsz2:R.size=(R.toList.drop 1).length+1:=by have:=i6 List.length hel;simpa using this
  rw[hsz2,xj,vj];unfold wpOp;simp only[he0,Region.wanted,hen3,er];left;unfold Oper.wp;have hev4:a4.eval (.tmp t)=.pointer (some ⟨s,0,none⟩):=by
   have:=Z.st.tm t;rw[ht4]at this;simp only[Act.eval];generalize a4.tmps.getD t undef=X at this;cases this with|d _ _ h=>cases h;rfl
  have hob4:=Z.st.rel.DG r _ hS;simp only[OK]at hob4;obtain⟨z,clock4,p1,p2,pk,p3⟩:=hob4;obtain⟨e4,g1,g2,g3,g4,g5⟩:=p3 i hi;have hborn4:∀j (h:j<z.size),z[j].born=j:=λj h=>by
   obtain⟨x,x1,_,_,x4,_⟩:=p3 j (by omega);rw[i9 h]at x1;cases x1;exact x4
  have hmap4:z.toList.map (·.born)=List.range z.size:=by
   apply un
   .simp
   .intro j h1 h2;simp only[kt,tg,adR];exact hborn4 j (by simpa using h1)
  have hih:=hit4.heap;have hpush:(g++[i]).toArray=g.toArray.push e4.born:=by rw[g4];simp
  rw[hpush]at hih;have hrun4:=run_entry_at (P:=P) w4 s (G4.B3 r) es.length g.toArray z clock4 e4 (by rw[pk];exact hih) p1 (by have:=ac1 g1;simpa using this) (by rw[hmap4];exact List.nodup_range);have hexec4:(execOp a4.eval u).run P w4=.ok (.value (.tuple #[e4.key,e4.val])) w4:=by
   simp only[execOp,hen2,hev4,gI,hrun4,ge,l6]
  rw[hexec4];simp only[Oper.upon];have st5:St P n G4 S4 w4 (a4.put u.dst (.tuple #[e4.key,e4.val])) (put K u.dst (.Cb [.d es[i].1,es[i].2])):=
   Z.st.put hen4 (.Cb _ _ rfl (λj h=>by
    have h3:j<2:=by simpa using h
    match j,h3 with
    |0,_=>exact .jO g2
    |1,_=>exact g3)) Z.st.rel (z0 _ _ _)
  refine hen' 1 (λj=>by have:=zB (j+1);simp only[of]at this;rw[this];congr 1;omega) G4 w4 _ _ st5 (by omega) λa6 w6 hh=>?_;obtain⟨G6,S6,tm6,W,hbody⟩:=hh;have hlen6:r+1<=S6.length:=W.late.len;refine vX (hbody G6 w6 a6 W.st hlen6) λex a7 w7 hl=>?_;obtain⟨G7,S7,H,T,M⟩:=hl;have d7:a7.defers=a.defers:=T.ds.trans (W.ds.trans (B8.trans (Z.ds.trans (B8.trans B.ds))));have t7:Tr G4 S4 w4 G7 S7 w7:=W.tr.trans T.tr;have l7:E7 (r+1) G4 S4 G7 S7:=W.late.trans T.late;have full:Gu P n b G S w a.defers a7 w7 G7 S7 H:=⟨T.st,d7,(zs.tr.trans Z.tr).trans t7,(B.late.trans (Z.late.NJ wH)).trans (l7.NJ wH)⟩;have cont:(∃K S4,AJ P n (r+1) H S7 K S4/\Inv s (g++[i]) K S4)->(∃F S' tm' g,Gu P n b G S w a.defers a7 w7 F S' tm'/\cm F S' w7 r es.length s g.toArray/\Inv s g tm' S'/\g.Nodup/\∀i∈g,i<es.length)/\(match w7.heap[s]? with|some (.mapIter _ _ seen _)=>es.length - seen.size|_=>0)<(match E.heap[s]? with|some (.mapIter _ _ seen _)=>es.length - seen.size|_=>0):=by
   rintro⟨tm8,S8,g8,hI8⟩;obtain⟨G8,st8,t8,l8⟩:=g8 G7 w7 a7 T.st T.late.len;obtain⟨hS8,_⟩:=hInv _ _ _ _ hI8;have hb8:G8.B3 r=G4.B3 r:=((l7.trans l8).map r (by omega) (by simp[Bb,hS8])).2;have hit8:=hit4.later (t7.trans t8) hb8;refine⟨⟨G8,S8,tm8,g++[i],⟨st8,d7,full.tr.trans t8,full.late.trans (l8.NJ wH)⟩,hit8,hI8,?_,?_⟩,?_⟩
   .rw[rt];exact⟨vW,by simp,λx C y hy e=>by simp only[cR]at hy;subst e;subst hy;exact hiv C⟩
   .intro x C;rcases dl.1 C with C|C
    .exact vc x C
    .simp only[cR]at C;subst C;exact hi
   .rw[hit8.heap,yr.heap];have h1:g.length<es.length:=by
     have h2:=Hb id (l:=g++[i]) (n:=es.length) (by
      rw[rt];exact⟨vW,by simp,λx C y hy e=>by simp only[cR]at hy;subst e;subst hy;exact hiv C⟩) (λx C=>by
       rcases dl.1 C with C|C
       .exact vc x C
       .simp only[cR]at C;subst C;exact hi) (λx _ y _ e=>e)
     simp at h2;omega
    simp;omega
  cases ex with
  |normal=>
   simp only[BW,C4]at M;simp only[Exit.then,Exit.inBlock];exact cont M
  |exit id'=>
   simp only[BW]at M;simp only[Exit.then,Exit.inBlock];by_cases e1:id'=id1
   .simp only[e1,er,C4]at M⊢;exact cont M
   .simp only[e1,fc,C4,BW]at M⊢;by_cases e0:id'=N
    .simp only[e0,er]at M⊢;exact⟨G7,S7,H,full,M⟩
    .simp only[e0,fc]at M⊢;exact⟨G7,S7,H,full,M⟩
  |goto l=>exact⟨G7,S7,H,full,M⟩
  |ret=>exact⟨G7,S7,H,full,M⟩
  |panic c=>exact⟨G7,S7,H,full,M⟩
  |outgrown=>exact⟨G7,S7,H,full,M⟩
end
abbrev vU:=@List.length_set
section
variable {P:Program} {n b:Nat} {o:Oper} {tm tm':Tm} {S S':Sg} {v:V} {ops:Array Oper} {K:Tm->Sg->Prop}
def Gh.sf(G:Gh)(r b:Nat)(c:Nat×Nat):Gh:=
 {I:=G.I,B3:=λk=>if k=r then b else G.B3 k,cap:=λk=>if k=r then c else G.cap k,BB:=λk=>if k=r then none else G.BB k}
theorem Ve{G g:Gh}{k:Nat}(h:g.BB k=G.BB k)(x:O):BQ g k x=BQ G k x:=by cases x<;>simp[BQ,h]
theorem No{T E:TypeId}{x:Operand}{lo hi:Option Operand}{r m sz:Nat}{els:List V}{kl kh:IntKind}{l h:Int}{e:TI}{t:TI}(ho:o.op=.slice T x lo hi none)(B:need (ev tm x))
  (ex:strip (ev tm x)=.row r m) (W:S[r]?=some (.row true sz els)) (hm:els.length=m) (hT:ti P T=some t) (A:t.kind=.slice E) (he:ti P E=some e) (vr:e.size=sz) (hlo:Fa tm lo) (el:EN tm lo=.d (.int kl l)) (y7:Fa tm hi)
  (eh:hi=none->h=m) (eh':hi≠none->EN tm hi=.d (.int kh h)) (h0:0<=l) (h1:l<=h) (h2:h<=m):
  Cf P n o tm S (.row S.length (h - l).toNat) (S.set r .dead++[.row true sz ((els.take h.toNat).drop l.toNat)]):=.val λG w a st=>by
 have hv:=(BV st x).strip B;rw[ex]at hv;obtain⟨d,hd,vq⟩:=An hT w;have hdE:d=.slice E:=by rw[A]at vq;cases d<;>simp[tk]at vq⊢;exact vq
 subst hdE;have R:=st.rel;have wi:=AZ W;have wh:a.eval x=G.BZ r m:=by cases hv with|row _ _ _ _ _ h=>exact(h m (by simp[lenOf,W,hm])).2 rfl
 have Z:=R.DG r _ W;simp only[OK]at Z;cases X:G.BB r with
 |some q=>simp only[X]at Z;exact absurd Z.1 (by simp)
 |none=>
  simp only[X]at Z;obtain⟨c,T0,g1,g2,g3,g4,g5⟩:=Z;simp[Gh.BZ,X]at wh;generalize zb:(G.cap r).1=cap at *;generalize hoff:(G.cap r).2=off at *;have hhr:∀y,hi=some y->a.eval y=.int kh h:=λy M=>CE st (by simpa[Fa,M]using y7) (by have:=eh' (by simp[M]);simpa[EN,M]using this);have zX:∀y,lo=some y->a.eval y=.int kl l:=λy M=>CE st (by simpa[Fa,M]using hlo) (by simpa[EN,M]using el);have e3:lo=none->l=0:=λe=>by subst e;simp[EN]at el;exact el.2.symm
  have hb:(Instr.sliceBounds true m cap (lo.map a.eval) (hi.map a.eval) none).run P w=.ok (l.toNat,h.toNat,cap) w:=by
   unfold Instr.sliceBounds;have e4:l<=(h.toNat:Int):=by omega
   have e5:(h:Int)<=cap:=by omega
   have e7:(0:Int)<=h:=by omega
   cases hi with
   |none=>
    have:=eh rfl;subst this;cases lo with
    |none=>have:=e3 rfl;subst this;simp
    |some z=>simp[zX z rfl,Cm h0 h1]
   |some y=>
    cases lo with
    |none=>have:=e3 rfl;subst this;simp[hhr y rfl,Cm e7 e5]
    |some z=>simp[hhr y rfl,Cm e7 e5,zX z rfl,Cm h0 e4]
  let s:=if cap=l.toNat then off else off+l.toNat * sz;let F:=G.sf S.length (G.B3 r) (cap - l.toNat,s);have hlr':l.toNat<=h.toNat/\h.toNat<=m:=by omega
  have C:F.B3 S.length=G.B3 r:=by simp[F,Gh.sf]
  have zg:F.cap S.length=(cap - l.toNat,s):=by simp[F,Gh.sf]
  have hvi:F.BB S.length=none:=by simp[F,Gh.sf]
  have N:∀k,k≠S.length->F.B3 k=G.B3 k/\F.cap k=G.cap k/\F.BB k=G.BB k:=λk A=>by simp[F,Gh.sf,A]
  have Hy:∀k,k<S.length->k≠r->(S.set r .dead++[.row true sz ((els.take h.toNat).drop l.toNat)])[k]?=S[k]?:=λk A hkr=>by
   rw[ej (by simpa using A),nt (le hkr)]
  have Q:(S.set r .dead++[.row true sz ((els.take h.toNat).drop l.toNat)])[r]?=some .dead:=by
   rw[ej (by simpa using wi)];simp[wi]
  have new:(S.set r .dead++[.row true sz ((els.take h.toNat).drop l.toNat)])[S.length]?=some (.row true sz ((els.take h.toNat).drop l.toNat)):=by simp
  have L:BL G S w F (S.set r .dead++[.row true sz ((els.take h.toNat).drop l.toNat)]) w:=by
   refine⟨λ_ h=>h,λ_ _=>rfl,by simp,λk A n' wg=>?_,λk A Y=>?_⟩
   .by_cases e:k=r
    .subst e;simp only[lenOf,Q]at wg;cases wg
    .obtain⟨a1,a2,a3⟩:=N k (by omega);exact⟨n',by simpa only[lenOf,Hy k A e]using wg,br _,λ_=>⟨a1,a2,a3,.inl (by simp[C0,Hy k A e])⟩⟩
   .by_cases e:k=r
    .subst e;simp only[Bb,Q]at Y;cases Y
    .exact⟨by simpa only[Bb,Hy k A e]using Y,(N k (by omega)).1⟩
  have g:∀k x,(S.set r .dead++[.row true sz ((els.take h.toNat).drop l.toNat)])[k]?=some x->BQ F k x=true->(k≠r/\k<S.length/\S[k]?=some x/\BQ G k x=true)\/k=S.length:=λk x B hw=>by
   have vZ:=AZ B;simp at vZ;by_cases J:k=S.length
   .exact .inr J
   .left;by_cases e:k=r
    .subst e;rw[Q]at B;cases B;simp[BQ]at hw
    .rw[Hy k (by omega) e]at B;refine⟨e,by omega,B,?_⟩;rw[<-Ve (N k J).2.2 x];exact hw
  have U:Fy G S (G.B3 r):=⟨r,_,W,by simp[BQ,X],rfl⟩;have own:∀k,Fy F (S.set r .dead++[.row true sz ((els.take h.toNat).drop l.toNat)]) k->Fy G S k:=by
   rintro k ⟨i,x,q1,q2,q3⟩;rcases g i x q1 q2 with⟨_,vP,p1,p2⟩|e
   .exact⟨i,x,p1,p2,by rw[q3,(N i (by omega)).1]⟩
   .subst e;rw[q3,C];exact U
  refine⟨.slice (if cap=l.toNat then some ⟨G.B3 r,off,none⟩else(some (⟨G.B3 r,off,none⟩:Addr)).map (·.add (l.toNat * sz))) (h.toNat - l.toNat) (cap - l.toNat),F,w,?_,?_,⟨R.GQ.later L,λk x B=>?_,λi j x y B M ox oy H=>?_,λk A=>R.nI k (own k A),R.JY,λk A=>R.HL k (own k A)⟩,⟨br _,λ_ h=>h,λ_ _ _=>rfl,λk A=>.inl (own k A),λk A=>.inl A,rfl,rfl⟩,L⟩
  .subst vr;simp[execOp,ho,Instr.sliceAt,wh,hd,Instr.slice,hb,Bi he]
  .refine .row _ _ _ rfl (by simp) λm' Y=>?_;have e1:m'=h.toNat - l.toNat:=by
    simp only[lenOf,new,fd]at Y;rw[<-Y];simp;omega
   subst e1;refine⟨by omega,λ_=>?_⟩;simp[Gh.BZ,hvi,C,zg];have J:h.toNat - l.toNat=(h - l).toNat:=by omega
   rw[J];simp[s];split<;>simp[Addr.add]
  .by_cases J:k=S.length
   .subst J;rw[new]at B;cases B;simp only[OK,hvi,C,zg];refine⟨c,T0,g1,?_,by simp;omega,by simp;omega,λi hi=>?_⟩
    .simp[s];split
     .next e=>rw[e,ad2,Nat.zero_mul];have:=ke (Nat.le_add_right off (cap * sz)) g2;omega
     .have:l.toNat * sz+(cap - l.toNat) * sz=cap * sz:=by rw[<-nc];congr 1;omega
      omega
    .have vo:i<h.toNat - l.toNat:=by simp at hi;omega
     obtain⟨u,u1,u2,u3,u4⟩:=g5 (l.toNat+i) (by omega);refine⟨u,?_,u2,u3,λj hj=>?_⟩
     .have:((els.take h.toNat).drop l.toNat)[i]=els[l.toNat+i]:=by simp
      rw[this];exact u1.later L
     .have:s+(i * sz+j)=off+((l.toNat+i) * sz+j):=by
       simp[s];rw[ao (by omega),nc];omega
      rw[this];exact u4 j hj
   .have vZ:=AZ B;simp at vZ;by_cases e:k=r
    .subst e;rw[Q]at B;cases B;trivial
    .rw[Hy k (by omega) e]at B;obtain⟨a1,a2,a3⟩:=N k J;exact(R.DG k x B).later L (λ_=>rfl) a1 a2 a3
  .rcases g i x B ox with⟨ir,il,p1,p2⟩|e1
   .rcases g j y M oy with⟨jr,jl,p3,p4⟩|J
    .rw[(N i (by omega)).1,(N j (by omega)).1]at H;exact R.inj i j x y p1 p3 p2 p4 H
    .subst J;rw[(N i (by omega)).1,C]at H;exact absurd (R.inj i r x _ p1 W p2 (by simp[BQ,X]) H) ir
   .rcases g j y M oy with⟨jr,jl,p3,p4⟩|J
    .subst e1;rw[(N j (by omega)).1,C]at H;exact absurd (R.inj j r y _ p3 W p4 (by simp[BQ,X]) H.symm) jr
    .omega
def sE(P:Program)(T:TypeId)(x:Operand)(lo hi:Option Operand)(r m sz:Nat)(els:List V)(l h:Int)(tm:Tm)(S:Sg):Prop:=
 need (ev tm x)/\strip (ev tm x)=.row r m/\S[r]?=some (.row true sz els)/\els.length=m/\(match As P T with|some E=>Aq P E=some sz|none=>False)/\Fa tm lo/\(∃kl,EN tm lo=.d (.int kl l))/\Fa tm hi/\(match hi with|none=>h=m|some _=>∃g,EN tm hi=.d (.int g h))/\0<=l/\l<=h/\h<=m
theorem AV.J2{rest:List Oper}{T:TypeId}{x:Operand}{lo hi:Option Operand}(r m sz:Nat)(els:List V)(l h:Int)(k:o.op=.slice T x lo hi none)
  (Q:o.guard=none/\BA n o.dst/\sE P T x lo hi r m sz els l h tm S)
  (q:AV P n b ops rest (put tm o.dst (.row S.length (h - l).toNat)) (S.set r .dead++[.row true sz ((els.take h.toNat).drop l.toNat)]) K):AV P n b ops (o::rest) tm S K:=by
 obtain⟨s,u,w,z,A,B,i,C,⟨kl,F⟩,G,g,H,J,L⟩:=Q;split at i
 .rename_i E j;obtain⟨t,M,N⟩:=BJ j;obtain⟨e,f1,f2,_⟩:=CM i;cases hi with
  |none=>exact AV.Zt ⟨s,u⟩ (No (kh:=.i64) k w z A B M N f1 f2 C F G (λ_=>g) (λh=>absurd rfl h) H J L) q
  |some y=>
   obtain⟨kh,g⟩:=g;exact AV.Zt ⟨s,u⟩ (No k w z A B M N f1 f2 C F G (λh=>by cases h) (λ_=>g) H J L) q
 .exact i.elim
def Ac(P:Program)(n:Nat)(ops:Array Oper)(o:Oper)(tm:Tm)(v:V)(S':Sg):Prop:=EE P n ops o tm S'/\Dc P ops o tm S'=v/\oS P o tm S'=S'
theorem xG{B:List (Nat×(Sg->Prop))}{i:Nat}{rest:List (Nat×Bool×Oper)}(h1:EE P n ops o tm S/\oS P o tm S=S)
  (h:Ag P n b ops ((i,Ac P n ops o tm (Dc P ops o tm S))::B) rest (put tm o.dst (Dc P ops o tm S)) S K):Ag P n b ops B ((i,true,o)::rest) tm S K:=
 Ag.qg _ ⟨h1.1,rfl,h1.2⟩ (λ_ h=>h) h
def Al(tm:Tm)(c:Call)(f:FuncId)(ds:List D)(S':Sg):Prop:=Fk S' tm c f ds
theorem B5{B:List (Nat×(Sg->Prop))}{i:Nat}{rest:List (Nat×Bool×Oper)}{c:Call}{f:FuncId}{ds:List D}{d:D}(h:Pure P f ds d)(g:o.op=.call c)
  (j:o.guard=none/\BA n o.dst/\BE tm c/\Fk S tm c f ds) (k:Ag P n b ops ((i,Al tm c f ds)::B) rest (put tm o.dst (.d d)) S K):Ag P n b ops B ((i,true,o)::rest) tm S K:=by
 obtain⟨m,q,s,t⟩:=j;refine o4 _ t (λhi S' hS=>?_) k;obtain⟨args,u,w⟩:=F9 (show Fk S' tm c f ds from hS);exact wd hi g m q u s (h.call w)
theorem AJ.qm(t:Nat){d:D}(h:Ba S (tm t)=some d):AJ P n b tm S (FP tm t (.d d)) S:=λG w a st hb=>by
 refine⟨G,⟨st.size,λk=>?_,st.rel⟩,yL _ _ _,GT hb⟩;unfold FP;by_cases e:k=t
 .subst e;rw[ap rfl];exact .jO ((st.tm k).Ba st.rel h)
 .rw[ao e];exact st.tm k
end
attribute [simp] sE
section
variable {P:Program} {n b:Nat} {o:Oper} {tm tm':Tm} {S S':Sg} {v:V} {ops:Array Oper} {K:Tm->Sg->Prop}
theorem AJ.rh(r:Nat){es es':List (D×V)}(s:S[r]?=some (.map es))(hl:es'.length=es.length)(M:∀i (h:i<es.length) (h':i<es'.length),es'[i].1=es[i].1/\RV S es[i].2 es'[i].2):
  AJ P n b tm S tm (S.set r (.map es')):=λG w a st hb=>by
 have R:=st.rel;have N:=AZ s;have Df:(S.set r (.map es'))[r]?=some (.map es'):=by simp[N]
 have t:∀g,g≠r->(S.set r (.map es'))[g]?=S[g]?:=λg h=>by simp[nt (le h)]
 have el:∀g,lenOf (S.set r (.map es')) g=lenOf S g:=λg=>by
  by_cases e:g=r
  .subst e;simp[lenOf,Df,s]
  .simp[lenOf,t g e]
 have F:∀g,C0 (S.set r (.map es')) g=C0 S g:=λg=>by
  by_cases e:g=r
  .subst e;simp[C0,Df,s]
  .simp[C0,t g e]
 have em:∀g,Bb (S.set r (.map es')) g=Bb S g:=λg=>by
  by_cases e:g=r
  .subst e;simp[Bb,Df,s]
  .simp only[Bb,t g e]
 have L:BL G S w G (S.set r (.map es')) w:=
  ⟨λ_ h=>h,λ_ _=>rfl,by simp,λg _ Q T=>⟨Q,by rw[<-el];exact T,br _,λ_=>⟨rfl,rfl,rfl,.inl (F g)⟩⟩,λg _ U=>⟨by rw[<-em];exact U,rfl⟩⟩
 have own:∀g x,(S.set r (.map es'))[g]?=some x->∃A,S[g]?=some A/\BQ G g A=BQ G g x:=λg x B=>by
  by_cases e:g=r
  .subst e;rw[Df]at B;cases B;exact⟨_,s,rfl⟩
  .rw[t g e]at B;exact⟨x,B,rfl⟩
 have j:∀k,Fy G (S.set r (.map es')) k->Fy G S k:=by
  rintro k ⟨g,x,h1,H,W⟩;obtain⟨A,u,C⟩:=own g x h1;exact⟨g,A,u,by rw[C];exact H,W⟩
 refine⟨G,⟨st.size,st.tm.later L,⟨R.GQ.later L,λg x E=>?_,λr1 r2 X Y h1 H o1 Z he=>?_,λk m=>R.nI k (j k m),R.JY,λk m=>R.HL k (j k m)⟩⟩,⟨br _,λ_ h=>h,λ_ _ _=>rfl,λk m=>.inl (j k m),λk m=>.inl m,rfl,rfl⟩,L.late hb⟩
 .by_cases e:g=r
  .subst e;rw[Df]at E;cases E;have J:=R.DG g _ s;simp[OK]at J⊢;obtain⟨z,q,u,C,g3,g4⟩:=J;refine⟨z,q,u,by omega,by omega,λi hi=>?_⟩;obtain⟨e,f1,f2,f3,f4⟩:=g4 i (by omega);obtain⟨q1,q2⟩:=M i (by omega) hi;exact⟨e,f1,by rw[q1];exact f2,(PC R q2 f3).later L,f4⟩
  .rw[t g e]at E;exact(R.DG g x E).later L (λ_=>rfl) rfl rfl rfl
 .obtain⟨y1,u,p1⟩:=own r1 X h1;obtain⟨y2,C,p2⟩:=own r2 Y H;exact R.inj r1 r2 y1 y2 u C (by rw[p1];exact o1) (by rw[p2];exact Z) he
theorem AJ.XP:∀(l:List (Nat×List D)) {S:Sg},(l.map (·.1)).Nodup->(∀p∈l,∃j sz,S[p.1]?=some (.row j sz (p.2.map .d)))->∃S',AJ P n b tm S tm S'/\S'.length=S.length/\(∀p∈l,S'[p.1]?=some (.BY p.2))/\∀i,i∉l.map (·.1)->S'[i]?=S[i]?
 |[],S,_,_=>⟨S,am,rfl,by simp,λ_ _=>rfl⟩
 |p::l,S,k,h=>by
  rw[eP,NE]at k;obtain⟨j,sz,h0⟩:=h p (by simp);have m:∀i,i≠p.1->(S.set p.1 (.BY p.2))[i]?=S[i]?:=λi hi=>nt (le hi);obtain⟨S',t,u,w,s⟩:=AJ.XP l (S:=S.set p.1 (.BY p.2)) k.2 (λq g=>by
   obtain⟨j,sz,z⟩:=h q (by simp[g]);exact⟨j,sz,by rw[m q.1 (λe=>k.1 (e▸eo.2 ⟨q,g,rfl⟩))];exact z⟩)
  refine⟨S',(c9 p.1 h0 (by simp)).trans t,by simpa using u,λq g=>?_,λi hi=>?_⟩
  .rcases fi.1 g with rfl|g
   .rw[s _ k.1];simp[AZ h0]
   .exact w q g
  .simp only[eP,fi,q7]at hi;rw[s i hi.2,m i hi.1]
end
section
variable {P:Program} {n b:Nat} {o:Oper} {tm tm':Tm} {S S0 S0' S':Sg} {v:V} {ops:Array Oper} {K:Tm->Sg->Prop}
open Classical in
theorem BP.frame{f:FuncId}{args:List V}{RR:V->Sg->Prop}(h:BP P f args S0 RR)(ρ:Nat->Nat)(F:Sg->Sg)(M0:Q0 ρ S S0 S0 (F S0))(hM:∀v S0',RR v S0'->Q0 ρ S S0 S0' (F S0')/\S0.length<=S0'.length)(hb:∀x∈args,AP S0.length x=true):
  BP P f (args.map (Bc ρ)) S (λv' S'=>∃v S0',RR v S0'/\v'=Bc (EF ρ S0.length S.length) v/\S'=F S0'):=by
 refine⟨h.1,λG w cargs R vr vl=>?_⟩;let G0:Gh:={I:=G.I,B3:=λi=>G.B3 (ρ i),cap:=λi=>G.cap (ρ i),BB:=λi=>G.BB (ρ i)};have t:∀i,i<S0.length->lenOf S (ρ i)=lenOf S0 i/\C0 S (ρ i)=C0 S0 i/\Bb S (ρ i)=Bb S0 i:=λi hi=>by
  obtain⟨o,h1,q⟩:=M0.Hy i hi;exact HJ ρ o h1 q
 have E:Xy ρ G0 S0 G S:=⟨λ_=>UV,λi hi=>by obtain⟨o,_,q⟩:=M0.Hy i hi;exact AZ q,λi hi=>(t i hi).1,λi hi=>(t i hi).2.1,λi hi=>(t i hi).2.2,λ_ _=>rfl,λ_ _=>rfl,λ_ _=>rfl⟩;have J:∀k,Fy G0 S0 k->Fy G S k:=by
  rintro k ⟨i,o,h1,q,X⟩;have hi:=AZ h1;obtain⟨o',z,N⟩:=M0.Hy i hi;rw[h1]at z;cases z;exact⟨ρ i,_,N,by rw[Cl (ρ:=ρ) (G0:=G0) (G:=G) (i:=i) (j:=ρ i) o rfl];exact q,X⟩
 have R0:Rel P G0 S0 w:=by
  refine⟨R.GQ,λi o ho=>?_,λi j x y Y hy ox oy he=>?_,λk A=>R.nI k (J k A),R.JY,λk A=>R.HL k (J k A)⟩
  .have hi:=AZ ho;obtain⟨o',z,N⟩:=M0.Hy i hi;rw[ho]at z;cases z;exact(R.DG _ _ N).Lh E hi (M0.below i o ho)
  .obtain⟨x',z,N⟩:=M0.Hy i (AZ Y);obtain⟨y',g3,g4⟩:=M0.Hy j (AZ hy);rw[Y]at z;cases z;rw[hy]at g3;cases g3;exact M0.inj i j (AZ Y) (AZ hy) (R.inj (ρ i) (ρ j) _ _ N g4 (by rw[Cl (ρ:=ρ) (G0:=G0) (G:=G) (i:=i) (j:=ρ i) x rfl];exact ox) (by rw[Cl (ρ:=ρ) (G0:=G0) (G:=G) (i:=j) (j:=ρ j) y rfl];exact oy) he)
 refine(h.2 G0 w cargs R0 (by simpa using vr) (λi hi vo=>(vl i (by simpa using hi) vo).Lh E (by simp) (hb _ (b9 hi)))).mono ?_;rintro e w' ⟨cv,s,v,S0',hRR,he,wG,R0',T0,L0⟩;obtain⟨M,hle⟩:=hM _ _ hRR;generalize hS':F S0'=S' at M;let g:=EF ρ S0.length S.length;have Z:∀i,i<S0.length->g i=ρ i:=λi hi=>by simp[g,EF,hi]
 have U:∀i,S0.length<=i->g i=S.length+(i - S0.length):=λi hi=>by simp[g,EF,Nat.not_lt.2 hi]
 have hinj:∀i j,i<S0'.length->j<S0'.length->g i=g j->i=j:=λi j hi hj hij=>by
  by_cases a1:i<S0.length<;>by_cases a2:j<S0.length
  .rw[Z i a1,Z j a2]at hij;exact M.inj i j a1 a2 hij
  .rw[Z i a1,U j (by omega)]at hij;have:=E.lt i a1;omega
  .rw[U i (by omega),Z j a2]at hij;have:=E.lt j a2;omega
  .rw[U i (by omega),U j (by omega)]at hij;omega
 let back (r:Nat):Option Nat:=if h:∃i,i<S0'.length/\g i=r then some h.choose else none;have zz:∀i,i<S0'.length->back (g i)=some i:=λi hi=>by
  have u:∃j,j<S0'.length/\g j=g i:=⟨i,hi,rfl⟩;have:=u.choose_spec;simp[back,u,x0];rw[hinj _ _ this.1 hi this.2]
 have hnone:∀r,(∀i,i<S0'.length->g i≠r)->back r=none:=λr hr=>by
  have:¬∃i,i<S0'.length/\g i=r:=λ⟨i,h1,q⟩=>hr i h1 q;simp[back,this,dif_neg,not_false_eq_true]
 let Q:Gh:={I:=s.I,B3:=λr=>match back r with|some i=>s.B3 i|none=>G.B3 r,cap:=λr=>match back r with|some i=>s.cap i|none=>G.cap r,BB:=λr=>match back r with|some i=>s.BB i|none=>G.BB r};have gB:∀i,i<S0'.length->Q.B3 (g i)=s.B3 i/\Q.cap (g i)=s.cap i/\Q.BB (g i)=s.BB i:=λi hi=>by simp[Q,zz i hi]
 have gN:∀r,(∀i,i<S0'.length->g i≠r)->Q.B3 r=G.B3 r/\Q.cap r=G.cap r/\Q.BB r=G.BB r:=λr hr=>by simp[Q,hnone r hr]
 have get':∀i,i<S0'.length->∃o,S0'[i]?=some o/\S'[g i]?=some (DK g o):=λi hi=>⟨S0'[i],ci hi,M.new i _ (ci hi)⟩;have m:∀i,i<S0'.length->lenOf S' (g i)=lenOf S0' i/\C0 S' (g i)=C0 S0' i/\Bb S' (g i)=Bb S0' i:=λi hi=>by
  obtain⟨o,h1,q⟩:=get' i hi;exact HJ g o h1 q
 have E':Xy g s S0' Q S':=⟨λ_=>UV,λi hi=>by obtain⟨o,_,q⟩:=get' i hi;exact AZ q,λi hi=>(m i hi).1,λi hi=>(m i hi).2.1,λi hi=>(m i hi).2.2,λi hi=>(gB i hi).1.symm,λi hi=>(gB i hi).2.1.symm,λi hi=>(gB i hi).2.2.symm⟩;have C:∀r x,S'[r]?=some x->(∃i,∃_:i<S0'.length,g i=r/\∃o,S0'[i]?=some o/\x=DK g o)\/(r<S.length/\(∀i,i<S0'.length->g i≠r)/\S[r]?=some x):=λr x Y=>by
  by_cases u:∃i,i<S0'.length/\g i=r
  .obtain⟨i,hi,rfl⟩:=u;obtain⟨o,z,N⟩:=get' i hi;rw[N]at Y;cases Y;exact .inl ⟨i,hi,rfl,o,z,rfl⟩
  .have H:∀i,i<S0'.length->g i≠r:=λi hi e=>u ⟨i,hi,e⟩;have wi:r<S.length:=by
    have h1:=AZ Y;rw[M.len]at h1;rcases pu r S.length with q|q
    .exact q
    .exact absurd (U (S0.length+(r - S.length)) (by omega)) (by have:=H (S0.length+(r - S.length)) (by omega);intro e;apply this;rw[e];omega)
   exact .inr ⟨wi,H,by rw[<-M.rest r wi (λi hi e=>H i (by omega) (by rw[Z i hi];exact e))];exact Y⟩
 have ownC:∀k,Fy Q S' k->Fy s S0' k\/∃r x,(∀i,i<S0'.length->g i≠r)/\S[r]?=some x/\BQ G r x=true/\k=G.B3 r:=by
  rintro k ⟨r,x,h1,q,X⟩;rcases C r x h1 with⟨i,hi,rfl,o,z,rfl⟩|⟨wi,H,hS⟩
  .left;exact⟨i,o,z,by rw[Cl o (G0:=s) (i:=i) (gB i hi).2.2.symm]at q;exact q,by rw[X,(gB i hi).1]⟩
  .right;have hv:=gN r H;refine⟨r,x,H,hS,?_,by rw[X,hv.1]⟩;cases x<;>simp[BQ]at q⊢;rw[hv.2.2]at q;exact q
 have W:∀r x,(∀i,i<S0'.length->g i≠r)->S[r]?=some x->BQ G r x=true->¬Fy G0 S0 (G.B3 r):=by
  rintro r x H Y ho ⟨i,o,h1,q,X⟩;have hi:=AZ h1;obtain⟨o',z,N⟩:=M.Hy i hi;rw[h1]at z;cases z;have:=R.inj r (ρ i) _ _ Y N ho (by rw[Cl (ρ:=ρ) (G0:=G0) (G:=G) (i:=i) (j:=ρ i) o rfl];exact q) X;exact H i (by omega) (by rw[Z i hi];exact this.symm)
 have L:BL G S w Q S' w':=by
  refine⟨λk A=>L0.I k A,λk A=>L0.Dz k A,by rw[M.len];omega,λr hr n' wg=>?_,λr hr hm=>?_⟩
  .by_cases u:∃i,i<S0.length/\ρ i=r
   .obtain⟨i,hi,rfl⟩:=u;have vo:i<S0'.length:=by omega
    rw[<-Z i hi]at wg⊢;rw[(m i vo).1]at wg;obtain⟨n0,a1,a2,a3⟩:=L0.row i hi n' wg;refine⟨n0,by rw[Z i hi,(t i hi).1];exact a1,a2,λe=>?_⟩;obtain⟨b1,b2,b3,b4⟩:=a3 e;obtain⟨c1,c2,c3⟩:=gB i vo;rw[c1,c2,c3,(m i vo).2.1,Z i hi,(t i hi).2.1];exact⟨b1,b2,b3,b4⟩
   .have H:∀i,i<S0'.length->g i≠r:=λi hi e=>by
     by_cases a:i<S0.length
     .exact u ⟨i,a,by rw[<-Z i a];exact e⟩
     .rw[U i (by omega)]at e;omega
    have v8:=M.rest r hr λi hi e=>u ⟨i,hi,e⟩;obtain⟨c1,c2,c3⟩:=gN r H;refine⟨n',by simpa only[lenOf,v8]using wg,br _,λ_=>⟨c1,c2,c3,.inl (by simp[C0,v8])⟩⟩
  .by_cases u:∃i,i<S0.length/\ρ i=r
   .obtain⟨i,hi,rfl⟩:=u;have vo:i<S0'.length:=by omega
    rw[<-Z i hi]at hm⊢;rw[(m i vo).2.2]at hm;obtain⟨a1,a2⟩:=L0.map i hi hm;exact⟨by rw[Z i hi,(t i hi).2.2];exact a1,by rw[(gB i vo).1,a2,Z i hi]⟩
   .have H:∀i,i<S0'.length->g i≠r:=λi hi e=>by
     by_cases a:i<S0.length
     .exact u ⟨i,a,by rw[<-Z i a];exact e⟩
     .rw[U i (by omega)]at e;omega
    have v8:=M.rest r hr λi hi e=>u ⟨i,hi,e⟩;exact⟨by simpa only[Bb,v8]using hm,(gN r H).1⟩
 have T:Tr G S w Q S' w':=by
  refine⟨T0.size,λk A=>T0.I k A,λk A hn=>T0.Dz k A λho=>hn (J k ho),λk A=>?_,λk A=>?_,T0.os,T0.out⟩
  .rcases ownC k A with h1|⟨r,x,_,q,X,h4⟩
   .exact(T0.own k h1).imp (J k) id
   .exact .inl ⟨r,x,q,X,h4⟩
  .rcases T0.im k A with h1|h1|h1
   .exact .inl h1
   .exact .inr (.inl (J k h1))
   .exact .inr (.inr h1)
 refine⟨cv,Q,_,S',⟨v,S0',hRR,rfl,hS'.symm⟩,he,wG.jm E',⟨R.GQ.later L,λr x Y=>?_,λr1 r2 x1 x2 h1 q o1 o2 B=>?_,λk A=>?_,λk A=>R0'.JY k A,λk A=>?_⟩,T,L⟩
 .rcases C r x Y with⟨i,hi,rfl,o,z,rfl⟩|⟨wi,H,hS⟩
  .exact(R0'.DG i o z).jm E' hi
  .obtain⟨c1,c2,c3⟩:=gN r H;exact(R.DG r x hS).later L (λhw=>T0.Dz _ (R.HL _ ⟨r,x,hS,hw,rfl⟩) (W r x H hS hw)) c1 c2 c3
 .have side:∀r x,S'[r]?=some x->BQ Q r x=true->(∃i,∃_:i<S0'.length,g i=r/\∃o,S0'[i]?=some o/\BQ s i o=true/\Q.B3 r=s.B3 i)\/((∀i,i<S0'.length->g i≠r)/\S[r]?=some x/\BQ G r x=true/\Q.B3 r=G.B3 r):=λr x Y ho=>by
   rcases C r x Y with⟨i,hi,rfl,o,z,rfl⟩|⟨wi,H,hS⟩
   .exact .inl ⟨i,hi,rfl,o,z,by rw[Cl o (G0:=s) (i:=i) (gB i hi).2.2.symm]at ho;exact ho,(gB i hi).1⟩
   .have hv:=gN r H;refine .inr ⟨H,hS,?_,hv.1⟩;cases x<;>simp[BQ]at ho⊢;rw[hv.2.2]at ho;exact ho
  have clash:∀i o r x,S0'[i]?=some o->BQ s i o=true->(∀i,i<S0'.length->g i≠r)->S[r]?=some x->BQ G r x=true->s.B3 i≠G.B3 r:=λi o r x z N g3 g4 g5 B=>by
   rcases T0.own _ ⟨i,o,z,N,rfl⟩with h|h
   .exact W r x g3 g4 g5 (by rw[<-B];exact h)
   .have:=R.HL _ ⟨r,x,g4,g5,rfl⟩;omega
  rcases side r1 x1 h1 o1 with⟨i,hi,rfl,o,z,N,g3⟩|⟨z,N,g3,g4⟩
  .rcases side r2 x2 q o2 with⟨j,hj,rfl,o',k1,k2,k3⟩|⟨k1,k2,k3,k4⟩
   .rw[g3,k3]at B;rw[R0'.inj i j o o' z k1 N k2 B]
   .rw[g3,k4]at B;exact absurd B (clash i o r2 x2 z N k1 k2 k3)
  .rcases side r2 x2 q o2 with⟨j,hj,rfl,o',k1,k2,k3⟩|⟨k1,k2,k3,k4⟩
   .rw[g4,k3]at B;exact absurd B.symm (clash j o' r1 x1 k1 k2 z N g3)
   .rw[g4,k4]at B;exact R.inj r1 r2 x1 x2 N k2 g3 k3 B
 .rcases ownC k A with h1|⟨r,x,h1,q,X,h4⟩
  .exact R0'.nI k h1
  .intro hI;rcases T0.im k hI with a|a|a
   .exact R.nI k ⟨r,x,q,X,h4⟩ a
   .exact W r x h1 q X (by rw[<-h4];exact a)
   .have:=R.HL k ⟨r,x,q,X,h4⟩;omega
 .rcases ownC k A with h1|⟨r,x,h1,q,X,h4⟩
  .exact R0'.HL k h1
  .have:=R.HL k ⟨r,x,q,X,h4⟩;have:=T0.size;omega
theorem BP.Eb{f:FuncId}{args:List V}{u:V->Sg->Prop}(h:BP P f args S0 u)(g:List Nat)(E:Eg S S0 g)(m:∀v S0',u v S0'->g.length<=S0'.length)(hb:args.all (AP g.length)=true):
  BP P f (args.map (Bc (nameOf g))) S (λF S'=>∃v S0',u v S0'/\F=Bc (EF (nameOf g) g.length S.length) v/\S'=C8 S S0' g):=by
 obtain⟨A,B,G⟩:=E;have k:g.length=S0.length:=by have:=i6 List.length B;simpa using this
 have Df:∀i (h:i<g.length) (Q:i<S0.length),S[g[i]]?=some (DK (nameOf g) S0[i]):=λi h1 H=>by
  have:=i6 (·[i]?) B;simpa[h1,H]using this
 have hn:∀i (h:i<g.length),nameOf g i=g[i]:=λi h=>by simp[nameOf,List.getD,h]
 have C:∀r∈g,r<S.length:=λr q=>by
  obtain⟨i,hi,rfl⟩:=jp.1 q;exact AZ (Df i hi (by omega))
 have M:∀S0':Sg,g.length<=S0'.length->Q0 (nameOf g) S S0 S0' (C8 S S0' g):=λS0' m=>by
  refine⟨λi j hi hj e=>?_,λi hi=>⟨S0[i],ci hi,?_⟩,λi o s=>?_,λi o s=>?_,λr q J=>?_,?_⟩
  .rw[hn i (by omega),hn j (by omega)]at e;exact IQ A (by omega) (by omega) e
  .rw[hn i (by omega)];exact Df i (by omega) hi
  .rw[<-k];exact cl.1 G o (lw s)
  .rw[<-k];have hi:=AZ s;have w:S0'[i]=o:=by rw[ci hi]at s;simpa using s
   unfold C8;by_cases t:i<g.length
   .have z:EF (nameOf g) g.length S.length i=g[i]:=by simp[EF,t]
    rw[z,ej (by rw[CR];exact C _ (b9 t))];rw[M7 S g _ i t (by simp;omega) A C];simp[w]
   .have z:EF (nameOf g) g.length S.length i=S.length+(i - g.length):=by simp[EF,t]
    rw[z,ls (by rw[CR];omega),CR];have:S.length+(i - g.length) - S.length=i - g.length:=by omega
    rw[this];simp only[xi,acC];have:g.length+(i - g.length)=i:=by omega
    rw[this,s];rfl
  .unfold C8;rw[ej (by rw[CR];exact q)];refine I6 S g _ λL=>?_;obtain⟨i,hi,rfl⟩:=jp.1 L;exact J i (by omega) (hn i hi)
  .unfold C8;rw[eN,CR,li,acy,k]
 have:=h.frame (nameOf g) (λT=>C8 S T g) (M S0 (by omega)) (λv S0' q=>⟨M S0' (m v S0' q),by rw[<-k];exact m v S0' q⟩) (λx N=>by rw[<-k];exact cl.1 hb x N);rwa [<-k]at this
theorem AV.LO{rest:List Oper}{c:Call}{f:FuncId}{g:List V}{k:V->Sg->Prop}(h:BP P f g S0 k)(i:List Nat)(q:o.op=.call c)
  (s:o.guard=none/\BA n o.dst/\BE tm c/\Ch tm c f g i/\Eg S S0 i/\g.all (AP i.length)=true) (m:∀v S0',k v S0'->i.length<=S0'.length)
  (t:∀v S0',k v S0'->AV P n b ops rest (put tm o.dst (Bc (EF (nameOf i) i.length S.length) v)) (C8 S S0' i) K):AV P n b ops (o::rest) tm S K:=by
 obtain⟨u,w,z,j,A,B⟩:=s;unfold Ch at j;split at j
 .rename_i J args C;obtain⟨rfl,rfl⟩:=j;exact AV.O7 q u w C z (h.Eb i A m B) λv S' ⟨E,S0',F,G,H⟩=>by subst G;subst H;exact t E S0' F
 .exact j.elim
end
section
variable {P:Program} {n b:Nat} {o:Oper} {tm tm':Tm} {S S0 S0' S':Sg} {v:V} {ops:Array Oper} {Q:Exit->Tm->Sg->Prop}
def Gt(P:Program)(n b:Nat)(ops:Array Oper)(l:List Oper)(tm:Tm)(S:Sg)(r _:Nat)(K:Nat->Nat->Tm->Sg->Prop):Prop:=
 ∀i,(∀j,l[j]?=ops[i+j]?)->∀G w a Q,St P n G S w a tm->b<=S.length->(∀m g q S' tm' k h,Gu P n b G S w a.defers m g q S' tm'->cm q S' g r k h #[]->w.heap.size<=h->K k h tm' S'->Q .normal m g)->wpOps P ops Q (List.range' i l.length) a w
theorem Gt.step{rest:List Oper}{r t:Nat}{K:Nat->Nat->Tm->Sg->Prop}(hs:∀i,ops[i]?=some o->Step P n b ops i tm S tm' S')(h:Gt P n b ops rest tm' S' r t K):Gt P n b ops (o::rest) tm S r t K:=λq z G w a Q st hb A=>by
 have h0:ops[q]?=some o:=by simpa using(z 0).symm
 simp[xj];rw[vj];refine hs q h0 G w a _ Q st hb λB C E g=>?_;refine h (q+1) (λj=>by have:=z (j+1);simp at this;rw[this];congr 1;omega) E C B Q g.st g.late.len λF H J L s k M m N u R=>?_;exact A F H J L s k M ⟨m.st,m.ds.trans g.ds,g.tr.trans m.tr,g.late.trans m.late⟩ N (ke g.tr.size u) R
theorem Gt.op{rest:List Oper}{r t:Nat}{K:Nat->Nat->Tm->Sg->Prop}(h1:EE P n ops o tm S)(g:Gt P n b ops rest (put tm o.dst (Dc P ops o tm S)) (oS P o tm S) r t K):Gt P n b ops (o::rest) tm S r t K:=
 Gt.step (λ_ hi=>Step.D7 hi h1) g
theorem Gt.El{rest:List Oper}{r t:Nat}{K:Nat->Nat->Tm->Sg->Prop}{c:Call}{f:FuncId}{g:List V}(h:AG P f g S0 v S0')(i:List Nat)(k:o.op=.call c)
  (m:o.guard=none/\BA n o.dst/\BE tm c/\Ch tm c f g i/\Eg S S0 i/\i.length<=S0'.length/\g.all (AP i.length)=true)
  (q:Gt P n b ops rest (put tm o.dst (Bc (EF (nameOf i) i.length S.length) v)) (C8 S S0' i) r t K):Gt P n b ops (o::rest) tm S r t K:=by
 obtain⟨s,u,w,j,z,A,B⟩:=m;unfold Ch at j;split at j
 .rename_i E args C;obtain⟨rfl,rfl⟩:=j;exact Gt.step (λ_ hi=>AC hi u s (HH k C w (h.Eb i z A B))) q
 .exact j.elim
theorem Gt.range{r t:Nat}{es:List (D×V)}{K:Nat->Nat->Tm->Sg->Prop}{T:TypeId}{x:Operand}(i:o.op=.range T x)
  (j:o.guard=none/\o.dst=some t/\t<n/\need (ev tm x)/\strip (ev tm x)=.map r/\S[r]?=some (.map es)/\(Jj P T).isSome=true)
  (h:∀B,K es.length B (FP tm t (.d (.raw (.pointer (some ⟨B,0,none⟩))))) S):Gt P n b ops [o] tm S r t K:=λL M G w a Q st hb N=>by
 obtain⟨R,C,k,U,W,E,X⟩:=j;have h0:ops[L]?=some o:=by simpa using(M 0).symm
 simp only[ea,j0,xj,List.range'_zero];rw[vj];unfold wpOp;simp only[h0,Region.wanted,R,er];left;have h1:=(BV st x).strip U;rw[W]at h1;have m:a.eval x=.map (some (G.B3 r)):=by cases h1 with|map _ _ _ _ h=>exact h (by simp[Bb,E])
 have F:=st.rel.DG r _ E;simp only[OK]at F;obtain⟨H,g,Y,q2,Z,q3⟩:=F;obtain⟨p,j⟩:=jw.1 X;obtain⟨ti,e1,e2⟩:=IV j;obtain⟨d,q,s⟩:=An e1 w;have u:d=.map p.1 p.2:=by rw[e2]at s;cases d<;>simp[tk]at s⊢;exact s
 subst u;have z:=acW (P:=P) Y;have vm:(execOp a.eval o).run P w=.ok (.value (.pointer (some ⟨w.heap.size,0,none⟩))) (Bn w (.mapIter (some (G.B3 r)) g #[] g)):=by
  simp[execOp,i,Instr.range,q,m,z];rfl
 unfold Oper.wp;rw[vm];simp only[Oper.upon];obtain⟨r1,r2,J⟩:=st.rel.cE (.mapIter (some (G.B3 r)) g #[] g);have A:St P n G S (Bn w (.mapIter (some (G.B3 r)) g #[] g)) (a.put o.dst (.pointer (some ⟨w.heap.size,0,none⟩))) (put tm o.dst (.d (.raw (.pointer (some ⟨w.heap.size,0,none⟩))))):=
  st.put (by rw[C];exact k) (.d _ _ (.raw _)) r1 J
 simp only[wpOps];refine N _ _ G S _ es.length w.heap.size ⟨A,B8,r2,J.late hb⟩ ⟨?_,λi=>?_,λhi=>?_⟩ (br _) (by rw[C];exact h _)
 .rw[D2,Z]
 .exact QQ _ (st.rel.HL _ i)
 .exact QQ _ (st.rel.JY _ hi)
theorem Gt.O7{r t:Nat}{K:Nat->Nat->Tm->Sg->Prop}{rest:List Oper}{c:Call}{f:FuncId}{args:List V}{R:V->Sg->Prop}(ho:o.op=.call c)(hg:o.guard=none)(hd:BA n o.dst)(m:callee tm c=some (f,args))(hn:BE tm c)
  (h:BP P f args S R) (H:∀v S',R v S'->Gt P n b ops rest (put tm o.dst v) S' r t K):Gt P n b ops (o::rest) tm S r t K:=λk Y G w a Q st hb hq=>by
 have h0:ops[k]?=some o:=by simpa using(Y 0).symm
 simp only[ea,xj];rw[vj];unfold wpOp;simp only[h0,Region.wanted,hg,er];left;have key:∀(next:Act->World->Prop),(∀cv g q v S',R v S'->CV q S' g v cv->Rel P q S' g->Tr G S w q S' g->BL G S w q S' g->next (a.put o.dst cv) g)->o.wp P a w next Q:=λnext u=>by
  obtain⟨s,h⟩:=h;unfold callee at m;obtain⟨Z,yj⟩:=hn;cases B:c.callee with
  |value x=>
   simp only[B]at m Z;have J:=(BV st x).strip Z;split at m
   .rename_i k' first caps L
    simp only[fd,GE]at m;obtain⟨C,e2⟩:=m;subst C;subst e2;rw[L]at J;generalize hX:a.eval x=X at J;cases J with
    |fn _ _ _ xs ys h1 H h3 h4=>
     unfold OO at s;have vl:=h G w (xs++c.args.map a.eval++ys) st.rel (by simp[h1,H]) (λi hi vo=>by
      by_cases C:i<first.length
      .rw[lg (by simp;omega),lg C];rw[ww (by simp;omega),ww (by omega)];exact h3 i C
      .by_cases e2:i<first.length+c.args.size
       .rw[lg (by simp;omega),rg (by omega)];rw[ww (by simp;omega),Hh (by omega)];simp only[kt,adn,tg,h1];exact(BV st _).strip (IP yj _ (by simp))
       .simp only[eN,li,x3]at hi;rw[rg (by simp;omega)];rw[Hh (by simp;omega)];simp only[eN,li,x3,X7,adV,h1];exact h4 _ (by omega))
     unfold Oper.wp;have vm:(execOp a.eval o).run P w=.ok (.enter k' (xs++c.args.map a.eval++ys)) w:=by
      split at s
      .rename_i fn z;simp only[bi,mp,acO,ne_eq]at s;obtain⟨b,hb⟩:=jw.1 s.2;simp[execOp,ho,resolve,B,hX,Deferred.ofValue,invoke,callFunc,z,s.1,hb]
      .cases s
     rw[vm];simp only[Oper.upon];exact vl.mono λe g ⟨cv,q,v,S',M,he,N,T,E,A⟩=>by subst he;exact u cv g q v S' M N T E A
   .cases m
  |invoke=>simp[B]at m
  |builtin=>simp[B]at m
 refine key _ λcv g q v S' M N T E A=>?_;refine H v S' M (k+1) (λj=>by have:=Y (j+1);simp only[of]at this;rw[this];congr 1;omega) q g _ Q (st.put hd N T A) (A.late hb).len λa2 w2 G2 S2 U k2 it F yr W hK=>hq a2 w2 G2 S2 U k2 it ⟨F.st,F.ds.trans B8,E.trans F.tr,(A.late hb).trans F.late⟩ yr (ke E.size W) hK
theorem Gt.LO{rest:List Oper}{r t:Nat}{K:Nat->Nat->Tm->Sg->Prop}{c:Call}{f:FuncId}{g:List V}{k:V->Sg->Prop}(h:BP P f g S0 k)(i:List Nat)(q:o.op=.call c)
  (s:o.guard=none/\BA n o.dst/\BE tm c/\Ch tm c f g i/\Eg S S0 i/\g.all (AP i.length)=true) (m:∀v S0',k v S0'->i.length<=S0'.length)
  (u:∀v S0',k v S0'->Gt P n b ops rest (put tm o.dst (Bc (EF (nameOf i) i.length S.length) v)) (C8 S S0' i) r t K):Gt P n b ops (o::rest) tm S r t K:=by
 obtain⟨w,z,A,j,B,C⟩:=s;unfold Ch at j;split at j
 .rename_i L args E;obtain⟨rfl,rfl⟩:=j;exact Gt.O7 q w z E A (h.Eb i B m C) λv S' ⟨F,S0',G,H,J⟩=>by subst H;subst J;exact u F S0' G
 .exact j.elim
theorem AW.Yk{i0 R id1 i1 i2 tk:Nat}{K T:Array Oper}{body:Code}(r t:Nat){m z:Oper}(wH:b<=r+1)
  (hnx:K.toList.head? =some m/\m.op=.next (.tmp t) false/\m.guard=none/\BA n m.dst) (wB:T.toList.head? =some z/\z.op=.entry (.tmp t)/\z.guard=none/\BA n z.dst)
  (hreg:Gt P n b ops ops.toList tm S r t λk u B S1=>∃(q:List (D×V)) (Inv:Nat->List Nat->Tm->Sg->Prop),q.length=k/\Inv u [] B S1/\(∀u g tm S,Inv u g tm S->S[r]?=some (.map q)/\tm t=.d (.raw (.pointer (some ⟨u,0,none⟩))))/\(∀u g tm S i (hi:i<q.length),Inv u g tm S->i∉g->AV P n (r+1) K (K.toList.drop 1) (put tm m.dst (.Cb [.d (.bool true),.d q[i].1,q[i].2])) S λB S1=>S1=S/\B tk=.d (.bool true)/\B t=.d (.raw (.pointer (some ⟨u,0,none⟩)))/\AV P n (r+1) T (T.toList.drop 1) (put B z.dst (.Cb [.d q[i].1,q[i].2])) S λtm2 S2=>
     AW P n (r+1) body (BW id1 (C4 (λtm3 S3=>∃L S4,AJ P n (r+1) tm3 S3 L S4/\Inv u (g++[i]) L S4) (BW R Q))) tm2 S2)/\(∀u g tm S,Inv u g tm S->(∀i,i<q.length->i∈g)->AV P n (r+1) K (K.toList.drop 1) (put tm m.dst (.Cb [.d (.bool false)])) S λB S1=>B tk=.d (.bool false)/\Q .normal B S1)):
  AW P n b (.seq (.region i0 ops false) (.block R (.loop (.seq (.region i1 K false) (.seq (.cond (.tmp tk) .skip (.exit R)) (.block id1 (.seq (.region i2 T false) body))))))) Q tm S:=by
 intro G w a st hb;obtain⟨yC,hnx2,hnx3,hnx4⟩:=hnx;obtain⟨yF,hen2,hen3,hen4⟩:=wB;have hnl:K.toList=m::K.toList.drop 1:=by
  cases h:K.toList with
  |nil=>rw[h]at yC;simp at yC
  |cons x xs=>rw[h]at yC;simp only[adN,fd]at yC;subst yC;rfl
 have hel:T.toList=z::T.toList.drop 1:=by
  cases h:T.toList with
  |nil=>rw[h]at yF;simp at yF
  |cons x xs=>rw[h]at yF;simp only[adN,fd]at yF;subst yF;rfl
 have yG:∀j,(m::K.toList.drop 1)[j]?=K[j]?:=λj=>by rw[<-hnl,H1]
 have zB:∀j,(z::T.toList.drop 1)[j]?=T[j]?:=λj=>by rw[<-hel,H1]
 refine vw (R3 ?_);have zA:=hreg 0 (λj=>by simp) G w a (Exit.then ((Code.block R (.loop (.seq (.region i1 K false) (.seq (.cond (.tmp tk) .skip (.exit R)) (.block id1 (.seq (.region i2 T false) body)))))).wp P (Qa P n b Q G S w a.defers)) (Qa P n b Q G S w a.defers)) st hb ?_
 .rw[In];simpa using zA
 intro a1 w1 G1 S1 B k u wD hit1 hfresh ⟨q,Inv,hek,hI1,hInv,hround,hend⟩;subst hek;refine wp_block ?_;refine wp_loop (I:=λa' F=>∃H S' tm' g,Gu P n b G S w a.defers a' F H S' tm'/\cm H S' F r q.length u g.toArray/\Inv u g tm' S'/\g.Nodup/\∀i∈g,i<q.length)
  (μ:=λ_ F=>match F.heap[u]? with|some (.mapIter _ _ seen _)=>q.length - seen.size|_=>0) ⟨G1,S1,B,[],wD,hit1,hI1,acU,λi h=>by simp at h⟩ ?_
 rintro a' F ⟨H,S',tm',g,C,yr,hI,vW,vc⟩;obtain⟨hS,ht⟩:=hInv u g tm' S' hI;have hitl:=FG yr.heap;have wi:=AZ hS;have vp:=C.st.rel.DG r _ hS;simp only[OK]at vp;obtain⟨s,M,q1,q2,qk,q3⟩:=vp;have zE:∀i (h:i<s.size),s[i].born=i:=λi h=>by
  obtain⟨e,e1,_,_,e4,_⟩:=q3 i (by omega);rw[i9 h]at e1;cases e1;exact e4
 have vk:∀x∈s.toList,∃i,i<q.length/\x.born=i/\s[i]?=some x:=λx E=>by
  obtain⟨i,hi,rfl⟩:=jp.1 E;have vo:i<s.size:=by simpa using hi
  exact⟨i,by omega,by simpa using zE i vo,by rw[i9 vo];simp⟩
 have hev:a'.eval (.tmp t)=.pointer (some ⟨u,0,none⟩):=by
  have:=C.st.tm t;rw[ht]at this;simp only[Act.eval];generalize a'.tmps.getD t undef=X at this;cases this with|d _ _ h=>cases h;rfl
 have wv:K[0]?=some m:=by have:=yG 0;simpa using this.symm
 have he0:T[0]?=some z:=by have:=zB 0;simpa using this.symm
 refine vw (R3 ?_);rw[In];have vr:K.size=(K.toList.drop 1).length+1:=by have:=i6 List.length hnl;simpa using this
 rw[vr,xj,vj];unfold wpOp;simp only[wv,Region.wanted,hnx3,er];left;unfold Oper.wp;rcases run_next_at (P:=P) F m.type u (H.B3 r) q.length q.length g.toArray s M yr.heap q1 (λx E=>by obtain⟨i,h1,h2,_⟩:=vk x E;omega) (br _)with⟨hz,vm⟩|⟨e,he,w2,wm,vm⟩
 .
  have wj:(execOp a'.eval m).run P F=.ok (.value (.tuple #[.bool false])) F:=by
   simp only[execOp,hnx2,hev,gI,vm,ge,l6]
  rw[wj];simp only[Oper.upon];have st2:St P n H S' F (a'.put m.dst (.tuple #[.bool false])) (put tm' m.dst (.Cb [.d (.bool false)])):=
   C.st.put hnx4 (.Cb _ _ rfl (λi h=>by
    have:i=0:=by simp at h;omega
    subst this;exact .d _ _ (.bool _))) C.st.rel (z0 _ _ _)
  have hdone:∀i,i<q.length->i∈g:=λi hi=>by
   by_cases hm:i∈g
   .exact hm
   .exfalso;have hie:i<s.size:=by omega
    have:s[i]∈(leftOf s g.toArray).toList:=by
     simp only[leftOf,acv,ms];refine⟨by simp,?_⟩;rw[zE i hie];simpa using hm
    have h0:(leftOf s g.toArray).toList=[]:=by
     apply acS;simpa using hz
    rw[h0]at this;simp at this
  refine hend u g tm' S' hI hdone 1 (λj=>by have:=yG (j+1);simp only[of]at this;rw[this];congr 1;omega) H F _ _ st2 (by omega) λa3 Z hh=>?_;obtain⟨G3,S3,tm3,zr,hk,hQ⟩:=hh;refine vw (wp_cond_false ?_ (wp_exit ?_))
  .have:=zr.st.tm tk;rw[hk]at this;simp only[Act.eval];generalize a3.tmps.getD tk undef=X at this;cases this with|d _ _ h=>cases h;rfl
  .simp only[Exit.then,Exit.inBlock,er];exact⟨G3,S3,tm3,⟨zr.st,(zr.ds.trans B8).trans C.ds,C.tr.trans zr.tr,C.late.trans (zr.late.NJ wH)⟩,hQ⟩
 .
  obtain⟨i,hi,hbi,hei⟩:=vk e (by simp only[leftOf,acv,ms]at he;exact he.1);have hiv:i∉g:=by
   simp only[leftOf,acv,ms]at he;have:=he.2;rw[hbi]at this;simpa using this
  have wj:(execOp a'.eval m).run P F=.ok (.value (.tuple #[.bool true,e.key,e.val])) (setBlock w2 u (.mapIter (some (H.B3 r)) q.length (g.toArray.push e.born) M)):=by
   simp only[execOp,hnx2,hev,gI,vm,ge,l6]
  rw[wj];simp only[Oper.upon];generalize zZ:setBlock w2 u (.mapIter (some (H.B3 r)) q.length (g.toArray.push e.born) M)=Z;have W:w2.heap=F.heap:=by rcases wm with rfl|rfl<;>rfl
  have hw3s:Z.heap.size=F.heap.size:=by rw[<-zZ];simp[setBlock,W]
  have hw3o:∀k,k≠u->Z.heap[k]?=F.heap[k]?:=λk hk=>by rw[<-zZ];simp only[setBlock,W];rw[abV (le hk)]
  have hw3i:Z.heap[u]?=some (.mapIter (some (H.B3 r)) q.length (g++[i]).toArray q.length):=by
   rw[<-zZ];simp[setBlock,W,hitl,hbi,qk]
  have zF:Z.os=F.os/\Z.output=F.output:=by rw[<-zZ];rcases wm with rfl|rfl<;>exact⟨rfl,rfl⟩
  obtain⟨r1,r3⟩:=C.st.rel.hidden yr.own yr.Y9 hw3s hw3o;obtain⟨e',f1,f2,f3,f4,f5⟩:=q3 i hi;rw[hei]at f1;cases f1;have zs:Gu P n b G S w a.defers a' Z H S' tm':=
   ⟨⟨C.st.size,C.st.tm.later r3,r1⟩,C.ds,⟨by rw[hw3s];exact C.tr.size,C.tr.I,λk hk vt=>by rw[hw3o k (by omega)];exact C.tr.Dz k hk vt,C.tr.own,C.tr.im,zF.1.trans C.tr.os,zF.2.trans C.tr.out⟩,C.late⟩
  have hit3:cm H S' Z r q.length u (g++[i]).toArray:=⟨hw3i,yr.own,yr.Y9⟩;have st2:St P n H S' Z (a'.put m.dst (.tuple #[.bool true,e.key,e.val])) (put tm' m.dst (.Cb [.d (.bool true),.d q[i].1,q[i].2])):=
   zs.st.put hnx4 (.Cb _ _ rfl (λj h=>by
    have h3:j<3:=by simpa using h
    match j,h3 with
    |0,_=>exact .d _ _ (.bool _)
    |1,_=>exact .jO (f2.mono r3.I r3.Dz)
    |2,_=>exact f3.later r3)) r1 (z0 _ _ _)
  refine hround u g tm' S' i hi hI hiv 1 (λj=>by have:=yG (j+1);simp only[of]at this;rw[this];congr 1;omega) H Z _ _ st2 (by omega) λa4 w4 hh=>?_;obtain⟨G4,S4,L,yb,hS4,hk4,ht4,hen'⟩:=hh;subst hS4;have hb4:G4.B3 r=H.B3 r:=(yb.late.map r (by omega) (by simp[Bb,hS])).2;have hit4:=hit3.later yb.tr hb4;refine vw (wp_cond_true ?_ (wp_skip ?_))
  .have:=yb.st.tm tk;rw[hk4]at this;simp only[Act.eval];generalize a4.tmps.getD tk undef=X at this;cases this with|d _ _ h=>cases h;rfl
  simp only[Exit.then];refine wp_block (vw (R3 ?_));rw[In];have hsz2:T.size=(T.toList.drop 1).length+1:=by have:=i6 List.length hel;simpa using this
  rw[hsz2,xj,vj];unfold wpOp;simp only[he0,Region.wanted,hen3,er];left;unfold Oper.wp;have hev4:a4.eval (.tmp t)=.pointer (some ⟨u,0,none⟩):=by
   have:=yb.st.tm t;rw[ht4]at this;simp only[Act.eval];generalize a4.tmps.getD t undef=X at this;cases this with|d _ _ h=>cases h;rfl
  have hob4:=yb.st.rel.DG r _ hS;simp only[OK]at hob4;obtain⟨A,clock4,p1,p2,pk,p3⟩:=hob4;obtain⟨e4,g1,g2,g3,g4,g5⟩:=p3 i hi;have hborn4:∀j (h:j<A.size),A[j].born=j:=λj h=>by
   obtain⟨x,x1,_,_,x4,_⟩:=p3 j (by omega);rw[i9 h]at x1;cases x1;exact x4
  have hmap4:A.toList.map (·.born)=List.range A.size:=by
   apply un
   .simp
   .intro j h1 h2;simp only[kt,tg,adR];exact hborn4 j (by simpa using h1)
  have hih:=hit4.heap;have hpush:(g++[i]).toArray=g.toArray.push e4.born:=by rw[g4];simp
  rw[hpush]at hih;have hrun4:=run_entry_at (P:=P) w4 u (G4.B3 r) q.length g.toArray A clock4 e4 (by rw[pk];exact hih) p1 (by have:=ac1 g1;simpa using this) (by rw[hmap4];exact List.nodup_range);have hexec4:(execOp a4.eval z).run P w4=.ok (.value (.tuple #[e4.key,e4.val])) w4:=by
   simp only[execOp,hen2,hev4,gI,hrun4,ge,l6]
  rw[hexec4];simp only[Oper.upon];have st5:St P n G4 S4 w4 (a4.put z.dst (.tuple #[e4.key,e4.val])) (put L z.dst (.Cb [.d q[i].1,q[i].2])):=
   yb.st.put hen4 (.Cb _ _ rfl (λj h=>by
    have h3:j<2:=by simpa using h
    match j,h3 with
    |0,_=>exact .jO g2
    |1,_=>exact g3)) yb.st.rel (z0 _ _ _)
  refine hen' 1 (λj=>by have:=zB (j+1);simp only[of]at this;rw[this];congr 1;omega) G4 w4 _ _ st5 (by omega) λa6 w6 hh=>?_;obtain⟨G6,S6,tm6,Y,hbody⟩:=hh;have hlen6:r+1<=S6.length:=Y.late.len;refine vX (hbody G6 w6 a6 Y.st hlen6) λex a7 w7 hl=>?_;obtain⟨G7,S7,J,U,N⟩:=hl;have d7:a7.defers=a.defers:=U.ds.trans (Y.ds.trans (B8.trans (yb.ds.trans (B8.trans C.ds))));have t7:Tr G4 S4 w4 G7 S7 w7:=Y.tr.trans U.tr;have l7:E7 (r+1) G4 S4 G7 S7:=Y.late.trans U.late;have full:Gu P n b G S w a.defers a7 w7 G7 S7 J:=⟨U.st,d7,(zs.tr.trans yb.tr).trans t7,(C.late.trans (yb.late.NJ wH)).trans (l7.NJ wH)⟩;have cont:(∃L S4,AJ P n (r+1) J S7 L S4/\Inv u (g++[i]) L S4)->(∃H S' tm' g,Gu P n b G S w a.defers a7 w7 H S' tm'/\cm H S' w7 r q.length u g.toArray/\Inv u g tm' S'/\g.Nodup/\∀i∈g,i<q.length)/\(match w7.heap[u]? with|some (.mapIter _ _ seen _)=>q.length - seen.size|_=>0)<(match F.heap[u]? with|some (.mapIter _ _ seen _)=>q.length - seen.size|_=>0):=by
   rintro⟨tm8,S8,g8,hI8⟩;obtain⟨G8,st8,t8,l8⟩:=g8 G7 w7 a7 U.st U.late.len;obtain⟨hS8,_⟩:=hInv _ _ _ _ hI8;have hb8:G8.B3 r=G4.B3 r:=((l7.trans l8).map r (by omega) (by simp[Bb,hS8])).2;have hit8:=hit4.later (t7.trans t8) hb8;refine⟨⟨G8,S8,tm8,g++[i],⟨st8,d7,full.tr.trans t8,full.late.trans (l8.NJ wH)⟩,hit8,hI8,?_,?_⟩,?_⟩
   .rw[rt];exact⟨vW,by simp,λx E y hy e=>by simp only[cR]at hy;subst e;subst hy;exact hiv E⟩
   .intro x E;rcases dl.1 E with E|E
    .exact vc x E
    .simp only[cR]at E;subst E;exact hi
   .rw[hit8.heap,yr.heap];have h1:g.length<q.length:=by
     have h2:=Hb id (l:=g++[i]) (n:=q.length) (by
      rw[rt];exact⟨vW,by simp,λx E y hy e=>by simp only[cR]at hy;subst e;subst hy;exact hiv E⟩) (λx E=>by
       rcases dl.1 E with E|E
       .exact vc x E
       .simp only[cR]at E;subst E;exact hi) (λx _ y _ e=>e)
     simp at h2;omega
    simp;omega
  cases ex with
  |normal=>
   simp only[BW,C4]at N;simp only[Exit.then,Exit.inBlock];exact cont N
  |exit id'=>
   simp only[BW]at N;simp only[Exit.then,Exit.inBlock];by_cases e1:id'=id1
   .simp only[e1,er,C4]at N⊢;exact cont N
   .simp only[e1,fc,C4,BW]at N⊢;by_cases e0:id'=R
    .simp only[e0,er]at N⊢;exact⟨G7,S7,J,full,N⟩
    .simp only[e0,fc]at N⊢;exact⟨G7,S7,J,full,N⟩
  |goto l=>exact⟨G7,S7,J,full,N⟩
  |ret=>exact⟨G7,S7,J,full,N⟩
  |panic c=>exact⟨G7,S7,J,full,N⟩
  |outgrown=>exact⟨G7,S7,J,full,N⟩
theorem AW.ZH{i0 s z J L tk:Nat}{w C:Array Oper}{body:Code}(r t:Nat){j m:Oper}(M:b<=r+1)
  (E:w.toList.head? =some j/\j.op=.next (.tmp t) false/\j.guard=none/\BA n j.dst) (N:C.toList.head? =some m/\m.op=.entry (.tmp t)/\m.guard=none/\BA n m.dst)
  (A:∀K:Nat->Nat->Tm->Sg->Prop,(∀(q:List (D×V)) (Inv:Nat->List Nat->Tm->Sg->Prop) k g u,Inv k [] g u->((∀k h tm S,Inv k h tm S->S[r]?=some (.map q)/\tm t=.d (.raw (.pointer (some ⟨k,0,none⟩))))/\(∀k h tm S i (hi:i<q.length),Inv k h tm S->i∉h->AV P n (r+1) w (w.toList.drop 1) (put tm j.dst (.Cb [.d (.bool true),.d q[i].1,q[i].2])) S λg u=>u=S/\g tk=.d (.bool true)/\g t=.d (.raw (.pointer (some ⟨k,0,none⟩)))/\AV P n (r+1) C (C.toList.drop 1) (put g m.dst (.Cb [.d q[i].1,q[i].2])) S λF R=>
     AW P n (r+1) body (BW z (C4 (λG T=>∃B H,AJ P n (r+1) G T B H/\Inv k (h++[i]) B H) (BW s Q))) F R)/\(∀k h tm S,Inv k h tm S->(∀i,i<q.length->i∈h)->AV P n (r+1) w (w.toList.drop 1) (put tm j.dst (.Cb [.d (.bool false)])) S λg u=>g tk=.d (.bool false)/\Q .normal g u))->K q.length k g u)->Gt P n b ops ops.toList tm S r t K):
  AW P n b (.seq (.region i0 ops false) (.block s (.loop (.seq (.region J w false) (.seq (.cond (.tmp tk) .skip (.exit s)) (.block z (.seq (.region L C false) body))))))) Q tm S:=
 AW.Yk r t M E N (A _ λq Inv _ _ _ h1 U=>⟨q,Inv,rfl,h1,U⟩)
end
end Go.Koi
