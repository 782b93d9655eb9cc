/-
  Part 8 of the proof that the law ChangeRestricts returns true for every input.
-/
import Derived.Test.YtbpjppgjnkklnaaGreatDoorG06
import Derived.Recover
import Derived.Test.YtbpjppgjnkklnaaGreatDoorG04
set_option maxHeartbeats 64000000
set_option maxRecDepth 100000
open List renaming length->Z
open Bool renaming true->J,false->ap
open Option renaming some->am,none->bi
open Array renaming replicate->Bk
open Go.IntKind renaming wrap->b8
open Go.Proofs.Tryz renaming prog->ao
namespace Go.Koi
open Go renaming Oper->dl,Program->cP,FuncId->eN
section
variable {P:cP} {n b:Nat} {o:dl} {tm tm':Tm} {S S':Sg} {v:V} {ops:Array dl} {K:Tm->Sg->Prop}
theorem AI.vW(r:Nat){es es':List (D×V)}(A:S[r]?=am (.map es))(hl:Z es'=Z es)(hw:∀i (h:i<Z es) (h':i<Z es'),es'[i].1=es[i].1/\RN S es[i].2 es'[i].2):
  AI P n b tm S tm (S.set r (.map es')):=λG w a st hb=>by
 have R:=st.rel;have Q:=Ag A;have B:(S.set r (.map es'))[r]?=am (.map es'):=by simp[Q]
 have C:∀g,g≠r->(S.set r (.map es'))[g]?=S[g]?:=λg h=>by simp[pv (n7 h)]
 have el:∀g,lenOf (S.set r (.map es')) g=lenOf S g:=λg=>by
  by_cases e:g=r
  .subst e;simp[lenOf,B,A]
  .simp[lenOf,C g e]
 have T:∀g,C1 (S.set r (.map es')) g=C1 S g:=λg=>by
  by_cases e:g=r
  .subst e;simp[C1,B,A]
  .simp[C1,C g e]
 have em:∀g,isMap (S.set r (.map es')) g=isMap S g:=λg=>by
  by_cases e:g=r
  .subst e;simp[isMap,B,A]
  .simp only[isMap,C g e]
 have L:BA G S w G (S.set r (.map es')) w:=
  ⟨λ_ h=>h,λ_ _=>rfl,by simp,λg _ n' U=>⟨n',by rw[<-el];exact U,c9 _,λ_=>⟨rfl,rfl,rfl,.inl (T g)⟩⟩,λg _ hm=>⟨by rw[<-em];exact hm,rfl⟩⟩
 have own:∀g x,(S.set r (.map es'))[g]?=am x->∃H,S[g]?=am H/\Ba G g H=Ba G g x:=λg x M=>by
  by_cases e:g=r
  .subst e;rw[B]at M;cases M;exact⟨_,A,rfl⟩
  .rw[C g e]at M;exact⟨x,M,rfl⟩
 have j:∀k,Own G (S.set r (.map es')) k->Own G S k:=by
  rintro k ⟨g,x,W,X,h3⟩;obtain⟨H,E,N⟩:=own g x W;exact⟨g,H,E,by rw[N];exact X,h3⟩
 refine⟨G,⟨st.size,st.tm.later L,⟨R.Gl.later L,λg x m=>?_,λr1 r2 x1 x2 W X o1 o2 he=>?_,λk q=>R.nI k (j k q),R.JH,λk q=>R.IJ k (j k q)⟩⟩,⟨c9 _,λ_ h=>h,λ_ _ _=>rfl,λk q=>.inl (j k q),λk q=>.inl q,rfl,rfl⟩,L.late hb⟩
 .by_cases e:g=r
  .subst e;rw[B]at m;cases m;have Y:=R.Da g _ A;simp[OK]at Y⊢;obtain⟨F,u,E,N,g3,g4⟩:=Y;refine⟨F,u,E,by omega,by omega,λi hi=>?_⟩;obtain⟨e,f1,f2,f3,f4⟩:=g4 i (by omega);obtain⟨q1,q2⟩:=hw i (by omega) hi;exact⟨e,f1,by rw[q1];exact f2,(O4 R q2 f3).later L,f4⟩
  .rw[C g e]at m;exact(R.Da g x m).later L (λ_=>rfl) rfl rfl rfl
 .obtain⟨y1,E,p1⟩:=own r1 x1 W;obtain⟨y2,N,p2⟩:=own r2 x2 X;exact R.inj r1 r2 y1 y2 E N (by rw[p1];exact o1) (by rw[p2];exact o2) he
theorem AI.YO:∀(l:List (Nat×List D)) {S:Sg},(l.map (·.1)).Nodup->(∀p∈l,∃k sz,S[p.1]?=am (.row k sz (p.2.map .d)))->∃S',AI P n b tm S tm S'/\Z S'=Z S/\(∀p∈l,S'[p.1]?=am (.BT p.2))/\∀i,i∉l.map (·.1)->S'[i]?=S[i]?
 |[],S,_,_=>⟨S,a9,rfl,by simp,λ_ _=>rfl⟩
 |p::l,S,g,h=>by
  rw[ii,acy]at g;obtain⟨k,sz,h0⟩:=h p (by simp);have u:∀i,i≠p.1->(S.set p.1 (.BT p.2))[i]?=S[i]?:=λi hi=>pv (n7 hi);obtain⟨S',A,B,C,w⟩:=AI.YO l (S:=S.set p.1 (.BT p.2)) g.2 (λq j=>by
   obtain⟨k,sz,m⟩:=h q (by simp[j]);exact⟨k,sz,by rw[u q.1 (λe=>g.1 (e▸g7.2 ⟨q,j,rfl⟩))];exact m⟩)
  refine⟨S',(gl p.1 h0 (by simp)).trans A,by simpa using B,λq j=>?_,λi hi=>?_⟩
  .rcases ke.1 j with rfl|j
   .rw[w _ g.1];simp[Ag h0]
   .exact C q j
  .simp only[ii,ke,va]at hi;rw[w i hi.2,u i hi.1]
end
section
variable {P:cP} {n b:Nat} {o:dl} {tm tm':Tm} {S S0 S0' S':Sg} {v:V} {ops:Array dl} {K:Tm->Sg->Prop}
theorem AS.Jq{rest:List dl}{c:Call}{f:FuncId}{g:List V}{j:V->Sg->Prop}(h:BH P f g S0 j)(rs:List Nat)(m:o.op=.call c)
  (q:o.guard=bi/\A6 n o.dst/\BB tm c/\Cr tm c f g rs/\FC S S0 rs/\g.all (AJ (Z rs))=J) (k:∀v S0',j v S0'->Z rs<=Z S0')
  (u:∀v S0',j v S0'->AS P n b ops rest (put tm o.dst (BW (FN (nameOf rs) (Z rs) (Z S)) v)) (Dk S S0' rs) K):AS P n b ops (o::rest) tm S K:=by
 obtain⟨w,A,B,i,C,E⟩:=q;unfold Cr at i;split at i
 .rename_i N args F;obtain⟨rfl,rfl⟩:=i;exact AS.QC m w A F B (h.Ef rs C k E) λv S' ⟨G,S0',H,L,M⟩=>by subst L;subst M;exact u G S0' H
 .exact i.elim
end
open Go.ChangeMaps (setBlock)
abbrev ada:=@Nat.lt_irrefl
abbrev adJ:=@Array.toList_filter
section
variable {P:cP} {n b:Nat} {o:dl} {tm tm':Tm} {S S0 S0' S':Sg} {v:V} {ops:Array dl} {Q:Exit->Tm->Sg->Prop}
def GF(P:cP)(n b:Nat)(ops:Array dl)(l:List dl)(tm:Tm)(S:Sg)(r _:Nat)(K:Nat->Nat->Tm->Sg->Prop):Prop:=
 ∀i,(∀j,l[j]?=ops[i+j]?)->∀G w a Q,St P n G S w a tm->b<=Z S->(∀m g q S' tm' k h,IP P n b G S w a.defers m g q S' tm'->qU q S' g r k h #[]->w.heap.size<=h->K k h tm' S'->Q .normal m g)->wpOps P ops Q (List.range' i (Z l)) a w
theorem GF.step{rest:List dl}{r t:Nat}{K:Nat->Nat->Tm->Sg->Prop}(E:∀i,ops[i]?=am o->Step P n b ops i tm S tm' S')(h:GF P n b ops rest tm' S' r t K):GF P n b ops (o::rest) tm S r t K:=λq C G w a Q st hb F=>by
 have h0:ops[q]?=am o:=by simpa using(C 0).symm
 simp[aci];rw[acU];refine E q h0 G w a _ Q st hb λH L M g=>?_;refine h (q+1) (λj=>by have:=C (j+1);simp at this;rw[this];congr 1;omega) M L H Q g.st g.late.len λN R T U u k W m A B X=>?_;exact F N R T U u k W ⟨m.st,m.ds.trans g.ds,g.tr.trans m.tr,g.late.trans m.late⟩ A (ms g.tr.size B) X
theorem GF.op{rest:List dl}{r t:Nat}{K:Nat->Nat->Tm->Sg->Prop}(g:EY P n ops o tm S)(h:GF P n b ops rest (put tm o.dst (Dm P ops o tm S)) (oS P o tm S) r t K):GF P n b ops (o::rest) tm S r t K:=
 GF.step (λ_ hi=>Step.El hi g) h
theorem GF.E0{rest:List dl}{r t:Nat}{K:Nat->Nat->Tm->Sg->Prop}{c:Call}{f:FuncId}{g:List V}(h:AG P f g S0 v S0')(rs:List Nat)(j:o.op=.call c)
  (k:o.guard=bi/\A6 n o.dst/\BB tm c/\Cr tm c f g rs/\FC S S0 rs/\Z rs<=Z S0'/\g.all (AJ (Z rs))=J)
  (m:GF P n b ops rest (put tm o.dst (BW (FN (nameOf rs) (Z rs) (Z S)) v)) (Dk S S0' rs) r t K):GF P n b ops (o::rest) tm S r t K:=by
 obtain⟨q,u,w,i,A,B,C⟩:=k;unfold Cr at i;split at i
 .rename_i F args E;obtain⟨rfl,rfl⟩:=i;exact GF.step (λ_ hi=>Do hi u q (Hx j E w (h.Ef rs A B C))) m
 .exact i.elim
theorem GF.range{r t:Nat}{es:List (D×V)}{K:Nat->Nat->Tm->Sg->Prop}{T:TypeId}{x:Operand}(j:o.op=.range T x)
  (k:o.guard=bi/\o.dst=am t/\t<n/\need (ev tm x)/\strip (ev tm x)=.map r/\S[r]?=am (.map es)/\(Kj P T).isSome=J)
  (h:∀E,K (Z es) E (Fk tm t (.d (.raw (.pointer (am ⟨E,0,bi⟩))))) S):GF P n b ops [o] tm S r t K:=λU W G w a Q st hb X=>by
 obtain⟨Y,F,m,hx,ex,H,hT⟩:=k;have h0:ops[U]?=am o:=by simpa using(W 0).symm
 simp only[gr,mp,aci,List.range'_zero];rw[acU];unfold wpOp;simp only[h0,Region.wanted,Y,ip];left;have L:=(BS st x).strip hx;rw[ex]at L;have q:a.eval x=.map (am (G.CP r)):=by cases L with|map _ _ _ _ h=>exact h (by simp[isMap,H])
 have M:=st.rel.Da r _ H;simp only[OK]at M;obtain⟨N,g,q1,q2,qk,q3⟩:=M;obtain⟨p,k⟩:=md.1 hT;obtain⟨ti,e1,e2⟩:=KP k;obtain⟨d,u,i⟩:=An e1 w;have A:d=.map p.1 p.2:=by rw[e2]at i;cases d<;>simp[tk]at i⊢;exact i
 subst A;have B:=adi (P:=P) q1;have zm:(execOp a.eval o).run P w=.ok (.value (.pointer (am ⟨w.heap.size,0,bi⟩))) (Bl w (.mapIter (am (G.CP r)) g #[] g)):=by
  simp[execOp,j,Instr.range,u,q,B];rfl
 unfold Oper.wp;rw[zm];simp only[Oper.upon];obtain⟨r1,r2,R⟩:=st.rel.sW (.mapIter (am (G.CP r)) g #[] g);have C:St P n G S (Bl w (.mapIter (am (G.CP r)) g #[] g)) (a.put o.dst (.pointer (am ⟨w.heap.size,0,bi⟩))) (put tm o.dst (.d (.raw (.pointer (am ⟨w.heap.size,0,bi⟩))))):=
  st.put (by rw[F];exact m) (.d _ _ (.raw _)) r1 R
 simp only[wpOps];refine X _ _ G S _ (Z es) w.heap.size ⟨C,Cy,r2,R.late hb⟩ ⟨?_,λj=>?_,λhi=>?_⟩ (c9 _) (by rw[F];exact h _)
 .rw[EV,qk]
 .exact ada _ (st.rel.IJ _ j)
 .exact ada _ (st.rel.JH _ hi)
theorem GF.QC{r t:Nat}{K:Nat->Nat->Tm->Sg->Prop}{rest:List dl}{c:Call}{f:FuncId}{args:List V}{R:V->Sg->Prop}(H:o.op=.call c)(L:o.guard=bi)(M:A6 n o.dst)(N:callee tm c=am (f,args))(T:BB tm c)
  (h:BH P f args S R) (U:∀v S',R v S'->GF P n b ops rest (put tm o.dst v) S' r t K):GF P n b ops (o::rest) tm S r t K:=λk E G w a Q st hb W=>by
 have h0:ops[k]?=am o:=by simpa using(E 0).symm
 simp only[gr,aci];rw[acU];unfold wpOp;simp only[h0,Region.wanted,L,ip];left;have key:∀(next:Act->World->Prop),(∀cv g i v S',R v S'->CV i S' g v cv->Rel P i S' g->Tr G S w i S' g->BA G S w i S' g->next (a.put o.dst cv) g)->o.wp P a w next Q:=λnext m=>O5 H N T h st m
 refine key _ λcv g i v S' X Y g2 F u=>?_;refine U v S' X (k+1) (λj=>by have:=E (j+1);simp only[ri]at this;rw[this];congr 1;omega) i g _ Q (st.put M Y g2 u) (u.late hb).len λa2 w2 G2 S2 A k2 it q B C hK=>W a2 w2 G2 S2 A k2 it ⟨q.st,q.ds.trans Cy,F.trans q.tr,(u.late hb).trans q.late⟩ B (ms F.size C) hK
theorem GF.Jq{rest:List dl}{r t:Nat}{K:Nat->Nat->Tm->Sg->Prop}{c:Call}{f:FuncId}{g:List V}{j:V->Sg->Prop}(h:BH P f g S0 j)(rs:List Nat)(m:o.op=.call c)
  (q:o.guard=bi/\A6 n o.dst/\BB tm c/\Cr tm c f g rs/\FC S S0 rs/\g.all (AJ (Z rs))=J) (k:∀v S0',j v S0'->Z rs<=Z S0')
  (u:∀v S0',j v S0'->GF P n b ops rest (put tm o.dst (BW (FN (nameOf rs) (Z rs) (Z S)) v)) (Dk S S0' rs) r t K):GF P n b ops (o::rest) tm S r t K:=by
 obtain⟨w,A,B,i,C,E⟩:=q;unfold Cr at i;split at i
 .rename_i N args F;obtain⟨rfl,rfl⟩:=i;exact GF.QC m w A F B (h.Ef rs C k E) λv S' ⟨G,S0',H,L,M⟩=>by subst L;subst M;exact u G S0' H
 .exact i.elim
theorem AW.au{i0 id0 id1 i1 i2 tk:Nat}{W en:Array dl}{body:Code}(r t:Nat){m C:dl}(hbr:b<=r+1)
  (hnx:W.toList.head? =am m/\m.op=.next (.tmp t) ap/\m.guard=bi/\A6 n m.dst) (hen:en.toList.head? =am C/\C.op=.entry (.tmp t)/\C.guard=bi/\A6 n C.dst)
  (hreg:GF P n b ops ops.toList tm S r t λk A F S1=>∃(q:List (D×V)) (Inv:Nat->List Nat->Tm->Sg->Prop),Z q=k/\Inv A [] F S1/\(∀A g tm S,Inv A g tm S->S[r]?=am (.map q)/\tm t=.d (.raw (.pointer (am ⟨A,0,bi⟩))))/\(∀A g tm S i (hi:i<Z q),Inv A g tm S->i∉g->AS P n (r+1) W (W.toList.drop 1) (put tm m.dst (.CX [.d (.bool J),.d q[i].1,q[i].2])) S λF S1=>S1=S/\F tk=.d (.bool J)/\F t=.d (.raw (.pointer (am ⟨A,0,bi⟩)))/\AS P n (r+1) en (en.toList.drop 1) (put F C.dst (.CX [.d q[i].1,q[i].2])) S λtm2 S2=>
     AW P n (r+1) body (A2 id1 (B5 (λtm3 S3=>∃Y S4,AI P n (r+1) tm3 S3 Y S4/\Inv A (g++[i]) Y S4) (A2 id0 Q))) tm2 S2)/\(∀A g tm S,Inv A g tm S->(∀i,i<Z q->i∈g)->AS P n (r+1) W (W.toList.drop 1) (put tm m.dst (.CX [.d (.bool ap)])) S λF S1=>F tk=.d (.bool ap)/\Q .normal F S1)):
  AW P n b (.seq (.region i0 ops ap) (.block id0 (.loop (.seq (.region i1 W ap) (.seq (.cond (.tmp tk) .skip (.exit id0)) (.block id1 (.seq (.region i2 en ap) body))))))) Q tm S:=by
 intro G w a st hb;obtain⟨M,hnx2,hnx3,hnx4⟩:=hnx;obtain⟨N,hen2,hen3,hen4⟩:=hen;have hnl:W.toList=m::W.toList.drop 1:=by
  cases h:W.toList with
  |nil=>rw[h]at M;simp at M
  |cons x xs=>rw[h]at M;simp only[List.head?_cons,j3]at M;subst M;rfl
 have hel:en.toList=C::en.toList.drop 1:=by
  cases h:en.toList with
  |nil=>rw[h]at N;simp at N
  |cons x xs=>rw[h]at N;simp only[List.head?_cons,j3]at N;subst N;rfl
 have hnget:∀j,(m::W.toList.drop 1)[j]?=W[j]?:=λj=>by rw[<-hnl,acb]
 have heget:∀j,(C::en.toList.drop 1)[j]?=en[j]?:=λj=>by rw[<-hel,acb]
 refine wp_seq (wp_region ?_);have hr0:=hreg 0 (λj=>by simp) G w a (Exit.then ((Code.block id0 (.loop (.seq (.region i1 W ap) (.seq (.cond (.tmp tk) .skip (.exit id0)) (.block id1 (.seq (.region i2 en ap) body)))))).wp P (QO P n b Q G S w a.defers)) (QO P n b Q G S w a.defers)) st hb ?_
 .rw[acw];simpa using hr0
 intro a1 w1 G1 S1 F k A hc1 hit1 hfresh ⟨q,Inv,hek,hI1,hInv,hround,hend⟩;subst hek;refine wp_block ?_;refine wp_loop (I:=λa' R=>∃T S' tm' g,IP P n b G S w a.defers a' R T S' tm'/\qU T S' R r (Z q) A g.toArray/\Inv A g tm' S'/\g.Nodup/\∀i∈g,i<Z q)
  (μ:=λ_ R=>match R.heap[A]? with|some (.mapIter _ _ seen _)=>Z q - seen.size|_=>0) ⟨G1,S1,F,[],hc1,hit1,hI1,ac0,λi h=>by simp at h⟩ ?_
 rintro a' R ⟨T,S',tm',g,H,hit,hI,hnd,zg⟩;obtain⟨hS,ht⟩:=hInv A g tm' S' hI;have hitl:=F8 hit.heap;have hrl:=Ag hS;have zq:=H.st.rel.Da r _ hS;simp only[OK]at zq;obtain⟨u,clock,q1,q2,qk,q3⟩:=zq;have hborn:∀i (h:i<u.size),u[i].born=i:=λi h=>by
  obtain⟨e,e1,_,_,e4,_⟩:=q3 i (by omega);rw[ll h]at e1;cases e1;exact e4
 have zj:∀x∈u.toList,∃i,i<Z q/\x.born=i/\u[i]?=am x:=λx K=>by
  obtain⟨i,hi,rfl⟩:=lm.1 K;have zo:i<u.size:=by simpa using hi
  exact⟨i,by omega,by simpa using hborn i zo,by rw[ll zo];simp⟩
 have hev:a'.eval (.tmp t)=.pointer (am ⟨A,0,bi⟩):=by
  have:=H.st.tm t;rw[ht]at this;simp only[Act.eval];generalize a'.tmps.getD t undef=X at this;cases this with|d _ _ h=>cases h;rfl
 have hn0:W[0]?=am m:=by have:=hnget 0;simpa using this.symm
 have he0:en[0]?=am C:=by have:=heget 0;simpa using this.symm
 refine wp_seq (wp_region ?_);rw[acw];have zp:W.size=Z (W.toList.drop 1)+1:=by have:=l5 Z hnl;simpa using this
 rw[zp,aci,acU];unfold wpOp;simp only[hn0,Region.wanted,hnx3,ip];left;unfold Oper.wp;rcases run_next_at (P:=P) R m.type A (T.CP r) (Z q) (Z q) g.toArray u clock hit.heap q1 (λx K=>by obtain⟨i,h1,h2,_⟩:=zj x K;omega) (c9 _)with⟨hz,zm⟩|⟨e,he,w2,hw2,zm⟩
 .
  have hexec:(execOp a'.eval m).run P R=.ok (.value (.tuple #[.bool ap])) R:=by
   simp only[execOp,hnx2,hev,ls,zm,kv,pc]
  rw[hexec];simp only[Oper.upon];have st2:St P n T S' R (a'.put m.dst (.tuple #[.bool ap])) (put tm' m.dst (.CX [.d (.bool ap)])):=
   H.st.put hnx4 (.CX _ _ rfl (λi h=>by
    have:i=0:=by simp at h;omega
    subst this;exact .d _ _ (.bool _))) H.st.rel (aer _ _ _)
  have hdone:∀i,i<Z q->i∈g:=λi hi=>by
   by_cases hm:i∈g
   .exact hm
   .exfalso;have hie:i<u.size:=by omega
    have:u[i]∈(leftOf u g.toArray).toList:=by
     simp only[leftOf,adJ,ut];refine⟨by simp,?_⟩;rw[hborn i hie];simpa using hm
    have h0:(leftOf u g.toArray).toList=[]:=by
     apply List.eq_nil_of_length_eq_zero;simpa using hz
    rw[h0]at this;simp at this
  refine hend A g tm' S' hI hdone 1 (λj=>by have:=hnget (j+1);simp only[ri]at this;rw[this];congr 1;omega) T R _ _ st2 (by omega) λa3 w3 hh=>?_;obtain⟨G3,S3,tm3,hc3,hk,hQ⟩:=hh;refine wp_seq (wp_cond_false ?_ (wp_exit ?_))
  .have:=hc3.st.tm tk;rw[hk]at this;simp only[Act.eval];generalize a3.tmps.getD tk undef=X at this;cases this with|d _ _ h=>cases h;rfl
  .simp only[Exit.then,Exit.inBlock,ip];exact⟨G3,S3,tm3,⟨hc3.st,(hc3.ds.trans Cy).trans H.ds,H.tr.trans hc3.tr,H.late.trans (hc3.late.SQ hbr)⟩,hQ⟩
 .
  obtain⟨i,hi,hbi,hei⟩:=zj e (by simp only[leftOf,adJ,ut]at he;exact he.1);have hiv:i∉g:=by
   simp only[leftOf,adJ,ut]at he;have:=he.2;rw[hbi]at this;simpa using this
  have hexec:(execOp a'.eval m).run P R=.ok (.value (.tuple #[.bool J,e.key,e.val])) (setBlock w2 A (.mapIter (am (T.CP r)) (Z q) (g.toArray.push e.born) clock)):=by
   simp only[execOp,hnx2,hev,ls,zm,kv,pc]
  rw[hexec];simp only[Oper.upon];generalize hw3:setBlock w2 A (.mapIter (am (T.CP r)) (Z q) (g.toArray.push e.born) clock)=w3;have hw2h:w2.heap=R.heap:=by rcases hw2 with rfl|rfl<;>rfl
  have hw3s:w3.heap.size=R.heap.size:=by rw[<-hw3];simp[setBlock,hw2h]
  have hw3o:∀k,k≠A->w3.heap[k]?=R.heap[k]?:=λk hk=>by rw[<-hw3];simp only[setBlock,hw2h];rw[ab5 (n7 hk)]
  have hw3i:w3.heap[A]?=am (.mapIter (am (T.CP r)) (Z q) (g++[i]).toArray (Z q)):=by
   rw[<-hw3];simp[setBlock,hw2h,hitl,hbi,qk]
  have hw3os:w3.os=R.os/\w3.output=R.output:=by rw[<-hw3];rcases hw2 with rfl|rfl<;>exact⟨rfl,rfl⟩
  obtain⟨r1,r3⟩:=H.st.rel.hidden hit.own hit.fU hw3s hw3o;obtain⟨e',f1,f2,f3,f4,f5⟩:=q3 i hi;rw[hei]at f1;cases f1;have hce:IP P n b G S w a.defers a' w3 T S' tm':=
   ⟨⟨H.st.size,H.st.tm.later r3,r1⟩,H.ds,⟨by rw[hw3s];exact H.tr.size,H.tr.I,λk hk zw=>by rw[hw3o k (by omega)];exact H.tr.DB k hk zw,H.tr.own,H.tr.im,hw3os.1.trans H.tr.os,hw3os.2.trans H.tr.out⟩,H.late⟩
  have hit3:qU T S' w3 r (Z q) A (g++[i]).toArray:=⟨hw3i,hit.own,hit.fU⟩;have st2:St P n T S' w3 (a'.put m.dst (.tuple #[.bool J,e.key,e.val])) (put tm' m.dst (.CX [.d (.bool J),.d q[i].1,q[i].2])):=
   hce.st.put hnx4 (.CX _ _ rfl (λj h=>by
    have h3:j<3:=by simpa using h
    match j,h3 with
    |0,_=>exact .d _ _ (.bool _)
    |1,_=>exact .og (f2.mono r3.I r3.DB)
    |2,_=>exact f3.later r3)) r1 (aer _ _ _)
  refine hround A g tm' S' i hi hI hiv 1 (λj=>by have:=hnget (j+1);simp only[ri]at this;rw[this];congr 1;omega) T w3 _ _ st2 (by omega) λa4 w4 hh=>?_;obtain⟨G4,S4,Y,L,hS4,hk4,ht4,hen'⟩:=hh;subst hS4;have hb4:G4.CP r=T.CP r:=(L.late.map r (by omega) (by simp[isMap,hS])).2;have hit4:=hit3.later L.tr hb4;refine wp_seq (wp_cond_true ?_ (wp_skip ?_))
  .have:=L.st.tm tk;rw[hk4]at this;simp only[Act.eval];generalize a4.tmps.getD tk undef=X at this;cases this with|d _ _ h=>cases h;rfl
  simp only[Exit.then];refine wp_block (wp_seq (wp_region ?_));rw[acw];have hsz2:en.size=Z (en.toList.drop 1)+1:=by have:=l5 Z hel;simpa using this
  rw[hsz2,aci,acU];unfold wpOp;simp only[he0,Region.wanted,hen3,ip];left;unfold Oper.wp;have hev4:a4.eval (.tmp t)=.pointer (am ⟨A,0,bi⟩):=by
   have:=L.st.tm t;rw[ht4]at this;simp only[Act.eval];generalize a4.tmps.getD t undef=X at this;cases this with|d _ _ h=>cases h;rfl
  have hob4:=L.st.rel.Da r _ hS;simp only[OK]at hob4;obtain⟨E,clock4,p1,p2,pk,p3⟩:=hob4;obtain⟨e4,g1,g2,g3,g4,g5⟩:=p3 i hi;have hborn4:∀j (h:j<E.size),E[j].born=j:=λj h=>by
   obtain⟨x,x1,_,_,x4,_⟩:=p3 j (by omega);rw[ll h]at x1;cases x1;exact x4
  have hmap4:E.toList.map (·.born)=List.range E.size:=by
   apply xv
   .simp
   .intro j h1 h2;simp only[m6,QQ,acI];exact hborn4 j (by simpa using h1)
  have hih:=hit4.heap;have hpush:(g++[i]).toArray=g.toArray.push e4.born:=by rw[g4];simp
  rw[hpush]at hih;have hrun4:=run_entry_at (P:=P) w4 A (G4.CP r) (Z q) g.toArray E clock4 e4 (by rw[pk];exact hih) p1 (by have:=acL g1;simpa using this) (by rw[hmap4];exact List.nodup_range);have hexec4:(execOp a4.eval C).run P w4=.ok (.value (.tuple #[e4.key,e4.val])) w4:=by
   simp only[execOp,hen2,hev4,ls,hrun4,kv,pc]
  rw[hexec4];simp only[Oper.upon];have st5:St P n G4 S4 w4 (a4.put C.dst (.tuple #[e4.key,e4.val])) (put Y C.dst (.CX [.d q[i].1,q[i].2])):=
   L.st.put hen4 (.CX _ _ rfl (λj h=>by
    have h3:j<2:=by simpa using h
    match j,h3 with
    |0,_=>exact .og g2
    |1,_=>exact g3)) L.st.rel (aer _ _ _)
  refine hen' 1 (λj=>by have:=heget (j+1);simp only[ri]at this;rw[this];congr 1;omega) G4 w4 _ _ st5 (by omega) λa6 w6 hh=>?_;obtain⟨G6,S6,tm6,hc6,hbody⟩:=hh;have hlen6:r+1<=Z S6:=hc6.late.len;refine K2 (hbody G6 w6 a6 hc6.st hlen6) λex a7 w7 hl=>?_;obtain⟨G7,S7,U,hc7,B⟩:=hl;have d7:a7.defers=a.defers:=hc7.ds.trans (hc6.ds.trans (Cy.trans (L.ds.trans (Cy.trans H.ds))));have t7:Tr G4 S4 w4 G7 S7 w7:=hc6.tr.trans hc7.tr;have l7:EL (r+1) G4 S4 G7 S7:=hc6.late.trans hc7.late;have full:IP P n b G S w a.defers a7 w7 G7 S7 U:=⟨hc7.st,d7,(hce.tr.trans L.tr).trans t7,(H.late.trans (L.late.SQ hbr)).trans (l7.SQ hbr)⟩;have cont:(∃Y S4,AI P n (r+1) U S7 Y S4/\Inv A (g++[i]) Y S4)->(∃T S' tm' g,IP P n b G S w a.defers a7 w7 T S' tm'/\qU T S' w7 r (Z q) A g.toArray/\Inv A g tm' S'/\g.Nodup/\∀i∈g,i<Z q)/\(match w7.heap[A]? with|some (.mapIter _ _ seen _)=>Z q - seen.size|_=>0)<(match R.heap[A]? with|some (.mapIter _ _ seen _)=>Z q - seen.size|_=>0):=by
   rintro⟨tm8,S8,g8,hI8⟩;obtain⟨G8,st8,t8,l8⟩:=g8 G7 w7 a7 hc7.st hc7.late.len;obtain⟨hS8,_⟩:=hInv _ _ _ _ hI8;have hb8:G8.CP r=G4.CP r:=((l7.trans l8).map r (by omega) (by simp[isMap,hS8])).2;have hit8:=hit4.later (t7.trans t8) hb8;refine⟨⟨G8,S8,tm8,g++[i],⟨st8,d7,full.tr.trans t8,full.late.trans (l8.SQ hbr)⟩,hit8,hI8,?_,?_⟩,?_⟩
   .rw[Ks];exact⟨hnd,by simp,λx K y hy e=>by simp only[go]at hy;subst e;subst hy;exact hiv K⟩
   .intro x K;rcases fi.1 K with K|K
    .exact zg x K
    .simp only[go]at K;subst K;exact hi
   .rw[hit8.heap,hit.heap];have h1:Z g<Z q:=by
     have h2:=It id (l:=g++[i]) (n:=Z q) (by
      rw[Ks];exact⟨hnd,by simp,λx K y hy e=>by simp only[go]at hy;subst e;subst hy;exact hiv K⟩) (λx K=>by
       rcases fi.1 K with K|K
       .exact zg x K
       .simp only[go]at K;subst K;exact hi) (λx _ y _ e=>e)
     simp at h2;omega
    simp;omega
  cases ex with
  |normal=>
   simp only[A2,B5]at B;simp only[Exit.then,Exit.inBlock];exact cont B
  |exit id'=>
   simp only[A2]at B;simp only[Exit.then,Exit.inBlock];by_cases e1:id'=id1
   .simp only[e1,ip,B5]at B⊢;exact cont B
   .simp only[e1,jw,B5,A2]at B⊢;by_cases e0:id'=id0
    .simp only[e0,ip]at B⊢;exact⟨G7,S7,U,full,B⟩
    .simp only[e0,jw]at B⊢;exact⟨G7,S7,U,full,B⟩
  |goto l=>exact⟨G7,S7,U,full,B⟩
  |ret=>exact⟨G7,S7,U,full,B⟩
  |panic c=>exact⟨G7,S7,U,full,B⟩
  |outgrown=>exact⟨G7,S7,U,full,B⟩
theorem AW.RV{i0 u B T U tk:Nat}{A F:Array dl}{body:Code}(r t:Nat){j m:dl}(G:b<=r+1)
  (H:A.toList.head? =am j/\j.op=.next (.tmp t) ap/\j.guard=bi/\A6 n j.dst) (L:F.toList.head? =am m/\m.op=.entry (.tmp t)/\m.guard=bi/\A6 n m.dst)
  (C:∀K:Nat->Nat->Tm->Sg->Prop,(∀(q:List (D×V)) (Inv:Nat->List Nat->Tm->Sg->Prop) k g w,Inv k [] g w->((∀k h tm S,Inv k h tm S->S[r]?=am (.map q)/\tm t=.d (.raw (.pointer (am ⟨k,0,bi⟩))))/\(∀k h tm S i (hi:i<Z q),Inv k h tm S->i∉h->AS P n (r+1) A (A.toList.drop 1) (put tm j.dst (.CX [.d (.bool J),.d q[i].1,q[i].2])) S λg w=>w=S/\g tk=.d (.bool J)/\g t=.d (.raw (.pointer (am ⟨k,0,bi⟩)))/\AS P n (r+1) F (F.toList.drop 1) (put g m.dst (.CX [.d q[i].1,q[i].2])) S λM W=>
     AW P n (r+1) body (A2 B (B5 (λN X=>∃E R,AI P n (r+1) N X E R/\Inv k (h++[i]) E R) (A2 u Q))) M W)/\(∀k h tm S,Inv k h tm S->(∀i,i<Z q->i∈h)->AS P n (r+1) A (A.toList.drop 1) (put tm j.dst (.CX [.d (.bool ap)])) S λg w=>g tk=.d (.bool ap)/\Q .normal g w))->K (Z q) k g w)->GF P n b ops ops.toList tm S r t K):
  AW P n b (.seq (.region i0 ops ap) (.block u (.loop (.seq (.region T A ap) (.seq (.cond (.tmp tk) .skip (.exit u)) (.block B (.seq (.region U F ap) body))))))) Q tm S:=
 AW.au r t G H L (C _ λq Inv _ _ _ Y h2=>⟨q,Inv,rfl,Y,h2⟩)
end
abbrev ace:=@Array.eq_empty_of_size_eq_zero
section
variable {P:cP} {n b:Nat} {o:dl} {tm tm':Tm} {S S0 S0' S':Sg} {v:V} {ops:Array dl} {Q:Exit->Tm->Sg->Prop}
def fW(P:cP)(g:FuncId):Prop:=Mu P g=J/\∀(cap:Array Value) (w:World),CallsD P g cap .returning w λe u h=>(∃v,e=.returned v)/\u=.returning/\h=w
theorem YN{fn:Func}{R:V->Sg->Prop}{G:Gh}{w:World}(U:Rel P G S w){ds:List Deferred}{E:Act}{w':World}{m:Gh}{tm':Tm}(F:IP P fn.ntmps (Z S) G S w ds E w' m S0 tm')
  (hq:Rq P fn.ntmps (Z S) fn.results.toList R .ret tm' S0):
  ∃x,(results fn E.tmps).run P w'=.ok x w'/\∃m v S',R v S'/\CV m S' w' v x/\Rel P m S' w'/\Tr G S w m S' w'/\BA G S w m S' w':=by
 obtain⟨L,H,g,h1,v,S',W,h2⟩:=hq;obtain⟨A,j,t1,l1⟩:=g m w' E F.st F.late.len;obtain⟨k,X,q,K⟩:=LD j fn.results.toList h1;have u:∀(k:List Value) (rs:List V),Z k=Z rs->(∀i (h:i<Z k) (h':i<Z rs),CV A H w' rs[i] k[i])->CV A H w' (UC rs) (pack k):=λk rs q K=>by
  match k,rs with
  |[],[]=>exact .CX _ _ rfl (λi h=>by simp at h)
  |[x],[y]=>exact K 0 (by simp) (by simp)
  |x::x'::xs,y::y'::ys=>
   refine .CX _ _ (by simpa using q) (λi h=>?_);have:=K i (by omega) h;simpa using this
  |[],_::_=>simp at q
  |_::_,[]=>simp at q
  |[_],_::_::_=>simp at q
  |_::_::_,[_]=>simp at q
 have B:CV A H w' (Kg P L H fn.results.toList) (pack k):=u k _ q K;have tr:=F.tr.trans t1;have Y:=F.late.trans l1;rcases h2 with⟨d,tm2,M,rfl,h4⟩|⟨M,rfl⟩
 .obtain⟨G2,N,t2,l2⟩:=h4 A w' E j l1.len;have C:=tr.trans t2;have T:=Y.trans l2;exact⟨_,GW X,G2,.d d,S',W,.d _ _ ((B.BO j.rel M).mono t2.I (λ_ _=>rfl)),N.rel,C,T.later U C⟩
 .exact⟨_,GW X,A,v,S',W,M▸B,j.rel,tr,Y.later U tr⟩
def jA(P:cP)(n:Nat)(ops:Array dl)(g:FuncId)(tm:Tm)(S:Sg)(tm':Tm):Prop:=
 ∃o1 i t h j,ops=#[o1,i]/\o1.guard=bi/\i.guard=bi/\EY P n ops o1 tm S/\Dm P ops o1 tm S=.fn (.func g) [] h/\oS P o1 tm S=S/\o1.dst=am t/\t<n/\i.op=.defer ⟨.value (.tmp t),#[],j⟩/\i.dst=bi/\tm'=Fk tm t (.fn (.func g) [] h)
theorem Zk{g:FuncId}(M:jA P n ops g tm S tm'){id:Nat}{G:Gh}{w:World}{a:Act}{H:Exit->Act->World->Prop}(st:St P n G S w a tm)(hb:b<=Z S)
  (h:∀q u A d cap,St P n A S u q tm'->q.defers=d::a.defers->d.target=.fn (.func g) cap->d.args=#[]->Tr G S w A S u->EL b G S A S->H .normal q u):(Code.region id ops ap).wp P H a w:=by
 obtain⟨o1,B,t,K,N,rfl,g1,R,T,U,W,Y,h5,h6,h7,rfl⟩:=M;apply wp_region;have L:=Step.El (b:=b) (i:=0) (ops:=#[o1,B]) (o:=o1) (n:=n) (P:=P) (tm:=tm) (S:=S) rfl T;rw[U,W,Y]at L;have hr:List.range (#[o1,B]:Array dl).size=[0,1]:=rfl;rw[hr,acU];refine L G w a _ _ st hb λC w1 G1 j=>?_;rw[acU];unfold wpOp;simp[Region.wanted,R];left;have k:=j.st.tm t;simp only[put,Fk,ip]at k;generalize hX:C.tmps.getD t undef=X at k;cases k with
 |fn _ _ _ xs m q1 q2 q3 q4=>
  have E:xs=#[]:=by apply ace;simpa using q1
  subst E;unfold Oper.wp;have zm:(execOp C.eval B).run P w1=.ok (.defer {target:=.fn (.func g) m,args:=#[]}) w1:=by
   have F:C.eval (.tmp t)=.func (.func g) #[] m:=hX;simp[execOp,h6,resolve,F,Deferred.ofValue]
  rw[zm];simp[Oper.upon,h7,Act.put];simp[wpOps];refine h _ w1 G1 {target:=.fn (.func g) m,args:=#[]} m ⟨j.st.size,j.st.tm,j.st.rel⟩ (by rw[j.ds]) rfl rfl j.tr j.late
theorem BH.mG{f g:FuncId}{fn:Func}{c1 c2 c3:Code}{id:Nat}{N:Array dl}{args:List V}{R:V->Sg->Prop}(hf:P.funcs[f]?=am fn)(X:(fn.name== "runtime.NumGoroutine")=ap)
  (hb:fn.body=am (.seq c1 (.seq c2 (.seq (.region id N ap) c3)))) (hn:Z args<=fn.ntmps) (hg:fW P g)
  (h:Gk args->LZ S->AW P fn.ntmps (Z S) c1 (B5 (AW P fn.ntmps (Z S) c2 (B5 (λY S2=>∃tm3,jA P fn.ntmps N g Y S2 tm3/\AW P fn.ntmps (Z S) c3 (Rq P fn.ntmps (Z S) fn.results.toList R) tm3 S2) (Rq P fn.ntmps (Z S) fn.results.toList R))) (Rq P fn.ntmps (Z S) fn.results.toList R)) (ER args) S):BH P f args S R:=by
 refine⟨by simp[Mu,hf,X,hb],λG w j R0 zp zl=>?_⟩;refine calls_of_wp_defers hf hb ?_;have st:St P fn.ntmps G S w {tmps:=j++Array.replicate (fn.ntmps - j.size) undef,defers:=[]} (ER args):=by
  refine⟨by simp;omega,λk=>?_,R0⟩;unfold ER;by_cases hk:k<Z args
  .have e1:args.getD k .any=args[k]:=by simp[List.getD,hk]
   have e2:(j++Array.replicate (fn.ntmps - j.size) undef).getD k undef=j[k]'(by omega):=by
    rw[rg,abE (by omega)];simp[show k<j.size by omega]
   simp only[e1,e2];exact zl k hk (by omega)
  .have e1:args.getD k .any=.any:=by simp[List.getD,pu (show Z args<=k by omega)]
   rw[e1];exact .any _
 have hwf:Gk args/\LZ S:=⟨H0 λi hi=>by
  have:=st.tm i;have e:ER args i=args[i]:=by simp[ER,List.getD,hi]
  rw[e]at this;exact this.wf,st.rel.x5⟩
 have h:=h hwf.1 hwf.2;have T:∀{K m q S0 tm'},IP P fn.ntmps (Z S) G S w [] K m q S0 tm'->Rq P fn.ntmps (Z S) fn.results.toList R .ret tm' S0->Leaves P fn K.tmps (λe m=>∃cv q v S',R v S'/\e=.returned cv/\CV q S' m v cv/\Rel P q S' m/\Tr G S w q S' m/\BA G S w q S' m) K.defers .returning m:=λ{K m q S0 tm'} hc hq=>by
  obtain⟨x,hx,G2,v,S',hR,k1,k2,k3,k4⟩:=YN R0 hc hq;rw[hc.ds];exact⟨x,hx,x,G2,v,S',hR,rfl,k1,k2,k3,k4⟩
 have U:∀{K m q S0 tm'} {d:Deferred} {cap:Array Value},IP P fn.ntmps (Z S) G S w [d] K m q S0 tm'->d.target=.fn (.func g) cap->d.args=#[]->Rq P fn.ntmps (Z S) fn.results.toList R .ret tm' S0->Leaves P fn K.tmps (λe m=>∃cv q v S',R v S'/\e=.returned cv/\CV q S' m v cv/\Rel P q S' m/\Tr G S w q S' m/\BA G S w q S' m) K.defers .returning m:=λ{K m q S0 tm' d cap} hc L H hq=>by
  obtain⟨x,hx,G2,v,S',hR,k1,k2,k3,k4⟩:=YN R0 hc hq;rw[hc.ds];obtain⟨dt,da⟩:=d;simp only at L H;subst L;subst H;obtain⟨B,hg2⟩:=hg;refine leaves_cons (f:=g) (args:=cap) (by simp) ?_ ((hg2 cap m).mono λe u' w'' hh=>?_)
  .unfold Mu at B;split at B
   .rename_i fn2 hfn2;simp[ne_eq]at B;obtain⟨b2,hb2⟩:=md.1 B.2;simp[invoke,callFunc,hfn2,B.1,hb2]
   .cases B
  .obtain⟨⟨v',rfl⟩,rfl,rfl⟩:=hh;exact⟨x,hx,x,G2,v,S',hR,rfl,k1,k2,k3,k4⟩
 refine wp_seq (K2 (h G w _ st (c9 _)) λex a1 w1 hl=>?_);obtain⟨G1,S1,tm1,C,u⟩:=hl;cases ex with
 |exit=>exact u.elim
 |goto=>exact u.elim
 |panic=>exact u.elim
 |outgrown=>exact u.elim
 |ret=>exact T C u
 |normal=>
  simp[B5]at u;refine wp_seq (K2 (u G1 w1 a1 C.st C.late.len) λex a2 w2 hl=>?_);obtain⟨G2,S2,Y,zt,E⟩:=hl;have A:IP P fn.ntmps (Z S) G S w [] a2 w2 G2 S2 Y:=⟨zt.st,zt.ds.trans C.ds,C.tr.trans zt.tr,C.late.trans zt.late⟩;cases ex with
  |exit=>exact E.elim
  |goto=>exact E.elim
  |panic=>exact E.elim
  |outgrown=>exact E.elim
  |ret=>exact T A E
  |normal=>
   obtain⟨tm3,hdr,haw⟩:=E;refine wp_seq (Zk hdr zt.st zt.late.len λa3 w3 G3 d cap st3 L H hd3 t3 l3=>?_);refine K2 (haw G3 w3 a3 st3 zt.late.len) λex a4 w4 hl=>?_;obtain⟨G4,S4,tm4,M,F⟩:=hl;have W:IP P fn.ntmps (Z S) G S w [d] a4 w4 G4 S4 tm4:=⟨M.st,by rw[M.ds,L,A.ds],(A.tr.trans t3).trans M.tr,(A.late.trans l3).trans M.late⟩;cases ex with
   |exit=>exact F.elim
   |goto=>exact F.elim
   |panic=>exact F.elim
   |outgrown=>exact F.elim
   |ret=>exact U W H hd3 F
   |normal=>exact U W H hd3 F
end
section
variable {P:cP} {n b:Nat} {o:dl} {tm tm':Tm} {S S0 S0' S':Sg} {v:V} {ops:Array dl} {K:Tm->Sg->Prop}
theorem Step.HL{i j:Nat}{g:Bool}(hi:ops[i]?=am o)(q:A6 n o.dst)(u:o.guard=am (j,g))(A:CW ops tm j g=am J)
  (h:CR P n o tm S v S'):Step P n b ops i tm S (put tm o.dst v) S':=λG w a B Q st hb k=>by
 unfold wpOp;simp[hi,Rm st u A];exact .inl (h G w a B Q st λcv L C E F H m=>k _ _ C ⟨st.put q E F m,Cy,H,m.late hb⟩)
theorem FI{rest:List dl}{j:Nat}{g:Bool}(i:o.guard=am (j,g))(h:A6 n o.dst/\CW ops tm j g=am ap)
  (k:AS P n b ops rest (put tm o.dst (.opt ap (.d (.bool ap)))) S K):AS P n b ops (o::rest) tm S K:=
 EQ (λ_ hi=>Step.GB (v:=.d (.bool ap)) hi h.1 i h.2 λe=>by cases e) k
theorem AS.PJ{rest:List dl}{c:Call}{f:FuncId}{g:List V}{j:Nat}{i:Bool}(h:AG P f g S0 v S0')(rs:List Nat)(m:o.op=.call c)(q:o.guard=am (j,i))
  (u:CW ops tm j i=am J/\A6 n o.dst/\BB tm c/\Cr tm c f g rs/\FC S S0 rs/\Z rs<=Z S0'/\g.all (AJ (Z rs))=J)
  (w:AS P n b ops rest (put tm o.dst (BW (FN (nameOf rs) (Z rs) (Z S)) v)) (Dk S S0' rs) K):AS P n b ops (o::rest) tm S K:=by
 obtain⟨A,B,C,k,E,F,G⟩:=u;unfold Cr at k;split at k
 .rename_i L args H;obtain⟨rfl,rfl⟩:=k;exact EQ (λ_ hi=>Step.HL hi B q A (Hx m H C (h.Ef rs E F G))) w
 .exact k.elim
theorem AS.B0{rest:List dl}{c:Call}{f:FuncId}{ds:List D}{d:D}{j:Nat}{g:Bool}(h:Pure P f ds d)(i:o.op=.call c)(k:o.guard=am (j,g))
  (m:CW ops tm j g=am J/\A6 n o.dst/\BB tm c/\Ft S tm c f ds)
  (q:AS P n b ops rest (put tm o.dst (.d d)) S K):AS P n b ops (o::rest) tm S K:=by
 obtain⟨u,w,A,B⟩:=m;obtain⟨args,C,E⟩:=GH B;exact EQ (λ_ hi=>Step.HL hi w k u (Hx i C A (h.call E))) q
abbrev li:=@AS.B0
theorem Pe{rest:List dl}{j:Nat}{g:Bool}(i:o.guard=am (j,g))(h:CW ops tm j g=am J/\A6 n o.dst/\BX P o.op tm S)
  (k:AS P n b ops rest (put tm o.dst (Bc P o.op tm S)) (C2 P o.op tm S) K):AS P n b ops (o::rest) tm S K:=
 EQ (λ_ hi=>Step.HL hi h.2.1 i h.1 (Mk h.2.2)) k
theorem AW.Fj{x y:Code}{Q:Exit->Tm->Sg->Prop}{R:Tm->Sg->Prop}(h:AW P n b x (B5 R Q) tm S)(i:∀tm S,R tm S->AW P n b y Q tm S):AW P n b (.seq x y) Q tm S:=by
 refine xS (h.mono λj tm S g=>?_);cases j<;>first|exact g|exact i _ _ g
abbrev m7:=@AW.Fj
end
section
variable {P:cP} {n b:Nat} {o:dl} {tm tm':Tm} {S S0 S0' S':Sg} {v:V} {ops:Array dl} {K:Tm->Sg->Prop}
theorem ZH{T E:TypeId}{g:Nat}{y:Operand}{k:IntKind}{i:Int}(A:o.op=.indexAddr T (.global g) y)(B:(P.globals[g]?).map (·.name)=am "math/bits.deBruijn64tab")(C:EO P T=am (64,E))
  (F:Am P E=am 1) (H:need (ev tm y)) (L:strip (ev tm y)=.d (.int k i)) (h0:0<=i) (M:i<64):CR P n o tm S (.DW [.int .u8 (Bw.getD i.toNat 0)]) S:=.pure λG w a st=>by
 have hi:=B7 st H L;obtain⟨t,N,Q⟩:=Q7 C;obtain⟨e,f1,f2,_⟩:=CO F;obtain⟨d,R,m⟩:=An N w;have q:d=.array 64 E:=by rw[Q]at m;cases d<;>simp[tk]at m⊢;exact m
 subst q;have u:a.eval (.global g)=.pointer (am ⟨g,0,bi⟩):=rfl;obtain⟨U,W⟩:=st.rel.Gl g B;have h:i.toNat<Z Bw:=by simp[Bw];omega
 refine⟨.pointer (am ⟨g,0+i.toNat,bi⟩),?_,.DW _ _ _ (λ_=>.int .u8 Bw[i.toNat]) U λj hj=>?_⟩
 .simp[execOp,A,u,hi,Instr.indexAt,asIntOf,R,Instr.sureAddr,GR];rw[ca ⟨h0,by exact_mod_cast M⟩];simp[Bg f1,show e.size=1 from f2]
 .have:j=0:=by simp at hj;omega
  subst this;have hb:∀l<64,0<=Bw.getD l 0/\Bw.getD l 0<64:=by decide
  have hb:=hb i.toNat (by omega);have e:Bw.getD i.toNat 0=Bw[i.toNat]:=by simp[List.getD,h]
  rw[e]at hb⊢;refine⟨by simpa using W i.toNat h,.int _ _ ?_,rfl⟩;simp[GZ];omega
theorem AS.sV{rest:List dl}{T E:TypeId}{g:Nat}{y:Operand}(m:o.op=.indexAddr T (.global g) y)(h:o.guard=bi)(q:(P.globals[g]?).map (·.name)=am "math/bits.deBruijn64tab")(u:EO P T=am (64,E))
  (w:Am P E=am 1) (A:A6 n o.dst) {k:IntKind} {i:Int} (j:ev tm y=.d (.int k i)) (h0:0<=i) (B:i<64)
  (C:AS P n b ops rest (put tm o.dst (.DW [.int .u8 (Bw.getD i.toNat 0)])) S K):AS P n b ops (o::rest) tm S K:=
 EQ (λ_ hi=>Do hi A h (ZH m q u w (by rw[j];trivial) (by rw[j];rfl) h0 B)) C
theorem rH{T:TypeId}{x:Operand}{k:IntKind}{i:Int}(h:o.op=.unOp .neg T x)(j:need (ev tm x))(m:strip (ev tm x)=.d (.int k i)):
  CR P n o tm S (.d (.int k (k.wrap (-i)))) S:=.pure λG w a st=>by
 have g:=(BS st x).strip j;rw[m]at g;exact⟨.int k (k.wrap (-i)),by simp[execOp,h,g.int,Op.unary,Op.intArith],.d _ _ (.int _ _ (Jd _ _))⟩
theorem AS.neg{rest:List dl}{T:TypeId}{x:Operand}(j:o.op=.unOp .neg T x)(g:o.guard=bi)(m:A6 n o.dst){k:IntKind}{i:Int}(h:ev tm x=.d (.int k i))
  (q:AS P n b ops rest (put tm o.dst (.d (.int k (k.wrap (-i))))) S K):AS P n b ops (o::rest) tm S K:=
 EQ (λ_ hi=>Do hi m g (rH j (by rw[h];trivial) (by rw[h];rfl))) q
end
abbrev acp:=@List.not_mem_nil
abbrev ad4:=@or_false
section
variable {P:cP} {n b:Nat} {o:dl} {tm tm':Tm} {S S0 S0' S':Sg} {v:V} {ops:Array dl} {K:Tm->Sg->Prop} {Q:Exit->Tm->Sg->Prop}
theorem AI.perm(rs:List Nat)(hn:rs.Nodup)(hl:Z rs=Z S)(L:Z S'=Z S)(hm:rs.map (λr=>S'[r]?)=S.map (λo=>am (DM (nameOf rs) o)))(R:∀i<b,nameOf rs i=i)(is:List Nat)(his:is.map (nameOf rs)=List.range (Z S))(T:is.all (· <Z S)=J):
  AI P n b tm S (λk=>BW (nameOf rs) (tm k)) S':=λG w a st hb=>by
 have zv:∀i (h:i<Z S),S'[nameOf rs i]?=am (DM (nameOf rs) S[i]):=λi h=>by
  have:=l5 (·[i]?) hm;simp[h,hl]at this;simpa[nameOf,List.getD,hl,h]using this
 have zg:∀i,i<Z S->nameOf rs i<Z S:=λi hi=>by rw[<-L];exact Ag (zv i hi)
 have U:∀i j,i<Z S->j<Z S->nameOf rs i=nameOf rs j->i=j:=λi j hi hj h=>by
  have A:nameOf rs i=rs[i]'(by omega):=by simp[nameOf,List.getD,hl,hi]
  have u:nameOf rs j=rs[j]'(by omega):=by simp[nameOf,List.getD,hl,hj]
  rw[A,u]at h;exact KZ hn (by omega) (by omega) h
 have W:∀r,r<Z S->∃i,i<Z S/\nameOf rs i=r:=λr X=>by
  have A:(is.map (nameOf rs))[r]?=am r:=by rw[his];simp[X]
  rw[abL]at A;obtain⟨i,u,h3⟩:=In.1 A;exact⟨i,by simpa using ed.1 T i (oj u),h3⟩
 let ρ:=nameOf rs;let q (r:Nat):Nat:=if h:∃i,i<Z S/\ρ i=r then h.choose else 0;have N:∀i,i<Z S->q (ρ i)=i:=λi hi=>by
  have Y:∃j,j<Z S/\ρ j=ρ i:=⟨i,hi,rfl⟩;have:=Y.choose_spec;simp[q,Y,NE];exact U _ _ this.1 hi this.2
 let H:Gh:={I:=G.I,CP:=λr=>G.CP (q r),cap:=λr=>G.cap (q r),BG:=λr=>G.BG (q r)};have m:∀i,i<Z S->lenOf S' (ρ i)=lenOf S i/\C1 S' (ρ i)=C1 S i/\isMap S' (ρ i)=isMap S i:=λi hi=>KC ρ S[i] (ej hi) (zv i hi);have C:∀i,i<Z S->H.CP (ρ i)=G.CP i/\H.cap (ρ i)=G.cap i/\H.BG (ρ i)=G.BG i:=λi hi=>by simp only[H,N i hi,lh]
 have E:bJ ρ G S H S':=⟨λ_=>Iff.rfl,λi hi=>by rw[L];exact zg i hi,λi hi=>(m i hi).1,λi hi=>(m i hi).2.1,λi hi=>(m i hi).2.2,λi hi=>(C i hi).1.symm,λi hi=>(C i hi).2.1.symm,λi hi=>(C i hi).2.2.symm⟩;have M:∀r x,S'[r]?=am x->∃i,∃hi:i<Z S,ρ i=r/\x=DM ρ S[i]:=λr x B=>by
  obtain⟨i,hi,rfl⟩:=W r (by rw[<-L];exact Ag B);rw[zv i hi]at B;exact⟨i,hi,rfl,(nu B).symm⟩
 have own:∀k,Own H S' k->Own G S k:=by
  rintro k ⟨r,x,A,u,h3⟩;obtain⟨i,hi,rfl,rfl⟩:=M r x A;exact⟨i,S[i],ej hi,by rw[Dz (ρ:=ρ) (G0:=G) (G:=H) (i:=i) (j:=ρ i) S[i] (C i hi).2.2.symm]at u;exact u,by rw[h3,(C i hi).1]⟩
 refine⟨H,⟨st.size,λt=>(st.tm t).sZ E,⟨λg hg=>st.rel.Gl g hg,λr x B=>?_,λr1 r2 x1 x2 A u o1 o2 heq=>?_,λx B=>st.rel.nI x (own x B),st.rel.JH,λx B=>st.rel.IJ x (own x B)⟩⟩,⟨c9 _,λ_ h=>h,λ_ _ _=>rfl,λx B=>.inl (own x B),λx B=>.inl B,rfl,rfl⟩,?_⟩
 .obtain⟨i,hi,rfl,rfl⟩:=M r x B;exact(st.rel.Da i S[i] (ej hi)).sZ E hi
 .obtain⟨i,hi,rfl,rfl⟩:=M r1 x1 A;obtain⟨j,hj,rfl,rfl⟩:=M r2 x2 u;rw[Dz (ρ:=ρ) (G0:=G) (G:=H) (i:=i) (j:=ρ i) S[i] (C i hi).2.2.symm]at o1;rw[Dz (ρ:=ρ) (G0:=G) (G:=H) (i:=j) (j:=ρ j) S[j] (C j hj).2.2.symm]at o2;rw[(C i hi).1,(C j hj).1]at heq;rw[st.rel.inj i j _ _ (ej hi) (ej hj) o1 o2 heq]
 .refine⟨by rw[L];exact hb,λr X n' hn'=>?_,λr X hm'=>?_⟩
  .have F:r<Z S:=by omega
   have e:=R r X;have A:=m r F;have u:=C r F;rw[show ρ r=r from e]at A u;refine⟨n',by rw[<-A.1];exact hn',c9 _,λ_=>⟨u.1,u.2.1,u.2.2,.inl A.2.1⟩⟩
  .have F:r<Z S:=by omega
   have e:=R r X;have A:=m r F;have u:=C r F;rw[show ρ r=r from e]at A u;exact⟨by rw[<-A.2.2];exact hm',u.1⟩
theorem AW.regionF{id:Nat}(j:P.follows .mixedOrders=J)(h:∀K:Tm->Sg->Prop,(∀tm S,Q .normal tm S->K tm S)->Bj P n b ops K [] ops.size (Bk ops.size ap) tm S):AW P n b (.region id ops J) Q tm S:=λG w a st hb=>by
 refine wp_region_any j ?_;obtain⟨r1,r2,i⟩:=st.rel.drawn (w':={w with drawn:=w.drawn+1}) rfl rfl rfl;refine Iy _ _ _ _ (h (Q .normal) λ_ _ h=>h) G {w with drawn:=w.drawn+1} a ⟨st.size,st.tm.later i,r1⟩ hb λu w' k=>?_;obtain⟨m,S',tm',g,q⟩:=k;exact⟨m,S',tm',⟨g.st,g.ds,r2.trans g.tr,(i.late hb).trans g.late⟩,q⟩
theorem Bj.quiet{B:List (Nat×(Sg->Prop))}{g:Array Bool}{j i:Nat}(C:Sg->Prop)(hS:C S)(hi:ops[i]?=am o)(m:∀S',C S'->Bu P n b ops i o tm S' v S')
  (k:((Region.ready .any ops g).contains i&&Region.free .any ops g i)=J) (h:Bj P n b ops K ((i,C)::B) j (g.setIfInBounds i J) (put tm o.dst v) S):Bj P n b ops K B (j+1) g tm S:=by
 simp at k;exact Pa hi j B g tm S (Region.free_spec hi k.2) (by simpa using k.1) hS m h
theorem Bj.uM{B:List (Nat×(Sg->Prop))}{g:Array Bool}{j i:Nat}(C:Sg->Prop)(hS:C S)(hi:ops[i]?=am o)(k:∀S',C S'->EY P n ops o tm S'/\Dm P ops o tm S'=v/\oS P o tm S'=S')
  (m:((Region.ready .any ops g).contains i&&Region.free .any ops g i)=J) (h:Bj P n b ops K ((i,C)::B) j (g.setIfInBounds i J) (put tm o.dst v) S):Bj P n b ops K B (j+1) g tm S:=
 Bj.quiet C hS hi (λS' hS=>by
  obtain⟨q,u,w⟩:=k S' hS;have:=Bu.El (b:=b) hi q;rwa [u,w]at this) m h
theorem Bj.qI{B:List (Nat×(Sg->Prop))}{g:Array Bool}{j:Nat}(i:Nat)(hi:ops[i]?=am o)(q:((Region.ready .any ops g).contains i&&Region.free .any ops g i)=J)(w:o.guard=none/\(ON o.op tm).isSome=J/\EY P n ops o tm S)
  (h:Bj P n b ops K ((i,Xy (ON o.op tm) S)::B) j (g.setIfInBounds i J) (put tm o.dst (Dm P ops o tm S)) S):Bj P n b ops K B (j+1) g tm S:=by
 obtain⟨u,m,k⟩:=w;obtain⟨d,m⟩:=md.1 m;rw[m]at h;refine Bj.uM (Xy (am d) S) (by unfold Xy;split<;>trivial) hi (λS' hS=>?_) q h;obtain⟨A,C,E⟩:=YK (P:=P) m hS;refine⟨⟨k.1,?_⟩,?_,?_⟩
 .have:=k.2;rw[u]at this⊢;rw[A];exact this
 .unfold Dm;rw[u];exact C
 .unfold oS;rw[u];exact E
theorem Bj.fY{B:List (Nat×(Sg->Prop))}{g:Array Bool}{h:Nat}{o1 o2:dl}(i j:Nat)(m q:List Bool)(C:Region.ready .any ops g=[i,j])(hi:ops[i]?=am o1)(hj:ops[j]?=am o2)
  (u:B.map (λp=>waits ops i p.1)=m) (w:B.map (λp=>waits ops j p.1)=q)
  (E:EY P n ops o1 tm S/\okB m B S (oS P o1 tm S)) (F:EY P n ops o2 tm S/\okB q B S (oS P o2 tm S))
  (k1:Bj P n b ops K (FL m B) h (g.setIfInBounds i J) (put tm o1.dst (Dm P ops o1 tm S)) (oS P o1 tm S))
  (k2:Bj P n b ops K (FL q B) h (g.setIfInBounds j J) (put tm o2.dst (Dm P ops o2 tm S)) (oS P o2 tm S)):Bj P n b ops K B (h+1) g tm S:=by
 refine⟨λh0=>(by rw[C]at h0;cases h0),λk A=>?_⟩;rw[C]at A;simp at A;rcases A with rfl|rfl
 .exact⟨o1,_,_,hi,Bu.El hi E.1,Fe u E.2,by rw[Gi u];exact k1⟩
 .exact⟨o2,_,_,hj,Bu.El hj F.1,Fe w F.2,by rw[Gi w];exact k2⟩
theorem CV.ub{G:Gh}{w:World}{ds:List D}{x:Value}(h:CV G S w (.d (.agg ds)) x):CV G S w (.agg (ds.map .d)) x:=by
 cases h with
 |d _ _ h=>cases h with
  |agg _ g j h k=>exact .agg _ g (by simpa using j) (λi hi=>by simpa using CV.d _ _ (h i (by simpa using hi))) k
theorem CV.ua{G:Gh}{w:World}{ds:List D}{x:Value}(h:CV G S w (.d (.CX ds)) x):CV G S w (.CX (ds.map .d)) x:=by
 cases h with
 |d _ _ h=>cases h with
  |CX _ g j h=>exact .CX _ g (by simpa using j) λi hi=>by simpa using CV.d _ _ (h i (by simpa using hi))
theorem CV.gC{G:Gh}{w:World}{xs g:List V}{x:Value}(h:CV G S w (.CX xs) x)(m:Z xs=Z g)(hi:∀i (h:i<Z xs) (q:i<Z g) v,CV G S w xs[i] v->CV G S w g[i] v):CV G S w (.CX g) x:=by
 cases h with
 |CX _ j u h=>exact .CX _ j (by omega) λi k=>hi i (by omega) k _ (h i (by omega))
theorem AG.conv{f:eN}{args:List V}{i:V}(h:AG P f args S v S')(j:∀G w x,CV G S' w v x->CV G S' w i x):AG P f args S i S':=
 ⟨h.1,λG w g R k ha=>(h.2 G w g R k ha).mono λ_ _ ⟨cv,m,q,u,A⟩=>⟨cv,m,q,j _ _ _ u,A⟩⟩
theorem Bj.Qa{B:List (Nat×(Sg->Prop))}{g:Array Bool}{j:Nat}(i:Nat)(hi:ops[i]?=am o)(k:((Region.ready .any ops g).contains i&&Region.free .any ops g i)=J)(m:EY P n ops o tm S/\oS P o tm S=S)
  (h:Bj P n b ops K ((i,AY P n ops o tm (Dm P ops o tm S))::B) j (g.setIfInBounds i J) (put tm o.dst (Dm P ops o tm S)) S):Bj P n b ops K B (j+1) g tm S:=
 Bj.uM _ ⟨m.1,rfl,m.2⟩ hi (λ_ h=>h) k h
abbrev qr:=@Bj.Qa
theorem Bj.Kk{B:List (Nat×(Sg->Prop))}{g:Array Bool}{h:Nat}{o1:dl}(i:Nat)(j:List Bool)(u:Region.ready .any ops g=[i])(hi:ops[i]?=am o1)
  (m:B.map (λp=>waits ops i p.1)=j) (w:EY P n ops o1 tm S/\okB j B S (oS P o1 tm S))
  (k1:Bj P n b ops K (FL j B) h (g.setIfInBounds i J) (put tm o1.dst (Dm P ops o1 tm S)) (oS P o1 tm S)):Bj P n b ops K B (h+1) g tm S:=by
 refine⟨λh0=>(by rw[u]at h0;cases h0),λk q=>?_⟩;rw[u]at q;simp at q;subst q;exact⟨o1,_,_,hi,Bu.El hi w.1,Fe m w.2,by rw[Gi m];exact k1⟩
abbrev un:=@Bj.Kk
theorem Bj.done{B:List (Nat×(Sg->Prop))}{g:Array Bool}(i:Region.ready .any ops g=[])(h:K tm S):Bj P n b ops K B 0 g tm S:=⟨i,h⟩
abbrev aeC:=@Bj.done
theorem AW.Jp{x y:Code}{Q:Exit->Tm->Sg->Prop}{R:Tm->Sg->Prop}(i:AW P n b x (B5 (λtm S=>∃tm' S',AI P n b tm S tm' S'/\R tm' S') Q) tm S)(j:∀tm S,R tm S->AW P n b y Q tm S):AW P n b (.seq x y) Q tm S:=
 m7 i λ_ _ ⟨_,_,g,h⟩=>gs g (j _ _ h)
theorem Bu.Oq{i:Nat}{c:Call}{f:eN}{args:List V}{j:Nat}{g:Bool}(hi:ops[i]?=am o)(k:o.op=.call c)(m:o.guard=am (j,g))(u:A6 n o.dst)
  (w:CW ops tm j g=am J) (A:callee tm c=am (f,args)) (B:BB tm c) (h:AG P f args S v S'):Bu P n b ops i o tm S v S':=λtm' q=>by
 obtain⟨C,E⟩:=Gz k q;exact Step.HL hi u m (by rw[guard_congr m q];exact w) (Hx k (by rw[C];exact A) (by rw[E];exact B) h)
theorem PW{B:List (Nat×(Sg->Prop))}{i:Nat}{q:Bool}{rest:List (Nat×Bool×dl)}{j:Nat}{g:Bool}(m:q=J)(h:o.guard=am (j,g))(k:A6 n o.dst/\CW ops tm j g=am ap)
  (u:Ab P n b ops ((i,λ_=>True)::B) rest (put tm o.dst (.opt ap (.d (.bool ap)))) S K):Ab P n b ops B ((i,q,o)::rest) tm S K:=by
 subst m;exact q7 (λ_=>True) trivial (λhi S' _=>λtm' w=>Step.GB (v:=.d (.bool ap)) hi k.1 h (by rw[guard_congr h w];exact k.2) λe=>by cases e) u
theorem Ab.u5{B:List (Nat×(Sg->Prop))}{i:Nat}{rest:List (Nat×Bool×dl)}{j:Nat}{g:Bool}(ws:List Bool)(k:B.map (λp=>waits ops i p.1)=ws)(m:o.guard=am (j,g))(q:A6 n o.dst/\CW ops tm j g=am ap)
  (u:Ab P n b ops (FL ws B) rest (put tm o.dst (.opt ap (.d (.bool ap)))) S K):Ab P n b ops B ((i,ap,o)::rest) tm S K:=
 Ab.ry ws k (λhi=>λtm' A=>Step.GB (v:=.d (.bool ap)) hi q.1 m (by rw[guard_congr m A];exact q.2) λe=>by cases e)
  (by clear k u;induction ws generalizing B with
   |nil=>cases B<;>trivial
   |cons w ws C=>cases B with
    |nil=>trivial
    |cons p B=>exact⟨λ_ h=>h,C⟩) u
theorem Ab.Ob{B:List (Nat×(Sg->Prop))}{i:Nat}{rest:List (Nat×Bool×dl)}{c:Call}{f:eN}{g:List V}{j:Nat}{k:Bool}(h:AG P f g S0 v S0')(rs:List Nat)(w:o.op=.call c)(A:o.guard=am (j,k))
  (C:CW ops tm j k=am J/\A6 n o.dst/\BB tm c/\Cr tm c f g rs/\FC S S0 rs/\Z rs<=Z S0'/\g.all (AJ (Z rs))=J/\Dk S S0' rs=S)
  (E:Ab P n b ops ((i,λS'=>S'=S)::B) rest (put tm o.dst (BW (FN (nameOf rs) (Z rs) (Z S)) v)) S K):Ab P n b ops B ((i,J,o)::rest) tm S K:=by
 obtain⟨F,G,H,m,L,M,N,q⟩:=C;unfold Cr at m;split at m
 .rename_i T args R;obtain⟨rfl,rfl⟩:=m;refine q7 (λS'=>S'=S) rfl (λhi S' u=>?_) E;subst u;have:=h.Ef rs L M N;rw[q]at this;exact Bu.Oq hi w A G F R H this
 .exact m.elim
theorem Ab.rK{B:List (Nat×(Sg->Prop))}{i:Nat}{rest:List (Nat×Bool×dl)}{c:Call}{f:eN}{g:List V}{j:Nat}{k:Bool}(ws:List Bool)(h:AG P f g S0 v S0')(rs:List Nat)(q:B.map (λp=>waits ops i p.1)=ws)(w:o.op=.call c)(A:o.guard=am (j,k))
  (C:CW ops tm j k=am J/\A6 n o.dst/\BB tm c/\Cr tm c f g rs/\FC S S0 rs/\Z rs<=Z S0'/\g.all (AJ (Z rs))=J/\okB ws B S (Dk S S0' rs))
  (E:Ab P n b ops (FL ws B) rest (put tm o.dst (BW (FN (nameOf rs) (Z rs) (Z S)) v)) (Dk S S0' rs) K):Ab P n b ops B ((i,ap,o)::rest) tm S K:=by
 obtain⟨F,G,H,m,L,M,N,u⟩:=C;unfold Cr at m;split at m
 .rename_i T args R;obtain⟨rfl,rfl⟩:=m;exact Ab.ry ws q (λhi=>Bu.Oq hi w A G F R H (h.Ef rs L M N)) u E
 .exact m.elim
theorem AS.Rv{rest:List dl}{c:Call}{f:eN}{i:List V}{j:Nat}{k g:Bool}(h:AG P f i S0 v S0')(rs:List Nat)(w:o.op=.call c)(A:o.guard=am (j,k))(B:CW ops tm j k=am g)
  (C:A6 n o.dst) (E:g=J->BB tm c/\Cr tm c f i rs) (F:FC S S0 rs/\Z rs<=Z S0'/\i.all (AJ (Z rs))=J/\Dk S S0' rs=S)
  (G:AS P n b ops rest (put tm o.dst (Ha g (BW (FN (nameOf rs) (Z rs) (Z S)) v))) S K):AS P n b ops (o::rest) tm S K:=by
 obtain⟨H,L,M,q⟩:=F;have u:=h.Ef rs H L M;rw[q]at u;refine AS.Mb (v:=BW (FN (nameOf rs) (Z rs) (Z S)) v) (f:=f) (args:=i.map (BW (nameOf rs))) w A C B (λe=>?_) G;obtain⟨N,m⟩:=E e;unfold Cr at m;split at m
 .rename_i T args R;obtain⟨rfl,rfl⟩:=m;exact⟨R,N,u⟩
 .exact m.elim
theorem CV.ud{G:Gh}{w:World}{ds:List D}{x:Value}(h:CV G S w (.agg (ds.map .d)) x):CV G S w (.d (.agg ds)) x:=by
 cases h with
 |agg _ g j h k=>exact .d _ _ (.agg _ g (by simpa using j) (λi hi=>by
   have:=h i (by simpa using hi);rw[m6]at this;cases this with
   |d _ _ h=>exact h) k)
theorem AG.rJ{f:eN}{ds:List D}{rest:List V}(h:AG P f (.d (.agg ds)::rest) S v S'):AG P f (.agg (ds.map .d)::rest) S v S':=
 ⟨h.1,λG w g R k ha=>h.2 G w g R (by simpa using k) λi hi j=>by
  cases i with
  |zero=>exact(ha 0 (by simp) j).ud
  |succ i=>exact ha (i+1) hi j⟩
theorem AI.tA(k:Nat)(d:D)(h:BO S (tm k)=am d):AI P n b tm S (Fk tm k (.d d)) S:=λG w a st hb=>
 ⟨G,⟨st.size,λj=>by
  unfold Fk;split
  .rename_i e;subst e;exact .d _ _ ((st.tm j).BO st.rel h)
  .exact st.tm j,st.rel⟩,tv _ _ _,aev hb⟩
theorem AG.ghost{f:eN}{args:List V}{q:V}{j:Sg}(h:AG P f args S v S')(g:∀tm:Tm,tm 0=v->∃tm',AI P 1 (Z S) tm S' tm' j/\tm' 0=q):AG P f args S q j:=
 ⟨h.1,λG w i R F ha=>(h.2 G w i R F ha).mono λe u ⟨cv,A,H,L,M,B,C⟩=>by
  obtain⟨tm',N,T⟩:=g (λk=>if k=0 then v else .any) rfl;have st:St P 1 A S' u {tmps:=#[cv],defers:=[]} (λk=>if k=0 then v else .any):=⟨rfl,λk=>by
   by_cases E:k=0
   .subst E;simpa using L
   .simp[E];exact .any _,M⟩
  obtain⟨U,m,t2,l2⟩:=N A u _ st C.len;exact⟨cv,U,H,by have:=m.tm 0;rw[T]at this;simpa using this,m.rel,B.trans t2,((C.late (c9 _)).trans l2).later R (B.trans t2)⟩⟩
theorem AG.oA{f:eN}{args:List V}{wr:Bool}{sz:Nat}{xs:List D}(h:AG P f args [] (.row 0 (Z xs)) [.row wr sz (xs.map .d)]):AG P f args [] (.d (.sl xs)) []:=
 h.ghost λtm h0=>by
  have g:AI P 1 0 tm [.row wr sz (xs.map .d)] tm [.BT xs]:=gl 0 (wr:=wr) (sz:=sz) (els:=xs.map .d) rfl (CM _ xs);have i:AI P 1 0 tm [.BT xs] (Fk tm 0 (.d (.sl xs))) [.BT xs]:=AI.tA 0 (.sl xs) (by rw[h0];simp[BO,B4]);refine⟨_,(g.trans i).trans (AI.drop 0 (c9 _) (by simp) (by simp)),?_⟩;simp[clean,Fk,AJ]
theorem AI.BM(r:Nat){wr:Bool}{sz:Nat}{els:List V}{xs:List D}(C:S[r]?=am (.row wr sz els))(q:Df S els=am xs):AI P n b tm S tm (S.set r (.row wr sz (xs.map .d))):=λG w a st hb=>by
 have R:=st.rel;have X:=Ag C;obtain⟨N,E⟩:=QI q;have F:(S.set r (.row wr sz (xs.map .d)))[r]?=am (.row wr sz (xs.map .d)):=by simp[X]
 have H:∀g,g≠r->(S.set r (.row wr sz (xs.map .d)))[g]?=S[g]?:=λg h=>by simp[pv (n7 h)]
 have el:∀g,lenOf (S.set r (.row wr sz (xs.map .d))) g=lenOf S g:=λg=>by
  by_cases e:g=r
  .subst e;simp[lenOf,F,C,N]
  .simp[lenOf,H g e]
 have Y:∀g,C1 (S.set r (.row wr sz (xs.map .d))) g=C1 S g:=λg=>by
  by_cases e:g=r
  .subst e;simp[C1,F,C]
  .simp[C1,H g e]
 have em:∀g,isMap (S.set r (.row wr sz (xs.map .d))) g=isMap S g:=λg=>by
  by_cases e:g=r
  .subst e;simp[isMap,F,C]
  .simp[isMap,H g e]
 have L:BA G S w G (S.set r (.row wr sz (xs.map .d))) w:=
  ⟨λ_ h=>h,λ_ _=>rfl,by simp,λg _ n' hn'=>⟨n',by rw[<-el];exact hn',c9 _,λ_=>⟨rfl,rfl,rfl,.inl (Y g)⟩⟩,λg _ hm=>⟨by rw[<-em];exact hm,rfl⟩⟩
 have own:∀g x,(S.set r (.row wr sz (xs.map .d)))[g]?=am x->∃U,S[g]?=am U/\Ba G g U=Ba G g x:=λg x q=>by
  by_cases e:g=r
  .subst e;rw[F]at q;cases q;exact⟨_,C,rfl⟩
  .rw[H g e]at q;exact⟨x,q,rfl⟩
 have j:∀k,Own G (S.set r (.row wr sz (xs.map .d))) k->Own G S k:=by
  rintro k ⟨g,x,h1,h2,h3⟩;obtain⟨U,A,u⟩:=own g x h1;exact⟨g,U,A,by rw[u];exact h2,h3⟩
 refine⟨G,⟨st.size,st.tm.later L,⟨R.Gl.later L,λg x m=>?_,λr1 r2 x1 x2 h1 h2 o1 o2 he=>?_,λk B=>R.nI k (j k B),R.JH,λk B=>R.IJ k (j k B)⟩⟩,⟨c9 _,λ_ h=>h,λ_ _ _=>rfl,λk B=>.inl (j k B),λk B=>.inl B,rfl,rfl⟩,L.late hb⟩
 .by_cases e:g=r
  .subst e;rw[F]at m;cases m;have M:=R.Da g _ C;simp only[OK]at M⊢;cases hv:G.BG g with
   |none=>
    simp only[hv]at M⊢;obtain⟨c,T,A,u,g3,W,g5⟩:=M;refine⟨c,T,A,u,by simpa[N]using g3,by simpa[N]using W,λi hi=>?_⟩;have zo:i<Z els:=by simpa[N]using hi
    obtain⟨v,f1,f2,f3,f4⟩:=g5 i zo;exact⟨v,by simpa using CV.d _ _ (f1.BO R (E i zo (by omega))),f2,f3,f4⟩
   |some a=>
    simp[hv]at M⊢;obtain⟨A,u,ys,g3,W⟩:=M;subst g3;rw[CM]at q;have hxy:=nu q;rw[hxy]at u W;exact⟨A,by simpa using u,xs,rfl,W⟩
  .rw[H g e]at m;exact(R.Da g x m).later L (λ_=>rfl) rfl rfl rfl
 .obtain⟨y1,A,p1⟩:=own r1 x1 h1;obtain⟨y2,u,p2⟩:=own r2 x2 h2;exact R.inj r1 r2 y1 y2 A u (by rw[p1];exact o1) (by rw[p2];exact o2) he
abbrev j2:=@AI.BM
theorem AI.xc(k:Nat){m g:List V}(h:tm k=.agg m)(F:Z g=Z m)(u:∀i (h:i<Z m) (H:i<Z g),g[i]=m[i]\/∃d,BO S m[i]=am d/\g[i]=.d d):AI P n b tm S (Fk tm k (.agg g)) S:=λG w a st hb=>
 ⟨G,⟨st.size,λj=>by
  unfold Fk;split
  .rename_i e;subst e;have:=st.tm j;rw[h]at this;generalize a.tmps.getD j undef=x at this;cases this with
   |agg _ A L q B=>
    refine .agg _ A (by omega) (λi hi=>?_) B;rcases u i (by omega) hi with e|⟨d,C,E⟩
    .rw[e];exact q i (by omega)
    .rw[E];exact .d _ _ ((q i (by omega)).BO st.rel C)
  .exact st.tm j,st.rel⟩,tv _ _ _,aev hb⟩
theorem Ab.Gr{B:List (Nat×(Sg->Prop))}{i:Nat}{rest:List (Nat×Bool×dl)}{c:Call}{f:eN}{args:List V}(h:AG P f args S v S)(g:o.op=.call c)
  (j:o.guard=none/\A6 n o.dst/\BB tm c/\callee tm c=am (f,args)) (k:Ab P n b ops ((i,λS'=>S'=S)::B) rest (put tm o.dst v) S K):Ab P n b ops B ((i,J,o)::rest) tm S K:=by
 obtain⟨m,q,u,w⟩:=j;exact q7 (λS'=>S'=S) rfl (λhi S' hS=>by subst hS;exact E2 hi g m q w u h) k
theorem Ab.JB{B:List (Nat×(Sg->Prop))}{i:Nat}{rest:List (Nat×Bool×dl)}{c:Call}{f:eN}{args:List V}{j:Nat}{k g:Bool}(h:g=J->AG P f args S v S)(q:o.op=.call c)(u:o.guard=am (j,k))
  (w:CW ops tm j k=am g) (A:A6 n o.dst) (m:g=J->callee tm c=am (f,args)/\BB tm c) (C:Ab P n b ops ((i,λS'=>S'=S)::B) rest (put tm o.dst (Ha g v)) S K):Ab P n b ops B ((i,J,o)::rest) tm S K:=
 q7 (λS'=>S'=S) rfl (λhi S' hS=>by subst hS;exact Bu.Mb hi q u A w λe=>⟨(m e).1,(m e).2,h e⟩) C
theorem AS.JB{rest:List dl}{c:Call}{f:eN}{args:List V}{j:Nat}{i g:Bool}(h:g=J->AG P f args S v S)(m:o.op=.call c)(q:o.guard=am (j,i))
  (u:CW ops tm j i=am g) (w:A6 n o.dst) (k:g=J->callee tm c=am (f,args)/\BB tm c) (A:AS P n b ops rest (put tm o.dst (Ha g v)) S K):AS P n b ops (o::rest) tm S K:=
 AS.Mb m q w u (λe=>⟨(k e).1,(k e).2,h e⟩) A
end
section
variable {P:cP} {n b:Nat} {o:dl} {tm tm':Tm} {S S0 S0' S':Sg} {v:V} {ops:Array dl} {K:Tm->Sg->Prop} {Q:Exit->Tm->Sg->Prop} {B:List (Nat×(Sg->Prop))} {i:Nat} {rest:List dl} {restA:List (Nat×Bool×dl)}
def E3(o:Op):Bool:=match o with
 |.call c=>(match c.callee with|.builtin _=>ap|_=>J)
 |_=>ap
def mZ(P:cP)(n b:Nat)(ops:Array dl)(K:Tm->Sg->Prop):List dl->Tm->Sg->Prop
 |[],tm,S=>AS P n b ops [] tm S K
 |o::l,tm,S=>match E3 o.op with
  |true=>AS P n b ops (o::l) tm S K
  |false=>EY P n ops o tm S/\mZ P n b ops K l (put tm o.dst (Dm P ops o tm S)) (oS P o tm S)
theorem xJ:∀{l:List dl} {tm:Tm} {S:Sg},mZ P n b ops K l tm S->AS P n b ops l tm S K
 |[],_,_,h=>h
 |o::l,_,_,h=>by
  unfold mZ at h;cases g:E3 o.op<;>rw[g]at h
  .exact Cc h.1 (xJ h.2)
  .exact h
def aD(P:cP)(n b:Nat)(ops:Array dl)(K:Tm->Sg->Prop):List dl->Tm->Sg->Prop
 |[],tm,S=>AS P n b ops [] tm S K
 |o::l,tm,S=>match o.guard with
  |none=>(match E3 o.op with
   |true=>AS P n b ops (o::l) tm S K
   |false=>EY P n ops o tm S/\aD P n b ops K l (put tm o.dst (Dm P ops o tm S)) (oS P o tm S))
  |some (j,w)=>(match CW ops tm j w with
   |some ap=>A6 n o.dst/\aD P n b ops K l (put tm o.dst (.opt ap (.d (.bool ap)))) S
   |some J=>(match E3 o.op with
    |true=>AS P n b ops (o::l) tm S K
    |false=>(A6 n o.dst/\BX P o.op tm S)/\aD P n b ops K l (put tm o.dst (Bc P o.op tm S)) (C2 P o.op tm S))
   |none=>False)
theorem xH:∀{l:List dl} {tm:Tm} {S:Sg},aD P n b ops K l tm S->AS P n b ops l tm S K
 |[],_,_,h=>h
 |o::l,tm,_,h=>by
  unfold aD at h;cases g:o.guard with
  |none=>
   rw[g]at h;simp only[]at h;cases k:E3 o.op<;>rw[k]at h
   .exact Cc h.1 (xH h.2)
   .exact h
  |some m=>
   obtain⟨j,w⟩:=m;rw[g]at h;simp only[]at h;split at h
   .exact FI g ⟨h.1,‹_›⟩ (xH h.2)
   .cases k:E3 o.op<;>rw[k]at h
    .exact Pe g ⟨‹_›,h.1.1,h.1.2⟩ (xH h.2)
    .exact h
   .exact h.elim
def ax(k:Nat)(P:cP)(n b:Nat)(ops:Array dl)(K:Tm->Sg->Prop):List (Nat×Bool×dl)->List (Nat×(Sg->Prop))->Tm->Sg->Prop
 |[],B,tm,S=>Ab P n b ops B [] tm S K
 |(i,q,o)::l,B,tm,S=>match q&&!E3 o.op with
  |false=>Ab P n b ops B ((i,q,o)::l) tm S K
  |true=>match k with
   |0=>(EY P n ops o tm S/\oS P o tm S=S)/\ax k P n b ops K l ((i,λS'=>S'=S)::B) (put tm o.dst (Dm P ops o tm S)) S
   |1=>(EY P n ops o tm S/\oS P o tm S=S)/\ax k P n b ops K l ((i,AY P n ops o tm (Dm P ops o tm S))::B) (put tm o.dst (Dm P ops o tm S)) S
   |_=>(o.guard=none/\(ON o.op tm).isSome=J/\EY P n ops o tm S)/\ax k P n b ops K l ((i,Xy (ON o.op tm) S)::B) (put tm o.dst (Dm P ops o tm S)) S
theorem xA(k:Nat):∀{l:List (Nat×Bool×dl)} {B:List (Nat×(Sg->Prop))} {tm:Tm} {S:Sg},ax k P n b ops K l B tm S->Ab P n b ops B l tm S K
 |[],_,_,_,h=>h
 |(i,q,o)::l,_,_,_,h=>by
  unfold ax at h;split at h
  .exact h
  .rename_i g;simp only[cF]at g;obtain⟨rfl,-⟩:=g;split at h
   .exact Hs h.1 (xA _ h.2)
   .exact xG h.1 (xA _ h.2)
   .exact Ab.qI h.1 (xA _ h.2)
theorem Ab.QN{q:Bool}{j:Nat}{g:Bool}(m:q=J)(h:o.guard=am (j,g))
  (u:CW ops tm j g=am J/\A6 n o.dst/\BX P o.op tm S/\C2 P o.op tm S=S)
  (w:Ab P n b ops ((i,λS'=>S'=S)::B) restA (put tm o.dst (Bc P o.op tm S)) S K):Ab P n b ops B ((i,q,o)::restA) tm S K:=by
 subst m;obtain⟨A,C,E,F⟩:=u;refine q7 (λS'=>S'=S) rfl (λhi S' hS=>?_) w;subst hS;intro tm' k;obtain⟨G,H,L⟩:=LB (P:=P) (S:=S') (op:=o.op) (Hj k);have:=Step.HL (b:=b) hi C h (by rw[guard_congr h k];exact A) (Mk (P:=P) (n:=n) (o:=o) (tm:=tm') (S:=S') (by rw[G];exact E));rw[H,L,F]at this;exact this
def aC(P:cP)(n b:Nat)(ops:Array dl)(K:Tm->Sg->Prop):List (Nat×Bool×dl)->List (Nat×(Sg->Prop))->Tm->Sg->Prop
 |[],B,tm,S=>Ab P n b ops B [] tm S K
 |(i,q,o)::l,B,tm,S=>match q with
  |false=>Ab P n b ops B ((i,q,o)::l) tm S K
  |true=>match o.guard with
   |none=>(match E3 o.op with
    |true=>Ab P n b ops B ((i,q,o)::l) tm S K
    |false=>(EY P n ops o tm S/\oS P o tm S=S)/\aC P n b ops K l ((i,λS'=>S'=S)::B) (put tm o.dst (Dm P ops o tm S)) S)
   |some (j,w)=>(match CW ops tm j w with
    |some ap=>A6 n o.dst/\aC P n b ops K l ((i,λ_=>True)::B) (put tm o.dst (.opt ap (.d (.bool ap)))) S
    |some J=>(match E3 o.op with
     |true=>Ab P n b ops B ((i,q,o)::l) tm S K
     |false=>(A6 n o.dst/\BX P o.op tm S/\C2 P o.op tm S=S)/\aC P n b ops K l ((i,λS'=>S'=S)::B) (put tm o.dst (Bc P o.op tm S)) S)
    |none=>False)
theorem xZ:∀{l:List (Nat×Bool×dl)} {B:List (Nat×(Sg->Prop))} {tm:Tm} {S:Sg},aC P n b ops K l B tm S->Ab P n b ops B l tm S K
 |[],_,_,_,h=>h
 |(i,q,o)::l,_,tm,_,h=>by
  unfold aC at h;cases q with
  |false=>exact h
  |true=>
   simp only[]at h;cases g:o.guard with
   |none=>
    rw[g]at h;simp only[]at h;cases k:E3 o.op<;>rw[k]at h
    .exact Hs h.1 (xZ h.2)
    .exact h
   |some m=>
    obtain⟨j,w⟩:=m;rw[g]at h;simp only[]at h;split at h
    .exact PW rfl g ⟨h.1,‹_›⟩ (xZ h.2)
    .cases k:E3 o.op<;>rw[k]at h
     .exact Ab.QN rfl g ⟨‹_›,h.1⟩ (xZ h.2)
     .exact h
    .exact h.elim
theorem xO(h:EY P n ops o tm S/\AS P n b ops rest (put tm o.dst (Dm P ops o tm S)) (oS P o tm S) K):AS P n b ops (o::rest) tm S K:=Cc h.1 h.2
def xU:Nat->List (Nat×(Sg->Prop))->List Bool
 |_,[]=>[]
 |k,_::l=>(k % 2!=0)::xU (k / 2) l
def uY(S S':Sg):Nat->List (Nat×(Sg->Prop))->Prop
 |_,[]=>True
 |k,p::l=>(k % 2=0->p.2 S->p.2 S')/\uY S S' (k / 2) l
def Ni:Nat->List (Nat×(Sg->Prop))->List (Nat×(Sg->Prop))
 |_,[]=>[]
 |k,p::l=>if k % 2=0 then p::Ni (k / 2) l else Ni (k / 2) l
theorem Wy:∀{k:Nat} {B:List (Nat×(Sg->Prop))},uY S S' k B->okB (xU k B) B S S'
 |_,[],_=>by simp[xU,okB]
 |k,p::l,h=>⟨λe=>h.1 (by simpa using e),Wy h.2⟩
theorem P4:∀(k:Nat) (B:List (Nat×(Sg->Prop))),FL (xU k B) B=Ni k B
 |_,[]=>by simp[xU,FL,Ni]
 |k,p::l=>by
  unfold xU FL Ni;rw[P4];by_cases h:k % 2=0
  .simp[h]
  .have:k % 2=1:=by omega
   simp[this]
theorem xX(k:Nat)(g:B.map (λp=>waits ops i p.1)=xU k B)(h:(EY P n ops o tm S/\uY S (oS P o tm S) k B)/\Ab P n b ops (Ni k B) restA (put tm o.dst (Dm P ops o tm S)) (oS P o tm S) K):
  Ab P n b ops B ((i,ap,o)::restA) tm S K:=xr _ g ⟨h.1.1,Wy h.1.2⟩ (by rw[P4];exact h.2)
theorem xF{c:Call}{f:eN}{g:List V}(h:AG P f g S0 v S0')(rs:List Nat)(k:o.op=.call c)
  (j:(o.guard=none/\A6 n o.dst/\BB tm c/\Cr tm c f g rs/\FC S S0 rs/\Z rs<=Z S0'/\g.all (AJ (Z rs))=J)/\AS P n b ops rest (put tm o.dst (BW (FN (nameOf rs) (Z rs) (Z S)) v)) (Dk S S0' rs) K):AS P n b ops (o::rest) tm S K:=AS.E0 h rs k j.1 j.2
theorem xY{c:Call}{f:eN}{args:List V}(h:AG P f args S0 v S0')(T:Sg)(hS:S=S0++T)(j:o.op=.call c)
  (g:(o.guard=none/\A6 n o.dst/\BB tm c/\FP tm c f args/\Z S0'=Z S0/\S0.all (Ao (Z S0))=J/\S0'.all (Ao (Z S0))=J/\args.all (AJ (Z S0))=J/\AJ (Z S0) v=J)/\AS P n b ops rest (put tm o.dst v) (S0'++T) K):AS P n b ops (o::rest) tm S K:=AS.Oq T h hS j g.1 g.2
theorem xL{c:Call}{f:eN}{args:List V}(k:Nat)(T:Sg)(h:AG P f args S0 v S0')(g:B.map (λp=>waits ops i p.1)=xU k B)(hS:S=S0++T)(q:o.op=.call c)
  (u:(o.guard=none/\A6 n o.dst/\BB tm c/\FP tm c f args/\Z S0'=Z S0/\S0.all (Ao (Z S0))=J/\S0'.all (Ao (Z S0))=J/\args.all (AJ (Z S0))=J/\AJ (Z S0) v=J/\uY S (S0'++T) k B)/\Ab P n b ops (Ni k B) restA (put tm o.dst v) (S0'++T) K):Ab P n b ops B ((i,ap,o)::restA) tm S K:=by
 obtain⟨⟨w,A,C,E,F,G,H,L,M,j⟩,m⟩:=u;exact Ab.Oq _ T h g hS q ⟨w,A,C,E,F,G,H,L,M,Wy j⟩ (by rw[P4];exact m)
end
attribute [simp] E3 mZ aD ax aC xU uY Ni
def UQ(_:Code)(_:Exit->Tm->Sg->Prop):Type:=Unit
def HW(P:cP)(n b:Nat)(y:Code)(Q:Exit->Tm->Sg->Prop)(_:UQ y Q)(tm:Tm)(S:Sg):Prop:=AW P n b y Q tm S
def UE(_:Exit->Tm->Sg->Prop):Type:=Unit
def HQ(Q:Exit->Tm->Sg->Prop)(_:UE Q)(e:Exit)(tm:Tm)(S:Sg):Prop:=Q e tm S
section
variable {P:cP} {n b:Nat} {o:dl} {tm tm':Tm} {S S0 S0' S':Sg} {v:V} {ops:Array dl} {K:Tm->Sg->Prop} {Q:Exit->Tm->Sg->Prop} {B:List (Nat×(Sg->Prop))} {i:Nat} {rest:List dl} {restA:List (Nat×Bool×dl)}
theorem yT{id:Nat}(h:AS P n b ops ops.toList tm S (HQ Q () .normal)):AW P n b (.region id ops ap) Q tm S:=AW.region h
theorem yS{id:Nat}{y:Code}(h:AS P n b ops ops.toList tm S (HW P n b y Q ())):AW P n b (.seq (.region id ops ap) y) Q tm S:=xS (AW.region h)
theorem yV{id:Nat}(h:xR P n ops (HQ Q () .normal) ops.toList tm S):AW P n b (.region id ops ap) Q tm S:=yT (Um h)
theorem yW{id:Nat}{y:Code}(h:xR P n ops (HW P n b y Q ()) ops.toList tm S):AW P n b (.seq (.region id ops ap) y) Q tm S:=yS (Um h)
theorem yE{id:Nat}(l:List Nat)(g:(P.follows .mixedOrders&&(Z (xP l)==ops.size&&(Ed ops (xP l) (Bk ops.size ap)&&(xP l).all λp=>decide (p.1<ops.size))))=J)
  (h:Ab P n b ops [] (Em ops (xP l)) tm S (HQ Q () .normal)):AW P n b (.region id ops J) Q tm S:=by
 simp only[cF,acV]at g;exact AW.YP (xP l) g.1 g.2.1 g.2.2.1 g.2.2.2 h
theorem yD{id:Nat}{y:Code}(l:List Nat)(g:(P.follows .mixedOrders&&(Z (xP l)==ops.size&&(Ed ops (xP l) (Bk ops.size ap)&&(xP l).all λp=>decide (p.1<ops.size))))=J)
  (h:Ab P n b ops [] (Em ops (xP l)) tm S (HW P n b y Q ())):AW P n b (.seq (.region id ops J) y) Q tm S:=xS (yE l g h)
def wF(P:cP)(n b:Nat)(ops:Array dl)(K:Tm->Sg->Prop):List dl->Tm->Sg->Prop
 |[],tm,S=>K tm S
 |o::l,tm,S=>match E3 o.op with
  |true=>AS P n b ops (o::l) tm S K
  |false=>EY P n ops o tm S/\wF P n b ops K l (put tm o.dst (Dm P ops o tm S)) (oS P o tm S)
theorem yJ:∀{l:List dl} {tm:Tm} {S:Sg},wF P n b ops K l tm S->AS P n b ops l tm S K
 |[],_,_,h=>BY h
 |o::l,_,_,h=>by
  unfold wF at h;cases g:E3 o.op<;>rw[g]at h
  .exact Cc h.1 (yJ h.2)
  .exact h
def tX(P:cP)(n b:Nat)(ops:Array dl)(K:Tm->Sg->Prop):List dl->Tm->Sg->Prop
 |[],tm,S=>K tm S
 |o::l,tm,S=>match o.guard with
  |none=>(match E3 o.op with
   |true=>AS P n b ops (o::l) tm S K
   |false=>EY P n ops o tm S/\tX P n b ops K l (put tm o.dst (Dm P ops o tm S)) (oS P o tm S))
  |some (j,w)=>(match CW ops tm j w with
   |some ap=>A6 n o.dst/\tX P n b ops K l (put tm o.dst (.opt ap (.d (.bool ap)))) S
   |some J=>(match E3 o.op with
    |true=>AS P n b ops (o::l) tm S K
    |false=>(A6 n o.dst/\BX P o.op tm S)/\tX P n b ops K l (put tm o.dst (Bc P o.op tm S)) (C2 P o.op tm S))
   |none=>False)
theorem yH:∀{l:List dl} {tm:Tm} {S:Sg},tX P n b ops K l tm S->AS P n b ops l tm S K
 |[],_,_,h=>BY h
 |o::l,tm,_,h=>by
  unfold tX at h;cases g:o.guard with
  |none=>
   rw[g]at h;simp only[]at h;cases k:E3 o.op<;>rw[k]at h
   .exact Cc h.1 (yH h.2)
   .exact h
  |some m=>
   obtain⟨j,w⟩:=m;rw[g]at h;simp only[]at h;split at h
   .exact FI g ⟨h.1,‹_›⟩ (yH h.2)
   .cases k:E3 o.op<;>rw[k]at h
    .exact Pe g ⟨‹_›,h.1.1,h.1.2⟩ (yH h.2)
    .exact h
   .exact h.elim
def uG(k:Nat)(P:cP)(n b:Nat)(ops:Array dl)(K:Tm->Sg->Prop):List (Nat×Bool×dl)->List (Nat×(Sg->Prop))->Tm->Sg->Prop
 |[],_,tm,S=>K tm S
 |(i,q,o)::l,B,tm,S=>match q&&!E3 o.op with
  |false=>Ab P n b ops B ((i,q,o)::l) tm S K
  |true=>match k with
   |0=>(EY P n ops o tm S/\oS P o tm S=S)/\uG k P n b ops K l ((i,λS'=>S'=S)::B) (put tm o.dst (Dm P ops o tm S)) S
   |1=>(EY P n ops o tm S/\oS P o tm S=S)/\uG k P n b ops K l ((i,AY P n ops o tm (Dm P ops o tm S))::B) (put tm o.dst (Dm P ops o tm S)) S
   |_=>(o.guard=none/\(ON o.op tm).isSome=J/\EY P n ops o tm S)/\uG k P n b ops K l ((i,Xy (ON o.op tm) S)::B) (put tm o.dst (Dm P ops o tm S)) S
theorem yA(k:Nat):∀{l:List (Nat×Bool×dl)} {B:List (Nat×(Sg->Prop))} {tm:Tm} {S:Sg},uG k P n b ops K l B tm S->Ab P n b ops B l tm S K
 |[],_,_,_,h=>xM h
 |(i,q,o)::l,_,_,_,h=>by
  unfold uG at h;split at h
  .exact h
  .rename_i g;simp only[cF]at g;obtain⟨rfl,-⟩:=g;split at h
   .exact Hs h.1 (yA _ h.2)
   .exact xG h.1 (yA _ h.2)
   .exact Ab.qI h.1 (yA _ h.2)
def uQ(P:cP)(n b:Nat)(ops:Array dl)(K:Tm->Sg->Prop):List (Nat×Bool×dl)->List (Nat×(Sg->Prop))->Tm->Sg->Prop
 |[],_,tm,S=>K tm S
 |(i,q,o)::l,B,tm,S=>match q with
  |false=>Ab P n b ops B ((i,q,o)::l) tm S K
  |true=>match o.guard with
   |none=>(match E3 o.op with
    |true=>Ab P n b ops B ((i,q,o)::l) tm S K
    |false=>(EY P n ops o tm S/\oS P o tm S=S)/\uQ P n b ops K l ((i,λS'=>S'=S)::B) (put tm o.dst (Dm P ops o tm S)) S)
   |some (j,w)=>(match CW ops tm j w with
    |some ap=>A6 n o.dst/\uQ P n b ops K l ((i,λ_=>True)::B) (put tm o.dst (.opt ap (.d (.bool ap)))) S
    |some J=>(match E3 o.op with
     |true=>Ab P n b ops B ((i,q,o)::l) tm S K
     |false=>(A6 n o.dst/\BX P o.op tm S/\C2 P o.op tm S=S)/\uQ P n b ops K l ((i,λS'=>S'=S)::B) (put tm o.dst (Bc P o.op tm S)) S)
    |none=>False)
theorem yZ:∀{l:List (Nat×Bool×dl)} {B:List (Nat×(Sg->Prop))} {tm:Tm} {S:Sg},uQ P n b ops K l B tm S->Ab P n b ops B l tm S K
 |[],_,_,_,h=>xM h
 |(i,q,o)::l,_,tm,_,h=>by
  unfold uQ at h;cases q with
  |false=>exact h
  |true=>
   simp only[]at h;cases g:o.guard with
   |none=>
    rw[g]at h;simp only[]at h;cases k:E3 o.op<;>rw[k]at h
    .exact Hs h.1 (yZ h.2)
    .exact h
   |some m=>
    obtain⟨j,w⟩:=m;rw[g]at h;simp only[]at h;split at h
    .exact PW rfl g ⟨h.1,‹_›⟩ (yZ h.2)
    .cases k:E3 o.op<;>rw[k]at h
     .exact Ab.QN rfl g ⟨‹_›,h.1⟩ (yZ h.2)
     .exact h
    .exact h.elim
theorem yQ{next:Tm->Sg->Prop}{i j:Nat}{y:Code}{g:Exit->Tm->Sg->Prop}:HQ (B5 (AW P n b y Q) g) () .normal tm S=HW P n b y Q () tm S/\HQ (B5 next Q) () .normal tm S=next tm S/\HQ (A2 i Q) () .normal tm S=HQ Q () .normal tm S/\B5 (AW P n b y Q) g .normal tm S=HW P n b y Q () tm S/\B5 next Q .normal tm S=next tm S/\B5 next Q .ret tm S=Q .ret tm S/\B5 next Q (.exit i) tm S=Q (.exit i) tm S/\A2 i Q .normal tm S=Q .normal tm S/\A2 i Q .ret tm S=Q .ret tm S/\A2 i Q (.exit j) tm S=if j=i then Q .normal tm S else Q (.exit j) tm S:=⟨rfl,rfl,rfl,rfl,rfl,rfl,rfl,rfl,rfl,rfl⟩
def zQ(fn:Func)(n k:Nat):Bool×Bool×Option Code×Nat:=(fn.name== "runtime.NumGoroutine",decide<|k<=n,fn.body,fn.ntmps)
theorem Xm{fn:Func}{n k:Nat}{c:Code}(h:zQ fn n k=(ap,J,am c,n)):(fn.name== "runtime.NumGoroutine")=ap/\k<=n/\fn.body=am c/\fn.ntmps=n:=by
 simp only[zQ,ac7,fc]at h;exact h
theorem zP{f:eN}{c:Code}{ds:List D}{d:D}{fn:Func}(g:P.funcs[f]?=am fn)(n:Nat)(j:zQ fn n (Z ds)=(ap,J,am c,n))(h:Bm ds->AW P n 0 c (nq P n fn.results.toList d) (ER (ds.map .d)) []):Pure P f ds d:=by
 obtain⟨k,m,q,rfl⟩:=Xm j;exact hW g k q m h
theorem zC{f:eN}{c:Code}{args:List V}{fn:Func}(g:P.funcs[f]?=am fn)(n:Nat)(j:zQ fn n (Z args)=(ap,J,am c,n))(h:Gk args->LZ S->AW P n (Z S) c (qT P n (Z S) fn.results.toList v S') (ER args) S):AG P f args S v S':=by
 obtain⟨k,m,q,rfl⟩:=Xm j;exact oF g k q m h
theorem zD{f:eN}{c:Code}{args:List V}{d:D}{fn:Func}(g:P.funcs[f]?=am fn)(n:Nat)(j:zQ fn n (Z args)=(ap,J,am c,n))(h:Gk args->LZ S->AW P n (Z S) c (Vh P n (Z S) fn.results.toList d S') (ER args) S):AG P f args S (.d d) S':=by
 obtain⟨k,m,q,rfl⟩:=Xm j;exact AG.Gp g k q m h
theorem zR{f:eN}{c:Code}{args:List V}{R:V->Sg->Prop}{fn:Func}(g:P.funcs[f]?=am fn)(n:Nat)(j:zQ fn n (Z args)=(ap,J,am c,n))(h:Gk args->LZ S->AW P n (Z S) c (Rq P n (Z S) fn.results.toList R) (ER args) S):BH P f args S R:=by
 obtain⟨k,m,q,rfl⟩:=Xm j;exact BH.Aw g k q m h
theorem zT{rs:List ResultVar}{d:D}(h:Ix P tm S rs/\BO S (Kg P tm S rs)=am d):AW P n b .ret (nq P n rs d) tm S:=Aj ⟨_,_,λG w _ st _=>⟨G,st,tv G S w,aev (er _)⟩,h⟩
theorem zL{c:Code}(N:Nat)(Inv:Nat->Tm->Sg->Prop)(h0:Inv 0 tm S)
  (j:∀i tm S,i<=N->Inv i tm S->AW P n b c (B5 (λtm' S'=>i<N/\∃g h,AI P n b tm' S' g h/\Inv (i+1) g h) Q) tm S):AW P n b (.loop c) Q tm S:=FO N Inv (er _) h0 j
end
attribute [simp] wF tX uG uQ
structure Ai where
 var:Int
 low:Int
 high:Int
 deriving DecidableEq
structure AL where
 nodes:List Ai
 root:Int
 deriving DecidableEq
structure Symbol where
 token:Bool
 index:Int
 deriving DecidableEq
structure Fl where
 kind:Int
 a:Int
 b:Int
 deriving DecidableEq
structure A8 where
 kind:Int
 lo:Int
 hi:Int
 a:Int
 b:Int
 deriving DecidableEq
structure Scope where
 opens:Bool
 declares:Int
 kind:Int
 Fh:Int
 allowed:Int
 deriving DecidableEq
structure Token where
 name:ByteArray
 cls:Int
 literal:ByteArray
 pattern:List A8
 C6:ByteArray
 cond:AL
 deriving DecidableEq
structure AO where
 name:ByteArray
 left:Int
 right:List Symbol
 cond:AL
 bracket:Bool
 EB:Int
 layout:List Fl
 scope:Scope
 deriving DecidableEq
structure Level where
 AD:List Int
 assoc:Int
 cond:AL
 deriving DecidableEq
structure Filter where
 kind:Int
 parent:Int
 at_:Int
 child:Int
 left:Int
 token:Int
 tokens:List Int
 cond:AL
 deriving DecidableEq
structure AE where
 conds:List ByteArray
 fam:AL
 AT:List Token
 A0:List ByteArray
 AD:List AO
 start:Int
 levels:List Level
 AR:List Filter
 deriving DecidableEq
structure C9 where
 hole:Int
 prod:Int
 token:Int
 text:ByteArray
 deriving DecidableEq
structure Rewrite where
 prod:Int
 at_:Int
 child:Int
 BI:List C9
 deriving DecidableEq
structure AZ where
 kind:Int
 number:Int
 at_:Int
 to:Int
 name:ByteArray
 value:Bool
 cond:AL
 levels:List Level
 AR:List Filter
 token:Token
 prod:AO
 BI:List C9
 deriving DecidableEq
end Go.Koi
open Go.Koi.D renaming int->br
namespace Go.Koi
inductive DT where
 |leaf (b:Bool)
 |node (v:Int) (lo hi:DT)
 deriving DecidableEq
namespace DT
def level:DT->Int|leaf _=>64|node v _ _=>v
def size:DT->Nat|leaf _=>0|node _ l h=>l.size+h.size+1
def CG:DT->(Int->Bool)->Bool|leaf b,_=>b|node v l h,c=>if c v then h.CG c else l.CG c
def Good:DT->Prop|leaf _=>True|node v l h=>0<=v/\v<=63/\l≠h/\v<l.level/\v<h.level/\l.Good/\h.Good
def lo(v:Int):DT->DT|leaf b=>leaf b|node w l h=>if w=v then l else node w l h
def hi(v:Int):DT->DT|leaf b=>leaf b|node w l h=>if w=v then h else node w l h
def mk(v:Int)(l h:DT):DT:=if l=h then l else node v l h
def Fk(c:Int->Bool)(v:Int)(b:Bool):Int->Bool:=λw=>if w=v then b else c w
theorem Pc{t:DT}(h:t.Good):t.level<=64:=by
 cases t with
 |leaf=>exact q6 _
 |node v l r=>simp[Good]at h;simp[level];omega
theorem OZ{t:DT}(h:t.Good){v:Int}(j:v<t.level)(c:Int->Bool)(b:Bool):t.CG (Fk c v b)=t.CG c:=by
 induction t with
 |leaf=>rfl
 |node w l r g i=>
  obtain⟨h0,q,u,A,B,k,m⟩:=h;simp[level]at j;have o:Fk c v b w=c w:=by simp[Fk];omega
  simp[CG,o];rw[g k (by omega),i m (by omega)]
theorem MZ{t:DT}(h:t.Good)(v:Int):(t.lo v).Good:=by
 cases t with
 |leaf=>trivial
 |node w l r=>simp[lo];split;exact h.2.2.2.2.2.1;exact h
theorem Mi{t:DT}(h:t.Good)(v:Int):(t.hi v).Good:=by
 cases t with
 |leaf=>trivial
 |node w l r=>simp[hi];split;exact h.2.2.2.2.2.2;exact h
theorem Ov{t:DT}(h:t.Good){v:Int}(g:v<=t.level)(i:v<=63):v<(t.lo v).level:=by
 cases t with
 |leaf=>simp[lo,level];omega
 |node w l r=>
  obtain⟨h0,j,k,m,o,q,u⟩:=h;simp[level]at g;simp[lo];split
  .omega
  .simp[level];omega
theorem PE{t:DT}(h:t.Good){v:Int}(g:v<=t.level)(i:v<=63):v<(t.hi v).level:=by
 cases t with
 |leaf=>simp[hi,level];omega
 |node w l r=>
  obtain⟨h0,j,k,m,o,q,u⟩:=h;simp[level]at g;simp[hi];split
  .omega
  .simp[level];omega
theorem Wr{t:DT}(h:t.Good){v:Int}(g:v<=t.level)(c:Int->Bool):(t.lo v).CG c=t.CG (Fk c v false):=by
 cases t with
 |leaf=>rfl
 |node w l r=>
  have i:=h;obtain⟨h0,m,o,j,q,k,u⟩:=h;simp[level]at g;simp[lo];split
  .next e=>subst e;simp[CG,Fk];exact(OZ k j c false).symm
  .exact(OZ i (by simp[level];omega) c false).symm
theorem WE{t:DT}(h:t.Good){v:Int}(g:v<=t.level)(c:Int->Bool):(t.hi v).CG c=t.CG (Fk c v true):=by
 cases t with
 |leaf=>rfl
 |node w l r=>
  have i:=h;obtain⟨h0,m,o,q,j,u,k⟩:=h;simp[level]at g;simp[hi];split
  .next e=>subst e;simp[CG,Fk];exact(OZ k j c true).symm
  .exact(OZ i (by simp[level];omega) c true).symm
theorem RD{t:DT}(v:Int)(c:Int->Bool):t.CG c=if c v then(t.hi v).CG c else(t.lo v).CG c:=by
 cases t with
 |leaf=>simp[CG,lo,hi]
 |node w l r=>
  by_cases e:w=v
  .subst e;simp[lo,hi,CG]
  .simp[lo,hi,e]
theorem rL(v:Int)(l h:DT)(c:Int->Bool):(mk v l h).CG c=if c v then h.CG c else l.CG c:=by
 unfold mk;split
 .next e=>subst e;simp
 .rfl
theorem wU{v:Int}{l h:DT}(h0:0<=v)(i:v<=63)(g:l.Good)(j:h.Good)(k:v<l.level)(m:v<h.level):(mk v l h).Good:=by
 unfold mk;split
 .exact g
 .next e=>exact⟨h0,i,e,k,m,g,j⟩
theorem fO{v:Int}{l h:DT}(g:v<l.level):v<=(mk v l h).level:=by
 unfold mk;split
 .omega
 .exact q6 _
theorem Lg(t:DT)(v:Int):(t.lo v).size<=t.size:=by
 cases t with
 |leaf=>exact c9 _
 |node w l r=>simp[lo];split<;>simp[size];omega
theorem L7(t:DT)(v:Int):(t.hi v).size<=t.size:=by
 cases t with
 |leaf=>exact c9 _
 |node w l r=>simp[hi];split<;>simp[size];omega
theorem HS{t:DT}{v:Int}(h:t.level=v)(g:v≠64):(t.lo v).size<t.size:=by
 cases t with
 |leaf=>exact absurd h.symm g
 |node w l r=>simp[level]at h;simp[lo,h,size];omega
theorem HO{t:DT}{v:Int}(h:t.level=v)(g:v≠64):(t.hi v).size<t.size:=by
 cases t with
 |leaf=>exact absurd h.symm g
 |node w l r=>simp[level]at h;simp[hi,h,size];omega
theorem Dx{t:DT}(h:t.size=0):∃b,t=leaf b:=by
 cases t with
 |leaf b=>exact⟨b,rfl⟩
 |node=>simp[size]at h
theorem FV{t:DT}(g:t.Good)(h:t.size≠0):0<=t.level/\t.level<=63:=by
 cases t with
 |leaf b=>exact absurd rfl h
 |node v l r=>exact⟨g.1,g.2.1⟩
theorem Rr{t:DT}{v:Int}(h:t.level≠v):t.lo v=t:=by
 cases t with
 |leaf=>rfl
 |node w l r=>simp[level]at h;simp[lo,h]
theorem SK{t:DT}{v:Int}(h:t.level≠v):t.hi v=t:=by
 cases t with
 |leaf=>rfl
 |node w l r=>simp[level]at h;simp[hi,h]
theorem XI(n:Nat):∀s t:DT,s.size+t.size<=n->s.Good->t.Good->(∀c,s.CG c=t.CG c)->s=t:=by
 induction n with
 |zero=>
  intro s t N k j h;obtain⟨a,rfl⟩:=Dx (t:=s) (by omega);obtain⟨b,rfl⟩:=Dx (t:=t) (by omega);have:=h λ_=>false;simp[CG]at this;rw[this]
 |succ n G=>
  intro s t N k j h;by_cases E:s.size=0/\t.size=0
  .obtain⟨a,rfl⟩:=Dx E.1;obtain⟨b,rfl⟩:=Dx E.2;have:=h λ_=>false;simp[CG]at this;rw[this]
  have H:∃v:Int,v=min s.level t.level/\v<=63/\(s.level=v\/t.level=v):=by
   refine⟨_,rfl,?_,by omega⟩;by_cases K:s.size=0
   .have:=FV j (λe=>E ⟨K,e⟩);omega
   .have:=FV k K;omega
  obtain⟨v,H,P,u⟩:=H;have A:v<=s.level:=by omega
  have B:v<=t.level:=by omega
  have g:s.lo v=t.lo v:=by
   refine G _ _ ?_ (MZ k v) (MZ j v) λc=>by rw[Wr k A,Wr j B,h]
   have:=Lg s v;have:=Lg t v;rcases u with e|e
   .have:=HS e (by omega);omega
   .have:=HS e (by omega);omega
  have i:s.hi v=t.hi v:=by
   refine G _ _ ?_ (Mi k v) (Mi j v) λc=>by rw[WE k A,WE j B,h]
   have:=L7 s v;have:=L7 t v;rcases u with e|e
   .have:=HO e (by omega);omega
   .have:=HO e (by omega);omega
  have key:∀x:DT,x.Good->x.level=v->∃l h,x=node v l h/\l≠h/\x.lo v=l/\x.hi v=h:=by
   intro x Q e;cases x with
   |leaf=>simp[level]at e;omega
   |node w l r=>simp[level]at e;subst e;exact⟨l,r,rfl,Q.2.2.1,by simp[lo],by simp[hi]⟩
  by_cases F:s.level=v
  .obtain⟨l,r,R,m,el,L⟩:=key s k F;by_cases C:t.level=v
   .obtain⟨S,T,M,_,o,q⟩:=key t j C;rw[R,M,<-el,<-L,<-o,<-q,g,i]
   .rw[Rr C]at g;rw[SK C]at i;exact absurd (by rw[<-el,<-L,g,i]) m
  .have C:t.level=v:=by omega
   obtain⟨S,T,M,m,o,q⟩:=key t j C;rw[Rr F]at g;rw[SK F]at i;exact absurd (by rw[<-o,<-q,<-g,<-i]) m
theorem unique{s t:DT}(g:s.Good)(i:t.Good)(h:∀c,s.CG c=t.CG c):s=t:=XI _ s t (c9 _) g i h
end DT
open DT
def Bf(N:List Ai):DT->Int->Prop
 |.leaf b,n=>n=if b then 1 else 0
 |.node v s t,n=>∃k:Nat,n=k+2/\∃lo hi,N[k]?=some ⟨v,lo,hi⟩/\Bf N s lo/\Bf N t hi
theorem Bf.uniq{N:List Ai}:∀{s t:DT} {n:Int},Bf N s n->Bf N t n->s=t:=by
 intro s;induction s with
 |leaf a=>
  intro t n g h;cases t with
  |leaf b=>simp[Bf]at g h;cases a<;>cases b<;>simp_all
  |node v l r=>obtain⟨k,o,_⟩:=h;simp[Bf]at g;split at g<;>omega
 |node v l r i j=>
  intro t n g h;cases t with
  |leaf b=>obtain⟨k,o,_⟩:=g;simp[Bf]at h;split at h<;>omega
  |node w E F=>
   obtain⟨k,o,lo,hi,e,a,b⟩:=g;obtain⟨q,u,A,G,m,B,C⟩:=h;obtain rfl:k=q:=by omega
   rw[e]at m;simp[Ai.mk.injEq]at m;obtain⟨rfl,rfl,rfl⟩:=m;rw[i a B,j b C]
theorem Bf.inj{N:List Ai}(o:N.Nodup):∀{t:DT} {n m:Int},Bf N t n->Bf N t m->n=m:=by
 intro t;induction t with
 |leaf a=>intro n m g h;simp[Bf]at g h;rw[g,h]
 |node v l r i j=>
  intro n m g h;obtain⟨k,E,lo,hi,e,a,b⟩:=g;obtain⟨q,u,w,F,A,B,C⟩:=h;obtain rfl:=i a B;obtain rfl:=j b C;obtain⟨G,g⟩:=gq.1 e;obtain⟨H,h⟩:=gq.1 A;have:k=q:=(List.getElem_inj o).1 (g.trans h.symm);omega
theorem Bf.mono{N:List Ai}(M:List Ai):∀{t:DT} {n:Int},Bf N t n->Bf (N++M) t n:=by
 intro t;induction t with
 |leaf a=>intro n h;exact h
 |node v l r g i=>
  intro n h;obtain⟨k,j,lo,hi,e,a,b⟩:=h;refine⟨k,j,lo,hi,?_,g a,i b⟩;obtain⟨m,o⟩:=gq.1 e;rw[io m];exact e
theorem Bf.range{N:List Ai}{t:DT}{n:Int}(h:Bf N t n):0<=n/\n<Z N+2:=by
 cases t with
 |leaf b=>simp[Bf]at h;cases b<;>simp at h<;>omega
 |node v l r=>
  obtain⟨k,g,lo,hi,e,a,b⟩:=h;obtain⟨i,j⟩:=gq.1 e;omega
theorem Bf.FQ{N:List Ai}{t:DT}{n:Int}(h:Bf N t n):n<2↔∃b,t=.leaf b:=by
 cases t with
 |leaf b=>simp[Bf]at h;cases b<;>simp at h<;>simp[h]
 |node v l r=>
  obtain⟨k,g,lo,hi,e,a,b⟩:=h;constructor
  .intro;omega
  .rintro⟨b,hb⟩;exact absurd hb (by simp)
theorem Bf.zero{N:List Ai}{t:DT}(h:Bf N t 0):t=.leaf false:=h.uniq (by simp[Bf])
theorem Bf.one{N:List Ai}{t:DT}(h:Bf N t 1):t=.leaf true:=h.uniq (by simp[Bf])
structure Pn(N:List Ai):Prop where
 nodup:N.Nodup
 all:∀k,k<Z N->∃t,t.Good/\Bf N t (k+2)
theorem Pn.nil:Pn []:=⟨ac0,λ_ h=>absurd h (by simp)⟩
theorem Pn.get{N:List Ai}(h:Pn N){n:Int}(h0:0<=n)(i:n<Z N+2):∃t,t.Good/\Bf N t n:=by
 by_cases e0:n=0
 .subst e0;exact⟨.leaf false,trivial,by simp[Bf]⟩
 by_cases g:n=1
 .subst g;exact⟨.leaf true,trivial,by simp[Bf]⟩
 have:=h.all (n - 2).toNat (by omega);rwa [show(((n - 2).toNat:Int)+2)=n by omega]at this
theorem Pn.snoc{N:List Ai}(h:Pn N){v lo hi:Int}{s t:DT}(h0:0<=v)(o:v<=63)(q:s.Good)(w:t.Good)(A:v<s.level)(lt:v<t.level)
  (rs:Bf N s lo) (i:Bf N t hi) (B:lo≠hi) (g:⟨v,lo,hi⟩∉N):Pn (N++[⟨v,lo,hi⟩])/\Bf (N++[⟨v,lo,hi⟩]) (.node v s t) (Z N+2)/\(DT.node v s t).Good:=by
 have C:s≠t:=λe=>by subst e;exact B (rs.inj h.nodup i)
 have j:Bf (N++[⟨v,lo,hi⟩]) (.node v s t) (Z N+2):=⟨Z N,rfl,lo,hi,by simp,rs.mono _,i.mono _⟩;have m:(DT.node v s t).Good:=⟨h0,o,C,A,lt,q,w⟩;refine⟨⟨?_,λk E=>?_⟩,j,m⟩
 .rw[Ks];refine⟨h.nodup,by simp,?_⟩;intro a ha b hb e;simp at hb;subst e;subst hb;exact g ha
 .simp at E;by_cases e:k=Z N
  .subst e;exact⟨_,m,j⟩
  .obtain⟨u,F,G⟩:=h.all k (by omega);exact⟨u,F,G.mono _⟩
def emit:DT->List DT->List DT
 |.leaf _,L=>L
 |.node v l h,L=>if DT.node v l h∈L then L else emit h (emit l L)++[.node v l h]
def num(L:List DT):DT->Int
 |.leaf b=>if b then 1 else 0
 |t=>L.idxOf t+2
def ar(L:List DT):DT->Ai
 |.leaf _=>⟨0,0,0⟩
 |.node v l h=>⟨v,num L l,num L h⟩
def HE(L:List DT)(t:DT):Prop:=(∃b,t=.leaf b)\/t∈L
def IA(L:List DT):Prop:=∀v l h,DT.node v l h∈L->HE L l/\HE L h
def kz(L:List DT)(t:DT):AL:=⟨L.map (ar L),num L t⟩
def Ce(t:DT):AL:=kz (emit t []) t
theorem HE.mono{L:List DT}{t:DT}(h:HE L t)(M:List DT):HE (L++M) t:=by
 rcases h with h|h
 .exact .inl h
 .exact .inr (acj _ h)
theorem N7(t:DT):∀L,∃M,emit t L=L++M:=by
 induction t with
 |leaf b=>intro L;exact⟨[],by simp[emit]⟩
 |node v l h g i=>
  intro L;unfold emit;split
  .exact⟨[],by simp⟩
  .obtain⟨j,k⟩:=g L;obtain⟨m,o⟩:=i (emit l L);exact⟨j++m++[.node v l h],by rw[o,k];simp⟩
theorem H6(t:DT)(L:List DT):HE (emit t L) t:=by
 cases t with
 |leaf b=>exact .inl ⟨b,rfl⟩
 |node v l h=>
  unfold emit;split
  .next h=>exact .inr h
  .exact .inr (by simp)
theorem Mt{L:List DT}{s:DT}(t:DT)(h:HE L s):HE (emit t L) s:=by
 obtain⟨M,e⟩:=N7 t L;rw[e];exact h.mono M
theorem J3(t:DT):∀L,IA L->IA (emit t L):=by
 induction t with
 |leaf b=>intro L h;exact h
 |node v l h i j=>
  intro L k;unfold emit;split
  .exact k
  .have m:=j _ (i L k);intro w a b g;rcases fi.1 g with g|g
   .have:=m w a b g;exact⟨this.1.mono _,this.2.mono _⟩
   .simp[DT.node.injEq]at g;obtain⟨rfl,rfl,rfl⟩:=g;exact⟨(Mt b (H6 a L)).mono _,(H6 b _).mono _⟩
theorem GJ{L:List DT}{t:DT}(h:HE L t)(M:List DT):num (L++M) t=num L t:=by
 cases t with
 |leaf b=>rfl
 |node v l r=>
  rcases h with⟨b,hb⟩|h
  .exact absurd hb (by simp)
  .simp[num];rw[List.idxOf_append,ca h]
theorem XH{L:List DT}(g:IA L){t:DT}(h:t∈L)(M:List DT):ar (L++M) t=ar L t:=by
 cases t with
 |leaf b=>rfl
 |node v l r=>have:=g v l r h;simp only[ar];rw[GJ this.1,GJ this.2]
theorem Mz{L:List DT}{t:DT}(h:HE L t):0<=num L t/\num L t<Z L+2:=by
 cases t with
 |leaf b=>simp[num];cases b<;>simp<;>omega
 |node v l r=>
  rcases h with⟨b,hb⟩|h
  .exact absurd hb (by simp)
  .have:=acP h;simp[num];omega
theorem RQ{L:List DT}(j:IA L):∀{t:DT},HE L t->Bf (L.map (ar L)) t (num L t):=by
 intro t;induction t with
 |leaf b=>intro _;simp[Bf,num]
 |node v l r g i=>
  intro h;rcases h with⟨b,hb⟩|h
  .exact absurd hb (by simp)
  .have hi:=acP h;have:=j v l r h;refine⟨L.idxOf (.node v l r),rfl,num L l,num L r,?_,g this.1,i this.2⟩;rw[abL,ej hi,List.getElem_idxOf hi];rfl
theorem IA.nil:IA []:=λ_ _ _ h=>absurd h (by simp)
theorem Fp(t:DT):Bf (Ce t).nodes t (Ce t).root:=RQ (J3 t [] IA.nil) (H6 t [])
theorem OX{s t:DT}(h:Ce s=Ce t):s=t:=(Fp s).uniq (h▸Fp t)
theorem IZ(b:Bool):Ce (.leaf b)=⟨[],if b then 1 else 0⟩:=rfl
open Go.Proofs
@[simp] def Cu(x:Bool):D:=.bool x
@[simp] def encI(n:Int):D:=.int .i64 n
@[simp] def BQ(s:ByteArray):D:=.str s
@[simp] def BZ(l:List Int):D:=.sl (l.map encI)
@[simp] def By(l:List ByteArray):D:=.sl (l.map BQ)
def AU(x:Ai):D:=.agg [encI x.var,encI x.low,encI x.high]
@[simp] theorem aY(x:Ai):Ae (.d (AU x))=[.d (encI x.var),.d (encI x.low),.d (encI x.high)]:=rfl
@[simp] theorem ZB(x:Ai):Ap (.d (AU x))=true:=rfl
@[simp] theorem fm(x:Ai):Bp (.d (AU x))=false:=rfl
@[simp] theorem Yl(x:Ai):BE (AU x)=[encI x.var,encI x.low,encI x.high]:=rfl
@[simp] theorem cy(x:Ai):CL.oneD (AU x)=true:=rfl
@[simp] theorem lk(x:Ai):DY (AU x)=Bm [encI x.var,encI x.low,encI x.high]:=rfl
@[simp] theorem dL(x y:Ai):CT [br .i64 x.var,br .i64 x.low,br .i64 x.high] [br .i64 y.var,br .i64 y.low,br .i64 y.high]=decide (x=y):=by
 cases x;cases y;rw[gI];simp[CT,DZ]
@[simp] theorem cG(S:Sg)(x:Ai):DS S (.d (AU x))=some [encI x.var,encI x.low,encI x.high]:=rfl
@[simp] def AV(l:List Ai):D:=.sl (l.map AU)
def AB(x:AL):D:=.agg [AV x.nodes,encI x.root]
@[simp] theorem XY(x:AL):Ae (.d (AB x))=[.d (AV x.nodes),.d (encI x.root)]:=rfl
@[simp] theorem Xq(x:AL):Ap (.d (AB x))=true:=rfl
@[simp] theorem bm(x:AL):Bp (.d (AB x))=false:=rfl
@[simp] theorem Xk(x:AL):BE (AB x)=[AV x.nodes,encI x.root]:=rfl
@[simp] theorem bz(x:AL):CL.oneD (AB x)=true:=rfl
@[simp] theorem kY(x:AL):DY (AB x)=Bm [AV x.nodes,encI x.root]:=rfl
@[simp] theorem aF(S:Sg)(x:AL):DS S (.d (AB x))=some [AV x.nodes,encI x.root]:=rfl
def AH(x:Symbol):D:=.agg [Cu x.token,encI x.index]
@[simp] theorem ZU(x:Symbol):Ae (.d (AH x))=[.d (Cu x.token),.d (encI x.index)]:=rfl
@[simp] theorem ZY(x:Symbol):Ap (.d (AH x))=true:=rfl
@[simp] theorem eP(x:Symbol):Bp (.d (AH x))=false:=rfl
@[simp] theorem Yx(x:Symbol):BE (AH x)=[Cu x.token,encI x.index]:=rfl
@[simp] theorem dN(x:Symbol):CL.oneD (AH x)=true:=rfl
@[simp] theorem lp(x:Symbol):DY (AH x)=Bm [Cu x.token,encI x.index]:=rfl
@[simp] theorem dc(x y:Symbol):CT [D.bool x.token,br .i64 x.index] [D.bool y.token,br .i64 y.index]=decide (x=y):=by
 cases x;cases y;rw[gI];simp[CT,DZ]
@[simp] theorem bq(S:Sg)(x:Symbol):DS S (.d (AH x))=some [Cu x.token,encI x.index]:=rfl
@[simp] def Ax(l:List Symbol):D:=.sl (l.map AH)
def BC(x:Fl):D:=.agg [encI x.kind,encI x.a,encI x.b]
@[simp] theorem Z2(x:Fl):Ae (.d (BC x))=[.d (encI x.kind),.d (encI x.a),.d (encI x.b)]:=rfl
@[simp] theorem Z0(x:Fl):Ap (.d (BC x))=true:=rfl
@[simp] theorem iA(x:Fl):Bp (.d (BC x))=false:=rfl
@[simp] theorem ZT(x:Fl):BE (BC x)=[encI x.kind,encI x.a,encI x.b]:=rfl
@[simp] theorem gM(x:Fl):CL.oneD (BC x)=true:=rfl
@[simp] theorem lQ(x:Fl):DY (BC x)=Bm [encI x.kind,encI x.a,encI x.b]:=rfl
@[simp] theorem dE(x y:Fl):CT [br .i64 x.kind,br .i64 x.a,br .i64 x.b] [br .i64 y.kind,br .i64 y.a,br .i64 y.b]=decide (x=y):=by
 cases x;cases y;rw[gI];simp[CT,DZ]
@[simp] theorem bQ(S:Sg)(x:Fl):DS S (.d (BC x))=some [encI x.kind,encI x.a,encI x.b]:=rfl
@[simp] def CY(l:List Fl):D:=.sl (l.map BC)
def AQ(x:A8):D:=.agg [encI x.kind,encI x.lo,encI x.hi,encI x.a,encI x.b]
@[simp] theorem bW(x:A8):Ae (.d (AQ x))=[.d (encI x.kind),.d (encI x.lo),.d (encI x.hi),.d (encI x.a),.d (encI x.b)]:=rfl
@[simp] theorem cJ(x:A8):Ap (.d (AQ x))=true:=rfl
@[simp] theorem jz(x:A8):Bp (.d (AQ x))=false:=rfl
@[simp] theorem cA(x:A8):BE (AQ x)=[encI x.kind,encI x.lo,encI x.hi,encI x.a,encI x.b]:=rfl
@[simp] theorem kL(x:A8):CL.oneD (AQ x)=true:=rfl
@[simp] theorem oz(x:A8):DY (AQ x)=Bm [encI x.kind,encI x.lo,encI x.hi,encI x.a,encI x.b]:=rfl
@[simp] theorem j9(x y:A8):CT [br .i64 x.kind,br .i64 x.lo,br .i64 x.hi,br .i64 x.a,br .i64 x.b] [br .i64 y.kind,br .i64 y.lo,br .i64 y.hi,br .i64 y.a,br .i64 y.b]=decide (x=y):=by
 cases x;cases y;rw[gI];simp[CT,DZ]
@[simp] theorem fV(S:Sg)(x:A8):DS S (.d (AQ x))=some [encI x.kind,encI x.lo,encI x.hi,encI x.a,encI x.b]:=rfl
@[simp] def Av(l:List A8):D:=.sl (l.map AQ)
def D7(x:Scope):D:=.agg [Cu x.opens,encI x.declares,encI x.kind,encI x.Fh,encI x.allowed]
@[simp] theorem bg(x:Scope):Ae (.d (D7 x))=[.d (Cu x.opens),.d (encI x.declares),.d (encI x.kind),.d (encI x.Fh),.d (encI x.allowed)]:=rfl
@[simp] theorem bX(x:Scope):Ap (.d (D7 x))=true:=rfl
@[simp] theorem kB(x:Scope):Bp (.d (D7 x))=false:=rfl
@[simp] theorem bn(x:Scope):BE (D7 x)=[Cu x.opens,encI x.declares,encI x.kind,encI x.Fh,encI x.allowed]:=rfl
@[simp] theorem ka(x:Scope):CL.oneD (D7 x)=true:=rfl
@[simp] theorem oe(x:Scope):DY (D7 x)=Bm [Cu x.opens,encI x.declares,encI x.kind,encI x.Fh,encI x.allowed]:=rfl
@[simp] theorem QU(x y:Scope):CT [D.bool x.opens,br .i64 x.declares,br .i64 x.kind,br .i64 x.Fh,br .i64 x.allowed] [D.bool y.opens,br .i64 y.declares,br .i64 y.kind,br .i64 y.Fh,br .i64 y.allowed]=decide (x=y):=by
 cases x;cases y;rw[gI];simp[CT,DZ]
@[simp] theorem gF(S:Sg)(x:Scope):DS S (.d (D7 x))=some [Cu x.opens,encI x.declares,encI x.kind,encI x.Fh,encI x.allowed]:=rfl
def AX(x:Token):D:=.agg [BQ x.name,encI x.cls,BQ x.literal,Av x.pattern,BQ x.C6,AV x.cond.nodes,encI x.cond.root]
@[simp] theorem cD(x:Token):Ae (.d (AX x))=[.d (BQ x.name),.d (encI x.cls),.d (BQ x.literal),.d (Av x.pattern),.d (BQ x.C6),.d (AV x.cond.nodes),.d (encI x.cond.root)]:=rfl
@[simp] theorem bT(x:Token):Ap (.d (AX x))=true:=rfl
@[simp] theorem j7(x:Token):Bp (.d (AX x))=false:=rfl
@[simp] theorem cO(x:Token):BE (AX x)=[BQ x.name,encI x.cls,BQ x.literal,Av x.pattern,BQ x.C6,AV x.cond.nodes,encI x.cond.root]:=rfl
@[simp] theorem kX(x:Token):CL.oneD (AX x)=true:=rfl
@[simp] theorem ot(x:Token):DY (AX x)=Bm [BQ x.name,encI x.cls,BQ x.literal,Av x.pattern,BQ x.C6,AV x.cond.nodes,encI x.cond.root]:=rfl
@[simp] theorem db(S:Sg)(x:Token):DS S (.d (AX x))=some [BQ x.name,encI x.cls,BQ x.literal,Av x.pattern,BQ x.C6,AV x.cond.nodes,encI x.cond.root]:=rfl
@[simp] def Cm(l:List Token):D:=.sl (l.map AX)
def AF(x:AO):D:=.agg [BQ x.name,encI x.left,Ax x.right,AV x.cond.nodes,encI x.cond.root,Cu x.bracket,encI x.EB,CY x.layout,Cu x.scope.opens,encI x.scope.declares,encI x.scope.kind,encI x.scope.Fh,encI x.scope.allowed]
@[simp] theorem eQ(x:AO):Ae (.d (AF x))=[.d (BQ x.name),.d (encI x.left),.d (Ax x.right),.d (AV x.cond.nodes),.d (encI x.cond.root),.d (Cu x.bracket),.d (encI x.EB),.d (CY x.layout),.d (Cu x.scope.opens),.d (encI x.scope.declares),.d (encI x.scope.kind),.d (encI x.scope.Fh),.d (encI x.scope.allowed)]:=rfl
@[simp] theorem jB(x:AO):Ap (.d (AF x))=true:=rfl
@[simp] theorem mi(x:AO):Bp (.d (AF x))=false:=rfl
@[simp] theorem jo(x:AO):BE (AF x)=[BQ x.name,encI x.left,Ax x.right,AV x.cond.nodes,encI x.cond.root,Cu x.bracket,encI x.EB,CY x.layout,Cu x.scope.opens,encI x.scope.declares,encI x.scope.kind,encI x.scope.Fh,encI x.scope.allowed]:=rfl
@[simp] theorem lJ(x:AO):CL.oneD (AF x)=true:=rfl
@[simp] theorem sR(x:AO):DY (AF x)=Bm [BQ x.name,encI x.left,Ax x.right,AV x.cond.nodes,encI x.cond.root,Cu x.bracket,encI x.EB,CY x.layout,Cu x.scope.opens,encI x.scope.declares,encI x.scope.kind,encI x.scope.Fh,encI x.scope.allowed]:=rfl
@[simp] theorem kP(S:Sg)(x:AO):DS S (.d (AF x))=some [BQ x.name,encI x.left,Ax x.right,AV x.cond.nodes,encI x.cond.root,Cu x.bracket,encI x.EB,CY x.layout,Cu x.scope.opens,encI x.scope.declares,encI x.scope.kind,encI x.scope.Fh,encI x.scope.allowed]:=rfl
@[simp] def CJ(l:List AO):D:=.sl (l.map AF)
def Af(x:Level):D:=.agg [BZ x.AD,encI x.assoc,AV x.cond.nodes,encI x.cond.root]
@[simp] theorem cC(x:Level):Ae (.d (Af x))=[.d (BZ x.AD),.d (encI x.assoc),.d (AV x.cond.nodes),.d (encI x.cond.root)]:=rfl
@[simp] theorem ba(x:Level):Ap (.d (Af x))=true:=rfl
@[simp] theorem kF(x:Level):Bp (.d (Af x))=false:=rfl
@[simp] theorem bH(x:Level):BE (Af x)=[BZ x.AD,encI x.assoc,AV x.cond.nodes,encI x.cond.root]:=rfl
@[simp] theorem kM(x:Level):CL.oneD (Af x)=true:=rfl
@[simp] theorem pR(x:Level):DY (Af x)=Bm [BZ x.AD,encI x.assoc,AV x.cond.nodes,encI x.cond.root]:=rfl
@[simp] theorem ff(S:Sg)(x:Level):DS S (.d (Af x))=some [BZ x.AD,encI x.assoc,AV x.cond.nodes,encI x.cond.root]:=rfl
@[simp] def Be(l:List Level):D:=.sl (l.map Af)
def AM(x:Filter):D:=.agg [encI x.kind,encI x.parent,encI x.at_,encI x.child,encI x.left,encI x.token,BZ x.tokens,AV x.cond.nodes,encI x.cond.root]
@[simp] theorem Zb(x:Filter):Ae (.d (AM x))=[.d (encI x.kind),.d (encI x.parent),.d (encI x.at_),.d (encI x.child),.d (encI x.left),.d (encI x.token),.d (BZ x.tokens),.d (AV x.cond.nodes),.d (encI x.cond.root)]:=rfl
@[simp] theorem Yk(x:Filter):Ap (.d (AM x))=true:=rfl
@[simp] theorem iQ(x:Filter):Bp (.d (AM x))=false:=rfl
@[simp] theorem aL(x:Filter):BE (AM x)=[encI x.kind,encI x.parent,encI x.at_,encI x.child,encI x.left,encI x.token,BZ x.tokens,AV x.cond.nodes,encI x.cond.root]:=rfl
@[simp] theorem dX(x:Filter):CL.oneD (AM x)=true:=rfl
@[simp] theorem oX(x:Filter):DY (AM x)=Bm [encI x.kind,encI x.parent,encI x.at_,encI x.child,encI x.left,encI x.token,BZ x.tokens,AV x.cond.nodes,encI x.cond.root]:=rfl
@[simp] theorem cB(S:Sg)(x:Filter):DS S (.d (AM x))=some [encI x.kind,encI x.parent,encI x.at_,encI x.child,encI x.left,encI x.token,BZ x.tokens,AV x.cond.nodes,encI x.cond.root]:=rfl
@[simp] def BL(l:List Filter):D:=.sl (l.map AM)
def AA(x:AE):D:=.agg [By x.conds,AV x.fam.nodes,encI x.fam.root,Cm x.AT,By x.A0,CJ x.AD,encI x.start,Be x.levels,BL x.AR]
@[simp] theorem Xo(x:AE):Ae (.d (AA x))=[.d (By x.conds),.d (AV x.fam.nodes),.d (encI x.fam.root),.d (Cm x.AT),.d (By x.A0),.d (CJ x.AD),.d (encI x.start),.d (Be x.levels),.d (BL x.AR)]:=rfl
@[simp] theorem Yd(x:AE):Ap (.d (AA x))=true:=rfl
@[simp] theorem cQ(x:AE):Bp (.d (AA x))=false:=rfl
@[simp] theorem YT(x:AE):BE (AA x)=[By x.conds,AV x.fam.nodes,encI x.fam.root,Cm x.AT,By x.A0,CJ x.AD,encI x.start,Be x.levels,BL x.AR]:=rfl
@[simp] theorem bP(x:AE):CL.oneD (AA x)=true:=rfl
@[simp] theorem kA(x:AE):DY (AA x)=Bm [By x.conds,AV x.fam.nodes,encI x.fam.root,Cm x.AT,By x.A0,CJ x.AD,encI x.start,Be x.levels,BL x.AR]:=rfl
@[simp] theorem Yh(S:Sg)(x:AE):DS S (.d (AA x))=some [By x.conds,AV x.fam.nodes,encI x.fam.root,Cm x.AT,By x.A0,CJ x.AD,encI x.start,Be x.levels,BL x.AR]:=rfl
def A5(x:C9):D:=.agg [encI x.hole,encI x.prod,encI x.token,BQ x.text]
@[simp] theorem bh(x:C9):Ae (.d (A5 x))=[.d (encI x.hole),.d (encI x.prod),.d (encI x.token),.d (BQ x.text)]:=rfl
@[simp] theorem cT(x:C9):Ap (.d (A5 x))=true:=rfl
@[simp] theorem kZ(x:C9):Bp (.d (A5 x))=false:=rfl
@[simp] theorem bZ(x:C9):BE (A5 x)=[encI x.hole,encI x.prod,encI x.token,BQ x.text]:=rfl
@[simp] theorem kV(x:C9):CL.oneD (A5 x)=true:=rfl
@[simp] theorem pA(x:C9):DY (A5 x)=Bm [encI x.hole,encI x.prod,encI x.token,BQ x.text]:=rfl
@[simp] theorem kj(x y:C9):CT [br .i64 x.hole,br .i64 x.prod,br .i64 x.token,D.str x.text] [br .i64 y.hole,br .i64 y.prod,br .i64 y.token,D.str y.text]=decide (x=y):=by
 cases x;cases y;rw[gI];simp[CT,DZ]
@[simp] theorem dj(S:Sg)(x:C9):DS S (.d (A5 x))=some [encI x.hole,encI x.prod,encI x.token,BQ x.text]:=rfl
@[simp] def CQ(l:List C9):D:=.sl (l.map A5)
def Aa(x:Rewrite):D:=.agg [encI x.prod,encI x.at_,encI x.child,CQ x.BI]
@[simp] theorem Ya(x:Rewrite):Ae (.d (Aa x))=[.d (encI x.prod),.d (encI x.at_),.d (encI x.child),.d (CQ x.BI)]:=rfl
@[simp] theorem XQ(x:Rewrite):Ap (.d (Aa x))=true:=rfl
@[simp] theorem bj(x:Rewrite):Bp (.d (Aa x))=false:=rfl
@[simp] theorem YM(x:Rewrite):BE (Aa x)=[encI x.prod,encI x.at_,encI x.child,CQ x.BI]:=rfl
@[simp] theorem bL(x:Rewrite):CL.oneD (Aa x)=true:=rfl
@[simp] theorem km(x:Rewrite):DY (Aa x)=Bm [encI x.prod,encI x.at_,encI x.child,CQ x.BI]:=rfl
@[simp] theorem Y4(S:Sg)(x:Rewrite):DS S (.d (Aa x))=some [encI x.prod,encI x.at_,encI x.child,CQ x.BI]:=rfl
@[simp] def Bb(l:List Rewrite):D:=.sl (l.map Aa)
def Ad(x:AZ):D:=.agg [encI x.kind,encI x.number,encI x.at_,encI x.to,BQ x.name,Cu x.value,AV x.cond.nodes,encI x.cond.root,Be x.levels,BL x.AR,BQ x.token.name,encI x.token.cls,BQ x.token.literal,Av x.token.pattern,BQ x.token.C6,AV x.token.cond.nodes,encI x.token.cond.root,BQ x.prod.name,encI x.prod.left,Ax x.prod.right,AV x.prod.cond.nodes,encI x.prod.cond.root,Cu x.prod.bracket,encI x.prod.EB,CY x.prod.layout,Cu x.prod.scope.opens,encI x.prod.scope.declares,encI x.prod.scope.kind,encI x.prod.scope.Fh,encI x.prod.scope.allowed,CQ x.BI]
@[simp] theorem aX(x:AZ):Ae (.d (Ad x))=[.d (encI x.kind),.d (encI x.number),.d (encI x.at_),.d (encI x.to),.d (BQ x.name),.d (Cu x.value),.d (AV x.cond.nodes),.d (encI x.cond.root),.d (Be x.levels),.d (BL x.AR),.d (BQ x.token.name),.d (encI x.token.cls),.d (BQ x.token.literal),.d (Av x.token.pattern),.d (BQ x.token.C6),.d (AV x.token.cond.nodes),.d (encI x.token.cond.root),.d (BQ x.prod.name),.d (encI x.prod.left),.d (Ax x.prod.right),.d (AV x.prod.cond.nodes),.d (encI x.prod.cond.root),.d (Cu x.prod.bracket),.d (encI x.prod.EB),.d (CY x.prod.layout),.d (Cu x.prod.scope.opens),.d (encI x.prod.scope.declares),.d (encI x.prod.scope.kind),.d (encI x.prod.scope.Fh),.d (encI x.prod.scope.allowed),.d (CQ x.BI)]:=rfl
@[simp] theorem aO(x:AZ):Ap (.d (Ad x))=true:=rfl
@[simp] theorem dJ(x:AZ):Bp (.d (Ad x))=false:=rfl
@[simp] theorem Yz(x:AZ):BE (Ad x)=[encI x.kind,encI x.number,encI x.at_,encI x.to,BQ x.name,Cu x.value,AV x.cond.nodes,encI x.cond.root,Be x.levels,BL x.AR,BQ x.token.name,encI x.token.cls,BQ x.token.literal,Av x.token.pattern,BQ x.token.C6,AV x.token.cond.nodes,encI x.token.cond.root,BQ x.prod.name,encI x.prod.left,Ax x.prod.right,AV x.prod.cond.nodes,encI x.prod.cond.root,Cu x.prod.bracket,encI x.prod.EB,CY x.prod.layout,Cu x.prod.scope.opens,encI x.prod.scope.declares,encI x.prod.scope.kind,encI x.prod.scope.Fh,encI x.prod.scope.allowed,CQ x.BI]:=rfl
@[simp] theorem dz(x:AZ):CL.oneD (Ad x)=true:=rfl
@[simp] theorem oK(x:AZ):DY (Ad x)=Bm [encI x.kind,encI x.number,encI x.at_,encI x.to,BQ x.name,Cu x.value,AV x.cond.nodes,encI x.cond.root,Be x.levels,BL x.AR,BQ x.token.name,encI x.token.cls,BQ x.token.literal,Av x.token.pattern,BQ x.token.C6,AV x.token.cond.nodes,encI x.token.cond.root,BQ x.prod.name,encI x.prod.left,Ax x.prod.right,AV x.prod.cond.nodes,encI x.prod.cond.root,Cu x.prod.bracket,encI x.prod.EB,CY x.prod.layout,Cu x.prod.scope.opens,encI x.prod.scope.declares,encI x.prod.scope.kind,encI x.prod.scope.Fh,encI x.prod.scope.allowed,CQ x.BI]:=rfl
@[simp] theorem cI(S:Sg)(x:AZ):DS S (.d (Ad x))=some [encI x.kind,encI x.number,encI x.at_,encI x.to,BQ x.name,Cu x.value,AV x.cond.nodes,encI x.cond.root,Be x.levels,BL x.AR,BQ x.token.name,encI x.token.cls,BQ x.token.literal,Av x.token.pattern,BQ x.token.C6,AV x.token.cond.nodes,encI x.token.cond.root,BQ x.prod.name,encI x.prod.left,Ax x.prod.right,AV x.prod.cond.nodes,encI x.prod.cond.root,Cu x.prod.bracket,encI x.prod.EB,CY x.prod.layout,Cu x.prod.scope.opens,encI x.prod.scope.declares,encI x.prod.scope.kind,encI x.prod.scope.Fh,encI x.prod.scope.allowed,CQ x.BI]:=rfl
theorem xN:(∀x:Ai,AU x=.agg [encI x.var,encI x.low,encI x.high])/\(∀x:AL,AB x=.agg [AV x.nodes,encI x.root])/\(∀x:Symbol,AH x=.agg [Cu x.token,encI x.index])/\(∀x:Fl,BC x=.agg [encI x.kind,encI x.a,encI x.b])/\(∀x:A8,AQ x=.agg [encI x.kind,encI x.lo,encI x.hi,encI x.a,encI x.b])/\(∀x:Scope,D7 x=.agg [Cu x.opens,encI x.declares,encI x.kind,encI x.Fh,encI x.allowed])/\(∀x:Token,AX x=.agg [BQ x.name,encI x.cls,BQ x.literal,Av x.pattern,BQ x.C6,AV x.cond.nodes,encI x.cond.root])/\(∀x:AO,AF x=.agg [BQ x.name,encI x.left,Ax x.right,AV x.cond.nodes,encI x.cond.root,Cu x.bracket,encI x.EB,CY x.layout,Cu x.scope.opens,encI x.scope.declares,encI x.scope.kind,encI x.scope.Fh,encI x.scope.allowed])/\(∀x:Level,Af x=.agg [BZ x.AD,encI x.assoc,AV x.cond.nodes,encI x.cond.root])/\(∀x:Filter,AM x=.agg [encI x.kind,encI x.parent,encI x.at_,encI x.child,encI x.left,encI x.token,BZ x.tokens,AV x.cond.nodes,encI x.cond.root])/\(∀x:AE,AA x=.agg [By x.conds,AV x.fam.nodes,encI x.fam.root,Cm x.AT,By x.A0,CJ x.AD,encI x.start,Be x.levels,BL x.AR])/\(∀x:C9,A5 x=.agg [encI x.hole,encI x.prod,encI x.token,BQ x.text])/\(∀x:Rewrite,Aa x=.agg [encI x.prod,encI x.at_,encI x.child,CQ x.BI])/\(∀x:AZ,Ad x=.agg [encI x.kind,encI x.number,encI x.at_,encI x.to,BQ x.name,Cu x.value,AV x.cond.nodes,encI x.cond.root,Be x.levels,BL x.AR,BQ x.token.name,encI x.token.cls,BQ x.token.literal,Av x.token.pattern,BQ x.token.C6,AV x.token.cond.nodes,encI x.token.cond.root,BQ x.prod.name,encI x.prod.left,Ax x.prod.right,AV x.prod.cond.nodes,encI x.prod.cond.root,Cu x.prod.bracket,encI x.prod.EB,CY x.prod.layout,Cu x.prod.scope.opens,encI x.prod.scope.declares,encI x.prod.scope.kind,encI x.prod.scope.Fh,encI x.prod.scope.allowed,CQ x.BI]):=
 ⟨λ_=>rfl,λ_=>rfl,λ_=>rfl,λ_=>rfl,λ_=>rfl,λ_=>rfl,λ_=>rfl,λ_=>rfl,λ_=>rfl,λ_=>rfl,λ_=>rfl,λ_=>rfl,λ_=>rfl,λ_=>rfl⟩
open Go.Proofs Tryz
abbrev pt:=@List.take_succ_eq_append_getElem
theorem KY{α:Type}{l:List α}{i:Nat}(h:i<Z l):l.take (i+1)=l.take i++[l[i]]:=by rw[pt h]
abbrev ns:=@List.take_length
theorem R6(a c:List Ai):Pure ao 201 [.sl (a.map AU),.sl (c.map AU)] (.bool (decide (a=c))):=by
 refine hW func201 (by kernel_rfl) rfl (by simp) λwf=>?_;have u:Z a<=maxLen:=by have:=wf.1;simp[DY]at this;simpa using this.1
 rw[ntmps201];apply yW;simp;refine xS (yW ?_);simp;apply AP;simp;refine⟨λj=>?_,λh=>?_⟩
 .apply yW;simp;refine Aj ⟨_,_,a9,?_⟩;(try simp);intro e;rw[e]at j;exact j rfl
 .have h:Z a=Z c:=by omega
  apply xK;refine xS (yW ?_);simp;apply Bo;refine FO (Z a) (λi tm S=>tm 0=.d (.sl (a.map AU))/\tm 1=.d (.sl (c.map AU))/\tm 13=.d (encI i)/\tm 12=.d (encI (Z a))/\S=[]/\a.take i=c.take i) (er _) (by simp) ?_;rintro i tm S hi ⟨t0,t1,t13,t12,rfl,m⟩;apply yW;simp[t13,t12];apply xC;simp;refine⟨λk=>?_,λw=>?_⟩
  .have g:i<Z c:=by omega
   apply xK;apply xB;apply yW;simp[t13];refine yD (A7 9 []) (by kernel_rfl) ?_;simp;apply yA 0;simp[t0,t1,k,g];apply AP;simp;refine⟨λj=>?_,λv=>?_⟩
   .apply yW;simp;refine Aj ⟨_,_,a9,?_⟩;(try simp);intro e;subst e;simp at j
   .apply CF;apply yV;simp[t13];refine⟨k,_,_,a9,?_⟩;simp[t0,t1,t12,AK k u];rw[KY k,KY g,m,v]
  .have o:i=Z a:=by omega
   subst o;have q:a=c:=by rw[ns,h,ns]at m;exact m
   apply Ci;apply yW;simp;apply zT;(try simp);exact q
theorem Sj(a c:List Symbol):Pure ao 111 [.sl (a.map AH),.sl (c.map AH)] (.bool (decide (a=c))):=by
 refine hW func111 (by kernel_rfl) rfl (by simp) λwf=>?_;have u:Z a<=maxLen:=by have:=wf.1;simp[DY]at this;simpa using this.1
 rw[ntmps111];apply yW;simp;refine xS (yW ?_);simp;apply AP;simp;refine⟨λj=>?_,λh=>?_⟩
 .apply yW;simp;refine Aj ⟨_,_,a9,?_⟩;(try simp);intro e;rw[e]at j;exact j rfl
 .have h:Z a=Z c:=by omega
  apply xK;refine xS (yW ?_);simp;apply Bo;refine FO (Z a) (λi tm S=>tm 0=.d (.sl (a.map AH))/\tm 1=.d (.sl (c.map AH))/\tm 13=.d (encI i)/\tm 12=.d (encI (Z a))/\S=[]/\a.take i=c.take i) (er _) (by simp) ?_;rintro i tm S hi ⟨t0,t1,t13,t12,rfl,m⟩;apply yW;simp[t13,t12];apply xC;simp;refine⟨λk=>?_,λw=>?_⟩
  .have g:i<Z c:=by omega
   apply xK;apply xB;apply yW;simp[t13];refine yD (A7 9 []) (by kernel_rfl) ?_;simp;apply yA 0;simp[t0,t1,k,g];apply AP;simp;refine⟨λj=>?_,λv=>?_⟩
   .apply yW;simp;refine Aj ⟨_,_,a9,?_⟩;(try simp);intro e;subst e;simp at j
   .apply CF;apply yV;simp[t13];refine⟨k,_,_,a9,?_⟩;simp[t0,t1,t12,AK k u];rw[KY k,KY g,m,v]
  .have o:i=Z a:=by omega
   subst o;have q:a=c:=by rw[ns,h,ns]at m;exact m
   apply Ci;apply yW;simp;apply zT;(try simp);exact q
theorem Oa(a c:AL):Pure ao 126 [AB a,AB c] (.bool (decide (a=c))):=by
 refine zP func126 17 rfl λwf=>?_;apply yW;simp;(repeat apply xS);apply yT;apply yJ;simp;refine vj (g:=a.root==c.root) (ds:=[AV a.nodes,AV c.nodes]) rfl rfl (by simp) (λ_=>R6 _ _) (by simp) ?_;simp;apply yJ;simp;apply zT;(try simp);cases a;cases c;rw[gI];simp[and_comm]
theorem Hw(x:Bool):Pure ao 159 [.bool x] (AB ⟨[],if x then 1 else 0⟩):=by
 refine zP func159 6 rfl λwf=>?_;apply yW;simp;refine xS (yW ?_);simp;apply AP;simp;refine⟨λg=>?_,λg=>?_⟩
 .apply yW;simp;refine Aj ⟨_,_,a9,?_⟩;simp[g,AB]
 .apply xK;apply yW;simp;apply zT;simp[g,AB]
def AL.level(d:AL)(e:Int):Int:=if e<2 then 64 else match d.nodes[(e - 2).toNat]? with|some x=>x.var|none=>0
theorem IM(d:AL)(e:Int)(m:e<2+Z d.nodes):Pure ao 124 [AB d,encI e] (encI (d.level e)):=by
 refine hW func124 (by kernel_rfl) rfl (by simp) λwf=>?_;simp[Bm,Di,DY]at wf;rw[ntmps124];apply yW;simp;refine xS (yW ?_);simp;apply AP;simp;refine⟨λg=>?_,λg=>?_⟩
 .apply yW;simp;refine Aj ⟨_,_,a9,?_⟩;simp[AL.level,g]
 .have i:b8 .i64 (e - 2)=e - 2:=wrap_i64 (by omega) (by omega);have h:(e - 2).toNat<Z d.nodes:=by omega
  have j:e - 2<(Z d.nodes:Int):=by omega
  have k:¬e<2:=by omega
  apply xK;apply yW;simp[i,h,j,g];refine Aj ⟨_,_,a9,?_⟩;simp[AL.level,k,h]
theorem RH(xs:List ByteArray)(g:Z xs<=2 ^ 30):AG ao 99 [.d (.sl (xs.map D.str))] [] (.row 0 (Z xs)) [.row (!xs.isEmpty) 1 (xs.map λx=>.d (D.str x))]:=by
 refine zC func99 8 rfl λwf _=>?_;apply yW;simp;refine xS (yS ?_);(repeat(refine Cc ?_ ?_;(·simp);simp));refine AS.JW (neg:=false) (xs:=xs.map D.str) rfl (by simp) λt i=>?_;simp;apply BY;apply AP;simp;refine⟨λh=>?_,λh=>?_⟩
 .have j:xs=[]:=by
   cases xs with
   |nil=>rfl
   |cons x xs=>simp[i]at h
  subst j;apply yW;simp;apply Aj;refine⟨_,oa 2 1 (xs:=[]) (by simp),?_⟩;simp[Aq]
 .apply xK;apply yW;simp[g];apply Aj;refine⟨_,a9,?_⟩;simp[Aq]
theorem Si(xs:List Ai)(g:Z xs<=2 ^ 30):AG ao 177 [.d (.sl (xs.map AU))] [] (.row 0 (Z xs)) [.row (!xs.isEmpty) 3 (xs.map λx=>.d (AU x))]:=by
 refine zC func177 8 rfl λwf _=>?_;apply yW;simp;refine xS (yS ?_);(repeat(refine Cc ?_ ?_;(·simp);simp));refine AS.JW (neg:=false) (xs:=xs.map AU) rfl (by simp) λt i=>?_;simp;apply BY;apply AP;simp;refine⟨λh=>?_,λh=>?_⟩
 .have j:xs=[]:=by
   cases xs with
   |nil=>rfl
   |cons x xs=>simp[i]at h
  subst j;apply yW;simp;apply Aj;refine⟨_,oa 2 3 (xs:=[]) (by simp),?_⟩;simp[Aq]
 .apply xK;apply yW;simp[g];apply Aj;refine⟨_,a9,?_⟩;simp[Aq]
theorem Yp(xs:List Token)(g:Z xs<=2 ^ 30):AG ao 101 [.d (.sl (xs.map AX))] [] (.row 0 (Z xs)) [.row (!xs.isEmpty) 7 (xs.map λx=>.d (AX x))]:=by
 refine zC func101 8 rfl λwf _=>?_;apply yW;simp;refine xS (yS ?_);(repeat(refine Cc ?_ ?_;(·simp);simp));refine AS.JW (neg:=false) (xs:=xs.map AX) rfl (by simp) λt i=>?_;simp;apply BY;apply AP;simp;refine⟨λh=>?_,λh=>?_⟩
 .have j:xs=[]:=by
   cases xs with
   |nil=>rfl
   |cons x xs=>simp[i]at h
  subst j;apply yW;simp;apply Aj;refine⟨_,oa 2 7 (xs:=[]) (by simp),?_⟩;simp[Aq]
 .apply xK;apply yW;simp[g];apply Aj;refine⟨_,a9,?_⟩;simp[Aq]
theorem Vl(xs:List AO)(g:Z xs<=2 ^ 30):AG ao 102 [.d (.sl (xs.map AF))] [] (.row 0 (Z xs)) [.row (!xs.isEmpty) 13 (xs.map λx=>.d (AF x))]:=by
 refine zC func102 8 rfl λwf _=>?_;apply yW;simp;refine xS (yS ?_);(repeat(refine Cc ?_ ?_;(·simp);simp));refine AS.JW (neg:=false) (xs:=xs.map AF) rfl (by simp) λt i=>?_;simp;apply BY;apply AP;simp;refine⟨λh=>?_,λh=>?_⟩
 .have j:xs=[]:=by
   cases xs with
   |nil=>rfl
   |cons x xs=>simp[i]at h
  subst j;apply yW;simp;apply Aj;refine⟨_,oa 2 13 (xs:=[]) (by simp),?_⟩;simp[Aq]
 .apply xK;apply yW;simp[g];apply Aj;refine⟨_,a9,?_⟩;simp[Aq]
theorem UH(xs:List Level)(g:Z xs<=2 ^ 30):AG ao 103 [.d (.sl (xs.map Af))] [] (.row 0 (Z xs)) [.row (!xs.isEmpty) 4 (xs.map λx=>.d (Af x))]:=by
 refine zC func103 8 rfl λwf _=>?_;apply yW;simp;refine xS (yS ?_);(repeat(refine Cc ?_ ?_;(·simp);simp));refine AS.JW (neg:=false) (xs:=xs.map Af) rfl (by simp) λt i=>?_;simp;apply BY;apply AP;simp;refine⟨λh=>?_,λh=>?_⟩
 .have j:xs=[]:=by
   cases xs with
   |nil=>rfl
   |cons x xs=>simp[i]at h
  subst j;apply yW;simp;apply Aj;refine⟨_,oa 2 4 (xs:=[]) (by simp),?_⟩;simp[Aq]
 .apply xK;apply yW;simp[g];apply Aj;refine⟨_,a9,?_⟩;simp[Aq]
theorem R7(xs:List Filter)(g:Z xs<=2 ^ 30):AG ao 104 [.d (.sl (xs.map AM))] [] (.row 0 (Z xs)) [.row (!xs.isEmpty) 9 (xs.map λx=>.d (AM x))]:=by
 refine zC func104 8 rfl λwf _=>?_;apply yW;simp;refine xS (yS ?_);(repeat(refine Cc ?_ ?_;(·simp);simp));refine AS.JW (neg:=false) (xs:=xs.map AM) rfl (by simp) λt i=>?_;simp;apply BY;apply AP;simp;refine⟨λh=>?_,λh=>?_⟩
 .have j:xs=[]:=by
   cases xs with
   |nil=>rfl
   |cons x xs=>simp[i]at h
  subst j;apply yW;simp;apply Aj;refine⟨_,oa 2 9 (xs:=[]) (by simp),?_⟩;simp[Aq]
 .apply xK;apply yW;simp[g];apply Aj;refine⟨_,a9,?_⟩;simp[Aq]
theorem Tl(xs:List A8)(g:Z xs<=2 ^ 30):AG ao 105 [.d (.sl (xs.map AQ))] [] (.row 0 (Z xs)) [.row (!xs.isEmpty) 5 (xs.map λx=>.d (AQ x))]:=by
 refine zC func105 8 rfl λwf _=>?_;apply yW;simp;refine xS (yS ?_);(repeat(refine Cc ?_ ?_;(·simp);simp));refine AS.JW (neg:=false) (xs:=xs.map AQ) rfl (by simp) λt i=>?_;simp;apply BY;apply AP;simp;refine⟨λh=>?_,λh=>?_⟩
 .have j:xs=[]:=by
   cases xs with
   |nil=>rfl
   |cons x xs=>simp[i]at h
  subst j;apply yW;simp;apply Aj;refine⟨_,oa 2 5 (xs:=[]) (by simp),?_⟩;simp[Aq]
 .apply xK;apply yW;simp[g];apply Aj;refine⟨_,a9,?_⟩;simp[Aq]
theorem Iu(xs:List Symbol)(g:Z xs<=2 ^ 30):AG ao 106 [.d (.sl (xs.map AH))] [] (.row 0 (Z xs)) [.row (!xs.isEmpty) 2 (xs.map λx=>.d (AH x))]:=by
 refine zC func106 8 rfl λwf _=>?_;apply yW;simp;refine xS (yS ?_);(repeat(refine Cc ?_ ?_;(·simp);simp));refine AS.JW (neg:=false) (xs:=xs.map AH) rfl (by simp) λt i=>?_;simp;apply BY;apply AP;simp;refine⟨λh=>?_,λh=>?_⟩
 .have j:xs=[]:=by
   cases xs with
   |nil=>rfl
   |cons x xs=>simp[i]at h
  subst j;apply yW;simp;apply Aj;refine⟨_,oa 2 2 (xs:=[]) (by simp),?_⟩;simp[Aq]
 .apply xK;apply yW;simp[g];apply Aj;refine⟨_,a9,?_⟩;simp[Aq]
theorem Su(xs:List Fl)(g:Z xs<=2 ^ 30):AG ao 107 [.d (.sl (xs.map BC))] [] (.row 0 (Z xs)) [.row (!xs.isEmpty) 3 (xs.map λx=>.d (BC x))]:=by
 refine zC func107 8 rfl λwf _=>?_;apply yW;simp;refine xS (yS ?_);(repeat(refine Cc ?_ ?_;(·simp);simp));refine AS.JW (neg:=false) (xs:=xs.map BC) rfl (by simp) λt i=>?_;simp;apply BY;apply AP;simp;refine⟨λh=>?_,λh=>?_⟩
 .have j:xs=[]:=by
   cases xs with
   |nil=>rfl
   |cons x xs=>simp[i]at h
  subst j;apply yW;simp;apply Aj;refine⟨_,oa 2 3 (xs:=[]) (by simp),?_⟩;simp[Aq]
 .apply xK;apply yW;simp[g];apply Aj;refine⟨_,a9,?_⟩;simp[Aq]
theorem Q5(xs:List Int)(g:Z xs<=2 ^ 30):AG ao 108 [.d (.sl (xs.map (br .i64)))] [] (.row 0 (Z xs)) [.row (!xs.isEmpty) 1 (xs.map λx=>.d ((br .i64) x))]:=by
 refine zC func108 8 rfl λwf _=>?_;apply yW;simp;refine xS (yS ?_);(repeat(refine Cc ?_ ?_;(·simp);simp));refine AS.JW (neg:=false) (xs:=xs.map (br .i64)) rfl (by simp) λt i=>?_;simp;apply BY;apply AP;simp;refine⟨λh=>?_,λh=>?_⟩
 .have j:xs=[]:=by
   cases xs with
   |nil=>rfl
   |cons x xs=>simp[i]at h
  subst j;apply yW;simp;apply Aj;refine⟨_,oa 2 1 (xs:=[]) (by simp),?_⟩;simp[Aq]
 .apply xK;apply yW;simp[g];apply Aj;refine⟨_,a9,?_⟩;simp[Aq]
theorem Ts(xs:List C9)(g:Z xs<=2 ^ 30):AG ao 27 [.d (.sl (xs.map A5))] [] (.row 0 (Z xs)) [.row (!xs.isEmpty) 4 (xs.map λx=>.d (A5 x))]:=by
 refine zC func27 8 rfl λwf _=>?_;apply yW;simp;refine xS (yS ?_);(repeat(refine Cc ?_ ?_;(·simp);simp));refine AS.JW (neg:=false) (xs:=xs.map A5) rfl (by simp) λt i=>?_;simp;apply BY;apply AP;simp;refine⟨λh=>?_,λh=>?_⟩
 .have j:xs=[]:=by
   cases xs with
   |nil=>rfl
   |cons x xs=>simp[i]at h
  subst j;apply yW;simp;apply Aj;refine⟨_,oa 2 4 (xs:=[]) (by simp),?_⟩;simp[Aq]
 .apply xK;apply yW;simp[g];apply Aj;refine⟨_,a9,?_⟩;simp[Aq]
end Go.Koi
