/-
  Part 37 of the proof that the law ChangeCommutes of the package koinelaw31 returns true for every input.
-/
import Derived.Test.YtdhbnplflgihpaaGreatDoorK35
set_option maxHeartbeats 64000000
set_option maxRecDepth 100000
namespace Go.Koi
section
variable {P:Program} {n b:Nat} {o:Oper} {tm tm':Tm} {S S':Sg} {v:V} {ops:Array Oper} {K:Tm→Sg→Prop}
def dq(P:Program)(n b:Nat)(ops:Array Oper)(i:Nat)(tm:Tm)(S:Sg)(R:Tm→Sg→Prop):Prop:=
 ∀G w a (K':Act→World→Prop) Q,St P n G S w a tm→b≤S.length→(∀tm' S',R tm' S'→∀a' w' G',E1 P n b G S w a.defers a' w' G' S' tm'→K' a' w')→wpOp P ops Q i K' a w
def HA(P:Program)(n b:Nat)(ops:Array Oper)(i:Nat)(o:Oper)(tm:Tm)(S:Sg)(R:V→Sg→Prop):Prop:=
 ∀tm',(∀t∈o.looksAt ops,tm' t=tm t)→dq P n b ops i tm' S fun t S'=>∃v,R v S'∧t=put tm' o.dst v
theorem A7.eS{i:Nat}(h:A7 P n b ops i o tm S v S'):HA P n b ops i o tm S fun u T=>u=v∧T=S':=fun tm' he G w a K' Q st hb k=>
 h tm' he G w a K' Q st hb fun a' w' G' hc=>k _ _ ⟨v,⟨rfl,rfl⟩,rfl⟩ a' w' G' hc
theorem HA.congr{i:Nat}{R:V→Sg→Prop}(h:HA P n b ops i o tm S R)(he:∀t∈o.looksAt ops,tm' t=tm t):HA P n b ops i o tm' S R:=fun tm2 h2=>
 h tm2 fun t ht=>(h2 t ht).trans (he t ht)
theorem HA.J4{i:Nat}{c:Call}{f:FuncId}{args:List V}{R:V→Sg→Prop}(hi:ops[i]?=some o)(ho:o.op=.call c)(hg:o.guard=none)(hd:A6 n o.dst)(hc:callee tm c=some (f,args))(hn:A5 tm c)
  (h:At P f args S R):HA P n b ops i o tm S R:=fun tm' he G w a K' Q st hb k=>by
 obtain⟨hc1,hc2⟩:=E5 ho he;rw[←hc1]at hc;rw[←hc2]at hn;clear hc1 hc2 he;unfold wpOp;simp only[hi,Region.wanted,hg,if_true];left;have key:∀(next:Act→World→Prop),(∀cv w' G' v S',R v S'→CV G' S' w' v cv→Rel P G' S' w'→Tr G S w G' S' w'→A9 G S w G' S' w'→next (a.put o.dst cv) w')→o.wp P a w next Q:=fun next kont=>by
  obtain⟨hf,h⟩:=h;unfold callee at hc;obtain⟨hn1,hn2⟩:=hn;cases hcal:c.callee with
  |value x=>
   simp only[hcal]at hc hn1;have hx:=(BH st x).strip hn1;split at hc
   ·rename_i k' first caps hfn
    simp only[Option.some.injEq,Prod.mk.injEq]at hc;obtain⟨e1,e2⟩:=hc;subst e1;subst e2;rw[hfn]at hx;generalize hX:a.eval x=X at hx;cases hx with
    |fn _ _ _ xs ys h1 h2 h3 h4=>
     unfold fnOK at hf;have hargs:=h G w (xs++c.args.map a.eval++ys) st.rel (by simp[h1,h2]) (fun i hi hi'=>by
      by_cases e1:i<first.length
      ·rw[List.getElem_append_left (by simp;omega),List.getElem_append_left e1];rw[Array.getElem_append_left (by simp;omega),Array.getElem_append_left (by omega)];exact h3 i e1
      ·by_cases e2:i<first.length+c.args.size
       ·rw[List.getElem_append_left (by simp;omega),List.getElem_append_right (by omega)];rw[Array.getElem_append_left (by simp;omega),Array.getElem_append_right (by omega)];simp only[List.getElem_map,Array.getElem_map,Array.getElem_toList,h1];exact(BH st _).strip (Fx hn2 _ (by simp))
       ·simp only[List.length_append,List.length_map,Array.length_toList]at hi;rw[List.getElem_append_right (by simp;omega)];rw[Array.getElem_append_right (by simp;omega)];simp only[List.length_append,List.length_map,Array.length_toList,Array.size_append,Array.size_map,h1];exact h4 _ (by omega))
     unfold Oper.wp;have hrun:(execOp a.eval o).run P w=.ok (.enter k' (xs++c.args.map a.eval++ys)) w:=by
      split at hf
      ·rename_i fn hfn';simp only[Bool.and_eq_true,Bool.not_eq_true',beq_eq_false_iff_ne,ne_eq]at hf;obtain⟨b,hb⟩:=Option.isSome_iff_exists.1 hf.2;simp[execOp,ho,resolve,hcal,hX,Deferred.ofValue,invoke,callFunc,hfn',hf.1,hb]
      ·cases hf
     rw[hrun];simp only[Oper.upon];exact hargs.mono fun e w' ⟨cv,G',v,S',hr,he,g1,g2,g3,g4⟩=>by subst he;exact kont cv w' G' v S' hr g1 g2 g3 g4
   ·cases hc
  |invoke=>simp[hcal]at hc
  |builtin=>simp[hcal]at hc
 exact key _ fun cv w' G' v S' hr g1 g2 g3 g4=>k _ S' ⟨v,hr,rfl⟩ _ _ G' ⟨st.put hd g1 g2 g4,Be,g3,g4.late hb⟩
def PQ(P:Program)(n b:Nat)(ops:Array Oper)(K:Tm→Sg→Prop)(B:List (Nat×(Sg→Prop))):Nat→Array Bool→Tm→Sg→Prop
 |0,listed,tm,S=>Region.ready .any ops listed=[]∧K tm S
 |fuel+1,listed,tm,S=>(Region.ready .any ops listed=[]→K tm S)∧∀i∈Region.ready .any ops listed,∃o R,ops[i]?=some o∧HA P n b ops i o tm S R∧∀v S',R v S'→Ql ops B i S S'∧PQ P n b ops K (B.filter fun p=>!waits ops i p.1) fuel (listed.setIfInBounds i true) (put tm o.dst v) S'
theorem Gu:∀(fuel:Nat) (B B':List (Nat×(Sg→Prop))) (listed:Array Bool) (tm:Tm) (S:Sg),(∀p∈B',p∈B)→PQ P n b ops K B fuel listed tm S→PQ P n b ops K B' fuel listed tm S
 |0,_,_,_,_,_,_,h=>h
 |fuel+1,B,B',_,_,_,hB,h=>⟨h.1,fun k hk=>by
  obtain⟨o,R,e1,e2,e3⟩:=h.2 k hk;refine⟨o,R,e1,e2,fun v S' hr=>⟨fun p hp=>(e3 v S' hr).1 p (hB p hp),Gu fuel _ _ _ _ _ (fun p hp=>?_) (e3 v S' hr).2⟩⟩;rw[List.mem_filter]at hp⊢;exact⟨hB p hp.1,hp.2⟩⟩
theorem PL{i:Nat}{oi:Oper}{C:Sg→Prop}(hi:ops[i]?=some oi):
  ∀(fuel:Nat) (B:List (Nat×(Sg→Prop))) (listed:Array Bool) (tm:Tm) (S:Sg),(∀j oj,ops[j]?=some oj→j≠i→listed.getD j true=false→(∀e∈oj.after,Region.binds .any e=true→e.on≠i)→oi.apart ops oj=true)→i∈Region.ready .any ops listed→C S→(∀S',C S'→A7 P n b ops i oi tm S' v S')→PQ P n b ops K ((i,C)::B) fuel (listed.setIfInBounds i true) (put tm oi.dst v) S→PQ P n b ops K B (fuel+1) listed tm S:=by
 intro fuel;induction fuel with
 |zero=>
  intro B listed tm S _ hr hS hy H;refine⟨fun h=>(by rw[h]at hr;cases hr),fun j hj=>?_⟩;by_cases hji:j=i
  ·subst hji;refine⟨oi,_,hi,(hy S hS).eS,?_⟩;rintro _ _ ⟨rfl,rfl⟩;exact⟨fun p _=>.inr id,H⟩
  ·have:=ready_mono hj hji;rw[H.1]at this;cases this
 |succ fuel ih=>
  intro B listed tm S hfree hr hS hy H;refine⟨fun h=>(by rw[h]at hr;cases hr),fun j hj=>?_⟩;by_cases hji:j=i
  ·subst hji;refine⟨oi,_,hi,(hy S hS).eS,?_⟩;rintro _ _ ⟨rfl,rfl⟩;refine⟨fun p _=>.inr id,Gu _ _ _ _ _ _ (fun p hp=>?_) H⟩;exact List.mem_cons_of_mem _ (List.mem_filter.1 hp).1
  ·obtain⟨oj,R,hoj,hstep,hrest0⟩:=H.2 j (ready_mono hj hji);obtain⟨hjun,oj',hoj',hall⟩:=mem_ready.1 hj;rw[hoj]at hoj';cases hoj';have hnot:∀e∈oj.after,Region.binds .any e=true→e.on≠i:=fun e he hb heq=>by
    have h1:=hall e he hb;have h0:=(mem_ready.1 hr).1;rw[heq]at h1;rcases Nat.lt_or_ge i listed.size with h'|h'
    ·simp[h']at h0 h1;rw[h0]at h1;cases h1
    ·simp[Array.getElem?_eq_none h']at h1
   obtain⟨a1,a2,a3⟩:=Oper.apart_spec (hfree j oj hoj hji hjun hnot);have hw:waits ops j i=false:=by
    cases hx:waits ops j i with
    |false=>rfl
    |true=>
     obtain⟨e,he,hb,heq⟩:=IX hoj hx;exact absurd heq (hnot e he hb)
   have hfree':∀k ok,ops[k]?=some ok→k≠i→(listed.setIfInBounds j true).getD k true=false→(∀e∈ok.after,Region.binds .any e=true→e.on≠i)→oi.apart ops ok=true:=fun k ok hk hki hun hno=>by
    refine hfree k ok hk hki ?_ hno;by_cases hjk:j=k
    ·subst hjk;exact hjun
    ·rw[getD_set_ne true hjk]at hun;exact hun
   refine⟨oj,R,hoj,hstep.congr fun t ht=>(HM a1 t ht).symm,fun u S' hR=>?_⟩;obtain⟨hbound,hrest⟩:=hrest0 u S' hR;have hC:C S':=by
    rcases hbound (i,C) (by simp)with h|h
    ·obtain⟨e,he,hb,heq⟩:=IX hoj h;exact absurd heq (hnot e he hb)
    ·exact h hS
   refine⟨fun p hp=>hbound p (by simp[hp]),?_⟩;refine ih (B.filter fun p=>!waits ops j p.1) (listed.setIfInBounds j true) (put tm oj.dst u) S' hfree' (ready_mono hr (Ne.symm hji)) hC (fun S2 h2=>(hy S2 h2).congr (HM a3)) ?_;rw[Array.setIfInBounds_comm _ _ hji,put_comm u v fun d hd h=>a2 d h hd];rw[List.filter_cons_of_pos (by simp[hw])]at hrest;exact hrest
theorem KM{Q:Exit→Act→World→Prop}:∀(fuel:Nat) (listed:Array Bool) (tm:Tm) (S:Sg),PQ P n b ops K [] fuel listed tm S→∀G w a,St P n G S w a tm→b≤S.length→(∀a' w',(∃G' S' tm',E1 P n b G S w a.defers a' w' G' S' tm'∧K tm' S')→Q .normal a' w')→wpAny P .any ops Q fuel listed a w
 |0,listed,tm,S,h,G,w,a,st,hb,hq=>⟨h.1,hq a w ⟨G,S,tm,.refl st hb,h.2⟩⟩
 |fuel+1,listed,tm,S,h,G,w,a,st,hb,hq=>by
  refine⟨fun h0=>hq a w ⟨G,S,tm,.refl st hb,h.1 h0⟩,fun i hi=>?_⟩;obtain⟨o,R,ho,hstep,hrest⟩:=h.2 i hi;refine hstep tm (fun _ _=>rfl) G w a _ Q st hb ?_;rintro _ S' ⟨v,hR,rfl⟩ a' w' G' hc;refine KM fuel _ _ _ (hrest v S' hR).2 G' w' a' hc.st hc.late.len fun a2 w2 hh=>?_;obtain⟨G2,S2,tm2,hc2,hK⟩:=hh;exact hq a2 w2 ⟨G2,S2,tm2,⟨hc2.st,hc2.ds.trans hc.ds,hc.tr.trans hc2.tr,hc.late.trans hc2.late⟩,hK⟩
def I8(P:Program)(n b:Nat)(ops:Array Oper)(B:List (Nat×(Sg→Prop)))(l:List (Nat×Bool×Oper))(tm:Tm)(S:Sg)(K:Tm→Sg→Prop):Prop:=
 ∀listed,(∀p∈l,ops[p.1]?=some p.2.2)→planOK ops (l.map fun p=>(p.1,p.2.1)) listed=true→PQ P n b ops K B l.length listed tm S
theorem I8.nil{B:List (Nat×(Sg→Prop))}(h:K tm S):I8 P n b ops B [] tm S K:=fun listed _ hp=>⟨by simpa[planOK]using hp,h⟩
theorem I8.fU{B:List (Nat×(Sg→Prop))}{i:Nat}{rest:List (Nat×Bool×Oper)}(h1:oPre P n ops o tm S∧oS P o tm S=S)
  (h:I8 P n b ops ((i,fun S'=>S'=S)::B) rest (put tm o.dst (Cq P ops o tm S)) S K):I8 P n b ops B ((i,true,o)::rest) tm S K:=fun listed hl hp=>by
 have hi:ops[i]?=some o:=hl (i,true,o) (by simp);simp only[List.map_cons,planOK,Bool.and_eq_true,if_true]at hp;obtain⟨⟨h1',h2⟩,h3⟩:=hp;refine PL (C:=fun S'=>S'=S) hi _ B listed tm S (Region.free_spec hi h2) (by simpa using h1') rfl (fun S' hS=>?_) (h _ (fun p hp=>hl p (by simp[hp])) h3);subst hS;have:=A7.B5 (b:=b) hi h1.1;rwa [h1.2]at this
theorem I8.J4{B:List (Nat×(Sg→Prop))}{i:Nat}{rest:List (Nat×Bool×Oper)}{c:Call}{f:FuncId}{args:List V}{R:V→Prop}(h:At P f args S fun v S'=>R v∧S'=S)(ho:o.op=.call c)
  (hp:o.guard=none∧A6 n o.dst∧A5 tm c∧callee tm c=some (f,args)) (h2:∀v,R v→I8 P n b ops B rest (put tm o.dst v) S K):I8 P n b ops B ((i,false,o)::rest) tm S K:=fun listed hl hp'=>by
 obtain⟨h3,h4,h5,h6⟩:=hp;have hi:ops[i]?=some o:=hl (i,false,o) (by simp);simp only[List.map_cons,planOK,Bool.and_eq_true,Bool.false_eq_true,if_false,beq_iff_eq]at hp';obtain⟨h1,h3'⟩:=hp';refine⟨fun h0=>(by rw[h1]at h0;cases h0),fun j hj=>?_⟩;rw[h1]at hj;have:j=i:=by simpa using hj
 subst this;refine⟨o,_,hi,HA.J4 hi ho h3 h4 h6 h5 h,?_⟩;rintro v S' ⟨hR,rfl⟩;exact⟨fun p _=>.inr id,Gu _ _ _ _ _ _ (fun p hp=>(List.mem_filter.1 hp).1) (h2 v hR _ (fun p hp=>hl p (by simp[hp])) h3')⟩
theorem AW.Yf{id:Nat}{Q:Exit→Tm→Sg→Prop}(l:List (Nat×Bool))(hm:P.follows .mixedOrders=true)(hlen:l.length=ops.size)(hp:planOK ops l (Array.replicate ops.size false)=true)
  (hin:l.all (fun p=>decide (p.1<ops.size))=true) (h:∀K:Tm→Sg→Prop,(∀tm S,Q .normal tm S→K tm S)→I8 P n b ops [] (De ops l) tm S K):AW P n b (.region id ops true) Q tm S:=fun G w a st hb=>by
 refine wp_region_any hm ?_;obtain⟨r1,r2,r3⟩:=st.rel.drawn (w':={w with drawn:=w.drawn+1}) rfl rfl rfl;have h1:=h _ (fun _ _ h=>h) (Array.replicate ops.size false) (fun p hp=>by
  simp only[De,List.mem_map]at hp;obtain⟨q,hq,rfl⟩:=hp;have hlt:q.1<ops.size:=by simpa using List.all_eq_true.1 hin q hq
  simp[hlt]) (by
   have e:(De ops l).map (fun p=>(p.1,p.2.1))=l:=by simp[De,Function.comp_def]
   rw[e];exact hp)
 have e2:(De ops l).length=ops.size:=by simp[De,hlen]
 rw[e2]at h1;refine KM _ _ _ _ h1 G {w with drawn:=w.drawn+1} a ⟨st.size,st.tm.Aw r3,r1⟩ hb fun a' w' hh=>?_;obtain⟨G',S',tm',hc,hK⟩:=hh;exact⟨G',S',tm',⟨hc.st,hc.ds,r2.trans hc.tr,(r3.late hb).trans hc.late⟩,hK⟩
end
open Go.Proofs Tryz DT
def QK(g:AF):Prop:=DX g=0∧EB g
def Uj(g h:AF)(p:Nat):Prop:=∃(h1:p<g.AD.length) (h2:p<h.AD.length),h.AD[p].left=g.AD[p].left∧h.AD[p].right=g.AD[p].right
def bR(g h:AF)(v:V)(S':Sg):Prop:=S'=[]∧∃e:Int,v=.d (AG e)∧(QK g→QK h→e=0)
theorem Fj(g h:AF)(m:List Rewrite)(hg:g.conds.length≤12)(hh:h.conds.length≤12)(ht:g.Ak.length≤h.Ak.length)(hn:g.BC.length≤h.BC.length)
  (hs:∀x∈m,Pure prog 114 [AB g,AB h,Ab x] (.bool true))
  (hp:∀p,p<g.AD.length→Uj g h p∨Pure prog 115 [AB g,An m,AG p] (.bool true)):
  At prog 27 [.d (AB g),.d (AB h),.d (An m)] [] (bR g h):=by
 have fg:=Ca g hg;have fh:=Ca h hh;refine At.AI func27 (by kernel_rfl) rfl (by simp) fun wf _=>?_;have a1:g.AD.length≤maxLen:=by have:=wf.1;simp[WFV,WFD,WFDs]at this;exact this.2.2.2.2.2.1.1
 have a2:m.length≤maxLen:=by have:=wf.2.2.1;simp[WFV,WFD]at this;exact this.1
 clear wf;have z1:IntKind.i64.wrap 1=1:=by decide
 have z2:IntKind.i64.wrap 2=2:=by decide
 rw[ntmps27];refine xW fun K hK=>?_;simp;apply hK;refine AW.El (R:=fun tm S=>tm 2=.d (An m)∧tm 3=.ptr 0 1 0 0∧tm 4=.ptr 1 1 0 0∧S=[.row true 9 [.d (AB g)],.row true 9 [.d (AB h)]]) ?_ ?_
 ·refine xW fun K hK=>?_;simp[maxLen];apply hK;refine Bw ?_;refine DC 2 (fun i tm S=>tm 2=.d (An m)∧tm 3=.ptr 0 1 0 0∧tm 4=.ptr 1 1 0 0∧tm 16=.full [AB g,AB h]∧tm 17=.d (.int .i64 2)∧tm 18=.d (.int .i64 i)∧S=[.row true 9 [.d (AB g)],.row true 9 [.d (AB h)]]) (Nat.zero_le _) (by simp) ?_;rintro i tm S hi ⟨t2,t3,t4,t16,t17,t18,rfl⟩;have h3:i=0∨i=1∨i=2:=by omega
  rcases h3 with rfl|rfl|rfl
  ·refine xW fun K hK=>?_;simp[t17,t18];apply hK;refine xC ?_;simp;refine xK ?_;refine xB ?_;refine xW fun K hK=>?_;simp[t16,t18];apply hK;(repeat refine xS ?_);refine BX fun K hK=>?_;refine xJ ?_;simp;refine AS.Cf fg [] rfl ?_ ?_ ?_
   ·simp[AB]
   ·rintro v S0' ⟨rfl,r,rfl,_⟩;simp
   rintro v S0' ⟨rfl,r,rfl,hr1,hr2⟩;simp;refine xJ ?_;simp;refine Aj (hK _ _ ?_);(try simp only[xQ,reduceIte]);by_cases hz:r=0
   ·refine xW fun K hK=>?_;simp[hz];apply hK;refine AU ?_;simp;refine CC ?_;refine xV fun K hK=>?_;simp[t18];apply hK;refine⟨_,_,AJ.EL 2 (S':=[.row true 9 [.d (AB g)],.row true 9 [.d (AB h)]]) rfl (by simp) (by simp) (by simp),?_⟩;simp[clean,belowV,t2,t3,t4,t16,t17,z1]
   ·refine xW fun K hK=>?_;simp;apply hK;refine AU ?_;simp[hz];refine xW fun K hK=>?_;simp;apply hK;refine Ag ?_;(try simp only[xQ,reduceIte]);refine⟨_,_,AJ.refl,by simp,_,_,⟨rfl,r,rfl,fun h1 _=>(hr1 (.inr h1.2)).trans h1.1⟩,.inl ⟨.int .i64 r,_,by simp,rfl,AJ.AY 0 rfl (by simp) (by simp) (by simp)⟩⟩
  ·refine xW fun K hK=>?_;simp[t17,t18];apply hK;refine xC ?_;simp;refine xK ?_;refine xB ?_;refine xW fun K hK=>?_;simp[t16,t18];apply hK;(repeat refine xS ?_);refine BX fun K hK=>?_;refine xJ ?_;simp;refine AS.Cf fh [] rfl ?_ ?_ ?_
   ·simp[AB]
   ·rintro v S0' ⟨rfl,r,rfl,_⟩;simp
   rintro v S0' ⟨rfl,r,rfl,hr1,hr2⟩;simp;refine xJ ?_;simp;refine Aj (hK _ _ ?_);(try simp only[xQ,reduceIte]);by_cases hz:r=0
   ·refine xW fun K hK=>?_;simp[hz];apply hK;refine AU ?_;simp;refine CC ?_;refine xV fun K hK=>?_;simp[t18];apply hK;refine⟨_,_,AJ.EL 2 (S':=[.row true 9 [.d (AB g)],.row true 9 [.d (AB h)]]) rfl (by simp) (by simp) (by simp),?_⟩;simp[clean,belowV,t2,t3,t4,t16,t17,z2]
   ·refine xW fun K hK=>?_;simp;apply hK;refine AU ?_;simp[hz];refine xW fun K hK=>?_;simp;apply hK;refine Ag ?_;(try simp only[xQ,reduceIte]);refine⟨_,_,AJ.refl,by simp,_,_,⟨rfl,r,rfl,fun _ h1=>(hr1 (.inr h1.2)).trans h1.1⟩,.inl ⟨.int .i64 r,_,by simp,rfl,AJ.AY 0 rfl (by simp) (by simp) (by simp)⟩⟩
  ·refine xW fun K hK=>?_;simp[t17,t18];apply hK;refine xC ?_;simp;refine Cu ?_;simp[t2,t3,t4]
 rintro tm S ⟨t2,t3,t4,rfl⟩;have c1:¬h.Ak.length<g.Ak.length:=by omega
 have c1':¬(h.Ak.length:Int)<g.Ak.length:=by omega
 have c2:¬h.BC.length<g.BC.length:=by omega
 have c2':¬(h.BC.length:Int)<g.BC.length:=by omega
 refine xS (Az fun K hK=>?_);refine xH ?_;simp[t3,t4,c1',c2'];refine Aj (hK _ _ ?_);(try simp only[xQ,reduceIte]);refine AU ?_;simp;refine xK ?_;refine AW.El (R:=fun tm S=>tm 2=.d (An m)∧tm 3=.ptr 0 1 0 0∧tm 4=.ptr 1 1 0 0∧S=[.row true 9 [.d (AB g)],.row true 9 [.d (AB h)]]) ?_ ?_
 ·refine xW fun K hK=>?_;simp[t2];apply hK;refine Bw ?_;refine DC m.length (fun i tm S=>tm 2=.d (An m)∧tm 3=.ptr 0 1 0 0∧tm 4=.ptr 1 1 0 0∧tm 44=.d (An m)∧tm 45=.d (.int .i64 m.length)∧tm 46=.d (.int .i64 i)∧S=[.row true 9 [.d (AB g)],.row true 9 [.d (AB h)]]) (Nat.zero_le _) (by simp[t2,t3,t4]) ?_;rintro i tm S hi ⟨t2,t3,t4,t44,t45,t46,rfl⟩;refine xW fun K hK=>?_;simp[t45,t46];apply hK;refine xC ?_;simp;refine⟨fun hlt=>?_,fun hge=>?_⟩
  ·have hsx:=hs _ (List.getElem_mem hlt);generalize hx:m[i]=x at *;have henc:=Ab.eq_1 x;refine xK ?_;refine xB ?_;refine xW fun K hK=>?_;simp[t44,t46,hlt,hx,henc];apply hK;refine Az fun K hK=>?_;refine xJ ?_;simp[t3,t4];refine Bp (hsx) rfl (by simp[xN]) ?_;simp;refine xJ ?_;simp;refine Aj (hK _ _ ?_);refine AU ?_;simp;refine CC ?_;refine xV fun K hK=>?_;simp[t46];apply hK;refine⟨hlt,_,_,AJ.EL 2 (S':=[.row true 9 [.d (AB g)],.row true 9 [.d (AB h)]]) rfl (by simp) (by simp) (by simp),?_⟩;simp[clean,belowV,t2,t3,t4,t44,t45,AQ hlt a2]
  ·refine Cu ?_;simp[t2,t3,t4]
 rintro tm S ⟨t2,t3,t4,rfl⟩;refine AW.El (R:=fun tm S=>True) ?_ ?_
 ·refine xW fun K hK=>?_;simp[t3];apply hK;refine Bw ?_;refine DC g.AD.length (fun i tm S=>tm 2=.d (An m)∧tm 3=.ptr 0 1 0 0∧tm 4=.ptr 1 1 0 0∧tm 57=.d (Bb g.AD)∧tm 58=.d (.int .i64 g.AD.length)∧tm 59=.d (.int .i64 i)∧S=[.row true 9 [.d (AB g)],.row true 9 [.d (AB h)]]) (Nat.zero_le _) (by simp[t2,t3,t4]) ?_;rintro i tm S hi ⟨t2,t3,t4,t57,t58,t59,rfl⟩;refine xW fun K hK=>?_;simp[t58,t59];apply hK;refine xC ?_;simp;refine⟨fun hlt=>?_,fun hge=>?_⟩
  ·have hpx:=hp i hlt;refine xK ?_;refine xB ?_;generalize hx:g.AD[i]=x at *;have henc:=AH.eq_1 x;(repeat refine xS ?_);refine xV fun K hK=>?_;simp[t57,t59,hlt,hx,henc];refine hK _ _ ?_;(try simp only[xQ,reduceIte]);by_cases e1:i<h.AD.length
   ·have e1':(i:Int)<h.AD.length:=by omega
    generalize hy:h.AD[i]=y at *;have heny:=AH.eq_1 y;by_cases e2:y.left=x.left
    ·have heq:=ID y.right x.right;refine xS ?_;refine xD [0,2,4,6,8,10,12,14,16,18,20,22,24,26,28,30,32,34,36,38,40,42,44,46,48,50,52] (by kernel_rfl) fun K hK=>?_;simp;refine xZ ?_;simp[t4,e1,e1',hy,heny,e2];refine Ae.CE (ds:=[As y.right,As x.right]) rfl rfl (by simp;rfl) (fun _=>heq) (by simp[xN]) ?_;simp;refine xZ ?_;simp;refine xM (hK _ _ ?_);(try simp only[xQ,reduceIte]);by_cases e3:y.right=x.right
     ·refine AU ?_;simp[e3];refine Cu ?_;refine xV fun K hK=>?_;simp[t59];apply hK;refine⟨hlt,_,_,AJ.EL 2 (S':=[.row true 9 [.d (AB g)],.row true 9 [.d (AB h)]]) rfl (by simp) (by simp) (by simp),?_⟩;simp[clean,belowV,t2,t3,t4,t57,t58,AQ hlt a1]
     ·have hto:=hpx.resolve_left (fun⟨h1,h2,h3,h4⟩=>e3 (by rw[hy,hx]at h4;exact h4));refine AU ?_;simp[e3];refine xK ?_;refine Az fun K hK=>?_;refine xJ ?_;simp[t2,t3];refine Bp (hto) rfl (by simp[xN]) ?_;simp;refine xJ ?_;simp;refine Aj (hK _ _ ?_);refine AU ?_;simp;refine CC ?_;refine xV fun K hK=>?_;simp[t59];apply hK;refine⟨hlt,_,_,AJ.EL 2 (S':=[.row true 9 [.d (AB g)],.row true 9 [.d (AB h)]]) rfl (by simp) (by simp) (by simp),?_⟩;simp[clean,belowV,t2,t3,t4,t57,t58,AQ hlt a1]
    ·have hto:=hpx.resolve_left (fun⟨h1,h2,h3,h4⟩=>e2 (by rw[hy,hx]at h3;exact h3));refine xS ?_;refine xD [0,2,4,6,8,10,12,14,16,18,20,22,24,26,28,30,32,34,36,38,40,42,44,46,48,50,52] (by kernel_rfl) fun K hK=>?_;simp;(repeat((first|refine Oi rfl rfl ?_ ?_;(·simp[e2])|refine dR rfl rfl ?_ ?_;(·simp[t4,e1,e1',hy,heny])|refine Ga ?_ ?_;(·simp[t4,e2]));simp[t4,e1,e1',hy,heny]));refine xM (hK _ _ ?_);(try simp only[QSeq,QBlock,reduceIte]);refine AU ?_;simp;refine xK ?_;refine Az fun K hK=>?_;refine xJ ?_;simp[t2,t3];refine Bp (hto) rfl (by simp[xN]) ?_;simp;refine xJ ?_;simp;refine Aj (hK _ _ ?_);refine AU ?_;simp;refine CC ?_;refine xV fun K hK=>?_;simp[t59];apply hK;refine⟨hlt,_,_,AJ.EL 2 (S':=[.row true 9 [.d (AB g)],.row true 9 [.d (AB h)]]) rfl (by simp) (by simp) (by simp),?_⟩;simp[clean,belowV,t2,t3,t4,t57,t58,AQ hlt a1]
   ·have e1':¬(i:Int)<h.AD.length:=by omega
    have hto:=hpx.resolve_left (fun⟨h1,h2,h3,h4⟩=>e1 h2);refine xS ?_;refine xD [0,2,4,6,8,10,12,14,16,18,20,22,24,26,28,30,32,34,36,38,40,42,44,46,48,50,52] (by kernel_rfl) fun K hK=>?_;simp;refine xZ ?_;simp[t4,e1'];refine xM (hK _ _ ?_);(try simp only[xQ,reduceIte]);refine AU ?_;simp;refine xK ?_;refine Az fun K hK=>?_;refine xJ ?_;simp[t2,t3];refine Bp (hto) rfl (by simp[xN]) ?_;simp;refine xJ ?_;simp;refine Aj (hK _ _ ?_);refine AU ?_;simp;refine CC ?_;refine xV fun K hK=>?_;simp[t59];apply hK;refine⟨hlt,_,_,AJ.EL 2 (S':=[.row true 9 [.d (AB g)],.row true 9 [.d (AB h)]]) rfl (by simp) (by simp) (by simp),?_⟩;simp[clean,belowV,t2,t3,t4,t57,t58,AQ hlt a1]
  ·refine Cu ?_;try simp only[QSeq,QBlock,reduceIte]
 rintro tm S _;refine xW fun K hK=>?_;simp;apply hK;refine Ag ?_;(try simp only[xQ,reduceIte]);refine⟨_,_,AJ.refl,by simp,_,_,⟨rfl,0,rfl,fun _ _=>rfl⟩,.inl ⟨.int .i64 0,_,by simp,rfl,AJ.AY 0 rfl (by simp) (by simp) (by simp)⟩⟩
open Go.Proofs Tryz DT
theorem At.Ei{P:Program}{f:FuncId}{args args':List V}{S:Sg}{R:V→Sg→Prop}(h:At P f args S R)(hl:args'.length=args.length)
  (hw:∀i (h:i<args.length) (h':i<args'.length),args[i]=args'[i]∨∃d,asD S args'[i]=some d∧args[i]=.d d):At P f args' S R:=
 ⟨h.1,fun G w cargs R hs ha=>h.2 G w cargs R (by omega) fun i hi hi'=>by
  have h2:=ha i (by omega) hi';rcases hw i hi (by omega)with e|⟨d,e1,e2⟩
  ·rw[e];exact h2
  ·rw[e2];exact .d _ _ (h2.asD R e1)⟩
theorem At.PW{P:Program}{f:FuncId}{ds:List D}{p:Int→Prop}(h:At P f (ds.map .d) [] fun v S'=>S'=[]∧∃e:Int,v=.d (AG e)∧p e)(S:Sg):
  At P f (ds.map .d) S fun v S'=>(∃e:Int,v=.d (AG e)∧p e)∧S'=S:=by
 have h1:=h.Bq (S:=S) [] (by simp) (fun v S0' _=>Nat.zero_le _) (by simp[belowV]);have e1:(ds.map V.d).map (renV (nameOf []))=ds.map .d:=by simp[Function.comp_def,renV]
 rw[e1]at h1;refine h1.mono ?_;rintro v' S' ⟨v,S0',⟨rfl,e,rfl,hp⟩,rfl,rfl⟩;exact⟨⟨e,by simp[renV],hp⟩,by simp⟩
def Yk:Code→Code
 |.seq _ y=>y
 |c=>c
noncomputable def Y3:Code:=Yk (Yk (Yk ((Tryz.f7.body).getD .skip)))
def bx(k1 k2:FuncId):Sg:=[.row true 1 [.fn (.func k1) [] []],.row true 1 [.fn (.func k2) [] []]]
def BV:AF:=⟨[],⟨[],0⟩,[],[],[],0,[],[]⟩
def A3(b:Bool)(r:Nat):List V:=if b then [.ptr r 1 0 0]else []
def fZ(g:AF)(u fit:Bool)(h:AF)(mm:List Rewrite)(lg:Bool)(v:V)(S':Sg):Prop:=
 S'=[]∧∃(h':AF) (m':List Rewrite) (e:Int),v=.d (.Bd [AB h',An m',AG e])∧h'.conds.length≤12∧(e=0→h'=h∧m'=mm)∧(QK g→u&&fit=false→e=310)∧(QK g→QK h→u&&fit=true→lg=false→e=0)
def Uv:Rewrite:=⟨0,0,0,[]⟩
def mD(mm:List Rewrite)(i:Nat):List Rewrite:=(List.range mm.length).map fun k=>if k<i then mm.getD k Uv else Uv
theorem Z7(mm:List Rewrite)(i:Nat):(mD mm i).length=mm.length:=by simp[mD]
theorem YK(mm:List Rewrite):mD mm 0=List.replicate mm.length Uv:=by
 unfold mD;apply List.ext_getElem (by simp);intro k h1 h2;simp
theorem YF(mm:List Rewrite){i:Nat}(h:i<mm.length):mD mm (i+1)=(mD mm i).set i mm[i]:=by
 unfold mD;apply List.ext_getElem (by simp);intro k h1 h2;have hk:k<mm.length:=by simpa using h1
 rw[List.getElem_set];by_cases e:i=k
 ·subst e;simp[h]
 ·rw[if_neg e];have e1:(k<i+1)=(k<i):=by apply propext;omega
  simp[e1]
theorem ZV(mm:List Rewrite):mD mm mm.length=mm:=by
 unfold mD;apply List.ext_getElem (by simp);intro k h1 h2;simp[h2]
def mS(g h:AF)(x:Change)(mm:List Rewrite)(lg:Bool)(l:List Rewrite):Sg:=
 [.row true 9 [.d (AB g)],.row true 31 [.d (AO x)],.row true 9 [.agg [.full [],.full [],.d (.int .i64 0),.full [],.full [],.full [],.d (.int .i64 0),.full [],.full []]],.row true 51 [.d (H0 g x h mm lg)],.row true 4 (l.map fun r=>.d (Ab r))]
theorem DI(hsm:∀g,DX g=0→EO g)(g:AF)(x:Change)(c f a k1 k2:FuncId)(cF:Change→Change)(fb ab kp fit:Bool)(h:AF)(mm:List Rewrite)(lg:Bool)
  (hg0:DX g=0) (hclr:R5 c cF)
  (hfit:Fi (cF x)=true→AE prog f (.ptr 4 1 0 0::A3 fb 5) (bS g x++bx k1 k2) (.d (.bool fit)) (bS g x++bx k1 k2))
  (hap:fit=true→AE prog a (.ptr 4 1 0 0::A3 ab 6) (bS g x++bx k1 k2) (.d (AG 0)) (D5 g x h mm lg++bx k1 k2))
  (hmm:mm.length≤100∧∀x∈mm,x.BL.length≤2 ^ 30) (hc:h.conds.length≤12) (hmp:fit=true→At prog 27 [.d (AB g),.d (AB h),.d (An mm)] [] (bR g h)) {tm:Tm}
  (t2:tm 2=.ptr 0 1 0 0) (t3:tm 3=.ptr 1 1 0 0) (t4:tm 4=.ptr 2 1 0 0) (t8:tm 8=.ptr 3 1 0 0) (t9:tm 9=.d (.bool true)):
  AW prog 124 0 Y3 (Jm prog 124 0 Tryz.f7.results.toList (fZ g (Fi (cF x)) fit h mm lg)) tm (Cl g x c f a (A3 fb 4) (A3 ab 5) kp k1 k2):=by
 have hcl:=NY g (hsm g hg0);unfold Y3 Tryz.f7;simp only[Yk,Option.getD_some];unfold Cl;(repeat refine xS ?_);refine xE [0,2,4,7,8,11,12] (by kernel_rfl) fun K hK=>?_;simp;refine xA 1 ?_;simp[t2,t3];refine Ae.Ds (xT [1,0,0]) (hcl) [] (by kernel_rfl) rfl (by simp[AR,t2,t3];try rfl) ?_;simp;refine xA 1 ?_;simp[hV];refine xX 1 (by kernel_rfl) ?_;simp[AR,hS,t2,t3];refine xA 1 ?_;simp;refine xM (hK _ _ ?_);(try simp only[xQ,reduceIte]);have hcx:=hclr x;unfold Py at hcx;have hun:=Mg (cF x);generalize cF x=y at *;refine xW fun K hK=>?_;simp[t3];apply hK;refine xS (xW fun K hK=>?_);simp[t9];apply hK;refine AU ?_;simp;refine BX fun K hK=>?_;refine xJ ?_;simp[t8];refine xF (hcx) [11] rfl ?_;simp;refine xJ ?_;simp;refine Aj (hK _ _ ?_);cases hu:Fi y with
 |false=>
  rw[hu]at hun;refine xS (Az fun K hK=>?_);refine xH ?_;simp[t9];refine AS.Cj (hun) rfl rfl (by simp[xN];try rfl) ?_;simp;refine xH ?_;simp;refine Aj (hK _ _ ?_);(try simp only[xQ,reduceIte]);refine AU ?_;simp;refine xW fun K hK=>?_;simp[t4];apply hK;refine Ag ?_;(try simp only[xQ,reduceIte]);refine⟨_,_,AJ.refl,by simp[t4],_,_,⟨rfl,BV,[],310,rfl,by decide,fun h=>absurd h (by decide),fun _ _=>rfl,fun _ _ h=>absurd h (by simp)⟩,.inl ⟨.Bd [AB BV,An [],AG 310],_,by simp[t4,asD,AB,BV],rfl,AJ.AY 0 rfl (by simp) (by simp) (by simp)⟩⟩
 |true=>
  rw[hu]at hun;have hf1:=hfit hu;unfold bS CG bV bx at hf1;simp at hf1;refine xS (Az fun K hK=>?_);refine xH ?_;simp[t9];refine AS.Cj (hun) rfl rfl (by simp[xN];try rfl) ?_;simp;refine xH ?_;simp[t8];refine AS.KR hf1 [6,7,8,9,10,4,5] rfl rfl (by cases fb<;>simp[A3,calleeF,callee,nameOf,renV,renVs]<;>decide) ?_;simp;refine xH ?_;simp;refine Aj (hK _ _ ?_);(try simp only[xQ,reduceIte]);clear hf1;cases fit with
  |false=>
   refine AU ?_;simp;refine xW fun K hK=>?_;simp[t4];apply hK;refine Ag ?_;(try simp only[xQ,reduceIte]);refine⟨_,_,AJ.refl,by simp[t4],_,_,⟨rfl,BV,[],310,rfl,by decide,fun h=>absurd h (by decide),fun _ _=>rfl,fun _ _ h=>absurd h (by simp)⟩,.inl ⟨.Bd [AB BV,An [],AG 310],_,by simp[t4,asD,AB,BV],rfl,AJ.AY 0 rfl (by simp) (by simp) (by simp)⟩⟩
  |true=>
   have ha1:=hap rfl;unfold bS D5 CG bV bx at ha1;simp at ha1;refine AU ?_;simp;refine xK ?_;refine xS (Az fun K hK=>?_);refine xJ ?_;simp[t8];refine AS.Ds ha1 [6,7,8,9,10,4,5] rfl (by cases ab<;>simp[A3,calleeF,callee,nameOf,renV,renVs]<;>decide) ?_;simp;refine xJ ?_;simp;refine Aj (hK _ _ ?_);(try simp only[xQ,reduceIte]);clear ha1;refine xW fun K hK=>?_;simp;apply hK;refine AU ?_;simp;refine CC ?_;have heB:=H0.eq_1 g x h mm lg;refine xS (xW fun K hK=>?_);simp[heB];apply hK;cases hlg:lg with
   |true=>
    refine AU ?_;simp;refine xW fun K hK=>?_;simp[t4];apply hK;refine Ag ?_;(try simp only[xQ,reduceIte]);refine⟨_,_,AJ.refl,by simp[t4],_,_,⟨rfl,BV,[],2,rfl,by decide,fun h=>absurd h (by decide),fun _ h=>absurd h (by simp),fun _ _ _ h=>absurd h (by simp)⟩,.inl ⟨.Bd [AB BV,An [],AG 2],_,by simp[t4,asD,AB,BV],rfl,AJ.AY 0 rfl (by simp) (by simp) (by simp)⟩⟩
   |false=>
    have fh:=Ca h hc;refine AU ?_;simp;refine CC ?_;rw[hlg]at heB;refine xS (Az fun K hK=>?_);refine xJ ?_;simp;refine AS.ghost (AJ.bI 73 (AB h) (by simp[asD,AB])) ?_;refine AS.Cf fh [] rfl ?_ ?_ ?_
    ·simp
    ·rintro v S0' ⟨rfl,r,rfl,_⟩;simp
    rintro v S0' ⟨rfl,r,rfl,hr1,hr2⟩;simp;refine xJ ?_;simp;refine Aj (hK _ _ ?_);(try simp only[xQ,reduceIte]);by_cases hz:r=0
    ·refine xW fun K hK=>?_;simp[hz];apply hK;refine AU ?_;simp;refine CC ?_;have hr0:DX h=0:=by rcases hr2 with e|e<;>omega
     have hm1:=At.PW (P:=prog) (f:=27) (ds:=[AB g,AB h,An mm]) (p:=fun e=>QK g→QK h→e=0) (hmp rfl);have hm2:∀S,_:=fun S=>(hm1 S).Ei (args':=[.d (AB g),.agg [.d (CW h.conds),.d (AV h.Cz.nodes),.d (AG h.Cz.root),.d (Bs h.Ak),.d (CW h.BC),.d (Bb h.AD),.d (AG h.start),.d (BI h.levels),.d (A8 h.AM)],.d (An mm)]) rfl fun i h1 h2=>by
      match i,h1 with
      |0,_=>exact .inl rfl
      |1,_=>exact .inr ⟨AB h,by simp[asD,AB],rfl⟩
      |2,_=>exact .inl rfl
     (repeat refine xS ?_);refine AW.Yf [(0,true),(1,true),(2,true),(3,true),(4,true),(5,true),(6,true),(7,true),(8,true),(9,false),(10,true)] (by kernel_rfl) rfl (by kernel_rfl) (by decide) fun K hK=>?_;simp;(repeat((refine I8.fU ?_ ?_);(focus(simp[t2];done));simp[t2]));(refine I8.J4 (hm2 _) rfl (by simp[callee];try rfl) ?_);rintro _ ⟨e3,rfl,he3⟩;simp;(repeat((refine I8.fU ?_ ?_);(focus(simp;done));simp));refine I8.nil (hK _ _ ?_);(try simp only[xQ,reduceIte]);by_cases hz3:e3=0
     ·refine xW fun K hK=>?_;simp[hz3];apply hK;refine AU ?_;simp;refine CC ?_;have hml:(mm.length:Int)≤1073741824:=by omega
      refine AW.Ew (R:=fun tm S=>tm 4=.ptr 2 1 0 0∧tm 10=.ptr 3 1 0 0∧tm 15=.row 4 mm.length∧S=mS g h x mm false (mD mm 0)) ?_ ?_
      ·refine xV fun K hK=>?_;simp[hml];apply hK;refine⟨_,_,(AJ.A2 12 (xs:=(List.replicate mm.length Uv).map Ab) rfl ?_).trans (AJ.Cy [0,1,2,10,12] (S0:=mS g h x mm false (mD mm 0)) ?_ (by simp) (by simp)),?_⟩
       ·rw[Bc];simp[Uv,Ab,asD]
       ·rw[YK];simp[mS,heB]
       ·simp[pick,t4];decide
      rintro tm S ⟨t4,t10,t15,rfl⟩;refine AW.El (R:=fun tm S=>tm 4=.ptr 2 1 0 0∧tm 10=.ptr 3 1 0 0∧tm 15=.row 4 mm.length∧S=mS g h x mm false mm) ?_ ?_
      ·unfold mS;refine xW fun K hK=>?_;simp[t10,heB];apply hK;refine Bw ?_;refine DC mm.length (fun i tm S=>tm 4=.ptr 2 1 0 0∧tm 10=.ptr 3 1 0 0∧tm 15=.row 4 mm.length∧tm 102=.d (An mm)∧tm 103=.d (.int .i64 mm.length)∧tm 104=.d (.int .i64 i)∧S=mS g h x mm false (mD mm i)) (Nat.zero_le _) (by simp[t4,t10,t15,mS,heB]) ?_;rintro i tm S hi ⟨t4,t10,t15,t102,t103,t104,rfl⟩;refine xW fun K hK=>?_;simp[t103,t104];apply hK;refine xC ?_;simp;refine⟨fun hlt=>?_,fun hge=>?_⟩
       ·have hms:=YF mm hlt;have hmlen:=Z7 mm i;have htl:=hmm.2 _ (List.getElem_mem hlt);generalize hr:mm[i]=rw at *;have henc:=Ab.eq_1 rw;have hclt:=NU rw.BL htl;generalize mD mm i=ml at *;unfold mS;refine xK ?_;refine xB ?_;refine xW fun K hK=>?_;simp[t102,t104,hlt,hr,henc];apply hK;refine Az fun K hK=>?_;refine xJ ?_;simp;refine xF (hclt) [] rfl ?_;simp;refine xJ ?_;simp;refine Aj (hK _ _ ?_);refine AW.ghost (AJ.B6 6 (xs:=rw.BL.map A1) rfl (by simp)) ?_;simp;refine xV fun K hK=>?_;simp[t15,hlt,hmlen];apply hK;have hwi:IntKind.i64.wrap ((i:Int)+1)=(i+1:Nat):=by rw[IntKind.wrap_i64];omega
        refine xV fun K hK=>?_;simp[t104,hwi];apply hK;obtain⟨ml2,hm2⟩:∃ml2,ml.set i rw=ml2:=⟨_,rfl⟩;rw[hm2]at hms;refine⟨hlt,_,_,(AJ.A2 4 (xs:=(ml.set i rw).map Ab) rfl ?_).trans (AJ.EL 5 (S':=mS g h x mm false ml2) ?_ (by simp) (by simp) (by simp[mS])),?_⟩
        ·rw[Bc,List.map_set,List.map_map,List.map_set,List.map_set,List.map_map];congr 1;simp[asD,henc]
        ·rw[←hm2];simp[mS,List.map_set,Function.comp_def]
        ·simp[clean,belowV,t4,t10,t15,t102,t103,hms,mS]
       ·have e:i=mm.length:=by omega
        subst e;rw[ZV];refine Cu ?_;simp[t4,t10,t15,mS]
      ·rintro tm S ⟨t4,t10,t15,rfl⟩;have hch:=NY h (hsm h hr0);unfold hV hS at hch;unfold mS;(repeat refine xS ?_);refine BX fun K hK=>?_;refine xJ ?_;simp[t10,heB];refine AS.ghost (AJ.bI 121 (AB h) (by simp[asD,AB])) ?_;refine xF (hch) [] rfl ?_;simp;refine xJ ?_;simp[t4,t15];refine Aj (hK _ _ ?_);(try simp only[xQ,reduceIte]);refine Ag ?_;(try simp only[xQ,reduceIte]);refine⟨_,_,(AJ.B6 4 (xs:=mm.map Ab) rfl (by simp)).trans ((AJ.B6 5 (xs:=h.conds.map D.str) rfl (by simp)).trans ((AJ.B6 6 (xs:=h.Ak.map Aa) rfl (by simp)).trans ((AJ.B6 7 (xs:=h.BC.map D.str) rfl (by simp)).trans (AJ.B6 8 (xs:=h.AD.map AH) rfl (by simp))))),by simp[t4],_,_,⟨rfl,h,mm,0,rfl,hc,fun _=>⟨rfl,rfl⟩,fun _ h=>absurd h (by simp),fun _ _ _ _=>rfl⟩,.inl ⟨.Bd [AB h,An mm,AG 0],_,by simp[t4,asD,AB],rfl,AJ.AY 0 rfl (by simp) (by simp) (by simp)⟩⟩
     ·refine xW fun K hK=>?_;simp;apply hK;refine AU ?_;simp[hz3];refine xW fun K hK=>?_;simp[t4];apply hK;refine Ag ?_;(try simp only[xQ,reduceIte]);refine⟨_,_,AJ.refl,by simp[t4],_,_,⟨rfl,BV,[],e3,rfl,by decide,fun h=>absurd h hz3,fun _ h=>absurd h (by simp),fun h1 h2 _ _=>he3 h1 h2⟩,.inl ⟨.Bd [AB BV,An [],AG e3],_,by simp[t4,asD,AB,BV],rfl,AJ.AY 0 rfl (by simp) (by simp) (by simp)⟩⟩
    ·refine xW fun K hK=>?_;simp;apply hK;refine AU ?_;simp[hz];refine xW fun K hK=>?_;simp[t4];apply hK;refine Ag ?_;(try simp only[xQ,reduceIte]);refine⟨_,_,AJ.refl,by simp[t4],_,_,⟨rfl,BV,[],r,rfl,by decide,fun h=>absurd h hz,fun _ h=>absurd h (by simp),fun _ h1 _ _=>(hr1 (.inr h1.2)).trans h1.1⟩,.inl ⟨.Bd [AB BV,An [],AG r],_,by simp[t4,asD,AB,BV],rfl,AJ.AY 0 rfl (by simp) (by simp) (by simp)⟩⟩
end Go.Koi
