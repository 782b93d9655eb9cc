/- Part 37 of the proof that the law ChangeValid returns true for every input. -/
import Derived.Test.YtlgjmkfbkhfakaaGreatDoorK34
set_option maxHeartbeats 64000000
set_option maxRecDepth 100000
namespace Go.Koi
open Go.Proofs Tryz DT
theorem Mb(k:FuncId):AE prog 62 [.fn (.func k) [] []] [] (.fn (.func 138) [] [.ptr 0 1 0 0]) [.row true 1 [.fn (.func k) [] []]]:=by
 refine AE.AI func62 (by kernel_rfl) rfl (by simp) fun wf _=>?_;rw[ntmps62];refine xW fun K hK=>?_;simp;apply hK;refine xW fun K hK=>?_;simp;apply hK;refine Ag ?_;(try simp only[xQ,reduceIte]);refine⟨_,AJ.refl,?_⟩;simp[Am]
theorem C8(k:FuncId):AE prog 60 [.fn (.func k) [] []] [] (.fn (.func 61) [] [.ptr 0 1 0 0]) [.row true 1 [.fn (.func k) [] []]]:=by
 refine AE.AI func60 (by kernel_rfl) rfl (by simp) fun wf _=>?_;rw[ntmps60];refine xW fun K hK=>?_;simp;apply hK;refine xW fun K hK=>?_;simp;apply hK;refine Ag ?_;(try simp only[xQ,reduceIte]);refine⟨_,AJ.refl,?_⟩;simp[Am]
theorem VL{k:FuncId}{S0 S1:Sg}{r q:Nat}(h:AE prog k [.ptr r 1 0 0] S0 (.Bd []) S1)(hq:S0[q]?=some (.row true 1 [.fn (.func k) [] []])):
  AE prog 61 [.ptr r 1 0 0,.ptr q 1 0 0] S0 (.d (AG 0)) S1:=by
 refine AE.AI func61 (by kernel_rfl) rfl (by simp) fun wf _=>?_;rw[ntmps61];refine xW fun K hK=>?_;simp;apply hK;refine Az fun K hK=>?_;refine xJ ?_;simp[hq];refine AS.call rfl rfl (by simp) (f:=k) (args:=[.ptr r 1 0 0]) (by simp[callee];try rfl) (by simp) h ?_;simp;refine Aj (hK _ _ ?_);refine xW fun K hK=>?_;simp;apply hK;refine Ag ?_;(try simp only[xQ,reduceIte]);refine⟨_,AJ.refl,?_⟩;simp[Am]
def C7:List (D×V):=[(.int .i64 1,.agg [.fn (.func 58) [] [],.fn (.func 138) [] [.ptr 1 1 0 0],.d (.bool true),.fn (.func 61) [] [.ptr 2 1 0 0]]),(.int .i64 2,.agg [.fn (.func 58) [] [],.fn (.func 65) [] [],.d (.bool true),.fn (.func 61) [] [.ptr 3 1 0 0]]),(.int .i64 3,.agg [.fn (.func 58) [] [],.fn (.func 138) [] [.ptr 4 1 0 0],.d (.bool true),.fn (.func 61) [] [.ptr 5 1 0 0]]),(.int .i64 4,.agg [.fn (.func 69) [] [],.fn (.func 57) [] [],.d (.bool true),.fn (.func 61) [] [.ptr 6 1 0 0]]),(.int .i64 5,.agg [.fn (.func 71) [] [],.fn (.func 138) [] [.ptr 7 1 0 0],.d (.bool false),.fn (.func 61) [] [.ptr 8 1 0 0]]),(.int .i64 6,.agg [.fn (.func 73) [] [],.fn (.func 74) [] [],.d (.bool false),.fn (.func 61) [] [.ptr 9 1 0 0]]),(.int .i64 7,.agg [.fn (.func 78) [] [],.fn (.func 79) [] [],.d (.bool true),.fn (.func 80) [] []]),(.int .i64 8,.agg [.fn (.func 59) [] [],.fn (.func 81) [] [],.d (.bool true),.fn (.func 83) [] []]),(.int .i64 9,.agg [.fn (.func 84) [] [],.fn (.func 79) [] [],.d (.bool true),.fn (.func 85) [] []]),(.int .i64 10,.agg [.fn (.func 86) [] [],.fn (.func 57) [] [],.d (.bool false),.fn (.func 61) [] [.ptr 10 1 0 0]]),(.int .i64 11,.agg [.fn (.func 88) [] [],.fn (.func 57) [] [],.d (.bool false),.fn (.func 61) [] [.ptr 11 1 0 0]]),(.int .i64 12,.agg [.fn (.func 90) [] [],.fn (.func 57) [] [],.d (.bool false),.fn (.func 61) [] [.ptr 12 1 0 0]]),(.int .i64 13,.agg [.fn (.func 92) [] [],.fn (.func 57) [] [],.d (.bool false),.fn (.func 61) [] [.ptr 13 1 0 0]]),(.int .i64 14,.agg [.fn (.func 94) [] [],.fn (.func 65) [] [],.d (.bool false),.fn (.func 61) [] [.ptr 14 1 0 0]])]
def DB:Sg:=[.row true 1 [.fn (.func 63) [] []],.row true 1 [.fn (.func 64) [] []],.row true 1 [.fn (.func 66) [] []],.row true 1 [.fn (.func 67) [] []],.row true 1 [.fn (.func 68) [] []],.row true 1 [.fn (.func 70) [] []],.row true 1 [.fn (.func 67) [] []],.row true 1 [.fn (.func 72) [] []],.row true 1 [.fn (.func 76) [] []],.row true 1 [.fn (.func 87) [] []],.row true 1 [.fn (.func 89) [] []],.row true 1 [.fn (.func 91) [] []],.row true 1 [.fn (.func 93) [] []],.row true 1 [.fn (.func 95) [] []]]
theorem CJ:AE prog 26 [] [] (.map 0) (.map C7::DB):=by
 refine AE.AI func26 (by kernel_rfl) rfl (by simp) fun wf _=>?_;rw[ntmps26];refine xW fun K hK=>?_;simp;apply hK;refine xW fun K hK=>?_;simp;apply hK;refine xW fun K hK=>?_;simp;apply hK;refine xW fun K hK=>?_;simp;apply hK;refine xW fun K hK=>?_;simp;apply hK;(repeat refine xS ?_);refine BX fun K hK=>?_;refine xJ ?_;simp;refine xF (Mb 63) [] rfl ?_;simp;refine xJ ?_;simp;refine xF (C8 64) [] rfl ?_;simp;refine xJ ?_;simp[DU,A4,AAR,AAV,AAX];refine xF (C8 66) [] rfl ?_;simp;refine xJ ?_;simp[DU,A4,deq,AAR,AAV,AAX];refine xF (Mb 67) [] rfl ?_;simp;refine xJ ?_;simp;refine xF (C8 68) [] rfl ?_;simp;refine xJ ?_;simp[DU,A4,deq,AAR,AAV,AAX];refine xF (C8 70) [] rfl ?_;simp;refine xJ ?_;simp[DU,A4,deq,AAR,AAV,AAX];refine xF (Mb 67) [] rfl ?_;simp;refine xJ ?_;simp;refine xF (C8 72) [] rfl ?_;simp;refine xJ ?_;simp[DU,A4,deq,AAR,AAV,AAX];refine xF (C8 76) [] rfl ?_;simp;refine xJ ?_;simp[DU,A4,deq,AAR,AAV,AAX];refine xF (C8 87) [] rfl ?_;simp;refine xJ ?_;simp[DU,A4,deq,AAR,AAV,AAX];refine xF (C8 89) [] rfl ?_;simp;refine xJ ?_;simp[DU,A4,deq,AAR,AAV,AAX];refine xF (C8 91) [] rfl ?_;simp;refine xJ ?_;simp[DU,A4,deq,AAR,AAV,AAX];refine xF (C8 93) [] rfl ?_;simp;refine xJ ?_;simp[DU,A4,deq,AAR,AAV,AAX];refine xF (C8 95) [] rfl ?_;simp;refine xJ ?_;simp[DU,A4,deq,AAR,AAV,AAX];refine Aj (hK _ _ ?_);(try simp only[xQ,reduceIte]);refine Ag ?_;(try simp only[xQ,reduceIte]);refine⟨_,AJ.JK (by simp[C7,DB]),?_⟩;simp[Am]
open Go.Proofs DT
section
variable {P:Program} {n b:Nat} {ops:Array Oper} {tm:Tm} {S S1 S2:Sg} {K:Tm→Sg→Prop} {v1 v2:V}
theorem Ad.Ih{B:List (Nat×(Sg→Prop))}{listed:Array Bool}{fuel:Nat}{o1 o2:Oper}(i j:Nat)(ws1 ws2:List Bool)(hr:Region.ready .any ops listed=[i,j])(hi:ops[i]?=some o1)(hj:ops[j]?=some o2)
  (jz:B.map (fun p=>waits ops i p.1)=ws1) (jm:B.map (fun p=>waits ops j p.1)=ws2)
  (h1:A7 P n b ops i o1 tm S v1 S1) (jZ:okB ws1 B S S1) (h2:A7 P n b ops j o2 tm S v2 S2) (oz:okB ws2 B S S2)
  (k1:Ad P n b ops K (AA1 ws1 B) fuel (listed.setIfInBounds i true) (put tm o1.dst v1) S1)
  (k2:Ad P n b ops K (AA1 ws2 B) fuel (listed.setIfInBounds j true) (put tm o2.dst v2) S2):Ad P n b ops K B (fuel+1) listed tm S:=by
 refine⟨fun h0=>(by rw[hr]at h0;cases h0),fun k hk=>?_⟩;rw[hr]at hk;simp only[List.mem_cons,List.not_mem_nil,or_false]at hk;rcases hk with rfl|rfl
 ·exact⟨o1,_,_,hi,h1,D7 jz jZ,by rw[Eh jz];exact k1⟩
 ·exact⟨o2,_,_,hj,h2,D7 jm oz,by rw[Eh jm];exact k2⟩
theorem Ad.Mf{B:List (Nat×(Sg→Prop))}{listed:Array Bool}{fuel:Nat}{o1:Oper}(i:Nat)(ws1:List Bool)(hr:Region.ready .any ops listed=[i])(hi:ops[i]?=some o1)
  (jz:B.map (fun p=>waits ops i p.1)=ws1) (h1:A7 P n b ops i o1 tm S v1 S1) (jZ:okB ws1 B S S1)
  (k1:Ad P n b ops K (AA1 ws1 B) fuel (listed.setIfInBounds i true) (put tm o1.dst v1) S1):Ad P n b ops K B (fuel+1) listed tm S:=by
 refine⟨fun h0=>(by rw[hr]at h0;cases h0),fun k hk=>?_⟩;rw[hr]at hk;simp only[List.mem_cons,List.not_mem_nil,or_false]at hk;subst hk;exact⟨o1,_,_,hi,h1,D7 jz jZ,by rw[Eh jz];exact k1⟩
end
def Cl(g:AF)(x:AAC)(c f a:FuncId)(fc ac:List V)(kp:Bool)(k1 k2:FuncId):Sg:=
 [.row true 9 [.d (AB g)],.row true 31 [.d (AO x)],.row true 9 [.agg [.full [],.full [],.d (.int .i64 0),.full [],.full [],.full [],.d (.int .i64 0),.full [],.full []]],.row true 4 [.agg [.fn (.func c) [] [],.fn (.func f) [] fc,.d (.bool kp),.fn (.func a) [] ac]],.row true 1 [.fn (.func k1) [] []],.row true 1 [.fn (.func k2) [] []]]
section
variable {P:Program} {n b:Nat} {o:Oper} {tm tm':Tm} {S S':Sg} {v:V} {ops:Array Oper} {K:Tm→Sg→Prop}
def dq(P:Program)(n b:Nat)(ops:Array Oper)(i:Nat)(tm:Tm)(S:Sg)(R:Tm→Sg→Prop):Prop:=
 ∀G w a (K':Act→World→Prop) Q,St P n G S w a tm→b≤S.length→(∀tm' S',R tm' S'→∀a' w' G',E1 P n b G S w a.defers a' w' G' S' tm'→K' a' w')→wpOp P ops Q i K' a w
def HA(P:Program)(n b:Nat)(ops:Array Oper)(i:Nat)(o:Oper)(tm:Tm)(S:Sg)(R:V→Sg→Prop):Prop:=
 ∀tm',(∀t∈o.looksAt ops,tm' t=tm t)→dq P n b ops i tm' S fun t S'=>∃v,R v S'∧t=put tm' o.dst v
theorem A7.eS{i:Nat}(h:A7 P n b ops i o tm S v S'):HA P n b ops i o tm S fun u T=>u=v∧T=S':=fun tm' he G w a K' Q st hb k=>
 h tm' he G w a K' Q st hb fun a' w' G' hc=>k _ _ ⟨v,⟨rfl,rfl⟩,rfl⟩ a' w' G' hc
theorem HA.congr{i:Nat}{R:V→Sg→Prop}(h:HA P n b ops i o tm S R)(he:∀t∈o.looksAt ops,tm' t=tm t):HA P n b ops i o tm' S R:=fun tm2 h2=>
 h tm2 fun t ht=>(h2 t ht).trans (he t ht)
theorem HA.J4{i:Nat}{c:Call}{f:FuncId}{args:List V}{R:V→Sg→Prop}(hi:ops[i]?=some o)(ho:o.op=.call c)(hg:o.guard=none)(hd:A6 n o.dst)(hc:callee tm c=some (f,args))(hn:A5 tm c)
  (h:At P f args S R):HA P n b ops i o tm S R:=fun tm' he G w a K' Q st hb k=>by
 obtain⟨iW,gx⟩:=E5 ho he;rw[←iW]at hc;rw[←gx]at hn;clear iW gx he;unfold wpOp;simp only[hi,Region.wanted,hg,if_true];left;have key:∀(next:Act→World→Prop),(∀cv w' G' v S',R v S'→CV G' S' w' v cv→Rel P G' S' w'→Tr G S w G' S' w'→A9 G S w G' S' w'→next (a.put o.dst cv) w')→o.wp P a w next Q:=fun next kont=>by
  obtain⟨hf,h⟩:=h;unfold callee at hc;obtain⟨jC,kO⟩:=hn;cases iU:c.callee with
  |value x=>
   simp only[iU]at hc jC;have hx:=(BH st x).strip jC;split at hc
   ·rename_i k' first caps mc
    simp only[Option.some.injEq,Prod.mk.injEq]at hc;obtain⟨e1,e2⟩:=hc;subst e1;subst e2;rw[mc]at hx;generalize hX:a.eval x=X at hx;cases hx with
    |fn _ _ _ xs ys h1 h2 h3 h4=>
     unfold ACT at hf;have gi:=h G w (xs++c.args.map a.eval++ys) st.rel (by simp[h1,h2]) (fun i hi gj=>by
      by_cases e1:i<first.length
      ·rw[List.getElem_append_left (by simp;omega),List.getElem_append_left e1];rw[Array.getElem_append_left (by simp;omega),Array.getElem_append_left (by omega)];exact h3 i e1
      ·by_cases e2:i<first.length+c.args.size
       ·rw[List.getElem_append_left (by simp;omega),List.getElem_append_right (by omega)];rw[Array.getElem_append_left (by simp;omega),Array.getElem_append_right (by omega)];simp only[List.getElem_map,Array.getElem_map,Array.getElem_toList,h1];exact(BH st _).strip (Fx kO _ (by simp))
       ·simp only[List.length_append,List.length_map,Array.length_toList]at hi;rw[List.getElem_append_right (by simp;omega)];rw[Array.getElem_append_right (by simp;omega)];simp only[List.length_append,List.length_map,Array.length_toList,Array.size_append,Array.size_map,h1];exact h4 _ (by omega))
     unfold Oper.wp;have gl:(execOp a.eval o).run P w=.ok (.enter k' (xs++c.args.map a.eval++ys)) w:=by
      split at hf
      ·rename_i fn lM;simp only[Bool.and_eq_true,Bool.not_eq_true',beq_eq_false_iff_ne,ne_eq]at hf;obtain⟨b,hb⟩:=Option.isSome_iff_exists.1 hf.2;simp[execOp,ho,resolve,iU,hX,Deferred.ofValue,invoke,callFunc,lM,hf.1,hb]
      ·cases hf
     rw[gl];simp only[Oper.upon];exact gi.mono fun e w' ⟨cv,G',v,S',hr,he,g1,g2,g3,g4⟩=>by subst he;exact kont cv w' G' v S' hr g1 g2 g3 g4
   ·cases hc
  |invoke=>simp[iU]at hc
  |builtin=>simp[iU]at hc
 exact key _ fun cv w' G' v S' hr g1 g2 g3 g4=>k _ S' ⟨v,hr,rfl⟩ _ _ G' ⟨st.put hd g1 g2 g4,Be,g3,g4.late hb⟩
def PQ(P:Program)(n b:Nat)(ops:Array Oper)(K:Tm→Sg→Prop)(B:List (Nat×(Sg→Prop))):Nat→Array Bool→Tm→Sg→Prop
 |0,listed,tm,S=>Region.ready .any ops listed=[]∧K tm S
 |fuel+1,listed,tm,S=>(Region.ready .any ops listed=[]→K tm S)∧∀i∈Region.ready .any ops listed,∃o R,ops[i]?=some o∧HA P n b ops i o tm S R∧∀v S',R v S'→Ql ops B i S S'∧PQ P n b ops K (B.filter fun p=>!waits ops i p.1) fuel (listed.setIfInBounds i true) (put tm o.dst v) S'
theorem Gu:∀(fuel:Nat) (B B':List (Nat×(Sg→Prop))) (listed:Array Bool) (tm:Tm) (S:Sg),(∀p∈B',p∈B)→PQ P n b ops K B fuel listed tm S→PQ P n b ops K B' fuel listed tm S
 |0,_,_,_,_,_,_,h=>h
 |fuel+1,B,B',_,_,_,hB,h=>⟨h.1,fun k hk=>by
  obtain⟨o,R,e1,e2,e3⟩:=h.2 k hk;refine⟨o,R,e1,e2,fun v S' hr=>⟨fun p hp=>(e3 v S' hr).1 p (hB p hp),Gu fuel _ _ _ _ _ (fun p hp=>?_) (e3 v S' hr).2⟩⟩;rw[List.mem_filter]at hp⊢;exact⟨hB p hp.1,hp.2⟩⟩
theorem PL{i:Nat}{oi:Oper}{C:Sg→Prop}(hi:ops[i]?=some oi):
  ∀(fuel:Nat) (B:List (Nat×(Sg→Prop))) (listed:Array Bool) (tm:Tm) (S:Sg),(∀j oj,ops[j]?=some oj→j≠i→listed.getD j true=false→(∀e∈oj.after,Region.binds .any e=true→e.on≠i)→oi.apart ops oj=true)→i∈Region.ready .any ops listed→C S→(∀S',C S'→A7 P n b ops i oi tm S' v S')→PQ P n b ops K ((i,C)::B) fuel (listed.setIfInBounds i true) (put tm oi.dst v) S→PQ P n b ops K B (fuel+1) listed tm S:=by
 intro fuel;induction fuel with
 |zero=>
  intro B listed tm S _ hr hS hy H;refine⟨fun h=>(by rw[h]at hr;cases hr),fun j hj=>?_⟩;by_cases hji:j=i
  ·subst hji;refine⟨oi,_,hi,(hy S hS).eS,?_⟩;rintro _ _ ⟨rfl,rfl⟩;exact⟨fun p _=>.inr id,H⟩
  ·have:=ready_mono hj hji;rw[H.1]at this;cases this
 |succ fuel ih=>
  intro B listed tm S kR hr hS hy H;refine⟨fun h=>(by rw[h]at hr;cases hr),fun j hj=>?_⟩;by_cases hji:j=i
  ·subst hji;refine⟨oi,_,hi,(hy S hS).eS,?_⟩;rintro _ _ ⟨rfl,rfl⟩;refine⟨fun p _=>.inr id,Gu _ _ _ _ _ _ (fun p hp=>?_) H⟩;exact List.mem_cons_of_mem _ (List.mem_filter.1 hp).1
  ·obtain⟨oj,R,m7,iK,qB⟩:=H.2 j (ready_mono hj hji);obtain⟨m8,oj',na,gg⟩:=mem_ready.1 hj;rw[m7]at na;cases na;have kj:∀e∈oj.after,Region.binds .any e=true→e.on≠i:=fun e he hb heq=>by
    have h1:=gg e he hb;have h0:=(mem_ready.1 hr).1;rw[heq]at h1;rcases Nat.lt_or_ge i listed.size with h'|h'
    ·simp[h']at h0 h1;rw[h0]at h1;cases h1
    ·simp[Array.getElem?_eq_none h']at h1
   obtain⟨a1,a2,a3⟩:=Oper.apart_spec (kR j oj m7 hji m8 kj);have hw:waits ops j i=false:=by
    cases hx:waits ops j i with
    |false=>rfl
    |true=>
     obtain⟨e,he,hb,heq⟩:=IX m7 hx;exact absurd heq (kj e he hb)
   have lN:∀k ok,ops[k]?=some ok→k≠i→(listed.setIfInBounds j true).getD k true=false→(∀e∈ok.after,Region.binds .any e=true→e.on≠i)→oi.apart ops ok=true:=fun k ok hk sH oa gy=>by
    refine kR k ok hk sH ?_ gy;by_cases hjk:j=k
    ·subst hjk;exact m8
    ·rw[getD_set_ne true hjk]at oa;exact oa
   refine⟨oj,R,m7,iK.congr fun t ht=>(HM a1 t ht).symm,fun u S' hR=>?_⟩;obtain⟨hbound,iy⟩:=qB u S' hR;have hC:C S':=by
    rcases hbound (i,C) (by simp)with h|h
    ·obtain⟨e,he,hb,heq⟩:=IX m7 h;exact absurd heq (kj e he hb)
    ·exact h hS
   refine⟨fun p hp=>hbound p (by simp[hp]),?_⟩;refine ih (B.filter fun p=>!waits ops j p.1) (listed.setIfInBounds j true) (put tm oj.dst u) S' lN (ready_mono hr (Ne.symm hji)) hC (fun S2 h2=>(hy S2 h2).congr (HM a3)) ?_;rw[Array.setIfInBounds_comm _ _ hji,put_comm u v fun d hd h=>a2 d h hd];rw[List.filter_cons_of_pos (by simp[hw])]at iy;exact iy
theorem KM{Q:Exit→Act→World→Prop}:∀(fuel:Nat) (listed:Array Bool) (tm:Tm) (S:Sg),PQ P n b ops K [] fuel listed tm S→∀G w a,St P n G S w a tm→b≤S.length→(∀a' w',(∃G' S' tm',E1 P n b G S w a.defers a' w' G' S' tm'∧K tm' S')→Q .normal a' w')→wpAny P .any ops Q fuel listed a w
 |0,listed,tm,S,h,G,w,a,st,hb,hq=>⟨h.1,hq a w ⟨G,S,tm,.refl st hb,h.2⟩⟩
 |fuel+1,listed,tm,S,h,G,w,a,st,hb,hq=>by
  refine⟨fun h0=>hq a w ⟨G,S,tm,.refl st hb,h.1 h0⟩,fun i hi=>?_⟩;obtain⟨o,R,ho,iK,iy⟩:=h.2 i hi;refine iK tm (fun _ _=>rfl) G w a _ Q st hb ?_;rintro _ S' ⟨v,hR,rfl⟩ a' w' G' hc;refine KM fuel _ _ _ (iy v S' hR).2 G' w' a' hc.st hc.late.len fun a2 w2 hh=>?_;obtain⟨G2,S2,tm2,gx,hK⟩:=hh;exact hq a2 w2 ⟨G2,S2,tm2,⟨gx.st,gx.ds.trans hc.ds,hc.tr.trans gx.tr,hc.late.trans gx.late⟩,hK⟩
def I8(P:Program)(n b:Nat)(ops:Array Oper)(B:List (Nat×(Sg→Prop)))(l:List (Nat×Bool×Oper))(tm:Tm)(S:Sg)(K:Tm→Sg→Prop):Prop:=
 ∀listed,(∀p∈l,ops[p.1]?=some p.2.2)→AAy ops (l.map fun p=>(p.1,p.2.1)) listed=true→PQ P n b ops K B l.length listed tm S
theorem I8.nil{B:List (Nat×(Sg→Prop))}(h:K tm S):I8 P n b ops B [] tm S K:=fun listed _ hp=>⟨by simpa[AAy]using hp,h⟩
theorem I8.fU{B:List (Nat×(Sg→Prop))}{i:Nat}{rest:List (Nat×Bool×Oper)}(h1:AAw P n ops o tm S∧oS P o tm S=S)
  (h:I8 P n b ops ((i,fun S'=>S'=S)::B) rest (put tm o.dst (Cq P ops o tm S)) S K):I8 P n b ops B ((i,true,o)::rest) tm S K:=fun listed hl hp=>by
 have hi:ops[i]?=some o:=hl (i,true,o) (by simp);simp only[List.map_cons,AAy,Bool.and_eq_true,if_true]at hp;obtain⟨⟨jZ,h2⟩,h3⟩:=hp;refine PL (C:=fun S'=>S'=S) hi _ B listed tm S (Region.free_spec hi h2) (by simpa using jZ) rfl (fun S' hS=>?_) (h _ (fun p hp=>hl p (by simp[hp])) h3);subst hS;have:=A7.B5 (b:=b) hi h1.1;rwa [h1.2]at this
theorem I8.J4{B:List (Nat×(Sg→Prop))}{i:Nat}{rest:List (Nat×Bool×Oper)}{c:Call}{f:FuncId}{args:List V}{R:V→Prop}(h:At P f args S fun v S'=>R v∧S'=S)(ho:o.op=.call c)
  (hp:o.guard=none∧A6 n o.dst∧A5 tm c∧callee tm c=some (f,args)) (h2:∀v,R v→I8 P n b ops B rest (put tm o.dst v) S K):I8 P n b ops B ((i,false,o)::rest) tm S K:=fun listed hl jH=>by
 obtain⟨h3,h4,h5,h6⟩:=hp;have hi:ops[i]?=some o:=hl (i,false,o) (by simp);simp only[List.map_cons,AAy,Bool.and_eq_true,Bool.false_eq_true,if_false,beq_iff_eq]at jH;obtain⟨h1,j3⟩:=jH;refine⟨fun h0=>(by rw[h1]at h0;cases h0),fun j hj=>?_⟩;rw[h1]at hj;have:j=i:=by simpa using hj
 subst this;refine⟨o,_,hi,HA.J4 hi ho h3 h4 h6 h5 h,?_⟩;rintro v S' ⟨hR,rfl⟩;exact⟨fun p _=>.inr id,Gu _ _ _ _ _ _ (fun p hp=>(List.mem_filter.1 hp).1) (h2 v hR _ (fun p hp=>hl p (by simp[hp])) j3)⟩
theorem AW.Yf{id:Nat}{Q:Exit→Tm→Sg→Prop}(l:List (Nat×Bool))(hm:P.follows .mixedOrders=true)(hlen:l.length=ops.size)(hp:AAy ops l (Array.replicate ops.size false)=true)
  (pG:l.all (fun p=>decide (p.1<ops.size))=true) (h:∀K:Tm→Sg→Prop,(∀tm S,Q .normal tm S→K tm S)→I8 P n b ops [] (De ops l) tm S K):AW P n b (.region id ops true) Q tm S:=fun G w a st hb=>by
 refine wp_region_any hm ?_;obtain⟨r1,r2,r3⟩:=st.rel.drawn (w':={w with drawn:=w.drawn+1}) rfl rfl rfl;have h1:=h _ (fun _ _ h=>h) (Array.replicate ops.size false) (fun p hp=>by
  simp only[De,List.mem_map]at hp;obtain⟨q,hq,rfl⟩:=hp;have cx:q.1<ops.size:=by simpa using List.all_eq_true.1 pG q hq
  simp[cx]) (by
   have e:(De ops l).map (fun p=>(p.1,p.2.1))=l:=by simp[De,Function.comp_def]
   rw[e];exact hp)
 have e2:(De ops l).length=ops.size:=by simp[De,hlen]
 rw[e2]at h1;refine KM _ _ _ _ h1 G {w with drawn:=w.drawn+1} a ⟨st.size,st.tm.later r3,r1⟩ hb fun a' w' hh=>?_;obtain⟨G',S',tm',hc,hK⟩:=hh;exact⟨G',S',tm',⟨hc.st,hc.ds,r2.trans hc.tr,(r3.late hb).trans hc.late⟩,hK⟩
end
open Go.Proofs Tryz DT
theorem At.Ei{P:Program}{f:FuncId}{args args':List V}{S:Sg}{R:V→Sg→Prop}(h:At P f args S R)(hl:args'.length=args.length)
  (hw:∀i (h:i<args.length) (h':i<args'.length),args[i]=args'[i]∨∃d,asD S args'[i]=some d∧args[i]=.d d):At P f args' S R:=
 ⟨h.1,fun G w cargs R hs ha=>h.2 G w cargs R (by omega) fun i hi gj=>by
  have h2:=ha i (by omega) gj;rcases hw i hi (by omega)with e|⟨d,e1,e2⟩
  ·rw[e];exact h2
  ·rw[e2];exact .d _ _ (h2.asD R e1)⟩
theorem At.PW{P:Program}{f:FuncId}{ds:List D}{p:Int→Prop}(h:At P f (ds.map .d) [] fun v S'=>S'=[]∧∃e:Int,v=.d (AG e)∧p e)(S:Sg):
  At P f (ds.map .d) S fun v S'=>(∃e:Int,v=.d (AG e)∧p e)∧S'=S:=by
 have h1:=h.Bq (S:=S) [] (by simp) (fun v S0' _=>Nat.zero_le _) (by simp[AAB]);have e1:(ds.map V.d).map (AAO (nameOf []))=ds.map .d:=by simp[Function.comp_def,AAO]
 rw[e1]at h1;refine h1.mono ?_;rintro v' S' ⟨v,S0',⟨rfl,e,rfl,hp⟩,rfl,rfl⟩;exact⟨⟨e,by simp[AAO],hp⟩,by simp⟩
def Yk:Code→Code
 |.seq _ y=>y
 |c=>c
noncomputable def Y3:Code:=Yk (Yk (Yk ((Tryz.f7.body).getD .skip)))
def bx(k1 k2:FuncId):Sg:=[.row true 1 [.fn (.func k1) [] []],.row true 1 [.fn (.func k2) [] []]]
def BV:AF:=⟨[],⟨[],0⟩,[],[],[],0,[],[]⟩
def A3(b:Bool)(r:Nat):List V:=if b then [.ptr r 1 0 0]else []
def AAu(r:AF×List Rewrite×Int):D:=.Bd [AB r.1,An r.2.1,AG r.2.2]
noncomputable def apX(g:AF)(u fit:Bool)(ae:Int)(h:AF)(mm:List Rewrite)(lg:Bool):AF×List Rewrite×Int:=
 if(u&&fit)=false then(BV,[],310)else if ae≠0 then(BV,[],ae)else if lg=true then(BV,[],2)
 else if fcG h≠0 then(BV,[],fcG h)else if mpE g h mm≠0 then(BV,[],mpE g h mm)else(h,mm,0)
def Uv:Rewrite:=⟨0,0,0,[]⟩
def mD(mm:List Rewrite)(i:Nat):List Rewrite:=(List.range mm.length).map fun k=>if k<i then mm.getD k Uv else Uv
theorem Z7(mm:List Rewrite)(i:Nat):(mD mm i).length=mm.length:=by simp[mD]
theorem YK(mm:List Rewrite):mD mm 0=List.replicate mm.length Uv:=by
 unfold mD;apply List.ext_getElem (by simp);intro k h1 h2;simp
theorem YF(mm:List Rewrite){i:Nat}(h:i<mm.length):mD mm (i+1)=(mD mm i).set i mm[i]:=by
 unfold mD;apply List.ext_getElem (by simp);intro k h1 h2;have hk:k<mm.length:=by simpa using h1
 rw[List.getElem_set];by_cases e:i=k
 ·subst e;simp[h]
 ·rw[if_neg e];have e1:(k<i+1)=(k<i):=by apply propext;omega
  simp[e1]
theorem ZV(mm:List Rewrite):mD mm mm.length=mm:=by
 unfold mD;apply List.ext_getElem (by simp);intro k h1 h2;simp[h2]
def mS(g h:AF)(x:AAC)(mm:List Rewrite)(lg:Bool)(l:List Rewrite):Sg:=
 [.row true 9 [.d (AB g)],.row true 31 [.d (AO x)],.row true 9 [.agg [.full [],.full [],.d (.int .i64 0),.full [],.full [],.full [],.d (.int .i64 0),.full [],.full []]],.row true 51 [.d (H0 g x h mm lg)],.row true 4 (l.map fun r=>.d (Ab r))]
theorem DI(jd:∀g,DX g=0→EO g)(g:AF)(x:AAC)(c f a k1 k2:FuncId)(cF:AAC→AAC)(fb ab kp fit:Bool)(ae:Int)(h:AF)(mm:List Rewrite)(lg:Bool)
  (po:DX g=0) (oR:R5 c cF)
  (iw:Fi (cF x)=true→AE prog f (.ptr 4 1 0 0::A3 fb 5) (bS g x++bx k1 k2) (.d (.bool fit)) (bS g x++bx k1 k2))
  (oK:fit=true→AE prog a (.ptr 4 1 0 0::A3 ab 6) (bS g x++bx k1 k2) (.d (AG ae)) (D5 g x h mm lg++bx k1 k2))
  (lC:fit=true→ae=0→mm.length≤2 ^ 20∧(∀x∈mm,x.BL.length≤2 ^ 30)∧h.conds.length≤12) (rJ:g.conds.length≤12) {tm:Tm}
  (t2:tm 2=.ptr 0 1 0 0) (t3:tm 3=.ptr 1 1 0 0) (t4:tm 4=.ptr 2 1 0 0) (t8:tm 8=.ptr 3 1 0 0) (t9:tm 9=.d (.bool true)):
  AW prog 124 0 Y3 (e9 prog 124 0 Tryz.f7.results.toList (AAu (apX g (Fi (cF x)) fit ae h mm lg)) []) tm (Cl g x c f a (A3 fb 4) (A3 ab 5) kp k1 k2):=by
 have jQ:=NY g (jd g po);obtain⟨R,hR⟩:∃R,apX g (Fi (cF x)) fit ae h mm lg=R:=⟨_,rfl⟩;rw[hR];unfold apX at hR;unfold Y3 Tryz.f7;simp only[Yk,Option.getD_some];unfold Cl;(repeat refine xS ?_);refine xE [0,2,4,7,8,11,12] (by kernel_rfl) fun K hK=>?_;simp;refine xA 1 ?_;simp[t2,t3];refine Ae.Ds (xT [1,0,0]) (jQ) [] (by kernel_rfl) rfl (by simp[AR,t2,t3];try rfl) ?_;simp;refine xA 1 ?_;simp[hV];refine xX 1 (by kernel_rfl) ?_;simp[AR,hS,t2,t3];refine xA 1 ?_;simp;refine xM (hK _ _ ?_);(try simp only[xQ,reduceIte]);have kc:=oR x;unfold Py at kc;have oa:=Mg (cF x);generalize cF x=y at *;refine xW fun K hK=>?_;simp[t3];apply hK;refine xS (xW fun K hK=>?_);simp[t9];apply hK;refine AU ?_;simp;refine BX fun K hK=>?_;refine xJ ?_;simp[t8];refine xF (kc) [11] rfl ?_;simp;refine xJ ?_;simp;refine Aj (hK _ _ ?_);cases hu:Fi y with
 |false=>
  rw[hu]at oa hR;refine xS (Az fun K hK=>?_);refine xH ?_;simp[t9];refine AS.Cj (oa) rfl rfl (by simp[xN];try rfl) ?_;simp;refine xH ?_;simp;refine Aj (hK _ _ ?_);(try simp only[xQ,reduceIte]);refine AU ?_;simp;refine xW fun K hK=>?_;simp[t4];apply hK;refine Ag ?_;(try simp only[xQ,reduceIte]);rw[if_pos (by simp)]at hR;subst hR;refine⟨_,_,_,AJ.refl,by simp[t4],by simp[t4,asD,AB,BV,AAu],AJ.AY 0 (S':=[]) rfl (by simp) (by simp) (by simp)⟩
 |true=>
  rw[hu]at oa hR;have qj:=iw hu;unfold bS CG bV bx at qj;simp at qj;refine xS (Az fun K hK=>?_);refine xH ?_;simp[t9];refine AS.Cj (oa) rfl rfl (by simp[xN];try rfl) ?_;simp;refine xH ?_;simp[t8];refine AS.KR qj [6,7,8,9,10,4,5] rfl rfl (by cases fb<;>simp[A3,AAb,callee,nameOf,AAO,AAa]<;>decide) ?_;simp;refine xH ?_;simp;refine Aj (hK _ _ ?_);(try simp only[xQ,reduceIte]);clear qj;cases fit with
  |false=>
   refine AU ?_;simp;refine xW fun K hK=>?_;simp[t4];apply hK;refine Ag ?_;(try simp only[xQ,reduceIte]);rw[if_pos (by simp)]at hR;subst hR;refine⟨_,_,_,AJ.refl,by simp[t4],by simp[t4,asD,AB,BV,AAu],AJ.AY 0 (S':=[]) rfl (by simp) (by simp) (by simp)⟩
  |true=>
   have jP:=oK rfl;unfold bS D5 CG bV bx at jP;simp at jP;refine AU ?_;simp;refine xK ?_;refine xS (Az fun K hK=>?_);refine xJ ?_;simp[t8];refine AS.Ds jP [6,7,8,9,10,4,5] rfl (by cases ab<;>simp[A3,AAb,callee,nameOf,AAO,AAa]<;>decide) ?_;simp;refine xJ ?_;simp;refine Aj (hK _ _ ?_);(try simp only[xQ,reduceIte]);clear jP;by_cases hae:ae=0;case neg=>
    refine xW fun K hK=>?_;simp;apply hK;refine AU ?_;simp[hae];refine xW fun K hK=>?_;simp[t4];apply hK;refine Ag ?_;(try simp only[xQ,reduceIte]);rw[if_neg (by simp),if_pos hae]at hR;subst hR;refine⟨_,_,_,AJ.refl,by simp[t4],by simp[t4,asD,AB,BV,AAu],AJ.AY 0 (S':=[]) rfl (by simp) (by simp) (by simp)⟩
   obtain⟨xr,uS,hc⟩:=lC rfl hae;subst hae;refine xW fun K hK=>?_;simp;apply hK;refine AU ?_;simp;refine CC ?_;have heB:=H0.eq_1 g x h mm lg;refine xS (xW fun K hK=>?_);simp[heB];apply hK;cases hlg:lg with
   |true=>
    rw[hlg]at hR;refine AU ?_;simp;refine xW fun K hK=>?_;simp[t4];apply hK;refine Ag ?_;(try simp only[xQ,reduceIte]);rw[if_neg (by simp),if_neg (by simp),if_pos rfl]at hR;subst hR;refine⟨_,_,_,AJ.refl,by simp[t4],by simp[t4,asD,AB,BV,AAu],AJ.AY 0 (S':=[]) rfl (by simp) (by simp) (by simp)⟩
   |false=>
    have fh:=ABO h hc;rw[hlg]at hR;refine AU ?_;simp;refine CC ?_;rw[hlg]at heB;refine xS (Az fun K hK=>?_);refine xJ ?_;simp;refine AS.ghost (AJ.bI 73 (AB h) (by simp[asD,AB])) ?_;refine Bp (fh) rfl (by simp[xN]) ?_;simp;refine xJ ?_;simp;refine Aj (hK _ _ ?_);(try simp only[xQ,reduceIte]);have uK:fcG h=0→DX h=0:=fun e=>(AAt.1 e).1;have qG:=ABz g h mm rJ hc;generalize fcG h=r at *;generalize mpE g h mm=me at *;by_cases hz:r=0
    ·refine xW fun K hK=>?_;simp[hz];apply hK;refine AU ?_;simp;refine CC ?_;have nh:DX h=0:=uK hz;have mh:=At.PW (P:=prog) (f:=9) (ds:=[AB g,AB h,An mm]) (p:=fun e=>e=me) ((AE.eS qG).mono fun v S' ⟨e1,e2⟩=>⟨e2,me,e1,rfl⟩);have lz:∀S,_:=fun S=>(mh S).Ei (args':=[.d (AB g),.agg [.d (CW h.conds),.d (AV h.fam.nodes),.d (AG h.fam.root),.d (Bs h.Ak),.d (CW h.BC),.d (Bb h.AD),.d (AG h.start),.d (BI h.levels),.d (A8 h.AM)],.d (An mm)]) rfl fun i h1 h2=>by
      match i,h1 with
      |0,_=>exact .inl rfl
      |1,_=>exact .inr ⟨AB h,by simp[asD,AB],rfl⟩
      |2,_=>exact .inl rfl
     (repeat refine xS ?_);refine AW.Yf [(0,true),(1,true),(2,true),(3,true),(4,true),(5,true),(6,true),(7,true),(8,true),(9,false),(10,true)] (by kernel_rfl) rfl (by kernel_rfl) (by decide) fun K hK=>?_;simp;(repeat((refine I8.fU ?_ ?_);(focus(simp[t2];done));simp[t2]));(refine I8.J4 (lz _) rfl (by simp[callee];try rfl) ?_);rintro _ ⟨e3,rfl,rfl⟩;simp;(repeat((refine I8.fU ?_ ?_);(focus(simp;done));simp));refine I8.nil (hK _ _ ?_);(try simp only[xQ,reduceIte]);by_cases hz3:e3=0
     ·refine xW fun K hK=>?_;simp[hz3];apply hK;refine AU ?_;simp;refine CC ?_;have kI:(mm.length:Int)≤1073741824:=by omega
      refine AW.Ew (R:=fun tm S=>tm 4=.ptr 2 1 0 0∧tm 10=.ptr 3 1 0 0∧tm 15=.row 4 mm.length∧S=mS g h x mm false (mD mm 0)) ?_ ?_
      ·refine xV fun K hK=>?_;simp[kI];apply hK;refine⟨_,_,(AJ.A2 12 (xs:=(List.replicate mm.length Uv).map Ab) rfl ?_).trans (AJ.Cy [0,1,2,10,12] (S0:=mS g h x mm false (mD mm 0)) ?_ (by simp) (by simp)),?_⟩
       ·rw[Bc];simp[Uv,Ab,asD]
       ·rw[YK];simp[mS,heB]
       ·simp[pick,t4];decide
      rintro tm S ⟨t4,t10,t15,rfl⟩;refine AW.El (R:=fun tm S=>tm 4=.ptr 2 1 0 0∧tm 10=.ptr 3 1 0 0∧tm 15=.row 4 mm.length∧S=mS g h x mm false mm) ?_ ?_
      ·unfold mS;refine xW fun K hK=>?_;simp[t10,heB];apply hK;refine Bw ?_;refine DC mm.length (fun i tm S=>tm 4=.ptr 2 1 0 0∧tm 10=.ptr 3 1 0 0∧tm 15=.row 4 mm.length∧tm 102=.d (An mm)∧tm 103=.d (.int .i64 mm.length)∧tm 104=.d (.int .i64 i)∧S=mS g h x mm false (mD mm i)) (Nat.zero_le _) (by simp[t4,t10,t15,mS,heB]) ?_;rintro i tm S hi ⟨t4,t10,t15,t102,t103,t104,rfl⟩;refine xW fun K hK=>?_;simp[t103,t104];apply hK;refine xC ?_;simp;refine⟨fun cx=>?_,fun hO=>?_⟩
       ·have qQ:=YF mm cx;have r9:=Z7 mm i;have jA:=uS _ (List.getElem_mem cx);generalize hr:mm[i]=rw at *;have cy:=Ab.eq_1 rw;have uT:=NU rw.BL jA;generalize mD mm i=ml at *;unfold mS;refine xK ?_;refine xB ?_;refine xW fun K hK=>?_;simp[t102,t104,cx,hr,cy];apply hK;refine Az fun K hK=>?_;refine xJ ?_;simp;refine xF (uT) [] rfl ?_;simp;refine xJ ?_;simp;refine Aj (hK _ _ ?_);refine AW.ghost (AJ.B6 6 (xs:=rw.BL.map A1) rfl (by simp)) ?_;simp;refine xV fun K hK=>?_;simp[t15,cx,r9];apply hK;have ji:IntKind.i64.wrap ((i:Int)+1)=(i+1:Nat):=by rw[IntKind.wrap_i64];omega
        refine xV fun K hK=>?_;simp[t104,ji];apply hK;obtain⟨ml2,lz⟩:∃ml2,ml.set i rw=ml2:=⟨_,rfl⟩;rw[lz]at qQ;refine⟨cx,_,_,(AJ.A2 4 (xs:=(ml.set i rw).map Ab) rfl ?_).trans (AJ.EL 5 (S':=mS g h x mm false ml2) ?_ (by simp) (by simp) (by simp[mS])),?_⟩
        ·rw[Bc,List.map_set,List.map_map,List.map_set,List.map_set,List.map_map];congr 1;simp[asD,cy]
        ·rw[←lz];simp[mS,List.map_set,Function.comp_def]
        ·simp[clean,AAB,t4,t10,t15,t102,t103,qQ,mS]
       ·have e:i=mm.length:=by omega
        subst e;rw[ZV];refine Cu ?_;simp[t4,t10,t15,mS]
      ·rintro tm S ⟨t4,t10,t15,rfl⟩;have sZ:=NY h (jd h nh);unfold hV hS at sZ;unfold mS;(repeat refine xS ?_);refine BX fun K hK=>?_;refine xJ ?_;simp[t10,heB];refine AS.ghost (AJ.bI 121 (AB h) (by simp[asD,AB])) ?_;refine xF (sZ) [] rfl ?_;simp;refine xJ ?_;simp[t4,t15];refine Aj (hK _ _ ?_);(try simp only[xQ,reduceIte]);refine Ag ?_;(try simp only[xQ,reduceIte]);rw[if_neg (by simp),if_neg (by simp),if_neg (by simp),if_neg (by simpa using hz),if_neg (by simpa using hz3)]at hR;subst hR;refine⟨_,_,_,(AJ.B6 4 (xs:=mm.map Ab) rfl (by simp)).trans ((AJ.B6 5 (xs:=h.conds.map D.str) rfl (by simp)).trans ((AJ.B6 6 (xs:=h.Ak.map Aa) rfl (by simp)).trans ((AJ.B6 7 (xs:=h.BC.map D.str) rfl (by simp)).trans (AJ.B6 8 (xs:=h.AD.map AH) rfl (by simp))))),by simp[t4],by simp[t4,asD,AB,AAu],AJ.AY 0 (S':=[]) rfl (by simp) (by simp) (by simp)⟩
     ·refine xW fun K hK=>?_;simp;apply hK;refine AU ?_;simp[hz3];refine xW fun K hK=>?_;simp[t4];apply hK;refine Ag ?_;(try simp only[xQ,reduceIte]);rw[if_neg (by simp),if_neg (by simp),if_neg (by simp),if_neg (by simpa using hz),if_pos hz3]at hR;subst hR;refine⟨_,_,_,AJ.refl,by simp[t4],by simp[t4,asD,AB,BV,AAu],AJ.AY 0 (S':=[]) rfl (by simp) (by simp) (by simp)⟩
    ·refine xW fun K hK=>?_;simp;apply hK;refine AU ?_;simp[hz];refine xW fun K hK=>?_;simp[t4];apply hK;refine Ag ?_;(try simp only[xQ,reduceIte]);rw[if_neg (by simp),if_neg (by simp),if_neg (by simp),if_pos hz]at hR;subst hR;refine⟨_,_,_,AJ.refl,by simp[t4],by simp[t4,asD,AB,BV,AAu],AJ.AY 0 (S':=[]) rfl (by simp) (by simp) (by simp)⟩
open Go.Proofs Tryz DT
structure KE where
 kd:Int
 c:FuncId
 f:FuncId
 a:FuncId
 fb:Bool
 ab:Bool
 kp:Bool
 k1:FuncId
 k2:FuncId
 p1:Nat
 p2:Nat
def ABl:List KE:=[⟨1,58,138,61,true,true,true,63,64,4,5⟩,⟨2,58,65,61,false,true,true,63,66,4,6⟩,⟨3,58,138,61,true,true,true,67,68,7,8⟩,⟨4,69,57,61,false,true,true,63,70,4,9⟩,⟨5,71,138,61,true,true,false,67,72,10,11⟩,⟨6,73,74,61,false,true,false,63,76,4,12⟩,⟨7,78,79,80,false,false,true,63,64,4,5⟩,⟨8,59,81,83,false,false,true,63,64,4,5⟩,⟨9,84,79,85,false,false,true,63,64,4,5⟩,⟨10,86,57,61,false,true,false,63,87,4,13⟩,⟨11,88,57,61,false,true,false,63,89,4,14⟩,⟨12,90,57,61,false,true,false,63,91,4,15⟩,⟨13,92,57,61,false,true,false,63,93,4,16⟩,⟨14,94,65,61,false,true,false,63,95,4,17⟩]
noncomputable def ABH(g:AF)(r:AF×List Rewrite×Int):AF×List Rewrite×Int:=if fcG g≠0 then(BV,[],fcG g)else r
theorem AAk(jd:∀g,DX g=0→EO g)(E:KE)(hE:E∈ABl)(g:AF)(x:AAC)(hk:x.kind=E.kd)(jG:g.conds.length≤12)(cF:AAC→AAC)(fit:Bool)(ae:Int)(h:AF)(mm:List Rewrite)(lg:Bool)
  (oR:R5 E.c cF)
  (iw:DX g=0→Fi (cF x)=true→AE prog E.f (.ptr 4 1 0 0::A3 E.fb 5) (bS g x++bx E.k1 E.k2) (.d (.bool fit)) (bS g x++bx E.k1 E.k2))
  (oK:DX g=0→fit=true→AE prog E.a (.ptr 4 1 0 0::A3 E.ab 6) (bS g x++bx E.k1 E.k2) (.d (AG ae)) (D5 g x h mm lg++bx E.k1 E.k2))
  (lC:DX g=0→fit=true→ae=0→mm.length≤2 ^ 20∧(∀x∈mm,x.BL.length≤2 ^ 30)∧h.conds.length≤12):
  Pure prog 7 [AB g,AO x] (AAu (ABH g (apX g (Fi (cF x)) fit ae h mm lg))):=by
 have s7:=ABO g jG;have uJ:fcG g=0→DX g=0:=fun e=>(AAt.1 e).1;unfold ABH;generalize fcG g=r1 at *;refine AE.B9 func7 (by kernel_rfl) rfl (by simp) fun wf _=>?_;rw[ntmps7];refine xW fun K hK=>?_;simp;apply hK;refine xS (Az fun K hK=>?_);refine xJ ?_;simp;refine Bp (s7) rfl (by simp[xN]) ?_;simp;refine xJ ?_;simp;refine Aj (hK _ _ ?_);(try simp only[xQ,reduceIte]);by_cases hz:r1=0;case neg=>
  rw[if_pos hz];refine xW fun K hK=>?_;simp;apply hK;refine AU ?_;simp[hz];refine xW fun K hK=>?_;simp;apply hK;refine Ag ?_;(try simp only[xQ,reduceIte]);refine⟨_,_,_,AJ.refl,by simp,by simp[asD,AB,BV,AAu],AJ.AY 0 (S':=[]) rfl (by simp) (by simp) (by simp)⟩
 have po:=uJ hz;rw[if_neg (by simpa using hz)];refine xW fun K hK=>?_;simp[hz];apply hK;refine AU ?_;simp;refine xK ?_;refine AW.Ew (R:=fun tm S=>tm 2=.ptr 0 1 0 0∧tm 3=.ptr 1 1 0 0∧tm 4=.ptr 2 1 0 0∧tm 8=.ptr 3 1 0 0∧tm 9=.d (.bool true)∧S=Cl g x E.c E.f E.a (A3 E.fb 4) (A3 E.ab 5) E.kp E.k1 E.k2) ?_ ?_
 ·clear oR iw oK lC;obtain⟨q1,jv⟩:∃q,E.p1=q:=⟨_,rfl⟩;obtain⟨q2,jY⟩:∃q,E.p2=q:=⟨_,rfl⟩;obtain⟨T0,hT0⟩:∃T0,Cl g x E.c E.f E.a (A3 E.fb 4) (A3 E.ab 5) E.kp E.k1 E.k2=T0:=⟨_,rfl⟩;rw[hT0];simp only[ABl,List.mem_cons,List.not_mem_nil,or_false]at hE;rcases hE with rfl|rfl|rfl|rfl|rfl|rfl|rfl|rfl|rfl|rfl|rfl|rfl|rfl|rfl;all_goals
   dsimp only at hk jv jY hT0⊢
   refine AW.regionF (by kernel_rfl) fun K hK=>?_
   change Ad _ _ _ _ _ _ 10 (Array.replicate 10 false) _ _
   refine Ad.CB 1 rfl (by kernel_rfl) ?_ ?_;(focus(simp;done));simp
   refine Ad.CB 2 rfl (by kernel_rfl) ?_ ?_;(focus(simp;done));simp
   refine Ad.Ih 0 7 [false,false] [false,false] (by kernel_rfl) rfl rfl (by kernel_rfl) (by kernel_rfl) (A7.call (args:=[]) rfl rfl rfl (by simp) (by simp[callee]) (by simp) (CJ.Bq [] (by simp) (by simp) (by simp))) ?_ (A7.B5 rfl ?_) ?_ ?_ ?_
   ·simp[AR]
   ·simp
   ·simp[AR]
   ·simp
    simp[C7,DB,CN,AAO,AAa,AAj,hk]
    refine Ad.CB 3 rfl (by kernel_rfl) ?_ ?_;(focus(simp[AAR,AAV,AAX];done));simp[A4,deq]
    refine Ad.CB 4 rfl (by kernel_rfl) ?_ ?_;(focus(simp;done));simp
    refine Ad.CB 5 rfl (by kernel_rfl) ?_ ?_;(focus(simp;done));simp
    refine Ad.CB 6 rfl (by kernel_rfl) ?_ ?_;(focus(simp;done));simp
    refine Ad.DE 7 [false,false,false,false,false,false] (by kernel_rfl) rfl (by kernel_rfl) ?_ ?_;(focus(simp[AR,hk,A4,deq,AAR,AAV,AAX];done));simp
    refine Ad.DE 8 [false,true,true,true,true,true] (by kernel_rfl) rfl (by kernel_rfl) ?_ ?_;(focus(simp[AR];done));simp
    refine Ad.CB 9 rfl (by kernel_rfl) ?_ ?_;(focus(simp;done));simp
    refine Ad.done (by kernel_rfl) (hK _ _ ⟨_,_,AJ.Cy [0,1,2,18,q1,q2] (S0:=T0) (by simp[←hT0,Cl,A3,←jv,←jY];try decide) (by simp[←jv,←jY]) (by simp[←jv,←jY]),?_⟩)
    simp[pick,←jv,←jY];decide
   ·simp
    (refine Ad.Mf 0 [false,false] (by kernel_rfl) rfl (by kernel_rfl) (A7.call (args:=[]) rfl rfl rfl (by simp) (by simp[callee]) (by simp) (CJ.Bq [] (by simp) (by simp) (by simp))) ?_ ?_)
    ·simp[AR]
    simp[C7,DB,CN,AAO,AAa,AAj,hk]
    refine Ad.CB 3 rfl (by kernel_rfl) ?_ ?_;(focus(simp[AAR,AAV,AAX];done));simp[A4,deq]
    refine Ad.CB 4 rfl (by kernel_rfl) ?_ ?_;(focus(simp;done));simp
    refine Ad.CB 5 rfl (by kernel_rfl) ?_ ?_;(focus(simp;done));simp
    refine Ad.CB 6 rfl (by kernel_rfl) ?_ ?_;(focus(simp;done));simp
    refine Ad.DE 8 [false,true,true,true,true,true] (by kernel_rfl) rfl (by kernel_rfl) ?_ ?_;(focus(simp[AR];done));simp
    refine Ad.CB 9 rfl (by kernel_rfl) ?_ ?_;(focus(simp;done));simp
    refine Ad.done (by kernel_rfl) (hK _ _ ⟨_,_,AJ.Cy [0,1,2,3,q1+1,q2+1] (S0:=T0) (by simp[←hT0,Cl,A3,←jv,←jY];try decide) (by simp[←jv,←jY]) (by simp[←jv,←jY]),?_⟩)
    simp[pick,←jv,←jY];decide
 rintro tm S ⟨t2,t3,t4,t8,t9,rfl⟩;exact DI jd g x E.c E.f E.a E.k1 E.k2 cF E.fb E.ab E.kp fit ae h mm lg po oR (iw po) (oK po) (lC po) jG t2 t3 t4 t8 t9
end Go.Koi
