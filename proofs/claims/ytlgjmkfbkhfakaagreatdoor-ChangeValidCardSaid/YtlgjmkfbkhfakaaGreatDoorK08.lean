/- Part 9 of the proof that the law ChangeValid returns true for every input. -/
import Derived.Test.YtlgjmkfbkhfakaaGreatDoorK06
import Derived.Orders
import Derived.Still
set_option maxHeartbeats 64000000
set_option maxRecDepth 100000
namespace Go.Koi
section
variable {P:Program} {n b:Nat} {o:Oper} {tm tm':Tm} {S S':Sg} {v:V} {ops:Array Oper} {K:Tm→Sg→Prop}
theorem Fy(h:∀t∈o.looksAt ops,tm' t=tm t):∀x∈o.op.operands,ev tm' x=ev tm x:=fun x hx=>by
 cases x with
 |tmp t=>
  refine h t ?_;unfold Oper.looksAt;exact List.mem_append_left _ (List.mem_filterMap.2 ⟨.tmp t,by simpa using hx,rfl⟩)
 |_=>rfl
theorem GL{ps:List (Nat×Operand)}(h:∀p∈ps,ev tm' p.2=ev tm p.2):ABX tm' ps=ABX tm ps:=by
 induction ps with
 |nil=>rfl
 |cons p ps ih=>simp only[ABX,h p (by simp),ih fun q hq=>h q (by simp[hq])]
theorem N4{xs:List Operand}(h:∀x∈xs,ev tm' x=ev tm x):ACU tm' xs=ACU tm xs:=by
 induction xs with
 |nil=>rfl
 |cons p ps ih=>simp only[ACU,h p (by simp),ih fun q hq=>h q (by simp[hq])]
theorem Lq{xs:List Operand}(h:∀x∈xs,ev tm' x=ev tm x):xs.map (ev tm')=xs.map (ev tm):=List.map_congr_left h
theorem H2{xs:List Operand}(h:∀x∈xs,ev tm' x=ev tm x):ev tm' (xs.headD (.const undef))=ev tm (xs.headD (.const undef)):=by
 cases xs with
 |nil=>rfl
 |cons x xs=>exact h x (by simp)
theorem Hw{op:Op}(h:∀x∈op.operands,ev tm' x=ev tm x):AAS P op tm' S=AAS P op tm S∧BP P op tm' S=BP P op tm S∧CM P op tm' S=CM P op tm S:=by
 cases op;case call c=>
  have ha:∀x∈c.args.toList,ev tm' x=ev tm x:=fun x hx=>h x (by simp[Op.operands,Call.operands];exact .inr (by simpa using hx));have h0:ev tm' (DL c)=ev tm (DL c):=H2 ha;have h1:ev tm' (Dm c)=ev tm (Dm c):=H2 fun x hx=>ha x (List.mem_of_mem_drop hx);have h2:ev tm' (KT c)=ev tm (KT c):=H2 fun x hx=>ha x (List.mem_of_mem_drop hx);simp only[AAS,BP,CM,AA9,ABA,ABK,ABL,h0,h1,h2,and_self]
 case build T ps=>
  have hp:∀p∈ps.toList,ev tm' p.2=ev tm p.2:=fun p hp=>h p.2 (by simp only[Op.operands];exact List.mem_toArray.2 (List.mem_map.2 ⟨p,hp,rfl⟩));have e1:=GL hp;have e2:B3 tm' ps=B3 tm ps:=List.map_congr_left fun p hq=>by rw[hp p hq]
  simp only[AAS,BP,CM,AA9,ABA,ABK,ABL,e1,e2,and_self]
 case buildSlice T k ps=>
  have hp:∀p∈ps.toList,ev tm' p.2=ev tm p.2:=fun p hp=>h p.2 (by simp only[Op.operands];exact List.mem_toArray.2 (List.mem_map.2 ⟨p,hp,rfl⟩));have e1:=GL hp;have e2:B3 tm' ps=B3 tm ps:=List.map_congr_left fun p hq=>by rw[hp p hq]
  simp only[AAS,BP,CM,AA9,ABA,ABK,ABL,e1,e2,and_self]
 case makeFunc f as bs=>
  have e1:as.toList.map (ev tm')=as.toList.map (ev tm):=Lq fun x hx=>h x (by simp[Op.operands];exact .inl (by simpa using hx));have e2:bs.toList.map (ev tm')=bs.toList.map (ev tm):=Lq fun x hx=>h x (by simp[Op.operands];exact .inr (by simpa using hx));simp only[AAS,BP,CM,AA9,ABA,ABK,ABL,e1,e2,and_self]
 case slice T x lo hi mx=>
  have hx:=h x (by simp[Op.operands]);have e1:AAs tm' lo=AAs tm lo∧EH tm' lo=EH tm lo:=by
   cases lo with
   |none=>exact⟨rfl,rfl⟩
   |some y=>have:=h y (by simp[Op.operands]);simp only[AAs,EH,this,and_self]
  have e2:AAs tm' hi=AAs tm hi∧EH tm' hi=EH tm hi∧∀X,hiV tm' X hi=hiV tm X hi:=by
   cases hi with
   |none=>exact⟨rfl,rfl,fun _=>rfl⟩
   |some y=>have:=h y (by simp[Op.operands]);simp only[AAs,EH,hiV,this,and_self,implies_true]
  have e3:AAs tm' mx=AAs tm mx∧EH tm' mx=EH tm mx:=by
   cases mx with
   |none=>exact⟨rfl,rfl⟩
   |some y=>have:=h y (by simp[Op.operands]);simp only[AAs,EH,this,and_self]
  simp only[AAS,BP,CM,AA9,ABA,hx,e1.1,e1.2,e2.1,e2.2.1,e2.2.2,e3.1,e3.2,and_self]
 case unOp u T x=>
  have hx:=h x (by simp[Op.operands]);cases u<;>simp only[AAS,BP,CM,AA9,ABA,ABK,ABL,hx,and_self]
 all_goals first
  |(simp only[AAS,BP,CM,AA9,ABA,ABK,ABL,and_self];done)
  |(rename_i x
    have hx:=h x (by simp[Op.operands])
    simp only[AAS,BP,CM,AA9,ABA,ABK,ABL,hx,and_self];done)
  |(rename_i x y
    have hx:=h x (by simp[Op.operands])
    simp only[AAS,BP,CM,AA9,ABA,ABK,ABL,hx,and_self];done)
  |(rename_i x y
    have hx:=h x (by simp[Op.operands])
    have hy:=h y (by simp[Op.operands])
    simp only[AAS,BP,CM,AA9,ABA,ABK,ABL,hx,hy,and_self];done)
  |(rename_i x y z
    have hx:=h x (by simp[Op.operands])
    have hy:=h y (by simp[Op.operands])
    simp only[AAS,BP,CM,AA9,ABA,ABK,ABL,hx,hy,and_self];done)
  |(rename_i x y z
    have hx:=h x (by simp[Op.operands])
    have hy:=h y (by simp[Op.operands])
    have hz:=h z (by simp[Op.operands])
    simp only[AAS,BP,CM,AA9,ABA,ABK,ABL,hx,hy,hz,and_self];done)
  |skip
theorem guard_congr{j:Nat}{want:Bool}(hg:o.guard=some (j,want))(h:∀t∈o.looksAt ops,tm' t=tm t):AAd ops tm' j want=AAd ops tm j want:=by
 unfold AAd;cases hd:(ops[j]?).bind (·.dst)with
 |none=>rfl
 |some d=>
  have:tm' d=tm d:=h d (by simp[Oper.looksAt,hg,hd]);simp only[this]
theorem Xh(h:∀t∈o.looksAt ops,tm' t=tm t):AAw P n ops o tm' S=AAw P n ops o tm S∧Cq P ops o tm' S=Cq P ops o tm S∧oS P o tm' S=oS P o tm S:=by
 obtain⟨h1,h2,h3⟩:=Hw (P:=P) (S:=S) (op:=o.op) (Fy h);cases hg:o.guard with
 |none=>simp only[AAw,Cq,oS,hg,h1,h2,h3,and_self]
 |some jw=>
  obtain⟨j,want⟩:=jw;have:=guard_congr hg h;simp only[AAw,Cq,oS,hg,h1,h2,this,and_self]
def A7(P:Program)(n b:Nat)(ops:Array Oper)(i:Nat)(o:Oper)(tm:Tm)(S:Sg)(v:V)(S':Sg):Prop:=
 ∀tm',(∀t∈o.looksAt ops,tm' t=tm t)→Step P n b ops i tm' S (put tm' o.dst v) S'
theorem A7.congr{i:Nat}(h:A7 P n b ops i o tm S v S')(he:∀t∈o.looksAt ops,tm' t=tm t):A7 P n b ops i o tm' S v S':=fun tm2 h2=>
 h tm2 fun t ht=>(h2 t ht).trans (he t ht)
theorem A7.B5{i:Nat}(hi:ops[i]?=some o)(h:AAw P n ops o tm S):A7 P n b ops i o tm S (Cq P ops o tm S) (oS P o tm S):=fun tm' he=>by
 obtain⟨h1,h2,h3⟩:=Xh (P:=P) (n:=n) (S:=S) he;rw[←h2,←h3];exact Step.B5 hi (by rw[h1];exact h)
theorem E5{c:Call}(ho:o.op=.call c)(h:∀t∈o.looksAt ops,tm' t=tm t):callee tm' c=callee tm c∧A5 tm' c=A5 tm c:=by
 have he:=Fy h;rw[ho]at he;have ha:∀x∈c.args.toList,ev tm' x=ev tm x:=fun x hx=>he x (by simp[Op.operands,Call.operands];exact .inr (by simpa using hx));have hn:=N4 ha;have hm:c.args.toList.map (fun x=>strip (ev tm' x))=c.args.toList.map (fun x=>strip (ev tm x)):=List.map_congr_left fun x hx=>by rw[ha x hx]
 unfold callee A5;cases hc:c.callee with
 |value f=>
  have hf:=he f (by simp[Op.operands,Call.operands,hc]);simp only[hf,hn,hm,and_self]
 |_=>exact⟨rfl,by simp only[hn]⟩
theorem A7.call{i:Nat}{c:Call}{f:FuncId}{args:List V}(hi:ops[i]?=some o)(ho:o.op=.call c)(hg:o.guard=none)(hd:A6 n o.dst)(hc:callee tm c=some (f,args))(hn:A5 tm c)
  (h:AE P f args S v S'):A7 P n b ops i o tm S v S':=fun tm' he=>by
 obtain⟨h1,h2⟩:=E5 ho he;exact Step.Hd hi hd hg (E2 ho (by rw[h1];exact hc) (by rw[h2];exact hn) h)
theorem A7.IU{i:Nat}{c:Call}{f:FuncId}{args:List V}{j:Nat}{want g:Bool}(hi:ops[i]?=some o)(ho:o.op=.call c)(hg:o.guard=some (j,want))(hd:A6 n o.dst)
  (hv:AAd ops tm j want=some g) (h:g=true→callee tm c=some (f,args)∧A5 tm c∧AE P f args S v S):A7 P n b ops i o tm S (FI g v) S:=fun tm' he=>by
 obtain⟨h1,h2⟩:=E5 ho he;refine Step.ET hi hd hg (by rw[guard_congr hg he];exact hv) fun e=>?_;obtain⟨a1,a2,a3⟩:=h e;exact E2 ho (by rw[h1];exact a1) (by rw[h2];exact a2) a3
def waits(ops:Array Oper)(j i:Nat):Bool:=
 match ops[j]? with
 |some oj=>oj.after.any fun e=>Region.binds .any e&&e.on==i
 |none=>true
def Ql(ops:Array Oper)(B:List (Nat×(Sg→Prop)))(j:Nat)(S S':Sg):Prop:=∀p∈B,waits ops j p.1=true∨(p.2 S→p.2 S')
def Ad(P:Program)(n b:Nat)(ops:Array Oper)(K:Tm→Sg→Prop)(B:List (Nat×(Sg→Prop))):Nat→Array Bool→Tm→Sg→Prop
 |0,listed,tm,S=>Region.ready .any ops listed=[]∧K tm S
 |fuel+1,listed,tm,S=>(Region.ready .any ops listed=[]→K tm S)∧∀i∈Region.ready .any ops listed,∃o v S',ops[i]?=some o∧A7 P n b ops i o tm S v S'∧Ql ops B i S S'∧Ad P n b ops K (B.filter fun p=>!waits ops i p.1) fuel (listed.setIfInBounds i true) (put tm o.dst v) S'
theorem put_comm{tm:Tm}{x y:Option Tmp}(v u:V)(h:∀d,x=some d→y≠some d):put (put tm x v) y u=put (put tm y u) x v:=by
 cases x with
 |none=>rfl
 |some d=>
  cases y with
  |none=>rfl
  |some e=>
   have dI:d≠e:=fun he=>h d rfl (he▸rfl);funext k;simp only[put,EJ];by_cases h1:k=d
   ·subst h1;simp[dI]
   ·simp[h1]
theorem HM{o o':Oper}{tm:Tm}{u:V}(h:∀d,o'.dst=some d→d∉o.looksAt ops):∀t∈o.looksAt ops,(put tm o'.dst u) t=tm t:=fun t ht=>by
 cases hd:o'.dst with
 |none=>rfl
 |some d=>
  have:t≠d:=fun e=>h d hd (e▸ht);simp[put,EJ,this]
theorem IX{j i:Nat}{oj:Oper}(hj:ops[j]?=some oj)(h:waits ops j i=true):∃e∈oj.after,Region.binds .any e=true∧e.on=i:=by
 unfold waits at h;rw[hj]at h;obtain⟨e,he,hb⟩:=Array.any_eq_true'.1 h;simp only[Bool.and_eq_true,beq_iff_eq]at hb;exact⟨e,he,hb.1,hb.2⟩
theorem HD:∀(fuel:Nat) (B B':List (Nat×(Sg→Prop))) (listed:Array Bool) (tm:Tm) (S:Sg),(∀p∈B',p∈B)→Ad P n b ops K B fuel listed tm S→Ad P n b ops K B' fuel listed tm S
 |0,_,_,_,_,_,_,h=>h
 |fuel+1,B,B',_,_,_,hB,h=>⟨h.1,fun k hk=>by
  obtain⟨o,v,S',e1,e2,e3,e4⟩:=h.2 k hk;refine⟨o,v,S',e1,e2,fun p hp=>e3 p (hB p hp),HD fuel _ _ _ _ _ (fun p hp=>?_) e4⟩;rw[List.mem_filter]at hp⊢;exact⟨hB p hp.1,hp.2⟩⟩
theorem Ku{i:Nat}{oi:Oper}{C:Sg→Prop}(hi:ops[i]?=some oi):
  ∀(fuel:Nat) (B:List (Nat×(Sg→Prop))) (listed:Array Bool) (tm:Tm) (S:Sg),(∀j oj,ops[j]?=some oj→j≠i→listed.getD j true=false→(∀e∈oj.after,Region.binds .any e=true→e.on≠i)→oi.apart ops oj=true)→i∈Region.ready .any ops listed→C S→(∀S',C S'→A7 P n b ops i oi tm S' v S')→Ad P n b ops K ((i,C)::B) fuel (listed.setIfInBounds i true) (put tm oi.dst v) S→Ad P n b ops K B (fuel+1) listed tm S:=by
 intro fuel;induction fuel with
 |zero=>
  intro B listed tm S _ hr hS hy H;refine⟨fun h=>(by rw[h]at hr;cases hr),fun j hj=>?_⟩;by_cases hji:j=i
  ·subst hji;refine⟨oi,v,S,hi,hy S hS,fun p _=>.inr id,H⟩
  ·have:=ready_mono hj hji;rw[H.1]at this;cases this
 |succ fuel ih=>
  intro B listed tm S kR hr hS hy H;refine⟨fun h=>(by rw[h]at hr;cases hr),fun j hj=>?_⟩;by_cases hji:j=i
  ·subst hji;refine⟨oi,v,S,hi,hy S hS,fun p _=>.inr id,HD _ _ _ _ _ _ (fun p hp=>?_) H⟩;exact List.mem_cons_of_mem _ (List.mem_filter.1 hp).1
  ·obtain⟨oj,u,S',m7,iK,hbound,iy⟩:=H.2 j (ready_mono hj hji);obtain⟨m8,oj',na,gg⟩:=mem_ready.1 hj;rw[m7]at na;cases na;have kj:∀e∈oj.after,Region.binds .any e=true→e.on≠i:=fun e he hb heq=>by
    have h1:=gg e he hb;have h0:=(mem_ready.1 hr).1;rw[heq]at h1;rcases Nat.lt_or_ge i listed.size with h'|h'
    ·simp[h']at h0 h1;rw[h0]at h1;cases h1
    ·simp[Array.getElem?_eq_none h']at h1
   obtain⟨a1,a2,a3⟩:=Oper.apart_spec (kR j oj m7 hji m8 kj);have hw:waits ops j i=false:=by
    cases hx:waits ops j i with
    |false=>rfl
    |true=>
     obtain⟨e,he,hb,heq⟩:=IX m7 hx;exact absurd heq (kj e he hb)
   have hC:C S':=by
    rcases hbound (i,C) (by simp)with h|h
    ·obtain⟨e,he,hb,heq⟩:=IX m7 h;exact absurd heq (kj e he hb)
    ·exact h hS
   have lN:∀k ok,ops[k]?=some ok→k≠i→(listed.setIfInBounds j true).getD k true=false→(∀e∈ok.after,Region.binds .any e=true→e.on≠i)→oi.apart ops ok=true:=fun k ok hk sH oa gy=>by
    refine kR k ok hk sH ?_ gy;by_cases hjk:j=k
    ·subst hjk;exact m8
    ·rw[getD_set_ne true hjk]at oa;exact oa
   refine⟨oj,u,S',m7,iK.congr fun t ht=>(HM a1 t ht).symm,fun p hp=>hbound p (by simp[hp]),?_⟩;refine ih (B.filter fun p=>!waits ops j p.1) (listed.setIfInBounds j true) (put tm oj.dst u) S' lN (ready_mono hr (Ne.symm hji)) hC (fun S2 h2=>(hy S2 h2).congr (HM a3)) ?_;rw[Array.setIfInBounds_comm _ _ hji,put_comm u v fun d hd h=>a2 d h hd];rw[List.filter_cons_of_pos (by simp[hw])]at iy;exact iy
theorem Hz{Q:Exit→Act→World→Prop}:∀(fuel:Nat) (listed:Array Bool) (tm:Tm) (S:Sg),Ad P n b ops K [] fuel listed tm S→∀G w a,St P n G S w a tm→b≤S.length→(∀a' w',(∃G' S' tm',E1 P n b G S w a.defers a' w' G' S' tm'∧K tm' S')→Q .normal a' w')→wpAny P .any ops Q fuel listed a w
 |0,listed,tm,S,h,G,w,a,st,hb,hq=>⟨h.1,hq a w ⟨G,S,tm,.refl st hb,h.2⟩⟩
 |fuel+1,listed,tm,S,h,G,w,a,st,hb,hq=>by
  refine⟨fun h0=>hq a w ⟨G,S,tm,.refl st hb,h.1 h0⟩,fun i hi=>?_⟩;obtain⟨o,v,S',ho,iK,_,iy⟩:=h.2 i hi;refine iK tm (fun _ _=>rfl) G w a _ Q st hb fun a' w' G' hc=>?_;refine Hz fuel _ _ _ iy G' w' a' hc.st hc.late.len fun a2 w2 hh=>?_;obtain⟨G2,S2,tm2,gx,hK⟩:=hh;exact hq a2 w2 ⟨G2,S2,tm2,⟨gx.st,gx.ds.trans hc.ds,hc.tr.trans gx.tr,hc.late.trans gx.late⟩,hK⟩
def AAy(ops:Array Oper):List (Nat×Bool)→Array Bool→Bool
 |[],listed=>Region.ready .any ops listed==[]
 |(i,q)::rest,listed=>(if q then(Region.ready .any ops listed).contains i&&Region.free .any ops listed i else Region.ready .any ops listed==[i])&&AAy ops rest (listed.setIfInBounds i true)
def De(ops:Array Oper)(l:List (Nat×Bool)):List (Nat×Bool×Oper):=l.map fun p=>(p.1,p.2,ops.getD p.1 {dst:=none,op:=.move<|.const undef,type:=0,pos:= "",after:=#[],guard:=none})
def Ae(P:Program)(n b:Nat)(ops:Array Oper)(B:List (Nat×(Sg→Prop)))(l:List (Nat×Bool×Oper))(tm:Tm)(S:Sg)(K:Tm→Sg→Prop):Prop:=
 ∀listed,(∀p∈l,ops[p.1]?=some p.2.2)→AAy ops (l.map fun p=>(p.1,p.2.1)) listed=true→Ad P n b ops K B l.length listed tm S
theorem xM{B:List (Nat×(Sg→Prop))}(h:K tm S):Ae P n b ops B [] tm S K:=fun listed _ hp=>⟨by simpa[AAy]using hp,h⟩
theorem Ae.quiet{B:List (Nat×(Sg→Prop))}{i:Nat}{rest:List (Nat×Bool×Oper)}(C:Sg→Prop)(hS:C S)(hC:ops[i]?=some o→∀S',C S'→A7 P n b ops i o tm S' v S')
  (h:Ae P n b ops ((i,C)::B) rest (put tm o.dst v) S K):Ae P n b ops B ((i,true,o)::rest) tm S K:=fun listed hl hp=>by
 have hi:ops[i]?=some o:=hl (i,true,o) (by simp);simp only[List.map_cons,AAy,Bool.and_eq_true,if_true]at hp;obtain⟨⟨h1,h2⟩,h3⟩:=hp;exact Ku hi _ B listed tm S (Region.free_spec hi h2) (by simpa using h1) hS (hC hi) (h _ (fun p hp=>hl p (by simp[hp])) h3)
theorem Ae.only{B:List (Nat×(Sg→Prop))}{i:Nat}{rest:List (Nat×Bool×Oper)}(hC:ops[i]?=some o→A7 P n b ops i o tm S v S')(hB:Ql ops B i S S')
  (h:Ae P n b ops B rest (put tm o.dst v) S' K):Ae P n b ops B ((i,false,o)::rest) tm S K:=fun listed hl hp=>by
 have hi:ops[i]?=some o:=hl (i,false,o) (by simp);simp only[List.map_cons,AAy,Bool.and_eq_true,Bool.false_eq_true,if_false,beq_iff_eq]at hp;obtain⟨h1,h3⟩:=hp;refine⟨fun h0=>(by rw[h1]at h0;cases h0),fun j hj=>?_⟩;rw[h1]at hj;have:j=i:=by simpa using hj
 subst this;exact⟨o,v,S',hi,hC hi,hB,HD _ _ _ _ _ _ (fun p hp=>(List.mem_filter.1 hp).1) (h _ (fun p hp=>hl p (by simp[hp])) h3)⟩
theorem Ae.last{B:List (Nat×(Sg→Prop))}{i:Nat}{rest:List (Nat×Bool×Oper)}(hw:(B.map (·.1)).all (waits ops i)=true)(hC:ops[i]?=some o→A7 P n b ops i o tm S v S')
  (h:Ae P n b ops [] rest (put tm o.dst v) S' K):Ae P n b ops B ((i,false,o)::rest) tm S K:=fun listed hl hp=>by
 have hi:ops[i]?=some o:=hl (i,false,o) (by simp);simp only[List.map_cons,AAy,Bool.and_eq_true,Bool.false_eq_true,if_false,beq_iff_eq]at hp;obtain⟨h1,h3⟩:=hp;have gg:∀p∈B,waits ops i p.1=true:=fun p hp=>List.all_eq_true.1 hw p.1 (List.mem_map.2 ⟨p,hp,rfl⟩);refine⟨fun h0=>(by rw[h1]at h0;cases h0),fun j hj=>?_⟩;rw[h1]at hj;have:j=i:=by simpa using hj
 subst this;have hf:(B.filter fun p=>!waits ops j p.1)=[]:=List.filter_eq_nil_iff.2 fun p hp=>by simp[gg p hp]
 exact⟨o,v,S',hi,hC hi,fun p hp=>.inl (gg p hp),by rw[hf];exact h _ (fun p hp=>hl p (by simp[hp])) h3⟩
theorem Ga{B:List (Nat×(Sg→Prop))}{i:Nat}{rest:List (Nat×Bool×Oper)}(h1:AAw P n ops o tm S∧oS P o tm S=S)(h:Ae P n b ops ((i,fun S'=>S'=S)::B) rest (put tm o.dst (Cq P ops o tm S)) S K):
  Ae P n b ops B ((i,true,o)::rest) tm S K:=
 Ae.quiet (fun S'=>S'=S) rfl (fun hi S' hS=>by
  subst hS;have:=A7.B5 (b:=b) hi h1.1;rwa [h1.2]at this) h
theorem Ae.Yp{B:List (Nat×(Sg→Prop))}{i:Nat}{rest:List (Nat×Bool×Oper)}(C:Sg→Prop)(hS:C S)(h1:∀S',C S'→AAw P n ops o tm S'∧Cq P ops o tm S'=v∧oS P o tm S'=S')(h:Ae P n b ops ((i,C)::B) rest (put tm o.dst v) S K):
  Ae P n b ops B ((i,true,o)::rest) tm S K:=
 Ae.quiet C hS (fun hi S' hS=>by
  obtain⟨a1,a2,a3⟩:=h1 S' hS;have:=A7.B5 (b:=b) hi a1;rwa [a2,a3]at this) h
theorem Ae.gL{B:List (Nat×(Sg→Prop))}{i:Nat}{rest:List (Nat×Bool×Oper)}(hw:(B.map (·.1)).all (waits ops i)=true)(h1:AAw P n ops o tm S)(h:Ae P n b ops [] rest (put tm o.dst (Cq P ops o tm S)) (oS P o tm S) K):
  Ae P n b ops B ((i,false,o)::rest) tm S K:=
 Ae.last hw (fun hi=>A7.B5 hi h1) h
def AA6(S:Sg)(tm:Tm)(c:Call)(f:FuncId)(ds:List D):Prop:=
 match callee tm c with
 |some (f',args)=>f'=f∧args.map (asD S)=ds.map some
 |none=>False
theorem ER{c:Call}{f:FuncId}{ds:List D}(h:AA6 S tm c f ds):∃args,callee tm c=some (f,args)∧args.map (asD S)=ds.map some:=by
 unfold AA6 at h;split at h
 ·rename_i f' args hc;obtain⟨rfl,h⟩:=h;exact⟨args,hc,h⟩
 ·exact h.elim
theorem Bp{rest:List Oper}{c:Call}{f:FuncId}{ds:List D}{d:D}(h:Pure P f ds d)(ho:o.op=.call c)(hp:o.guard=none∧A6 n o.dst∧A5 tm c∧AA6 S tm c f ds)
  (h2:AS P n b ops rest (put tm o.dst (.d d)) S K):AS P n b ops (o::rest) tm S K:=by
 obtain⟨h3,h4,h5,h6⟩:=hp;obtain⟨args,h7,h8⟩:=ER h6;exact AS.call ho h3 h4 h7 h5 (h.call h8) h2
theorem AS.CE{rest:List Oper}{c:Call}{f:FuncId}{ds:List D}{d:D}{j:Nat}{want g:Bool}(ho:o.op=.call c)(hg:o.guard=some (j,want))(hv:AAd ops tm j want=some g)
  (h:g=true→Pure P f ds d) (hp:A6 n o.dst∧(g=true→A5 tm c∧AA6 S tm c f ds))
  (h2:AS P n b ops rest (put tm o.dst (FI g (.d d))) S K):AS P n b ops (o::rest) tm S K:=by
 obtain⟨h3,h4⟩:=hp;by_cases e:g=true
 ·obtain⟨args,h7,h8⟩:=ER (h4 e).2;exact AS.IU ho hg h3 hv (fun e=>⟨h7,(h4 e).1,(h e).call h8⟩) h2
 ·exact AS.IU (f:=f) (args:=[]) ho hg h3 hv (fun e'=>absurd e' e) h2
theorem Ae.CA{B:List (Nat×(Sg→Prop))}{i:Nat}{rest:List (Nat×Bool×Oper)}{c:Call}{f:FuncId}{ds:List D}{d:D}(h:Pure P f ds d)(ho:o.op=.call c)
  (hp:o.guard=none∧A6 n o.dst∧A5 tm c∧AA6 S tm c f ds) (h2:Ae P n b ops ((i,fun S'=>S'=S)::B) rest (put tm o.dst (.d d)) S K):Ae P n b ops B ((i,true,o)::rest) tm S K:=by
 obtain⟨h3,h4,h5,h6⟩:=hp;obtain⟨args,h7,h8⟩:=ER h6;exact Ae.quiet (fun S'=>S'=S) rfl (fun hi S' hS=>by subst hS;exact A7.call hi ho h3 h4 h7 h5 (h.call h8)) h2
theorem Ae.CE{B:List (Nat×(Sg→Prop))}{i:Nat}{rest:List (Nat×Bool×Oper)}{c:Call}{f:FuncId}{ds:List D}{d:D}{j:Nat}{want g:Bool}(ho:o.op=.call c)(hg:o.guard=some (j,want))
  (hv:AAd ops tm j want=some g) (h:g=true→Pure P f ds d) (hp:A6 n o.dst∧(g=true→A5 tm c∧AA6 S tm c f ds))
  (h2:Ae P n b ops ((i,fun S'=>S'=S)::B) rest (put tm o.dst (FI g (.d d))) S K):Ae P n b ops B ((i,true,o)::rest) tm S K:=by
 obtain⟨h3,h4⟩:=hp;by_cases e:g=true
 ·obtain⟨args,h7,h8⟩:=ER (h4 e).2;exact Ae.quiet (fun S'=>S'=S) rfl (fun hi S' hS=>by subst hS;exact A7.IU hi ho hg h3 hv fun e=>⟨h7,(h4 e).1,(h e).call h8⟩) h2
 ·exact Ae.quiet (fun S'=>S'=S) rfl (fun hi S' hS=>by subst hS;exact A7.IU (f:=f) (args:=[]) hi ho hg h3 hv fun e'=>absurd e' e) h2
theorem AW.Qz{id:Nat}{Q:Exit→Tm→Sg→Prop}(l:List (Nat×Bool))(hm:P.follows .mixedOrders=true)(hlen:l.length=ops.size)(hp:AAy ops l (Array.replicate ops.size false)=true)
  (pG:l.all (fun p=>decide (p.1<ops.size))=true) (h:Ae P n b ops [] (De ops l) tm S (Q .normal)):AW P n b (.region id ops true) Q tm S:=fun G w a st hb=>by
 refine wp_region_any hm ?_;obtain⟨r1,r2,r3⟩:=st.rel.drawn (w':={w with drawn:=w.drawn+1}) rfl rfl rfl;have h1:=h (Array.replicate ops.size false) (fun p hp=>by
  simp only[De,List.mem_map]at hp;obtain⟨q,hq,rfl⟩:=hp;have cx:q.1<ops.size:=by simpa using List.all_eq_true.1 pG q hq
  simp[cx]) (by
   have e:(De ops l).map (fun p=>(p.1,p.2.1))=l:=by simp[De,Function.comp_def]
   rw[e];exact hp)
 have e2:(De ops l).length=ops.size:=by simp[De,hlen]
 rw[e2]at h1;refine Hz _ _ _ _ h1 G {w with drawn:=w.drawn+1} a ⟨st.size,st.tm.later r3,r1⟩ hb fun a' w' hh=>?_;obtain⟨G',S',tm',hc,hK⟩:=hh;exact⟨G',S',tm',⟨hc.st,hc.ds,r2.trans hc.tr,(r3.late hb).trans hc.late⟩,hK⟩
theorem AW.UA{id:Nat}{Q:Exit→Tm→Sg→Prop}(l:List (Nat×Bool))(hm:P.follows .mixedOrders=true)(hlen:l.length=ops.size)(hp:AAy ops l (Array.replicate ops.size false)=true)
  (pG:l.all (fun p=>decide (p.1<ops.size))=true) (h:∀K:Tm→Sg→Prop,(∀tm S,Q .normal tm S→K tm S)→Ae P n b ops [] (De ops l) tm S K):AW P n b (.region id ops true) Q tm S:=
 AW.Qz l hm hlen hp pG (h _ fun _ _ h=>h)
theorem BX{id:Nat}{Q:Exit→Tm→Sg→Prop}(h:∀K:Tm→Sg→Prop,(∀tm S,Q .normal tm S→K tm S)→AS P n b ops ops.toList tm S K):AW P n b (.region id ops false) Q tm S:=
 AW.region (h _ fun _ _ h=>h)
end
attribute [simp] AA6 De
section
variable {P:Program} {n b:Nat} {tm:Tm} {S:Sg} {ops:Array Oper} {K:Tm→Sg→Prop} {Q:Exit→Tm→Sg→Prop}
def xR(P:Program)(n:Nat)(ops:Array Oper)(K:Tm→Sg→Prop):List Oper→Tm→Sg→Prop
 |[],tm,S=>K tm S
 |o::l,tm,S=>AAw P n ops o tm S∧xR P n ops K l (put tm o.dst (Cq P ops o tm S)) (oS P o tm S)
theorem V4:∀{l:List Oper} {tm:Tm} {S:Sg},xR P n ops K l tm S→AS P n b ops l tm S K
 |[],_,_,h=>Aj h
 |_::_,_,_,h=>B7 h.1 (V4 h.2)
theorem xV{id:Nat}(h:∀K:Tm→Sg→Prop,(∀tm S,Q .normal tm S→K tm S)→xR P n ops K ops.toList tm S):AW P n b (.region id ops false) Q tm S:=
 BX fun K hK=>V4 (h K hK)
theorem xW{id:Nat}{y:Code}(h:∀K:Tm→Sg→Prop,(∀tm S,AW P n b y Q tm S→K tm S)→xR P n ops K ops.toList tm S):AW P n b (.seq (.region id ops false) y) Q tm S:=
 Az fun K hK=>V4 (h K hK)
theorem xC{c:Operand}{x y z:Code}(h:match ev tm c with|.d (.bool t)=>(t=true→AW P n b x (AAE (AW P n b z Q) Q) tm S)∧(t=false→AW P n b y (AAE (AW P n b z Q) Q) tm S)|_=>False):AW P n b (.seq (.cond c x y) z) Q tm S:=
 xS (AU h)
theorem xK{y:Code}(h:AW P n b y Q tm S):AW P n b .skip (AAE (AW P n b y Q) Q) tm S:=CC h
theorem xB{id:Nat}{c y:Code}(h:AW P n b c (AAA id (AAE (AW P n b y Q) Q)) tm S):AW P n b (.seq (.block id c) y) Q tm S:=xS (Bw h)
theorem xQ{next:Tm→Sg→Prop}{i j:Nat}:AAE next Q .normal tm S=next tm S∧AAE next Q .ret tm S=Q .ret tm S∧AAE next Q (.exit i) tm S=Q (.exit i) tm S∧AAA i Q .normal tm S=Q .normal tm S∧AAA i Q .ret tm S=Q .ret tm S∧AAA i Q (.exit j) tm S=if j=i then Q .normal tm S else Q (.exit j) tm S:=⟨rfl,rfl,rfl,rfl,rfl,rfl⟩
def xT:List Nat→List Bool
 |[]=>[]
 |k::l=>(k !=0)::xT l
def xP:List Nat→List (Nat×Bool)
 |[]=>[]
 |k::l=>(k / 2,k % 2==0)::xP l
theorem xE{id:Nat}(l:List Nat)(hc:(P.follows .mixedOrders&&((xP l).length==ops.size&&(AAy ops (xP l) (Array.replicate ops.size false)&&(xP l).all fun p=>decide (p.1<ops.size))))=true)
  (h:∀K:Tm→Sg→Prop,(∀tm S,Q .normal tm S→K tm S)→Ae P n b ops [] (De ops (xP l)) tm S K):AW P n b (.region id ops true) Q tm S:=by
 simp only[Bool.and_eq_true,beq_iff_eq]at hc;exact AW.UA (xP l) hc.1 hc.2.1 hc.2.2.1 hc.2.2.2 h
theorem xD{id:Nat}{y:Code}(l:List Nat)(hc:(P.follows .mixedOrders&&((xP l).length==ops.size&&(AAy ops (xP l) (Array.replicate ops.size false)&&(xP l).all fun p=>decide (p.1<ops.size))))=true)
  (h:∀K:Tm→Sg→Prop,(∀tm S,AW P n b y Q tm S→K tm S)→Ae P n b ops [] (De ops (xP l)) tm S K):AW P n b (.seq (.region id ops true) y) Q tm S:=
 xS (xE l hc h)
end
attribute [simp] xR xT xP
section
variable {P:Program} {n b:Nat} {o:Oper} {tm tm':Tm} {S S':Sg} {v:V} {ops:Array Oper} {K:Tm→Sg→Prop} {Q:Exit→Tm→Sg→Prop}
theorem AS.Ge{rest:List Oper}{neg:Bool}{T U:TypeId}{x:Operand}{xs:List D}(ho:o.op=.binOp (if neg then .neq else .eql) T x (.const (.slice none 0 0)) U)
  (hp:o.guard=none∧A6 n o.dst∧(AAH P T).isSome=true∧need (ev tm x)∧(strip (ev tm x)=.d (.sl xs)∨strip (ev tm x)=.full xs))
  (h:∀t:Bool,(xs≠[]→t=false)→AS P n b ops rest (put tm o.dst (.d (.bool (t !=neg)))) S K):AS P n b ops (o::rest) tm S K:=fun k hk G w a Q st hb hq=>by
 obtain⟨hg,hd,hT,hx,ex⟩:=hp;obtain⟨E,hE⟩:=Option.isSome_iff_exists.1 hT;obtain⟨t,e1,e2⟩:=BA hE;have h0:ops[k]?=some o:=by simpa using(hk 0).symm
 obtain⟨bb,dI,gl⟩:=nil_eq ho e1 e2 hx ex st;simp only[List.length_cons,List.range'_succ];rw[wpOps_cons];unfold wpOp;simp only[h0,Region.wanted,hg,if_true];left;unfold Oper.wp;rw[gl];simp only[Oper.upon];have st':St P n G S w (a.put o.dst (.bool (bb !=neg))) (put tm o.dst (.d (.bool (bb !=neg)))):=st.put hd (.d _ _ (.bool _)) st.rel (A9.refl _ _ _);refine h bb dI (k+1) (fun j=>by have:=hk (j+1);simp only[List.getElem?_cons_succ]at this;rw[this];congr 1;omega) G w _ Q st' hb fun a2 w2 hh=>?_;obtain⟨G2,S2,tm2,gx,hK⟩:=hh;exact hq a2 w2 ⟨G2,S2,tm2,⟨gx.st,gx.ds.trans Be,gx.tr,gx.late⟩,hK⟩
theorem AS.ghost{l:List Oper}(g:AJ P n b tm S tm' S')(h:AS P n b ops l tm' S' K):AS P n b ops l tm S K:=fun k hk G w a Q st hb hq=>by
 obtain⟨G',st',t,l⟩:=g G w a st hb;refine h k hk G' w a Q st' l.len fun a2 w2 hh=>?_;obtain⟨G2,S2,tm2,gx,hK⟩:=hh;exact hq a2 w2 ⟨G2,S2,tm2,⟨gx.st,gx.ds,t.trans gx.tr,l.trans gx.late⟩,hK⟩
def AAi(S:Sg):List V→Option (List D)
 |[]=>some []
 |x::xs=>match asD S x,AAi S xs with
  |some d,some ds=>some (d::ds)
  |_,_=>none
theorem J7:∀{xs:List V} {ds:List D},AAi S xs=some ds→ds.length=xs.length∧∀i (h:i<xs.length) (h':i<ds.length),asD S xs[i]=some ds[i]
 |[],ds,h=>by simp[AAi]at h;subst h;exact⟨rfl,fun i h=>by simp at h⟩
 |x::xs,ds,h=>by
  simp only[AAi]at h;split at h
  ·rename_i d ds' h1 h2;cases h;obtain⟨g1,g2⟩:=J7 h2;refine⟨by simp[g1],fun i hi gj=>?_⟩;cases i with
   |zero=>exact h1
   |succ i=>simpa using g2 i (by simpa using hi) (by simpa using gj)
  ·cases h
@[simp] theorem BT(S:Sg)(xs:List D):AAi S (xs.map .d)=some xs:=by
 induction xs with
 |nil=>rfl
 |cons x xs ih=>simp[AAi,asD,AAn,ih]
@[simp] theorem Bz{α:Type}(S:Sg)(f:α→D)(xs:List α):AAi S (xs.map fun x=>V.d (f x))=some (xs.map f):=by
 induction xs with
 |nil=>rfl
 |cons x xs ih=>simp[AAi,asD,AAn,ih]
theorem AJ.B6(r:Nat){wr:Bool}{sz:Nat}{els:List V}{xs:List D}(hr:S[r]?=some (.row wr sz els))(hx:AAi S els=some xs):AJ P n b tm S tm (S.set r (.BJ xs)):=fun G w a st hb=>by
 have R:=st.rel;have iH:=AZ hr;obtain⟨hl,ia⟩:=J7 hx;have gw:=R.CT r _ hr;let G':Gh:={G with I:=fun k=>G.I k∨(k=G.BZ r∧G.BB r=none)};have gz:(S.set r (.BJ xs))[r]?=some (.BJ xs):=by simp[iH]
 have dI:∀r',r'≠r→(S.set r (.BJ xs))[r']?=S[r']?:=fun r' h=>by simp[List.getElem?_set_ne (Ne.symm h)]
 have L:A9 G S w G' (S.set r (.BJ xs)) w:=by
  refine⟨fun k hk=>.inl hk,fun _ _=>rfl,by simp,fun r' jf n' iz=>?_,fun r' jf hm=>?_⟩
  ·by_cases e:r'=r
   ·subst e;have:n'=xs.length:=by simpa[lenOf,gz]using iz.symm
    exact⟨els.length,by simp[lenOf,hr],by omega,fun _=>⟨rfl,rfl,rfl,.inr (by simp[AAf,gz])⟩⟩
   ·have:lenOf (S.set r (.BJ xs)) r'=lenOf S r':=by simp only[lenOf,dI r' e]
    exact⟨n',by rw[←this];exact iz,Nat.le_refl _,fun _=>⟨rfl,rfl,rfl,.inl (by simp only[AAf,dI r' e])⟩⟩
  ·by_cases e:r'=r
   ·subst e;simp[AAN,gz]at hm
   ·exact⟨by simp only[AAN,dI r' e]at hm;exact hm,rfl⟩
 have own:∀k,Eo G' (S.set r (.BJ xs)) k→Eo G S k∧¬(k=G.BZ r∧G.BB r=none):=by
  rintro k ⟨r',x,h1,h2,h3⟩;by_cases e:r'=r
  ·subst e;rw[gz]at h1;cases h1;simp[AAJ]at h2
  ·rw[dI r' e]at h1;have oz:AAJ G r' x=true:=h2;refine⟨⟨r',x,h1,oz,h3⟩,fun⟨hk,hv⟩=>?_⟩;have:G.BZ r'=G.BZ r:=by rw[←hk,h3]
   exact e (R.inj r' r x _ h1 hr oz (by simp[AAJ,hv]) this)
 have kg:G.BB r=none→Eo G S (G.BZ r):=fun hv=>⟨r,_,hr,by simp[AAJ,hv],rfl⟩;refine⟨G',⟨st.size,st.tm.later L,⟨R.Es.later L,fun r' x jD=>?_,fun r1 r2 x1 x2 h1 h2 o1 o2 he=>?_,fun k hk=>?_,fun k hk=>?_,fun k hk=>R.FW k (own k hk).1⟩⟩,⟨Nat.le_refl _,fun k hk=>.inl hk,fun _ _ _=>rfl,fun k hk=>.inl (own k hk).1,fun k hk=>?_,rfl,rfl⟩,L.late hb⟩
 ·by_cases e:r'=r
  ·subst e;rw[gz]at jD;cases jD;simp only[OK];have wz:G'.AAP r' xs.length=G.AAP r' xs.length:=rfl;rw[wz];simp only[OK]at gw;cases hv:G.BB r' with
   |none=>
    simp only[hv]at gw;obtain⟨c,T,g1,g2,g3,g4,g5⟩:=gw;unfold Gh.AAP;simp only[hv];let us:Nat→Value:=fun i=>if h:i<els.length then(g5 i h).choose else undef;have oo:∀i (h:i<els.length),CV G S w els[i] (us i)∧(us i).cells.size=sz∧∀j,j<sz→c[(G.cap r').2+(i * sz+j)]?=(us i).cells[j]?:=fun i hi=>by
     have:=(g5 i hi).choose_spec;simp only[us,hi,dif_pos];exact⟨this.1,this.2.1,this.2.2.2⟩
    refine .sl sz xs _ (G.cap r').2 _ us (.inr ⟨rfl,hv⟩) (by omega) (by omega) (fun i hi=>?_) (fun i hi=>⟨(oo i (by omega)).2.1,fun j hj=>?_⟩)
    ·have gj:i<els.length:=by omega
     exact(((oo i gj).1.asD R (ia i gj hi))).mono (fun k hk=>.inl hk) (fun _ _=>rfl)
    ·rw[cell_of g1,Nat.add_assoc];exact(oo i (by omega)).2.2 j hj
   |some q=>
    simp only[hv]at gw;obtain⟨_,_,ys,rfl,hc⟩:=gw;have qZ:xs=ys:=by
     rw[BT]at hx;exact(Option.some.inj hx).symm
    subst qZ;unfold Gh.AAP;simp only[hv];exact hc.mono (fun k hk=>.inl hk) (fun _ _=>rfl)
  ·rw[dI r' e]at jD;exact(R.CT r' x jD).later L (fun _=>rfl) rfl rfl rfl
 ·have g:∀r' x,(S.set r (.BJ xs))[r']?=some x→AAJ G' r' x=true→∃x',S[r']?=some x'∧AAJ G r' x'=true:=fun r' x jD hw=>by
   by_cases e:r'=r
   ·subst e;rw[gz]at jD;cases jD;simp[AAJ]at hw
   ·rw[dI r' e]at jD;exact⟨x,jD,hw⟩
  obtain⟨y1,g1,p1⟩:=g r1 x1 h1 o1;obtain⟨y2,g2,p2⟩:=g r2 x2 h2 o2;exact R.inj r1 r2 y1 y2 g1 g2 p1 p2 he
 ·rintro(h|⟨h1,h2⟩)
  ·exact R.nI k (own k hk).1 h
  ·exact(own k hk).2 ⟨h1,h2⟩
 ·rcases hk with h|⟨h1,h2⟩
  ·exact R.G5 k h
  ·rw[h1];exact R.FW _ (kg h2)
 ·rcases hk with h|⟨h1,h2⟩
  ·exact .inl h
  ·rw[h1];exact .inr (.inl (kg h2))
end
mutual
def AAO(ρ:Nat→Nat):V→V
 |.row r n=>.row (ρ r) n
 |.ptr r n i j=>.ptr (ρ r) n i j
 |.map r=>.map (ρ r)
 |.fn f as bs=>.fn f (AAa ρ as) (AAa ρ bs)
 |.agg cs=>.agg (AAa ρ cs)
 |.Bd cs=>.Bd (AAa ρ cs)
 |.opt g v=>.opt g (AAO ρ v)
 |.any=>.any
 |.d d=>.d d
 |.full xs=>.full xs
 |.Cc cs=>.Cc cs
def AAa(ρ:Nat→Nat):List V→List V
 |[]=>[]
 |x::xs=>AAO ρ x::AAa ρ xs
end
def AAj(ρ:Nat→Nat):O→O
 |.row wr sz els=>.row wr sz (AAa ρ els)
 |.map es=>.map (es.map fun p=>(p.1,AAO ρ p.2))
 |.BJ xs=>.BJ xs
 |.dead=>.dead
theorem DN(ρ:Nat→Nat)(xs:List V):AAa ρ xs=xs.map (AAO ρ):=by
 induction xs with
 |nil=>rfl
 |cons x xs ih=>simp[AAa,ih]
structure QO(ρ:Nat→Nat)(G0:Gh)(S0:Sg)(G:Gh)(S:Sg):Prop where
 I:∀b,G0.I b↔G.I b
 lt:∀i,i<S0.length→ρ i<S.length
 len:∀i,i<S0.length→lenOf S (ρ i)=lenOf S0 i
 sz:∀i,i<S0.length→AAf S (ρ i)=AAf S0 i
 map:∀i,i<S0.length→AAN S (ρ i)=AAN S0 i
 BZ:∀i,i<S0.length→G0.BZ i=G.BZ (ρ i)
 cap:∀i,i<S0.length→G0.cap i=G.cap (ρ i)
 BB:∀i,i<S0.length→G0.BB i=G.BB (ρ i)
theorem QO.AAP{ρ:Nat→Nat}{G0:Gh}{S0:Sg}{G:Gh}{S:Sg}(E:QO ρ G0 S0 G S){i:Nat}(hi:i<S0.length)(n:Nat):G0.AAP i n=G.AAP (ρ i) n:=by
 simp only[Gh.AAP,E.BZ i hi,E.cap i hi,E.BB i hi]
theorem QO.addr{ρ:Nat→Nat}{G0:Gh}{S0:Sg}{G:Gh}{S:Sg}(E:QO ρ G0 S0 G S){i:Nat}(hi:i<S0.length)(n:Nat):G0.addr i n=G.addr (ρ i) n:=by
 simp only[Gh.addr,E.BZ i hi,E.cap i hi,E.BB i hi]
theorem CV.Xu{ρ:Nat→Nat}{G0:Gh}{S0:Sg}{G:Gh}{S:Sg}(E:QO ρ G0 S0 G S){w:World}{x:V}{v:Value}(h:CV G0 S0 w x v):CV G S w (AAO ρ x) v:=by
 have hI:∀b,G0.I b→G.I b:=fun b=>(E.I b).1;induction h with
 |any v=>exact .any v
 |d d v h=>exact .d d v (h.mono hI fun _ _=>rfl)
 |full xs a h=>exact .full xs a (h.mono hI fun _ _=>rfl)
 |row r n v ho hr h=>
  refine .row _ _ _ ho (E.lt r hr) fun m hm=>?_;obtain⟨h1,h2⟩:=h m (by rw[←E.len r hr];exact hm);exact⟨h1,fun e=>by rw[h2 e,E.AAP hr]⟩
 |ptr r n i j v ho hr h=>
  refine .ptr _ _ _ _ _ ho (E.lt r hr) fun m hm=>?_;obtain⟨h1,h2⟩:=h m (by rw[←E.len r hr];exact hm);exact⟨h1,fun e sz gp=>by rw[h2 e sz (by rw[←E.sz r hr];exact gp),E.addr hr]⟩
 |Cc cs b off vs hI' h=>exact .Cc cs b off vs (hI _ hI') fun j hj=>⟨(h j hj).1,(h j hj).2.1.mono hI fun _ _=>rfl,(h j hj).2.2⟩
 |map r v ho hr h=>exact .map _ _ ho (E.lt r hr) fun hm=>by rw[h (by rw[←E.map r hr];exact hm),E.BZ r hr]
 |fn f as bs xs ys h1 h2 h3 h4 i3 i4=>
  simp only[AAO,DN];exact .fn _ _ _ _ _ (by simp[h1]) (by simp[h2]) (fun i hi=>by simpa using i3 i (by simpa using hi)) (fun i hi=>by simpa using i4 i (by simpa using hi))
 |agg cs vs hs h ho ih=>
  simp only[AAO,DN];exact .agg _ _ (by simp[hs]) (fun i hi=>by simpa using ih i (by simpa using hi)) ho
 |Bd cs vs hs h ih=>
  simp only[AAO,DN];exact .Bd _ _ (by simp[hs]) (fun i hi=>by simpa using ih i (by simpa using hi))
 |opt g x v h h' ih=>exact .opt _ _ _ ih h'
theorem CV.Ia{ρ:Nat→Nat}{G0:Gh}{S0:Sg}{G:Gh}{S:Sg}(E:QO ρ G0 S0 G S){w:World}{y:V}{v:Value}(h:CV G S w y v):∀{x:V},y=AAO ρ x→AAB S0.length x=true→CV G0 S0 w x v:=by
 have hI:∀b,G.I b→G0.I b:=fun b=>(E.I b).2;induction h with
 |any v=>
  intro x e hb;cases x<;>simp[AAO]at e;exact .any v
 |d d v h=>
  intro x e hb;cases x<;>simp[AAO]at e;subst e;exact .d _ v (h.mono hI fun _ _=>rfl)
 |full xs a h=>
  intro x e hb;cases x<;>simp[AAO]at e;subst e;exact .full _ a (h.mono hI fun _ _=>rfl)
 |row r n v ho hr h=>
  intro x e hb;cases x<;>simp[AAO]at e;rename_i r' n';obtain⟨rfl,rfl⟩:=e;have jf:r'<S0.length:=by simpa[AAB]using hb
  refine .row _ _ _ ho jf fun m hm=>?_;obtain⟨h1,h2⟩:=h m (by rw[E.len r' jf];exact hm);exact⟨h1,fun e=>by rw[h2 e,E.AAP jf]⟩
 |ptr r n i j v ho hr h=>
  intro x e hb;cases x<;>simp[AAO]at e;rename_i r' n' i' j';obtain⟨rfl,rfl,rfl,rfl⟩:=e;have jf:r'<S0.length:=by simpa[AAB]using hb
  refine .ptr _ _ _ _ _ ho jf fun m hm=>?_;obtain⟨h1,h2⟩:=h m (by rw[E.len r' jf];exact hm);exact⟨h1,fun e sz gp=>by rw[h2 e sz (by rw[E.sz r' jf];exact gp),E.addr jf]⟩
 |Cc cs b off vs hI' h=>
  intro x e hb;cases x<;>simp[AAO]at e;subst e;exact .Cc _ b off vs (hI _ hI') fun j hj=>⟨(h j hj).1,(h j hj).2.1.mono hI fun _ _=>rfl,(h j hj).2.2⟩
 |map r v ho hr h=>
  intro x e hb;cases x<;>simp[AAO]at e;rename_i r';subst e;have jf:r'<S0.length:=by simpa[AAB]using hb
  exact .map _ _ ho jf fun hm=>by rw[h (by rw[E.map r' jf];exact hm),E.BZ r' jf]
 |fn f as bs xs ys h1 h2 h3 h4 i3 i4=>
  intro x e hb;cases x<;>simp[AAO,DN]at e;rename_i f' as' bs';obtain⟨rfl,rfl,rfl⟩:=e;simp only[AAB,Bool.and_eq_true]at hb;refine .fn _ _ _ _ _ (by simpa using h1) (by simpa using h2) (fun i hi=>i3 i (by simpa using hi) (by simp) (Ch hb.1 i hi)) (fun i hi=>i4 i (by simpa using hi) (by simp) (Ch hb.2 i hi))
 |agg cs vs hs h ho ih=>
  intro x e hb;cases x<;>simp[AAO,DN]at e;subst e;exact .agg _ _ (by simpa using hs) (fun i hi=>ih i (by simpa using hi) (by simp) (Ch hb i hi)) ho
 |Bd cs vs hs h ih=>
  intro x e hb;cases x<;>simp[AAO,DN]at e;subst e;exact .Bd _ _ (by simpa using hs) (fun i hi=>ih i (by simpa using hi) (by simp) (Ch hb i hi))
 |opt g x v h h' ih=>
  intro x e hb;cases x<;>simp[AAO]at e;obtain⟨rfl,rfl⟩:=e;exact .opt _ _ _ (fun hg=>ih hg rfl (by simpa[AAB]using hb)) h'
theorem FA(ρ:Nat→Nat)(o:O){S S0:Sg}{i j:Nat}(h:S0[i]?=some o)(h':S[j]?=some (AAj ρ o)):lenOf S j=lenOf S0 i∧AAf S j=AAf S0 i∧AAN S j=AAN S0 i:=by
 cases o<;>simp[lenOf,AAf,AAN,h,h',AAj,DN]
theorem Bx{ρ:Nat→Nat}{G0 G:Gh}{i j:Nat}(o:O)(h:G0.BB i=G.BB j):AAJ G j (AAj ρ o)=AAJ G0 i o:=by
 cases o<;>simp[AAJ,AAj,h]
end Go.Koi
