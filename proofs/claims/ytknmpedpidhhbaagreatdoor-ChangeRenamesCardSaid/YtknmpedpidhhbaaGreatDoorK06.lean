/-
  Part 7 of the proof that the law ChangeRenames of the package koinelaw31 returns true for every input.
-/
import Derived.Test.YtknmpedpidhhbaaGreatDoorK05
set_option maxHeartbeats 64000000
set_option maxRecDepth 100000
namespace Go.Koi
section
variable {P:Program} {n:Nat} {o:Oper} {tm:Tm} {S S':Sg} {v:V} {ops:Array Oper} {K:Tm→Sg→Prop}
theorem PY{G:Gh}{w:World}{a:Act}(st:St P n G S w a tm){T:TypeId}{p:V}{q:Value}(hq:CV G S w p q)(h1:(Aq P T).isSome=true)(h:Gj (BF P T) ((Aq P T).getD 0) S p):
  ∃cv ad,q=.pointer (some ad)∧(loadVar T ad).run P w=.ok cv w∧CV G S w (ABf (BF P T) ((Aq P T).getD 0) S p) cv:=by
 obtain⟨s,hs⟩:=Option.isSome_iff_exists.1 h1;obtain⟨t,e1,e2,e3⟩:=Bn hs;let o':Oper:={dst:=none,op:=.load T (.const q),type:=0,pos:= "",after:=#[],guard:=none};have hcv:∀(tm':Tm),ev tm' (.const q)=cst q:=fun _=>rfl;obtain⟨h3,h4⟩:=h;have ha:t.agg=true∨t.size=1:=by
  rw[hs,e3]at h3;simp only[Option.getD_some]at h3;subst e2;simpa using h3
 rw[hs,e3]at *;simp only[Option.getD_some]at h4⊢;subst e2;cases hp:p with
 |ptr r m i j=>
  rw[hp]at h4 hq;simp only[ABU]at h4;split at h4
  ·rename_i wr sz els hr;obtain⟨hm,hi,he,hsz,hj⟩:=h4;have hgd:els.getD i .any=els[i]:=by simp[List.getD,hi]
   rw[hgd]at he hsz;have he:Ar els[i]=true∨AAV els[i]=true:=by simpa using he
   obtain⟨u,b,k,g1,g2,g3,g4,g5⟩:=Qt st.rel hr hi he hsz;have hpv:=hq.HI hr hm;rw[g4 j]at hpv;refine⟨_,_,hpv,EG e1 g2 hj ha g5,?_⟩;simp only[ABf,P5,hr,hgd];exact K4 g1 he (by omega) ha
  ·exact h4.elim
 |Cc cs=>
  rw[hp]at h4 hq;generalize hX:q=X at hq;cases hq with
  |Cc cs b off vs hI h=>
   let u:Array Value:=((List.range cs.length).map vs).toArray;have hsz:(Value.agg u).cells.size=cs.length:=by simp[Value.cells,u]
   refine⟨if t.agg then .agg (u.extract 0 (0+t.size))else u.getD 0 undef,_,rfl,?_,?_⟩
   ·rw[show(⟨b,off,none⟩:Addr)=⟨b,off+0,none⟩from rfl];exact EG (u:=.agg u) (j:=0) e1 hsz (by omega) ha (fun j hj=>by rw[(h j hj).1];simp[Value.cells,hj,u])
   ·simp only[ABf];unfold OY;cases hagg:t.agg with
    |true=>
     simp only[if_true];refine .d _ _ (.agg _ _ (by simp[u];try omega) (fun i hi=>?_) (fun i hi=>?_))
     ·have hi':i<t.size:=by simp at hi;try omega
      simpa[u]using(h i (by omega)).2.1
     ·have hi':i<t.size:=by simp[u]at hi;try omega
      simpa[u]using(h i (by omega)).2.2
    |false=>
     have h1:t.size=1:=by simpa[hagg]using ha
     simp only[Bool.false_eq_true,if_false];have h2:0<cs.length:=by omega
     have e1:cs.getD 0 (.bool false)=cs[0]:=by simp[List.getD,h2]
     rw[e1];have:=(h 0 h2).2.1;refine .d _ _ ?_;simpa[u,Array.getD_eq_getD_getElem?,h2]using this
 |_=>rw[hp]at h4;exact h4.elim
def ACG(ts:Array Value):ResultVar→Sem Value
 |.tmp t=>pure (ts.getD t undef)
 |.cell b t=>do loadVar t (←asAddr (ts.getD b undef))
theorem Pe(fn:Func)(ts:Array Value):results fn ts=(do let vs←fn.results.mapM (ACG ts);pure (if h:vs.size=1 then vs[0]else .tuple vs)):=by
 unfold results;congr
theorem Hs{G:Gh}{w:World}{a:Act}(st:St P n G S w a tm)(rs:List ResultVar):ABc P tm S rs→∃vs:List Value,(rs.mapM (ACG a.tmps)).run P w=.ok vs w∧vs.length=(FK P tm S rs).length∧∀i (h:i<vs.length) (h':i<(FK P tm S rs).length),CV G S w (FK P tm S rs)[i] vs[i]:=by
 induction rs with
 |nil=>intro _;exact⟨[],by simp,rfl,fun i h=>by simp at h⟩
 |cons r rs ih=>
  intro h;cases r with
  |tmp t=>
   simp only[ABc]at h;obtain⟨vs,h1,h2,h3⟩:=ih h;refine⟨a.tmps.getD t undef::vs,?_,by simp[FK,h2],fun i hi hi'=>?_⟩
   ·simp only[List.mapM_cons,ACG,Sem.run_bind,Sem.run_pure,Result.andThen_ok,h1]
   ·cases i with
    |zero=>simpa[FK]using st.tm t
    |succ i=>simpa[FK]using h3 i (by simpa using hi) (by simpa[FK]using hi')
  |cell b T=>
   simp only[ABc]at h;obtain⟨g1,g2,g3,g4⟩:=h;obtain⟨vs,h1,h2,h3⟩:=ih g4;obtain⟨cv,ad,e1,e2,e3⟩:=PY st ((st.tm b).strip g1) g2 g3;refine⟨cv::vs,?_,by simp[FK,h2],fun i hi hi'=>?_⟩
   ·have ea:(asAddr (a.tmps.getD b undef)).run P w=.ok ad w:=by rw[e1];rfl
    simp only[List.mapM_cons,ACG,Sem.run_bind,ea,Sem.run_pure,Result.andThen_ok,e2,h1]
   ·cases i with
    |zero=>simpa[FK]using e3
    |succ i=>simpa[FK]using h3 i (by simpa using hi) (by simpa[FK]using hi')
def T9(P:Program)(n b:Nat)(rs:List ResultVar)(R:V→Sg→Prop):Exit→Tm→Sg→Prop
 |.normal,tm,S|.ret,tm,S=>∃tm1 S1,AJ P n b tm S tm1 S1∧ABc P tm1 S1 rs∧∀G w a,St P n G S1 w a tm1→b≤S1.length→∃G' v S',(∀cv,CV G S1 w (IL P tm1 S1 rs) cv→CV G' S' w v cv)∧Rel P G' S' w∧Tr G S1 w G' S' w∧Dt b G S1 G' S'∧R v S'
 |_,_,_=>False
theorem Ec{fn:Func}{a:Act}{w:World}{vs:List Value}(h:(fn.results.toList.mapM (ACG a.tmps)).run P w=.ok vs w):
  (results fn a.tmps).run P w=.ok (pack vs) w:=by
 rw[Pe,Array.mapM_eq_mapM_toList];simp only[Sem.run_bind,Sem.run_map,h,Result.andThen_ok,Sem.run_pure];match vs with
 |[]=>simp[pack]
 |[v]=>simp[pack]
 |v::u::vs=>simp[pack]
theorem Dt.later{G:Gh}{w:World}{G':Gh}{w':World}(R:Rel P G S w)(t:Tr G S w G' S' w')(l:Dt S.length G S G' S'):A9 G S w G' S' w':=
 ⟨t.I,fun b hb=>t.DG b (R.G5 b hb) (fun ho=>R.nI b ho hb),l.len,l.row,l.map⟩
theorem AE.intro{f:FuncId}{fn:Func}{c:Code}{args:List V}(hf:P.funcs[f]?=some fn)(hname:(fn.name== "runtime.NumGoroutine")=false)(hb:fn.body=some c)(hn:args.length≤fn.ntmps)
  (h:AW P fn.ntmps S.length c (T9 P fn.ntmps S.length fn.results.toList fun v' S''=>v'=v∧S''=S') (Dl args) S):AE P f args S v S':=by
 refine⟨by simp[ACC,hf,hname,hb],fun G w cargs R hsz hargs=>?_⟩;refine calls_of_wp hf hb ?_;have st:St P fn.ntmps G S w {tmps:=cargs++Array.replicate (fn.ntmps - cargs.size) undef,defers:=[]} (Dl args):=by
  refine⟨by simp;omega,fun k=>?_,R⟩;unfold Dl;by_cases hk:k<args.length
  ·have e1:args.getD k .any=args[k]:=by simp[List.getD,hk]
   have e2:(cargs++Array.replicate (fn.ntmps - cargs.size) undef).getD k undef=cargs[k]'(by omega):=by
    rw[Array.getD_eq_getD_getElem?,Array.getElem?_append_left (by omega)];simp[show k<cargs.size by omega]
   simp only[e1,e2];exact hargs k hk (by omega)
  ·have e1:args.getD k .any=.any:=by simp[List.getD,List.getElem?_eq_none (show args.length≤k by omega)]
   rw[e1];exact .any _
 refine wp_mono (h G w _ st (Nat.le_refl _)) fun ex a' w' hl=>?_;obtain⟨G',S0,tm',hc,hq⟩:=hl;have fin:(∃tm1 S1,AJ P fn.ntmps S.length tm' S0 tm1 S1∧ABc P tm1 S1 fn.results.toList∧∀G w a,St P fn.ntmps G S1 w a tm1→S.length≤S1.length→∃G' v' S'',(∀cv,CV G S1 w (IL P tm1 S1 fn.results.toList) cv→CV G' S'' w v' cv)∧Rel P G' S'' w∧Tr G S1 w G' S'' w∧Dt S.length G S1 G' S''∧v'=v∧S''=S')→a'.defers=[]∧∃x,(results fn a'.tmps).run P w'=.ok x w'∧∃cv G',Ending.returned x=.returned cv∧CV G' S' w' v cv∧Rel P G' S' w'∧Tr G S w G' S' w'∧A9 G S w G' S' w':=by
  intro hq;obtain⟨tm1,S1,g,h1,h2⟩:=hq;refine⟨hc.ds,?_⟩;obtain⟨G1,st1,t1,l1⟩:=g G' w' a' hc.st hc.late.len;obtain⟨vs,v1,v2,v3⟩:=Hs st1 fn.results.toList h1;obtain⟨G2,v',S'',g1,g2,g3,g4,rfl,rfl⟩:=h2 G1 w' a' st1 l1.len;have hpack:∀(vs:List Value) (rs:List V),vs.length=rs.length→(∀i (h:i<vs.length) (h':i<rs.length),CV G1 S1 w' rs[i] vs[i])→CV G1 S1 w' (ACh rs) (pack vs):=fun vs rs v2 v3=>by
   match vs,rs with
   |[],[]=>exact .Bd _ _ rfl (fun i h=>by simp at h)
   |[x],[y]=>exact v3 0 (by simp) (by simp)
   |x::x'::xs,y::y'::ys=>
    refine .Bd _ _ (by simpa using v2) (fun i h=>?_);have:=v3 i (by omega) h;simpa using this
   |[],_::_=>simp at v2
   |_::_,[]=>simp at v2
   |[_],_::_::_=>simp at v2
   |_::_::_,[_]=>simp at v2
  have hcv:=hpack vs _ v2 v3;have tr:=(hc.tr.trans t1).trans g3;have la:=(hc.late.trans l1).trans g4;exact⟨_,Ec v1,_,G2,rfl,g1 _ hcv,g2,tr,la.later R tr⟩
 cases ex with
 |normal=>exact fin hq
 |ret=>exact fin hq
 |exit=>exact hq.elim
 |goto=>exact hq.elim
 |panic=>exact hq.elim
 |outgrown=>exact hq.elim
def Pure(P:Program)(f:FuncId)(ds:List D)(d:D):Prop:=AE P f (ds.map .d) [] (.d d) []
theorem Rel.nil{G:Gh}{w:World}(R:Rel P G S w):Rel P G [] w:=
 ⟨R.Es,fun r o h=>by simp at h,fun r r' o o' h=>by simp at h,fun b ⟨r,o,h,_⟩=>by simp at h,R.G5,fun b ⟨r,o,h,_⟩=>by simp at h⟩
theorem CV.W4{G:Gh}{w:World}{d:D}{v:Value}(h:CD G.I w d v):CV G S w (.d d) v:=.d _ _ h
theorem Pure.call{f:FuncId}{ds:List D}{d:D}{args:List V}(h:Pure P f ds d)(ha:args.map (asD S)=ds.map some):AE P f args S (.d d) S:=by
 refine⟨h.1,fun G w cargs R hsz hargs=>?_⟩;have hlen:args.length=ds.length:=by have:=congrArg List.length ha;simpa using this
 refine(h.2 G w cargs R.nil (by simpa[hlen]using hsz) (fun i hi hi'=>?_)).mono ?_
 ·have hi1:i<ds.length:=by simpa using hi
  have e:asD S args[i]=some ds[i]:=by
   have:=congrArg (·[i]?) ha;simpa[hi1,show i<args.length by omega]using this
  simp only[List.getElem_map];exact .W4 ((hargs i (by omega) hi').asD R e)
 ·rintro e w' ⟨cv,G',he,h1,h2,h3,h4⟩;have hcd:CD G'.I w' d cv:=by cases h1 with|d _ _ h=>exact h
  let G2:Gh:={G with I:=G'.I};have L:A9 G S w G2 S w':=⟨h3.I,fun b hb=>h3.DG b (R.G5 b hb) (fun⟨r,o,h,_⟩=>by simp at h),Nat.le_refl _,fun r _ n h=>⟨n,h,Nat.le_refl _,fun _=>⟨rfl,rfl,rfl,.inl rfl⟩⟩,fun r _ h=>⟨h,rfl⟩⟩;have DG:∀b,b<w.heap.size→w'.heap[b]?=w.heap[b]?:=fun b hb=>h3.DG b hb (fun⟨r,o,h,_⟩=>by simp at h);have R2:Rel P G2 S w':=by
   refine⟨R.Es.later L,fun r o ho=>(R.CT r o ho).later L (fun hw=>DG _ (R.FW _ ⟨r,o,ho,hw,rfl⟩)) rfl rfl rfl,R.inj,fun b hb hI=>?_,fun b hb=>h2.G5 b hb,fun b hb=>Nat.lt_of_lt_of_le (R.FW b hb) h3.size⟩;rcases h3.im b hI with h|⟨r,o,h,_⟩|h
   ·exact R.nI b hb h
   ·simp at h
   ·have:=R.FW b hb;omega
  refine⟨cv,G2,he,.W4 hcd,R2,⟨h3.size,h3.I,fun b hb _=>DG b hb,fun b hb=>.inl hb,fun b hb=>?_,h3.os,h3.out⟩,L⟩;rcases h3.im b hb with h|⟨r,o,h,_⟩|h
  ·exact .inl h
  ·simp at h
  ·exact .inr (.inr h)
def dQ(P:Program)(n:Nat)(rs:List ResultVar)(d:D):Exit→Tm→Sg→Prop
 |.normal,tm,S|.ret,tm,S=>∃tm1 S1,AJ P n 0 tm S tm1 S1∧ABc P tm1 S1 rs∧asD S1 (IL P tm1 S1 rs)=some d
 |_,_,_=>False
theorem Pure.intro{f:FuncId}{fn:Func}{c:Code}{ds:List D}{d:D}(hf:P.funcs[f]?=some fn)(hname:(fn.name== "runtime.NumGoroutine")=false)(hb:fn.body=some c)(hn:ds.length≤fn.ntmps)
  (h:AW P fn.ntmps 0 c (dQ P fn.ntmps fn.results.toList d) (Dl (ds.map .d)) []):Pure P f ds d:=by
 refine AE.intro hf hname hb (by simpa using hn) (h.mono fun ex tm S hq=>?_);have key:(∃tm1 S1,AJ P fn.ntmps 0 tm S tm1 S1∧ABc P tm1 S1 fn.results.toList∧asD S1 (IL P tm1 S1 fn.results.toList)=some d)→∃tm1 S1,AJ P fn.ntmps 0 tm S tm1 S1∧ABc P tm1 S1 fn.results.toList∧∀G w a,St P fn.ntmps G S1 w a tm1→0≤S1.length→∃G' v S',(∀cv,CV G S1 w (IL P tm1 S1 fn.results.toList) cv→CV G' S' w v cv)∧Rel P G' S' w∧Tr G S1 w G' S' w∧Dt 0 G S1 G' S'∧v=.d d∧S'=[]:=by
  rintro⟨tm1,S1,g,h1,h2⟩;refine⟨tm1,S1,g,h1,fun G w a st _=>⟨G,.d d,[],fun cv hcv=>.W4 (hcv.asD st.rel h2),st.rel.nil,?_,⟨Nat.zero_le _,fun r hr=>by omega,fun r hr=>by omega⟩,rfl,rfl⟩⟩;exact⟨Nat.le_refl _,fun _ h=>h,fun _ _ _=>rfl,fun b ⟨r,o,h,_⟩=>by simp at h,fun b hb=>.inl hb,rfl,rfl⟩
 cases ex with
 |normal=>exact key hq
 |ret=>exact key hq
 |exit=>exact hq.elim
 |goto=>exact hq.elim
 |panic=>exact hq.elim
 |outgrown=>exact hq.elim
end
mutual
def WFD:D→Prop
 |.bool _=>True
 |.int k n=>rng k n=true
 |.str s=>s.size≤maxLen
 |.sl xs=>xs.length≤maxLen∧AAY xs
 |.agg cs=>AAY cs
 |.Bd vs=>AAY vs
 |.raw _=>True
def AAY:List D→Prop
 |[]=>True
 |x::xs=>WFD x∧AAY xs
end
theorem OF(xs:List D):AAY xs↔∀x∈xs,WFD x:=by
 induction xs with
 |nil=>simp[AAY]
 |cons x xs ih=>simp[AAY,ih]
theorem DM{α:Type}(f:α→D)(xs:List α):AAY (xs.map f)↔∀x∈xs,WFD (f x):=by
 rw[OF];simp
theorem H4{xs:List D}(h:∀i (h:i<xs.length),WFD xs[i]):AAY xs:=(OF xs).2 fun x hx=>by
 obtain⟨i,hi,rfl⟩:=List.mem_iff_getElem.1 hx;exact h i hi
theorem CD.wf{I:Nat→Prop}{w:World}{d:D}{v:Value}(h:CD I w d v):WFD d:=by
 induction h with
 |bool=>trivial
 |int k n h=>exact h
 |str s h=>exact h
 |nil=>exact⟨by simp[maxLen],trivial⟩
 |sl sz xs b off cap vs hI hl hc h1 h2 ih=>exact⟨hl,H4 ih⟩
 |agg ds vs hs h ho ih=>exact H4 ih
 |Bd ds vs hs h ih=>exact H4 ih
 |raw=>trivial
section
variable {P:Program} {n b:Nat} {o:Oper} {tm:Tm} {S S':Sg} {v:V} {ops:Array Oper} {K:Tm→Sg→Prop} {Q:Exit→Tm→Sg→Prop}
theorem AW.assume{p:Prop}{c:Code}(hp:∀G w a,St P n G S w a tm→p)(h:p→AW P n b c Q tm S):AW P n b c Q tm S:=
 fun G w a st hb=>h (hp G w a st) G w a st hb
theorem AS.assume{p:Prop}{l:List Oper}(hp:∀G w a,St P n G S w a tm→p)(h:p→AS P n b ops l tm S K):AS P n b ops l tm S K:=
 fun k hk G w a Q st hb hq=>h (hp G w a st) k hk G w a Q st hb hq
theorem RZ{ds:List D}{G:Gh}{w:World}{a:Act}(st:St P n G S w a (Dl (ds.map .d))):AAY ds:=H4 fun i hi=>by
 have:=st.tm i;have e:Dl (ds.map .d) i=.d ds[i]:=by simp[Dl,List.getD,hi]
 rw[e]at this;cases this with|d _ _ h=>exact h.wf
theorem Pure.AI{f:FuncId}{fn:Func}{c:Code}{ds:List D}{d:D}(hf:P.funcs[f]?=some fn)(hname:(fn.name== "runtime.NumGoroutine")=false)(hb:fn.body=some c)(hn:ds.length≤fn.ntmps)
  (h:AAY ds→AW P fn.ntmps 0 c (dQ P fn.ntmps fn.results.toList d) (Dl (ds.map .d)) []):Pure P f ds d:=
 Pure.intro hf hname hb hn (AW.assume (fun _ _ _ st=>RZ st) h)
theorem AU{c:Operand}{x y:Code}(h:match ev tm c with|.d (.bool t)=>(t=true→AW P n b x Q tm S)∧(t=false→AW P n b y Q tm S)|_=>False):AW P n b (.cond c x y) Q tm S:=by
 split at h
 ·rename_i t ht;exact AW.BD ht h.1 h.2
 ·exact h.elim
theorem Az{id:Nat}{y:Code}(h:∀K:Tm→Sg→Prop,(∀tm S,AW P n b y Q tm S→K tm S)→AS P n b ops ops.toList tm S K):AW P n b (.seq (.region id ops false) y) Q tm S:=
 xS (AW.region (h _ fun _ _ h=>h))
mutual
def AAB(k:Nat):V→Bool
 |.row r _=>decide (r<k)
 |.ptr r _ _ _=>decide (r<k)
 |.map r=>decide (r<k)
 |.fn _ as bs=>AAG k as&&AAG k bs
 |.agg cs=>AAG k cs
 |.Bd vs=>AAG k vs
 |.opt _ v=>AAB k v
 |_=>true
def AAG(k:Nat):List V→Bool
 |[]=>true
 |x::xs=>AAB k x&&AAG k xs
end
def AAE(k:Nat):O→Bool
 |.row _ _ els=>AAG k els
 |.map es=>es.all fun e=>AAB k e.2
 |_=>true
theorem Ch{k:Nat}{xs:List V}(h:AAG k xs=true):∀i (hi:i<xs.length),AAB k xs[i]=true:=by
 induction xs with
 |nil=>intro i hi;simp at hi
 |cons x xs ih=>
  simp only[AAG,Bool.and_eq_true]at h;intro i hi;cases i with
  |zero=>exact h.1
  |succ i=>simpa using ih h.2 i (by simpa using hi)
@[simp] theorem Y9{α:Type}(k:Nat)(f:α→D)(xs:List α):AAG k (xs.map fun x=>V.d (f x))=true:=by
 induction xs with
 |nil=>rfl
 |cons x xs ih=>simp[AAG,AAB,ih]
@[simp] theorem Xq(k:Nat)(xs:List D):AAG k (xs.map V.d)=true:=by
 induction xs with
 |nil=>rfl
 |cons x xs ih=>simp[AAG,AAB,ih]
theorem CV.take{G:Gh}{w:World}{k:Nat}{x:V}{v:Value}(h:CV G S w x v)(hb:AAB k x=true)(hk:k≤S.length):CV G (S.take k) w x v:=by
 have hlen:∀r,r<k→(S.take k)[r]?=S[r]?:=fun r hr=>by simp[hr]
 have hl:(S.take k).length=k:=by simp[hk]
 induction h with
 |any v=>exact .any v
 |d d v h=>exact .d d v h
 |full xs a h=>exact .full xs a h
 |row r n v ho hr h=>
  have hr':r<k:=by simpa[AAB]using hb
  exact .row r n v ho (by omega) (by simpa only[lenOf,hlen r hr']using h)
 |ptr r n i j v ho hr h=>
  have hr':r<k:=by simpa[AAB]using hb
  exact .ptr r n i j v ho (by omega) (by simpa only[lenOf,AAf,hlen r hr']using h)
 |Cc cs b off vs hI h=>exact .Cc cs b off vs hI h
 |map r v ho hr h=>
  have hr':r<k:=by simpa[AAB]using hb
  exact .map r v ho (by omega) (by simpa only[AAM,hlen r hr']using h)
 |fn f as bs xs ys h1 h2 h3 h4 i3 i4=>
  simp only[AAB,Bool.and_eq_true]at hb;exact .fn f as bs xs ys h1 h2 (fun i hi=>i3 i hi (Ch hb.1 i hi)) (fun i hi=>i4 i hi (Ch hb.2 i hi))
 |agg cs vs hs h ho ih=>exact .agg cs vs hs (fun i hi=>ih i hi (Ch hb i hi)) ho
 |Bd cs vs hs h ih=>exact .Bd cs vs hs (fun i hi=>ih i hi (Ch hb i hi))
 |opt g x v h h' ih=>exact .opt g x v (fun hg=>ih hg (by simpa[AAB]using hb)) h'
def clean(k:Nat)(tm:Tm):Tm:=fun t=>if AAB k (tm t)then tm t else .any
theorem AJ.drop(k:Nat)(hb:b≤k)(hk:k≤S.length)(ho:(S.take k).all (AAE k)=true):AJ P n b tm S (clean k tm) (S.take k):=fun G w a st _=>by
 have hget:∀r o,(S.take k)[r]?=some o→S[r]?=some o∧r<k:=fun r o h=>by
  have h1:=AZ h;have h2:r<k:=by simp at h1;omega
  exact⟨by simpa[List.getElem?_take,h2]using h,h2⟩
 have hown:∀x,Eo G (S.take k) x→Eo G S x:=fun x ⟨r,o,h1,h2,h3⟩=>⟨r,o,(hget r o h1).1,h2,h3⟩;have hL:Dt b G S G (S.take k):=by
  refine⟨by simp;omega,fun r hr n' hn'=>⟨n',?_,Nat.le_refl _,fun _=>⟨rfl,rfl,rfl,.inl ?_⟩⟩,fun r hr hm=>⟨?_,rfl⟩⟩
  ·simpa[lenOf,List.getElem?_take,show r<k by omega]using hn'
  ·simp[AAf,show r<k by omega]
  ·simpa[AAM,List.getElem?_take,show r<k by omega]using hm
 refine⟨G,⟨st.size,fun t=>?_,⟨st.rel.Es,fun r o h=>?_,fun r r' o o' h h'=>st.rel.inj r r' o o' (hget r o h).1 (hget r' o' h').1,fun x hx=>st.rel.nI x (hown x hx),st.rel.G5,fun x hx=>st.rel.FW x (hown x hx)⟩⟩,⟨Nat.le_refl _,fun _ h=>h,fun _ _ _=>rfl,fun x hx=>.inl (hown x hx),fun x hx=>.inl hx,rfl,rfl⟩,hL⟩
 ·unfold clean;split
  ·rename_i hbl;exact(st.tm t).take hbl hk
  ·exact .any _
 ·obtain⟨h1,h2⟩:=hget r o h;have hbo:AAE k o=true:=List.all_eq_true.1 ho o (List.mem_of_getElem? h);have hok:=st.rel.CT r o h1;cases o with
  |row wr sz els=>
   simp only[OK]at hok⊢;cases hv:G.BB r with
   |none=>
    simp only[hv]at hok⊢;obtain⟨c,T,g1,g2,g3,g4,g5⟩:=hok;refine⟨c,T,g1,g2,g3,g4,fun i hi=>?_⟩;obtain⟨u,u1,u2,u3,u4⟩:=g5 i hi;exact⟨u,u1.take (Ch hbo i hi) hk,u2,u3,u4⟩
   |some a=>
    simp only[hv]at hok⊢;exact hok
  |BJ xs=>exact hok
  |map es=>
   simp only[OK]at hok⊢;obtain⟨ents,clock,g1,g2,gk,g3⟩:=hok;refine⟨ents,clock,g1,g2,gk,fun i hi=>?_⟩;obtain⟨e,e1,e2,e3,e4,e5⟩:=g3 i hi;have hbe:AAB k es[i].2=true:=List.all_eq_true.1 hbo es[i] (by simp);exact⟨e,e1,e2,e3.take hbe hk,e4,e5⟩
  |dead=>trivial
theorem DC{c:Code}(N:Nat)(Inv:Nat→Tm→Sg→Prop){i0:Nat}(hi0:i0≤N)(h0:Inv i0 tm S)
  (hr:∀i tm S,i≤N→Inv i tm S→AW P n b c (AAo (fun tm' S'=>i<N∧∃tm'' S'',AJ P n b tm' S' tm'' S''∧Inv (i+1) tm'' S'') Q) tm S):AW P n b (.loop c) Q tm S:=by
 refine AW.loop (fun m tm S=>∃i,i≤N∧m=N - i∧Inv i tm S) ⟨_,tm,S,AJ.refl,i0,hi0,rfl,h0⟩ ?_;rintro m tm S ⟨i,hi,rfl,hI⟩;refine(hr i tm S hi hI).mono fun ex tm' S' hq=>?_;cases ex with
 |normal=>
  obtain⟨hlt,tm2,S2,g,hI2⟩:=hq;exact⟨N - (i+1),tm2,S2,by omega,g,i+1,by omega,rfl,hI2⟩
 |_=>exact hq
theorem wrap_i64{x:Int}(h1:-9223372036854775808≤x)(h2:x≤9223372036854775807):IntKind.i64.wrap x=x:=by
 unfold IntKind.wrap;have e1:IntKind.i64.bits=64:=rfl;have e2:IntKind.i64.signed=true:=rfl;simp only[e1,e2,Bool.true_and,decide_eq_true_eq];have e3:(2:Int) ^ 64=18446744073709551616:=by decide
 have e4:(2:Int) ^ (64 - 1)=9223372036854775808:=by decide
 rw[e3,e4];split<;>omega
theorem AQ{i n:Nat}(h:i<n)(hn:n≤maxLen):IntKind.i64.wrap ((i:Int)+1)=((i+1:Nat):Int):=by
 unfold maxLen at hn;rw[wrap_i64 (by omega) (by omega)];simp
end
@[simp] theorem av(vs:List V):AAD (.agg vs)=vs:=rfl
@[simp] theorem Yx(ds:List D):AAD (.d (.agg ds))=ds.map .d:=rfl
@[simp] theorem ZB(x:Bool):AAD (.d (.bool x))=[.d (.bool x)]:=rfl
@[simp] theorem ZW(k:IntKind)(x:Int):AAD (.d (.int k x))=[.d (.int k x)]:=rfl
@[simp] theorem aa(x:ByteArray):AAD (.d (.str x))=[.d (.str x)]:=rfl
@[simp] theorem bf(x:List D):AAD (.d (.sl x))=[.d (.sl x)]:=rfl
@[simp] theorem Zl(x:Value):AAD (.d (.raw x))=[.d (.raw x)]:=rfl
@[simp] theorem ZC(x:List D):AAD (.full x)=[.full x]:=rfl
@[simp] theorem ZY(r m:Nat):AAD (.row r m)=[.row r m]:=rfl
@[simp] theorem aj(r m i j:Nat):AAD (.ptr r m i j)=[.ptr r m i j]:=rfl
@[simp] theorem Yw(x:List D):AAD (.Cc x)=[.Cc x]:=rfl
@[simp] theorem aI(r:Nat):AAD (.map r)=[.map r]:=rfl
@[simp] theorem bT(f:Fn)(a b:List V):AAD (.fn f a b)=[.fn f a b]:=rfl
@[simp] theorem Z3(vs:List V):Ar (.agg vs)=true:=rfl
@[simp] theorem Y2(ds:List D):Ar (.d (.agg ds))=true:=rfl
@[simp] theorem Y8(x:Bool):Ar (.d (.bool x))=false:=rfl
@[simp] theorem ZU(k:IntKind)(x:Int):Ar (.d (.int k x))=false:=rfl
@[simp] theorem bD(x:ByteArray):Ar (.d (.str x))=false:=rfl
@[simp] theorem cG(x:List D):Ar (.d (.sl x))=false:=rfl
@[simp] theorem Z0(x:Value):Ar (.d (.raw x))=false:=rfl
@[simp] theorem Ym(x:List D):Ar (.full x)=false:=rfl
@[simp] theorem bF(r m:Nat):Ar (.row r m)=false:=rfl
@[simp] theorem aM(r m i j:Nat):Ar (.ptr r m i j)=false:=rfl
@[simp] theorem Y4(x:List D):Ar (.Cc x)=false:=rfl
@[simp] theorem ZQ(r:Nat):Ar (.map r)=false:=rfl
@[simp] theorem bw(f:Fn)(a b:List V):Ar (.fn f a b)=false:=rfl
@[simp] theorem di(vs:List V):AAV (.agg vs)=false:=rfl
@[simp] theorem cI(ds:List D):AAV (.d (.agg ds))=false:=rfl
@[simp] theorem cD(x:Bool):AAV (.d (.bool x))=true:=rfl
@[simp] theorem ca(k:IntKind)(x:Int):AAV (.d (.int k x))=true:=rfl
@[simp] theorem cO(x:ByteArray):AAV (.d (.str x))=true:=rfl
@[simp] theorem eO(x:List D):AAV (.d (.sl x))=true:=rfl
@[simp] theorem dZ(x:Value):AAV (.d (.raw x))=one x:=rfl
@[simp] theorem bW(x:List D):AAV (.full x)=true:=rfl
@[simp] theorem dM(r m:Nat):AAV (.row r m)=true:=rfl
@[simp] theorem dT(r m i j:Nat):AAV (.ptr r m i j)=true:=rfl
@[simp] theorem cE(x:List D):AAV (.Cc x)=true:=rfl
@[simp] theorem dO(r:Nat):AAV (.map r)=true:=rfl
@[simp] theorem eH(f:Fn)(a b:List V):AAV (.fn f a b)=true:=rfl
@[simp] theorem aX(ds:List D):AAL (.agg ds)=ds:=rfl
@[simp] theorem ZE(x:Bool):AAL (.bool x)=[.bool x]:=rfl
@[simp] theorem Zu(k:IntKind)(x:Int):AAL (.int k x)=[.int k x]:=rfl
@[simp] theorem Z9(x:ByteArray):AAL (.str x)=[.str x]:=rfl
@[simp] theorem bd(x:List D):AAL (.sl x)=[.sl x]:=rfl
@[simp] theorem cw(ds:List D):AAe.oneD (.agg ds)=true:=rfl
@[simp] theorem br(x:Bool):AAe.oneD (.bool x)=true:=rfl
@[simp] theorem dj(k:IntKind)(x:Int):AAe.oneD (.int k x)=true:=rfl
@[simp] theorem dn(x:ByteArray):AAe.oneD (.str x)=true:=rfl
@[simp] theorem dw(x:List D):AAe.oneD (.sl x)=true:=rfl
@[simp] theorem getD_map{α β:Type}(f:α→β)(xs:List α)(i:Nat)(d:β)(h:i<xs.length):(xs.map f)[i]?.getD d=f xs[i]:=by simp[h]
attribute [simp] AAu Cq oS A6 AAQ BP CM ABE ABF ev need strip put cst AC7 isV AAb FI AEH Zn arith ABY cp Zy ADL Vl ABf Gj Km OY ABU P5 Tn faV AA9 iaV AAe FM FF AEC ZS Tf ADx Z8 ADq B3 ABT DL Je ADt Tt AC0 Jr Tu ADm MZ asD AAl AA0 ACf Lj ABa AA3 ACT ABd callee A5 ACD ABc FK ACh IL lenOf AAf AAM one AAo AAX AAB AAG AAE AA7 AA8 Mx AAs mapOf UC mmV XC AD0 hiV AAt EH Dm KT V7 ADu HZ ABN ABM OS PF AEB N8 AAK AAP AAU AAH rng ABo
end Go.Koi
