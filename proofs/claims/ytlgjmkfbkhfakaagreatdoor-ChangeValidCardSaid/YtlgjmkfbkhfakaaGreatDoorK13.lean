/- Part 14 of the proof that the law ChangeValid returns true for every input. -/
import Derived.Test.YtlgjmkfbkhfakaaGreatDoorK12
import Derived.Recover
set_option maxHeartbeats 64000000
set_option maxRecDepth 100000
namespace Go.Koi
section
variable {P:Program} {n b:Nat} {o:Oper} {tm tm':Tm} {S S0 S0' S':Sg} {v:V} {ops:Array Oper} {Q:Exit→Tm→Sg→Prop}
def Uh(P:Program)(g:FuncId):Prop:=ACT P g=true∧∀(cap:Array Value) (w:World),CallsD P g cap .returning w fun e u w'=>(∃v,e=.returned v)∧u=.returning∧w'=w
theorem QV{fn:Func}{R:V→Sg→Prop}{G:Gh}{w:World}(R0:Rel P G S w){ds:List Deferred}{a':Act}{w':World}{G':Gh}{tm':Tm}(hc:E1 P fn.ntmps S.length G S w ds a' w' G' S0 tm')
  (hq:Jm P fn.ntmps S.length fn.results.toList R .ret tm' S0):
  ∃x,(results fn a'.tmps).run P w'=.ok x w'∧∃G' v S',R v S'∧CV G' S' w' v x∧Rel P G' S' w'∧Tr G S w G' S' w'∧A9 G S w G' S' w':=by
 obtain⟨tm1,S2,g,h1,v,S',hR,h2⟩:=hq;obtain⟨G1,st1,t1,l1⟩:=g G' w' a' hc.st hc.late.len;obtain⟨vs,v1,v2,v3⟩:=Hs st1 fn.results.toList h1;have kQ:∀(vs:List Value) (rs:List V),vs.length=rs.length→(∀i (h:i<vs.length) (h':i<rs.length),CV G1 S2 w' rs[i] vs[i])→CV G1 S2 w' (ACy rs) (pack vs):=fun vs rs v2 v3=>by
  match vs,rs with
  |[],[]=>exact .Bd _ _ rfl (fun i h=>by simp at h)
  |[x],[y]=>exact v3 0 (by simp) (by simp)
  |x::x'::xs,y::y'::ys=>
   refine .Bd _ _ (by simpa using v2) (fun i h=>?_);have:=v3 i (by omega) h;simpa using this
  |[],_::_=>simp at v2
  |_::_,[]=>simp at v2
  |[_],_::_::_=>simp at v2
  |_::_::_,[_]=>simp at v2
 have iO:CV G1 S2 w' (IL P tm1 S2 fn.results.toList) (pack vs):=kQ vs _ v2 v3;have tr:=hc.tr.trans t1;have la:=hc.late.trans l1;rcases h2 with⟨d,tm2,h3,rfl,h4⟩|⟨h3,rfl⟩
 ·obtain⟨G2,st2,t2,l2⟩:=h4 G1 w' a' st1 l1.len;have tr2:=tr.trans t2;have la2:=la.trans l2;exact⟨_,Ec v1,G2,.d d,S',hR,.d _ _ ((iO.asD st1.rel h3).mono t2.I (fun _ _=>rfl)),st2.rel,tr2,la2.later R0 tr2⟩
 ·exact⟨_,Ec v1,G1,v,S',hR,h3▸iO,st1.rel,tr,la.later R0 tr⟩
def UO(P:Program)(n:Nat)(ops:Array Oper)(g:FuncId)(tm:Tm)(S:Sg)(tm':Tm):Prop:=
 ∃o1 o2 t caps ats,ops=#[o1,o2]∧o1.guard=none∧o2.guard=none∧AAw P n ops o1 tm S∧Cq P ops o1 tm S=.fn (.func g) [] caps∧oS P o1 tm S=S∧o1.dst=some t∧t<n∧o2.op=.defer ⟨.value (.tmp t),#[],ats⟩∧o2.dst=none∧tm'=EJ tm t (.fn (.func g) [] caps)
theorem SI{g:FuncId}(hd:UO P n ops g tm S tm'){id:Nat}{G:Gh}{w:World}{a:Act}{QQ:Exit→Act→World→Prop}(st:St P n G S w a tm)(hb:b≤S.length)
  (h:∀a' w' G' d cap,St P n G' S w' a' tm'→a'.defers=d::a.defers→d.target=.fn (.func g) cap→d.args=#[]→Tr G S w G' S w'→Dt b G S G' S→QQ .normal a' w'):(Code.region id ops false).wp P QQ a w:=by
 obtain⟨o1,o2,t,caps,ats,rfl,g1,g2,h1,h2,h3,h4,h5,h6,h7,rfl⟩:=hd;refine wp_region ?_;have s1:=Step.B5 (b:=b) (i:=0) (ops:=#[o1,o2]) (o:=o1) (n:=n) (P:=P) (tm:=tm) (S:=S) rfl h1;rw[h2,h3,h4]at s1;have hr:List.range (#[o1,o2]:Array Oper).size=[0,1]:=rfl;rw[hr,wpOps_cons];refine s1 G w a _ _ st hb fun a1 w1 G1 iW=>?_;rw[wpOps_cons];unfold wpOp;simp only[List.getElem?_toArray,List.getElem?_cons_succ,List.getElem?_cons_zero,Region.wanted,g2,if_true];left;have iO:=iW.st.tm t;simp only[put,EJ,if_true]at iO;generalize hX:a1.tmps.getD t undef=X at iO;cases iO with
 |fn _ _ _ xs ys q1 q2 q3 q4=>
  have sB:xs=#[]:=by apply Array.eq_empty_of_size_eq_zero;simpa using q1
  subst sB;unfold Oper.wp;have gl:(execOp a1.eval o2).run P w1=.ok (.defer {target:=.fn (.func g) ys,args:=#[]}) w1:=by
   have kW:a1.eval (.tmp t)=.func (.func g) #[] ys:=hX;simp[execOp,h6,resolve,kW,Deferred.ofValue]
  rw[gl];simp only[Oper.upon,h7,Act.put];simp only[wpOps];refine h _ w1 G1 {target:=.fn (.func g) ys,args:=#[]} ys ⟨iW.st.size,iW.st.tm,iW.st.rel⟩ (by rw[iW.ds]) rfl rfl iW.tr iW.late
theorem At.X8{f g:FuncId}{fn:Func}{c1 c2 c3:Code}{id:Nat}{dops:Array Oper}{args:List V}{R:V→Sg→Prop}(hf:P.funcs[f]?=some fn)(iJ:(fn.name== "runtime.NumGoroutine")=false)
  (hb:fn.body=some (.seq c1 (.seq c2 (.seq (.region id dops false) c3)))) (hn:args.length≤fn.ntmps) (hg:Uh P g)
  (h:ABP args→ACL S→AW P fn.ntmps S.length c1 (AAE (AW P fn.ntmps S.length c2 (AAE (fun tm2 S2=>∃tm3,UO P fn.ntmps dops g tm2 S2 tm3∧AW P fn.ntmps S.length c3 (Jm P fn.ntmps S.length fn.results.toList R) tm3 S2) (Jm P fn.ntmps S.length fn.results.toList R))) (Jm P fn.ntmps S.length fn.results.toList R)) (Dl args) S):At P f args S R:=by
 refine⟨by simp[ACT,hf,iJ,hb],fun G w cargs R0 gp gi=>?_⟩;refine calls_of_wp_defers hf hb ?_;have st:St P fn.ntmps G S w {tmps:=cargs++Array.replicate (fn.ntmps - cargs.size) undef,defers:=[]} (Dl args):=by
  refine⟨by simp;omega,fun k=>?_,R0⟩;unfold Dl;by_cases hk:k<args.length
  ·have e1:args.getD k .any=args[k]:=by simp[List.getD,hk]
   have e2:(cargs++Array.replicate (fn.ntmps - cargs.size) undef).getD k undef=cargs[k]'(by omega):=by
    rw[Array.getD_eq_getD_getElem?,Array.getElem?_append_left (by omega)];simp[show k<cargs.size by omega]
   simp only[e1,e2];exact gi k hk (by omega)
  ·have e1:args.getD k .any=.any:=by simp[List.getD,List.getElem?_eq_none (show args.length≤k by omega)]
   rw[e1];exact .any _
 have vu:ABP args∧ACL S:=⟨Fg fun i hi=>by
  have:=st.tm i;have e:Dl args i=args[i]:=by simp[Dl,List.getD,hi]
  rw[e]at this;exact this.wf,st.rel.fD⟩
 have h:=h vu.1 vu.2;have end0:∀{a' w' G' S0 tm'},E1 P fn.ntmps S.length G S w [] a' w' G' S0 tm'→Jm P fn.ntmps S.length fn.results.toList R .ret tm' S0→Leaves P fn a'.tmps (fun e w'=>∃cv G' v S',R v S'∧e=.returned cv∧CV G' S' w' v cv∧Rel P G' S' w'∧Tr G S w G' S' w'∧A9 G S w G' S' w') a'.defers .returning w':=fun {a' w' G' S0 tm'} hc hq=>by
  obtain⟨x,hx,G2,v,S',hR,k1,k2,k3,k4⟩:=QV R0 hc hq;rw[hc.ds];exact⟨x,hx,x,G2,v,S',hR,rfl,k1,k2,k3,k4⟩
 have end1:∀{a' w' G' S0 tm'} {d:Deferred} {cap:Array Value},E1 P fn.ntmps S.length G S w [d] a' w' G' S0 tm'→d.target=.fn (.func g) cap→d.args=#[]→Jm P fn.ntmps S.length fn.results.toList R .ret tm' S0→Leaves P fn a'.tmps (fun e w'=>∃cv G' v S',R v S'∧e=.returned cv∧CV G' S' w' v cv∧Rel P G' S' w'∧Tr G S w G' S' w'∧A9 G S w G' S' w') a'.defers .returning w':=fun {a' w' G' S0 tm' d cap} hc o8 lO hq=>by
  obtain⟨x,hx,G2,v,S',hR,k1,k2,k3,k4⟩:=QV R0 hc hq;rw[hc.ds];obtain⟨dt,da⟩:=d;simp only at o8 lO;subst o8;subst lO;obtain⟨o9,tD⟩:=hg;refine leaves_cons (f:=g) (args:=cap) (by simp) ?_ ((tD cap w').mono fun e u' w'' hh=>?_)
  ·unfold ACT at o9;split at o9
   ·rename_i fn2 tE;simp only[Bool.and_eq_true,Bool.not_eq_true',beq_eq_false_iff_ne,ne_eq]at o9;obtain⟨b2,iG⟩:=Option.isSome_iff_exists.1 o9.2;simp[invoke,callFunc,tE,o9.1,iG]
   ·cases o9
  ·obtain⟨⟨v',rfl⟩,rfl,rfl⟩:=hh;exact⟨x,hx,x,G2,v,S',hR,rfl,k1,k2,k3,k4⟩
 refine wp_seq (wp_mono (h G w _ st (Nat.le_refl _)) fun ex a1 w1 hl=>?_);obtain⟨G1,S1,tm1,iW,jv⟩:=hl;cases ex with
 |exit=>exact jv.elim
 |goto=>exact jv.elim
 |panic=>exact jv.elim
 |outgrown=>exact jv.elim
 |ret=>exact end0 iW jv
 |normal=>
  simp only[AAE]at jv;refine wp_seq (wp_mono (jv G1 w1 a1 iW.st iW.late.len) fun ex a2 w2 hl=>?_);obtain⟨G2,S2,tm2,gx,jY⟩:=hl;have oB:E1 P fn.ntmps S.length G S w [] a2 w2 G2 S2 tm2:=⟨gx.st,gx.ds.trans iW.ds,iW.tr.trans gx.tr,iW.late.trans gx.late⟩;cases ex with
  |exit=>exact jY.elim
  |goto=>exact jY.elim
  |panic=>exact jY.elim
  |outgrown=>exact jY.elim
  |ret=>exact end0 oB jY
  |normal=>
   obtain⟨tm3,wD,wE⟩:=jY;refine wp_seq (SI wD gx.st gx.late.len fun a3 w3 G3 d cap st3 o8 lO sJ t3 l3=>?_);refine wp_mono (wE G3 w3 a3 st3 gx.late.len) fun ex a4 w4 hl=>?_;obtain⟨G4,S4,tm4,jM,qK⟩:=hl;have rA:E1 P fn.ntmps S.length G S w [d] a4 w4 G4 S4 tm4:=⟨jM.st,by rw[jM.ds,o8,oB.ds],(oB.tr.trans t3).trans jM.tr,(oB.late.trans l3).trans jM.late⟩;cases ex with
   |exit=>exact qK.elim
   |goto=>exact qK.elim
   |panic=>exact qK.elim
   |outgrown=>exact qK.elim
   |ret=>exact end1 rA lO sJ qK
   |normal=>exact end1 rA lO sJ qK
end
section
variable {P:Program} {n b:Nat} {o:Oper} {tm tm':Tm} {S S0 S0' S':Sg} {v:V} {ops:Array Oper} {K:Tm→Sg→Prop}
theorem Step.FB{i j:Nat}{want:Bool}(hi:ops[i]?=some o)(hd:A6 n o.dst)(hg:o.guard=some (j,want))(hv:AAd ops tm j want=some true)
  (h:Bv P n o tm S v S'):Step P n b ops i tm S (put tm o.dst v) S':=fun G w a K' Q st hb k=>by
 unfold wpOp;simp only[hi,L8 st hg hv,if_true];exact .inl (h G w a K' Q st fun cv w' G' h1 h2 h3 h4=>k _ _ G' ⟨st.put hd h1 h2 h4,Be,h3,h4.late hb⟩)
theorem Dp{rest:List Oper}{j:Nat}{want:Bool}(hg:o.guard=some (j,want))(hp:A6 n o.dst∧AAd ops tm j want=some false)
  (h2:AS P n b ops rest (put tm o.dst (.opt false (.d (.bool false)))) S K):AS P n b ops (o::rest) tm S K:=
 AS.step (fun _ hi=>Step.ET (v:=.d (.bool false)) hi hp.1 hg hp.2 fun e=>by cases e) h2
theorem AS.KR{rest:List Oper}{c:Call}{f:FuncId}{args0:List V}{j:Nat}{want:Bool}(h:AE P f args0 S0 v S0')(rs:List Nat)(ho:o.op=.call c)(hg:o.guard=some (j,want))
  (hp:AAd ops tm j want=some true∧A6 n o.dst∧A5 tm c∧AAb tm c f args0 rs∧DZ S S0 rs∧rs.length≤S0'.length∧args0.all (AAB rs.length)=true)
  (h2:AS P n b ops rest (put tm o.dst (AAO (CN (nameOf rs) rs.length S.length) v)) (CF S S0' rs) K):AS P n b ops (o::rest) tm S K:=by
 obtain⟨h3,h4,h5,h6,h7,h8,h9⟩:=hp;unfold AAb at h6;split at h6
 ·rename_i f' args hc;obtain⟨rfl,rfl⟩:=h6;exact AS.step (fun _ hi=>Step.FB hi h4 hg h3 (E2 ho hc h5 (h.Bq rs h7 h8 h9))) h2
 ·exact h6.elim
theorem AS.Cj{rest:List Oper}{c:Call}{f:FuncId}{ds:List D}{d:D}{j:Nat}{want:Bool}(h:Pure P f ds d)(ho:o.op=.call c)(hg:o.guard=some (j,want))
  (hp:AAd ops tm j want=some true∧A6 n o.dst∧A5 tm c∧AA6 S tm c f ds)
  (h2:AS P n b ops rest (put tm o.dst (.d d)) S K):AS P n b ops (o::rest) tm S K:=by
 obtain⟨h3,h4,h5,h6⟩:=hp;obtain⟨args,h7,h8⟩:=ER h6;exact AS.step (fun _ hi=>Step.FB hi h4 hg h3 (E2 ho h7 h5 (h.call h8))) h2
theorem Jf{rest:List Oper}{j:Nat}{want:Bool}(hg:o.guard=some (j,want))(hp:AAd ops tm j want=some true∧A6 n o.dst∧AAS P o.op tm S)
  (h2:AS P n b ops rest (put tm o.dst (BP P o.op tm S)) (CM P o.op tm S) K):AS P n b ops (o::rest) tm S K:=
 AS.step (fun _ hi=>Step.FB hi hp.2.1 hg hp.1 (IW hp.2.2)) h2
theorem AW.El{x y:Code}{Q:Exit→Tm→Sg→Prop}{R:Tm→Sg→Prop}(h1:AW P n b x (AAE R Q) tm S)(h2:∀tm S,R tm S→AW P n b y Q tm S):AW P n b (.seq x y) Q tm S:=by
 refine xS (h1.mono fun ex tm S hq=>?_);cases ex<;>first|exact hq|exact h2 _ _ hq
end
section
variable {P:Program} {n b:Nat} {o:Oper} {tm tm':Tm} {S S0 S0' S':Sg} {v:V} {ops:Array Oper} {K:Tm→Sg→Prop}
theorem SD{T E:TypeId}{g:Nat}{y:Operand}{k:IntKind}{i:Int}(ho:o.op=.indexAddr T (.global g) y)(hg:(P.globals[g]?).map (·.name)=some "math/bits.deBruijn64tab")(hT:AAz P T=some (64,E))
  (hE:Aq P E=some 1) (hy:need (ev tm y)) (ey:strip (ev tm y)=.d (.int k i)) (h0:0≤i) (h1:i<64):Bv P n o tm S (.Cc [.int .u8 (BY.getD i.toNat 0)]) S:=.pure fun G w a st=>by
 have hi:=Bg st hy ey;obtain⟨t,e1,e2⟩:=LO hT;obtain⟨e,f1,f2,_⟩:=Bn hE;obtain⟨d,hd,gv⟩:=Ai e1 w;have hdE:d=.array 64 E:=by rw[e2]at gv;cases d<;>simp[tk]at gv⊢;exact gv
 subst hdE;have kW:a.eval (.global g)=.pointer (some ⟨g,0,none⟩):=rfl;obtain⟨gI,gc⟩:=st.rel.Es g hg;have hlen:i.toNat<BY.length:=by simp[BY];omega
 refine⟨.pointer (some ⟨g,0+i.toNat,none⟩),?_,.Cc _ _ _ (fun _=>.int .u8 BY[i.toNat]) gI fun j hj=>?_⟩
 ·simp only[execOp,ho,kW,hi,Instr.indexAt,asIntOf,Sem.run_bind,Sem.run_pure,Result.andThen_ok,hd,Instr.sureAddr,Eb];rw[if_pos ⟨h0,by exact_mod_cast h1⟩];simp[BQ f1,show e.size=1 from f2]
 ·have:j=0:=by simp at hj;omega
  subst this;have hb:∀l<64,0≤BY.getD l 0∧BY.getD l 0<64:=by decide
  have hb:=hb i.toNat (by omega);have e:BY.getD i.toNat 0=BY[i.toNat]:=by simp[List.getD,hlen]
  rw[e]at hb⊢;refine⟨by simpa using gc i.toNat hlen,.int _ _ ?_,rfl⟩;simp[rng];omega
theorem AS.aq{rest:List Oper}{T E:TypeId}{g:Nat}{y:Operand}(ho:o.op=.indexAddr T (.global g) y)(jn:o.guard=none)(hg:(P.globals[g]?).map (·.name)=some "math/bits.deBruijn64tab")(hT:AAz P T=some (64,E))
  (hE:Aq P E=some 1) (hd:A6 n o.dst) {k:IntKind} {i:Int} (ey:ev tm y=.d (.int k i)) (h0:0≤i) (h1:i<64)
  (h2:AS P n b ops rest (put tm o.dst (.Cc [.int .u8 (BY.getD i.toNat 0)])) S K):AS P n b ops (o::rest) tm S K:=
 AS.step (fun _ hi=>Step.Hd hi hd jn (SD ho hg hT hE (by rw[ey];trivial) (by rw[ey];rfl) h0 h1)) h2
theorem Zw{T:TypeId}{x:Operand}{k:IntKind}{i:Int}(ho:o.op=.unOp .neg T x)(hx:need (ev tm x))(ex:strip (ev tm x)=.d (.int k i)):
  Bv P n o tm S (.d (.int k (k.wrap (-i)))) S:=.pure fun G w a st=>by
 have h1:=(BH st x).strip hx;rw[ex]at h1;exact⟨.int k (k.wrap (-i)),by simp[execOp,ho,h1.int,Op.unary,Op.intArith],.d _ _ (.int _ _ (Gp _ _))⟩
theorem AS.neg{rest:List Oper}{T:TypeId}{x:Operand}(ho:o.op=.unOp .neg T x)(jn:o.guard=none)(hd:A6 n o.dst){k:IntKind}{i:Int}(ex:ev tm x=.d (.int k i))
  (h2:AS P n b ops rest (put tm o.dst (.d (.int k (k.wrap (-i))))) S K):AS P n b ops (o::rest) tm S K:=
 AS.step (fun _ hi=>Step.Hd hi hd jn (Zw ho (by rw[ex];trivial) (by rw[ex];rfl))) h2
end
section
variable {P:Program} {n b:Nat} {o:Oper} {tm tm':Tm} {S S0 S0' S':Sg} {v:V} {ops:Array Oper} {K:Tm→Sg→Prop} {Q:Exit→Tm→Sg→Prop}
theorem AJ.perm(rs:List Nat)(hn:rs.Nodup)(hl:rs.length=S.length)(ri:S'.length=S.length)(hm:rs.map (fun r=>S'[r]?)=S.map (fun o=>some (AAj (nameOf rs) o)))(iC:∀i<b,nameOf rs i=i)(is:List Nat)(wF:is.map (nameOf rs)=List.range S.length)(tF:is.all (· <S.length)=true):
  AJ P n b tm S (fun k=>AAO (nameOf rs) (tm k)) S':=fun G w a st hb=>by
 have gz:∀i (h:i<S.length),S'[nameOf rs i]?=some (AAj (nameOf rs) S[i]):=fun i h=>by
  have:=congrArg (·[i]?) hm;simp[h,hl]at this;simpa[nameOf,List.getD,hl,h]using this
 have cx:∀i,i<S.length→nameOf rs i<S.length:=fun i hi=>by rw[←ri];exact AZ (gz i hi)
 have nb:∀i j,i<S.length→j<S.length→nameOf rs i=nameOf rs j→i=j:=fun i j hi hj h=>by
  have h1:nameOf rs i=rs[i]'(by omega):=by simp[nameOf,List.getD,hl,hi]
  have h2:nameOf rs j=rs[j]'(by omega):=by simp[nameOf,List.getD,hl,hj]
  rw[h1,h2]at h;exact F0 hn (by omega) (by omega) h
 have tG:∀r,r<S.length→∃i,i<S.length∧nameOf rs i=r:=fun r hr=>by
  have h1:(is.map (nameOf rs))[r]?=some r:=by rw[wF];simp[hr]
  rw[List.getElem?_map]at h1;obtain⟨i,h2,h3⟩:=Option.map_eq_some_iff.1 h1;exact⟨i,by simpa using List.all_eq_true.1 tF i (List.mem_of_getElem? h2),h3⟩
 let ρ:=nameOf rs;let back (r:Nat):Nat:=if h:∃i,i<S.length∧ρ i=r then h.choose else 0;have kS:∀i,i<S.length→back (ρ i)=i:=fun i hi=>by
  have hex:∃j,j<S.length∧ρ j=ρ i:=⟨i,hi,rfl⟩;have:=hex.choose_spec;simp only[back,hex,dif_pos];exact nb _ _ this.1 hi this.2
 let G':Gh:={I:=G.I,BZ:=fun r=>G.BZ (back r),cap:=fun r=>G.cap (back r),BB:=fun r=>G.BB (back r)};have facts:∀i,i<S.length→lenOf S' (ρ i)=lenOf S i∧AAf S' (ρ i)=AAf S i∧AAN S' (ρ i)=AAN S i:=fun i hi=>FA ρ S[i] (List.getElem?_eq_getElem hi) (gz i hi);have gB:∀i,i<S.length→G'.BZ (ρ i)=G.BZ i∧G'.cap (ρ i)=G.cap i∧G'.BB (ρ i)=G.BB i:=fun i hi=>by simp only[G',kS i hi,and_self]
 have E:QO ρ G S G' S':=⟨fun _=>Iff.rfl,fun i hi=>by rw[ri];exact cx i hi,fun i hi=>(facts i hi).1,fun i hi=>(facts i hi).2.1,fun i hi=>(facts i hi).2.2,fun i hi=>(gB i hi).1.symm,fun i hi=>(gB i hi).2.1.symm,fun i hi=>(gB i hi).2.2.symm⟩;have at':∀r x,S'[r]?=some x→∃i,∃hi:i<S.length,ρ i=r∧x=AAj ρ S[i]:=fun r x hx=>by
  obtain⟨i,hi,rfl⟩:=tG r (by rw[←ri];exact AZ hx);rw[gz i hi]at hx;exact⟨i,hi,rfl,(Option.some.inj hx).symm⟩
 have own:∀k,Eo G' S' k→Eo G S k:=by
  rintro k ⟨r,x,h1,h2,h3⟩;obtain⟨i,hi,rfl,rfl⟩:=at' r x h1;exact⟨i,S[i],List.getElem?_eq_getElem hi,by rw[Bx (ρ:=ρ) (G0:=G) (G:=G') (i:=i) (j:=ρ i) S[i] (gB i hi).2.2.symm]at h2;exact h2,by rw[h3,(gB i hi).1]⟩
 refine⟨G',⟨st.size,fun t=>(st.tm t).Xu E,⟨fun g hg=>st.rel.Es g hg,fun r x hx=>?_,fun r1 r2 x1 x2 h1 h2 o1 o2 heq=>?_,fun x hx=>st.rel.nI x (own x hx),st.rel.G5,fun x hx=>st.rel.FW x (own x hx)⟩⟩,⟨Nat.le_refl _,fun _ h=>h,fun _ _ _=>rfl,fun x hx=>.inl (own x hx),fun x hx=>.inl hx,rfl,rfl⟩,?_⟩
 ·obtain⟨i,hi,rfl,rfl⟩:=at' r x hx;exact(st.rel.CT i S[i] (List.getElem?_eq_getElem hi)).Xu E hi
 ·obtain⟨i,hi,rfl,rfl⟩:=at' r1 x1 h1;obtain⟨j,hj,rfl,rfl⟩:=at' r2 x2 h2;rw[Bx (ρ:=ρ) (G0:=G) (G:=G') (i:=i) (j:=ρ i) S[i] (gB i hi).2.2.symm]at o1;rw[Bx (ρ:=ρ) (G0:=G) (G:=G') (i:=j) (j:=ρ j) S[j] (gB j hj).2.2.symm]at o2;rw[(gB i hi).1,(gB j hj).1]at heq;rw[st.rel.inj i j _ _ (List.getElem?_eq_getElem hi) (List.getElem?_eq_getElem hj) o1 o2 heq]
 ·refine⟨by rw[ri];exact hb,fun r hr n' iz=>?_,fun r hr iS=>?_⟩
  ·have jf:r<S.length:=by omega
   have e:=iC r hr;have h1:=facts r jf;have h2:=gB r jf;rw[show ρ r=r from e]at h1 h2;refine⟨n',by rw[←h1.1];exact iz,Nat.le_refl _,fun _=>⟨h2.1,h2.2.1,h2.2.2,.inl h1.2.1⟩⟩
  ·have jf:r<S.length:=by omega
   have e:=iC r hr;have h1:=facts r jf;have h2:=gB r jf;rw[show ρ r=r from e]at h1 h2;exact⟨by rw[←h1.2.2];exact iS,h2.1⟩
theorem AW.regionF{id:Nat}(hm:P.follows .mixedOrders=true)(h:∀K:Tm→Sg→Prop,(∀tm S,Q .normal tm S→K tm S)→Ad P n b ops K [] ops.size (Array.replicate ops.size false) tm S):AW P n b (.region id ops true) Q tm S:=fun G w a st hb=>by
 refine wp_region_any hm ?_;obtain⟨r1,r2,r3⟩:=st.rel.drawn (w':={w with drawn:=w.drawn+1}) rfl rfl rfl;refine Hz _ _ _ _ (h (Q .normal) fun _ _ h=>h) G {w with drawn:=w.drawn+1} a ⟨st.size,st.tm.later r3,r1⟩ hb fun a' w' hh=>?_;obtain⟨G',S',tm',hc,hK⟩:=hh;exact⟨G',S',tm',⟨hc.st,hc.ds,r2.trans hc.tr,(r3.late hb).trans hc.late⟩,hK⟩
theorem Ad.quiet{B:List (Nat×(Sg→Prop))}{listed:Array Bool}{fuel i:Nat}(C:Sg→Prop)(hS:C S)(hi:ops[i]?=some o)(hC:∀S',C S'→A7 P n b ops i o tm S' v S')
  (hp:((Region.ready .any ops listed).contains i&&Region.free .any ops listed i)=true) (h:Ad P n b ops K ((i,C)::B) fuel (listed.setIfInBounds i true) (put tm o.dst v) S):Ad P n b ops K B (fuel+1) listed tm S:=by
 simp only[Bool.and_eq_true]at hp;exact Ku hi fuel B listed tm S (Region.free_spec hi hp.2) (by simpa using hp.1) hS hC h
theorem Ad.Yp{B:List (Nat×(Sg→Prop))}{listed:Array Bool}{fuel i:Nat}(C:Sg→Prop)(hS:C S)(hi:ops[i]?=some o)(h1:∀S',C S'→AAw P n ops o tm S'∧Cq P ops o tm S'=v∧oS P o tm S'=S')
  (hp:((Region.ready .any ops listed).contains i&&Region.free .any ops listed i)=true) (h:Ad P n b ops K ((i,C)::B) fuel (listed.setIfInBounds i true) (put tm o.dst v) S):Ad P n b ops K B (fuel+1) listed tm S:=
 Ad.quiet C hS hi (fun S' hS=>by
  obtain⟨a1,a2,a3⟩:=h1 S' hS;have:=A7.B5 (b:=b) hi a1;rwa [a2,a3]at this) hp h
theorem Ad.fL{B:List (Nat×(Sg→Prop))}{listed:Array Bool}{fuel:Nat}(i:Nat)(hi:ops[i]?=some o)(iY:((Region.ready .any ops listed).contains i&&Region.free .any ops listed i)=true)(hp:o.guard=none∧(ACa o.op tm).isSome=true∧AAw P n ops o tm S)
  (h:Ad P n b ops K ((i,cOf (ACa o.op tm) S)::B) fuel (listed.setIfInBounds i true) (put tm o.dst (Cq P ops o tm S)) S):Ad P n b ops K B (fuel+1) listed tm S:=by
 obtain⟨hg,hd,lJ⟩:=hp;obtain⟨d,hd⟩:=Option.isSome_iff_exists.1 hd;rw[hd]at h;refine Ad.Yp (cOf (some d) S) (by unfold cOf;split<;>trivial) hi (fun S' hS=>?_) iY h;obtain⟨h1,h2,h3⟩:=QJ (P:=P) hd hS;refine⟨⟨lJ.1,?_⟩,?_,?_⟩
 ·have:=lJ.2;rw[hg]at this⊢;rw[h1];exact this
 ·unfold Cq;rw[hg];exact h2
 ·unfold oS;rw[hg];exact h3
theorem Ad.TZ{B:List (Nat×(Sg→Prop))}{listed:Array Bool}{fuel:Nat}{o1 o2:Oper}(i j:Nat)(ws1 ws2:List Bool)(hr:Region.ready .any ops listed=[i,j])(hi:ops[i]?=some o1)(hj:ops[j]?=some o2)
  (jz:B.map (fun p=>waits ops i p.1)=ws1) (jm:B.map (fun p=>waits ops j p.1)=ws2)
  (h1:AAw P n ops o1 tm S∧okB ws1 B S (oS P o1 tm S)) (h2:AAw P n ops o2 tm S∧okB ws2 B S (oS P o2 tm S))
  (k1:Ad P n b ops K (AA1 ws1 B) fuel (listed.setIfInBounds i true) (put tm o1.dst (Cq P ops o1 tm S)) (oS P o1 tm S))
  (k2:Ad P n b ops K (AA1 ws2 B) fuel (listed.setIfInBounds j true) (put tm o2.dst (Cq P ops o2 tm S)) (oS P o2 tm S)):Ad P n b ops K B (fuel+1) listed tm S:=by
 refine⟨fun h0=>(by rw[hr]at h0;cases h0),fun k hk=>?_⟩;rw[hr]at hk;simp only[List.mem_cons,List.not_mem_nil,or_false]at hk;rcases hk with rfl|rfl
 ·exact⟨o1,_,_,hi,A7.B5 hi h1.1,D7 jz h1.2,by rw[Eh jz];exact k1⟩
 ·exact⟨o2,_,_,hj,A7.B5 hj h2.1,D7 jm h2.2,by rw[Eh jm];exact k2⟩
theorem CV.cr{G:Gh}{w:World}{ds:List D}{x:Value}(h:CV G S w (.d (.agg ds)) x):CV G S w (.agg (ds.map .d)) x:=by
 cases h with
 |d _ _ h=>cases h with
  |agg _ vs hs h ho=>exact .agg _ vs (by simpa using hs) (fun i hi=>by simpa using CV.d _ _ (h i (by simpa using hi))) ho
theorem CV.dC{G:Gh}{w:World}{ds:List D}{x:Value}(h:CV G S w (.d (.Bd ds)) x):CV G S w (.Bd (ds.map .d)) x:=by
 cases h with
 |d _ _ h=>cases h with
  |Bd _ vs hs h=>exact .Bd _ vs (by simpa using hs) fun i hi=>by simpa using CV.d _ _ (h i (by simpa using hi))
theorem CV.U2{G:Gh}{w:World}{xs ys:List V}{x:Value}(h:CV G S w (.Bd xs) x)(hl:xs.length=ys.length)(hi:∀i (h:i<xs.length) (h':i<ys.length) v,CV G S w xs[i] v→CV G S w ys[i] v):CV G S w (.Bd ys) x:=by
 cases h with
 |Bd _ vs hs h=>exact .Bd _ vs (by omega) fun i gj=>hi i (by omega) gj _ (h i (by omega))
theorem AE.conv{f:FuncId}{args:List V}{v':V}(h:AE P f args S v S')(hv:∀G w x,CV G S' w v x→CV G S' w v' x):AE P f args S v' S':=
 ⟨h.1,fun G w cargs R hs ha=>(h.2 G w cargs R hs ha).mono fun _ _ ⟨cv,G',h1,h2,h3⟩=>⟨cv,G',h1,hv _ _ _ h2,h3⟩⟩
theorem Ad.CB{B:List (Nat×(Sg→Prop))}{listed:Array Bool}{fuel:Nat}(i:Nat)(hi:ops[i]?=some o)(iY:((Region.ready .any ops listed).contains i&&Region.free .any ops listed i)=true)(h1:AAw P n ops o tm S∧oS P o tm S=S)
  (h:Ad P n b ops K ((i,AR P n ops o tm (Cq P ops o tm S))::B) fuel (listed.setIfInBounds i true) (put tm o.dst (Cq P ops o tm S)) S):Ad P n b ops K B (fuel+1) listed tm S:=
 Ad.Yp _ ⟨h1.1,rfl,h1.2⟩ hi (fun _ h=>h) iY h
theorem Ad.DE{B:List (Nat×(Sg→Prop))}{listed:Array Bool}{fuel:Nat}{o1:Oper}(i:Nat)(ws1:List Bool)(hr:Region.ready .any ops listed=[i])(hi:ops[i]?=some o1)
  (jz:B.map (fun p=>waits ops i p.1)=ws1) (h1:AAw P n ops o1 tm S∧okB ws1 B S (oS P o1 tm S))
  (k1:Ad P n b ops K (AA1 ws1 B) fuel (listed.setIfInBounds i true) (put tm o1.dst (Cq P ops o1 tm S)) (oS P o1 tm S)):Ad P n b ops K B (fuel+1) listed tm S:=by
 refine⟨fun h0=>(by rw[hr]at h0;cases h0),fun k hk=>?_⟩;rw[hr]at hk;simp only[List.mem_cons,List.not_mem_nil,or_false]at hk;subst hk;exact⟨o1,_,_,hi,A7.B5 hi h1.1,D7 jz h1.2,by rw[Eh jz];exact k1⟩
theorem Ad.done{B:List (Nat×(Sg→Prop))}{listed:Array Bool}(hr:Region.ready .any ops listed=[])(h:K tm S):Ad P n b ops K B 0 listed tm S:=⟨hr,h⟩
theorem AW.Ew{x y:Code}{Q:Exit→Tm→Sg→Prop}{R:Tm→Sg→Prop}(h1:AW P n b x (AAE (fun tm S=>∃tm' S',AJ P n b tm S tm' S'∧R tm' S') Q) tm S)(h2:∀tm S,R tm S→AW P n b y Q tm S):AW P n b (.seq x y) Q tm S:=
 AW.El h1 fun _ _ ⟨_,_,g,h⟩=>AW.ghost g (h2 _ _ h)
theorem A7.KF{i:Nat}{c:Call}{f:FuncId}{args:List V}{j:Nat}{want:Bool}(hi:ops[i]?=some o)(ho:o.op=.call c)(hg:o.guard=some (j,want))(hd:A6 n o.dst)
  (hv:AAd ops tm j want=some true) (hc:callee tm c=some (f,args)) (hn:A5 tm c) (h:AE P f args S v S'):A7 P n b ops i o tm S v S':=fun tm' he=>by
 obtain⟨h1,h2⟩:=E5 ho he;exact Step.FB hi hd hg (by rw[guard_congr hg he];exact hv) (E2 ho (by rw[h1];exact hc) (by rw[h2];exact hn) h)
theorem Oi{B:List (Nat×(Sg→Prop))}{i:Nat}{q:Bool}{rest:List (Nat×Bool×Oper)}{j:Nat}{want:Bool}(hq:q=true)(hg:o.guard=some (j,want))(hp:A6 n o.dst∧AAd ops tm j want=some false)
  (h2:Ae P n b ops ((i,fun _=>True)::B) rest (put tm o.dst (.opt false (.d (.bool false)))) S K):Ae P n b ops B ((i,q,o)::rest) tm S K:=by
 subst hq;exact Ae.quiet (fun _=>True) trivial (fun hi S' _=>fun tm' he=>Step.ET (v:=.d (.bool false)) hi hp.1 hg (by rw[guard_congr hg he];exact hp.2) fun e=>by cases e) h2
theorem Ae.dU{B:List (Nat×(Sg→Prop))}{i:Nat}{rest:List (Nat×Bool×Oper)}{j:Nat}{want:Bool}(ws:List Bool)(j5:B.map (fun p=>waits ops i p.1)=ws)(hg:o.guard=some (j,want))(hp:A6 n o.dst∧AAd ops tm j want=some false)
  (h2:Ae P n b ops (AA1 ws B) rest (put tm o.dst (.opt false (.d (.bool false)))) S K):Ae P n b ops B ((i,false,o)::rest) tm S K:=
 Ae.Z5 ws j5 (fun hi=>fun tm' he=>Step.ET (v:=.d (.bool false)) hi hp.1 hg (by rw[guard_congr hg he];exact hp.2) fun e=>by cases e)
  (by clear j5 h2;induction ws generalizing B with
   |nil=>cases B<;>trivial
   |cons w ws ih=>cases B with
    |nil=>trivial
    |cons p B=>exact⟨fun _ h=>h,ih⟩) h2
theorem Ae.Qp{B:List (Nat×(Sg→Prop))}{i:Nat}{rest:List (Nat×Bool×Oper)}{c:Call}{f:FuncId}{args0:List V}{j:Nat}{want:Bool}(h:AE P f args0 S0 v S0')(rs:List Nat)(ho:o.op=.call c)(hg:o.guard=some (j,want))
  (hp:AAd ops tm j want=some true∧A6 n o.dst∧A5 tm c∧AAb tm c f args0 rs∧DZ S S0 rs∧rs.length≤S0'.length∧args0.all (AAB rs.length)=true∧CF S S0' rs=S)
  (h2:Ae P n b ops ((i,fun S'=>S'=S)::B) rest (put tm o.dst (AAO (CN (nameOf rs) rs.length S.length) v)) S K):Ae P n b ops B ((i,true,o)::rest) tm S K:=by
 obtain⟨h3,h4,h5,h6,h7,h8,h9,kT⟩:=hp;unfold AAb at h6;split at h6
 ·rename_i f' args hc;obtain⟨rfl,rfl⟩:=h6;refine Ae.quiet (fun S'=>S'=S) rfl (fun hi S' hS'=>?_) h2;subst hS';have:=h.Bq rs h7 h8 h9;rw[kT]at this;exact A7.KF hi ho hg h4 h3 hc h5 this
 ·exact h6.elim
theorem Ae.bA{B:List (Nat×(Sg→Prop))}{i:Nat}{rest:List (Nat×Bool×Oper)}{c:Call}{f:FuncId}{args0:List V}{j:Nat}{want:Bool}(ws:List Bool)(h:AE P f args0 S0 v S0')(rs:List Nat)(j5:B.map (fun p=>waits ops i p.1)=ws)(ho:o.op=.call c)(hg:o.guard=some (j,want))
  (hp:AAd ops tm j want=some true∧A6 n o.dst∧A5 tm c∧AAb tm c f args0 rs∧DZ S S0 rs∧rs.length≤S0'.length∧args0.all (AAB rs.length)=true∧okB ws B S (CF S S0' rs))
  (h2:Ae P n b ops (AA1 ws B) rest (put tm o.dst (AAO (CN (nameOf rs) rs.length S.length) v)) (CF S S0' rs) K):Ae P n b ops B ((i,false,o)::rest) tm S K:=by
 obtain⟨h3,h4,h5,h6,h7,h8,h9,kT⟩:=hp;unfold AAb at h6;split at h6
 ·rename_i f' args hc;obtain⟨rfl,rfl⟩:=h6;exact Ae.Z5 ws j5 (fun hi=>A7.KF hi ho hg h4 h3 hc h5 (h.Bq rs h7 h8 h9)) kT h2
 ·exact h6.elim
theorem AS.MS{rest:List Oper}{c:Call}{f:FuncId}{args0:List V}{j:Nat}{want g:Bool}(h:AE P f args0 S0 v S0')(rs:List Nat)(ho:o.op=.call c)(hg:o.guard=some (j,want))(hv:AAd ops tm j want=some g)
  (hd:A6 n o.dst) (hp:g=true→A5 tm c∧AAb tm c f args0 rs) (hm:DZ S S0 rs∧rs.length≤S0'.length∧args0.all (AAB rs.length)=true∧CF S S0' rs=S)
  (h2:AS P n b ops rest (put tm o.dst (FI g (AAO (CN (nameOf rs) rs.length S.length) v))) S K):AS P n b ops (o::rest) tm S K:=by
 obtain⟨h7,h8,h9,kT⟩:=hm;have hf:=h.Bq rs h7 h8 h9;rw[kT]at hf;refine AS.IU (v:=AAO (CN (nameOf rs) rs.length S.length) v) (f:=f) (args:=args0.map (AAO (nameOf rs))) ho hg hd hv (fun e=>?_) h2;obtain⟨h5,h6⟩:=hp e;unfold AAb at h6;split at h6
 ·rename_i f' args hc;obtain⟨rfl,rfl⟩:=h6;exact⟨hc,h5,hf⟩
 ·exact h6.elim
theorem CV.cJ{G:Gh}{w:World}{ds:List D}{x:Value}(h:CV G S w (.agg (ds.map .d)) x):CV G S w (.d (.agg ds)) x:=by
 cases h with
 |agg _ vs hs h ho=>exact .d _ _ (.agg _ vs (by simpa using hs) (fun i hi=>by
   have:=h i (by simpa using hi);rw[List.getElem_map]at this;cases this with
   |d _ _ h=>exact h) ho)
theorem AE.Zo{f:FuncId}{ds:List D}{rest:List V}(h:AE P f (.d (.agg ds)::rest) S v S'):AE P f (.agg (ds.map .d)::rest) S v S':=
 ⟨h.1,fun G w cargs R hs ha=>h.2 G w cargs R (by simpa using hs) fun i hi gj=>by
  cases i with
  |zero=>exact(ha 0 (by simp) gj).cJ
  |succ i=>exact ha (i+1) hi gj⟩
theorem AJ.bI(k:Nat)(d:D)(h:asD S (tm k)=some d):AJ P n b tm S (EJ tm k (.d d)) S:=fun G w a st hb=>
 ⟨G,⟨st.size,fun j=>by
  unfold EJ;split
  ·rename_i e;subst e;exact .d _ _ ((st.tm j).asD st.rel h)
  ·exact st.tm j,st.rel⟩,Tr.refl _ _ _,Dt.refl hb⟩
theorem AE.ghost{f:FuncId}{args:List V}{v':V}{S'':Sg}(h:AE P f args S v S')(g:∀tm:Tm,tm 0=v→∃tm',AJ P 1 S.length tm S' tm' S''∧tm' 0=v'):AE P f args S v' S'':=
 ⟨h.1,fun G w cargs R hs ha=>(h.2 G w cargs R hs ha).mono fun e w' ⟨cv,G',h1,h2,h3,h4,h5⟩=>by
  obtain⟨tm',g1,g2⟩:=g (fun k=>if k=0 then v else .any) rfl;have st:St P 1 G' S' w' {tmps:=#[cv],defers:=[]} (fun k=>if k=0 then v else .any):=⟨rfl,fun k=>by
   by_cases hk:k=0
   ·subst hk;simpa using h2
   ·simp only[hk,if_false];exact .any _,h3⟩
  obtain⟨G2,st2,t2,l2⟩:=g1 G' w' _ st h5.len;exact⟨cv,G2,h1,by have:=st2.tm 0;rw[g2]at this;simpa using this,st2.rel,h4.trans t2,((h5.late (Nat.le_refl _)).trans l2).later R (h4.trans t2)⟩⟩
theorem AE.Xb{f:FuncId}{args:List V}{wr:Bool}{sz:Nat}{xs:List D}(h:AE P f args [] (.row 0 xs.length) [.row wr sz (xs.map .d)]):AE P f args [] (.d (.sl xs)) []:=
 h.ghost fun tm h0=>by
  have g1:AJ P 1 0 tm [.row wr sz (xs.map .d)] tm [.BJ xs]:=AJ.B6 0 (wr:=wr) (sz:=sz) (els:=xs.map .d) rfl (BT _ xs);have g2:AJ P 1 0 tm [.BJ xs] (EJ tm 0 (.d (.sl xs))) [.BJ xs]:=AJ.bI 0 (.sl xs) (by rw[h0];simp[asD,AAn]);refine⟨_,(g1.trans g2).trans (AJ.drop 0 (Nat.le_refl _) (by simp) (by simp)),?_⟩;simp[clean,EJ,AAB]
theorem AJ.A2(r:Nat){wr:Bool}{sz:Nat}{els:List V}{xs:List D}(hr:S[r]?=some (.row wr sz els))(hx:AAi S els=some xs):AJ P n b tm S tm (S.set r (.row wr sz (xs.map .d))):=fun G w a st hb=>by
 have R:=st.rel;have iH:=AZ hr;obtain⟨hl,ia⟩:=J7 hx;have gz:(S.set r (.row wr sz (xs.map .d)))[r]?=some (.row wr sz (xs.map .d)):=by simp[iH]
 have dI:∀r',r'≠r→(S.set r (.row wr sz (xs.map .d)))[r']?=S[r']?:=fun r' h=>by simp[List.getElem?_set_ne (Ne.symm h)]
 have el:∀r',lenOf (S.set r (.row wr sz (xs.map .d))) r'=lenOf S r':=fun r'=>by
  by_cases e:r'=r
  ·subst e;simp[lenOf,gz,hr,hl]
  ·simp only[lenOf,dI r' e]
 have es_:∀r',AAf (S.set r (.row wr sz (xs.map .d))) r'=AAf S r':=fun r'=>by
  by_cases e:r'=r
  ·subst e;simp[AAf,gz,hr]
  ·simp only[AAf,dI r' e]
 have em:∀r',AAN (S.set r (.row wr sz (xs.map .d))) r'=AAN S r':=fun r'=>by
  by_cases e:r'=r
  ·subst e;simp[AAN,gz,hr]
  ·simp only[AAN,dI r' e]
 have L:A9 G S w G (S.set r (.row wr sz (xs.map .d))) w:=
  ⟨fun _ h=>h,fun _ _=>rfl,by simp,fun r' _ n' iz=>⟨n',by rw[←el];exact iz,Nat.le_refl _,fun _=>⟨rfl,rfl,rfl,.inl (es_ r')⟩⟩,fun r' _ hm=>⟨by rw[←em];exact hm,rfl⟩⟩
 have own:∀r' x,(S.set r (.row wr sz (xs.map .d)))[r']?=some x→∃x',S[r']?=some x'∧AAJ G r' x'=AAJ G r' x:=fun r' x hx=>by
  by_cases e:r'=r
  ·subst e;rw[gz]at hx;cases hx;exact⟨_,hr,rfl⟩
  ·rw[dI r' e]at hx;exact⟨x,hx,rfl⟩
 have ownS:∀k,Eo G (S.set r (.row wr sz (xs.map .d))) k→Eo G S k:=by
  rintro k ⟨r',x,h1,h2,h3⟩;obtain⟨x',g1,g2⟩:=own r' x h1;exact⟨r',x',g1,by rw[g2];exact h2,h3⟩
 refine⟨G,⟨st.size,st.tm.later L,⟨R.Es.later L,fun r' x jD=>?_,fun r1 r2 x1 x2 h1 h2 o1 o2 he=>?_,fun k hk=>R.nI k (ownS k hk),R.G5,fun k hk=>R.FW k (ownS k hk)⟩⟩,⟨Nat.le_refl _,fun _ h=>h,fun _ _ _=>rfl,fun k hk=>.inl (ownS k hk),fun k hk=>.inl hk,rfl,rfl⟩,L.late hb⟩
 ·by_cases e:r'=r
  ·subst e;rw[gz]at jD;cases jD;have gw:=R.CT r' _ hr;simp only[OK]at gw⊢;cases hv:G.BB r' with
   |none=>
    simp only[hv]at gw⊢;obtain⟨c,T,g1,g2,g3,g4,g5⟩:=gw;refine⟨c,T,g1,g2,by simpa[hl]using g3,by simpa[hl]using g4,fun i hi=>?_⟩;have gj:i<els.length:=by simpa[hl]using hi
    obtain⟨v,f1,f2,f3,f4⟩:=g5 i gj;exact⟨v,by simpa using CV.d _ _ (f1.asD R (ia i gj (by omega))),f2,f3,f4⟩
   |some a=>
    simp only[hv]at gw⊢;obtain⟨g1,g2,ys,g3,g4⟩:=gw;subst g3;rw[BT]at hx;have qZ:=Option.some.inj hx;rw[qZ]at g2 g4;exact⟨g1,by simpa using g2,xs,rfl,g4⟩
  ·rw[dI r' e]at jD;exact(R.CT r' x jD).later L (fun _=>rfl) rfl rfl rfl
 ·obtain⟨y1,g1,p1⟩:=own r1 x1 h1;obtain⟨y2,g2,p2⟩:=own r2 x2 h2;exact R.inj r1 r2 y1 y2 g1 g2 (by rw[p1];exact o1) (by rw[p2];exact o2) he
theorem AJ.fK(k:Nat){cs cs':List V}(h:tm k=.agg cs)(hl:cs'.length=cs.length)(hw:∀i (h:i<cs.length) (h':i<cs'.length),cs'[i]=cs[i]∨∃d,asD S cs[i]=some d∧cs'[i]=.d d):AJ P n b tm S (EJ tm k (.agg cs')) S:=fun G w a st hb=>
 ⟨G,⟨st.size,fun j=>by
  unfold EJ;split
  ·rename_i e;subst e;have:=st.tm j;rw[h]at this;generalize a.tmps.getD j undef=x at this;cases this with
   |agg _ vs hs hc ho=>
    refine .agg _ vs (by omega) (fun i hi=>?_) ho;rcases hw i (by omega) hi with e|⟨d,e1,e2⟩
    ·rw[e];exact hc i (by omega)
    ·rw[e2];exact .d _ _ ((hc i (by omega)).asD st.rel e1)
  ·exact st.tm j,st.rel⟩,Tr.refl _ _ _,Dt.refl hb⟩
theorem Ae.Gt{B:List (Nat×(Sg→Prop))}{i:Nat}{rest:List (Nat×Bool×Oper)}{c:Call}{f:FuncId}{args:List V}(h:AE P f args S v S)(ho:o.op=.call c)
  (hp:o.guard=none∧A6 n o.dst∧A5 tm c∧callee tm c=some (f,args)) (h2:Ae P n b ops ((i,fun S'=>S'=S)::B) rest (put tm o.dst v) S K):Ae P n b ops B ((i,true,o)::rest) tm S K:=by
 obtain⟨h3,h4,h5,h6⟩:=hp;exact Ae.quiet (fun S'=>S'=S) rfl (fun hi S' hS=>by subst hS;exact A7.call hi ho h3 h4 h6 h5 h) h2
theorem Ae.Gb{B:List (Nat×(Sg→Prop))}{i:Nat}{rest:List (Nat×Bool×Oper)}{c:Call}{f:FuncId}{args:List V}{j:Nat}{want g:Bool}(h:g=true→AE P f args S v S)(ho:o.op=.call c)(hg:o.guard=some (j,want))
  (hv:AAd ops tm j want=some g) (hd:A6 n o.dst) (hp:g=true→callee tm c=some (f,args)∧A5 tm c) (h2:Ae P n b ops ((i,fun S'=>S'=S)::B) rest (put tm o.dst (FI g v)) S K):Ae P n b ops B ((i,true,o)::rest) tm S K:=
 Ae.quiet (fun S'=>S'=S) rfl (fun hi S' hS=>by subst hS;exact A7.IU hi ho hg hd hv fun e=>⟨(hp e).1,(hp e).2,h e⟩) h2
theorem AS.Gb{rest:List Oper}{c:Call}{f:FuncId}{args:List V}{j:Nat}{want g:Bool}(h:g=true→AE P f args S v S)(ho:o.op=.call c)(hg:o.guard=some (j,want))
  (hv:AAd ops tm j want=some g) (hd:A6 n o.dst) (hp:g=true→callee tm c=some (f,args)∧A5 tm c) (h2:AS P n b ops rest (put tm o.dst (FI g v)) S K):AS P n b ops (o::rest) tm S K:=
 AS.IU ho hg hd hv (fun e=>⟨(hp e).1,(hp e).2,h e⟩) h2
end
section
variable {P:Program} {n b:Nat} {o:Oper} {tm tm':Tm} {S S0 S0' S':Sg} {v:V} {ops:Array Oper} {K:Tm→Sg→Prop} {Q:Exit→Tm→Sg→Prop} {B:List (Nat×(Sg→Prop))} {i:Nat} {rest:List Oper} {restA:List (Nat×Bool×Oper)}
def GW(o:Op):Bool:=match o with
 |.call c=>(match c.callee with|.builtin _=>false|_=>true)
 |_=>false
def YR(P:Program)(n b:Nat)(ops:Array Oper)(K:Tm→Sg→Prop):List Oper→Tm→Sg→Prop
 |[],tm,S=>AS P n b ops [] tm S K
 |o::l,tm,S=>match GW o.op with
  |true=>AS P n b ops (o::l) tm S K
  |false=>AAw P n ops o tm S∧YR P n b ops K l (put tm o.dst (Cq P ops o tm S)) (oS P o tm S)
theorem xJ:∀{l:List Oper} {tm:Tm} {S:Sg},YR P n b ops K l tm S→AS P n b ops l tm S K
 |[],_,_,h=>h
 |o::l,_,_,h=>by
  unfold YR at h;cases hs:GW o.op<;>rw[hs]at h
  ·exact B7 h.1 (xJ h.2)
  ·exact h
def Rr(P:Program)(n b:Nat)(ops:Array Oper)(K:Tm→Sg→Prop):List Oper→Tm→Sg→Prop
 |[],tm,S=>AS P n b ops [] tm S K
 |o::l,tm,S=>match o.guard with
  |none=>(match GW o.op with
   |true=>AS P n b ops (o::l) tm S K
   |false=>AAw P n ops o tm S∧Rr P n b ops K l (put tm o.dst (Cq P ops o tm S)) (oS P o tm S))
  |some (j,w)=>(match AAd ops tm j w with
   |some false=>A6 n o.dst∧Rr P n b ops K l (put tm o.dst (.opt false (.d (.bool false)))) S
   |some true=>(match GW o.op with
    |true=>AS P n b ops (o::l) tm S K
    |false=>(A6 n o.dst∧AAS P o.op tm S)∧Rr P n b ops K l (put tm o.dst (BP P o.op tm S)) (CM P o.op tm S))
   |none=>False)
theorem xH:∀{l:List Oper} {tm:Tm} {S:Sg},Rr P n b ops K l tm S→AS P n b ops l tm S K
 |[],_,_,h=>h
 |o::l,tm,_,h=>by
  unfold Rr at h;cases hg:o.guard with
  |none=>
   rw[hg]at h;simp only[]at h;cases hs:GW o.op<;>rw[hs]at h
   ·exact B7 h.1 (xH h.2)
   ·exact h
  |some jw=>
   obtain⟨j,w⟩:=jw;rw[hg]at h;simp only[]at h;split at h
   ·exact Dp hg ⟨h.1,‹_›⟩ (xH h.2)
   ·cases hs:GW o.op<;>rw[hs]at h
    ·exact Jf hg ⟨‹_›,h.1.1,h.1.2⟩ (xH h.2)
    ·exact h
   ·exact h.elim
def Q2(k:Nat)(P:Program)(n b:Nat)(ops:Array Oper)(K:Tm→Sg→Prop):List (Nat×Bool×Oper)→List (Nat×(Sg→Prop))→Tm→Sg→Prop
 |[],B,tm,S=>Ae P n b ops B [] tm S K
 |(i,q,o)::l,B,tm,S=>match q&&!GW o.op with
  |false=>Ae P n b ops B ((i,q,o)::l) tm S K
  |true=>match k with
   |0=>(AAw P n ops o tm S∧oS P o tm S=S)∧Q2 k P n b ops K l ((i,fun S'=>S'=S)::B) (put tm o.dst (Cq P ops o tm S)) S
   |1=>(AAw P n ops o tm S∧oS P o tm S=S)∧Q2 k P n b ops K l ((i,AR P n ops o tm (Cq P ops o tm S))::B) (put tm o.dst (Cq P ops o tm S)) S
   |_=>(o.guard=none∧(ACa o.op tm).isSome=true∧AAw P n ops o tm S)∧Q2 k P n b ops K l ((i,cOf (ACa o.op tm) S)::B) (put tm o.dst (Cq P ops o tm S)) S
theorem xA(k:Nat):∀{l:List (Nat×Bool×Oper)} {B:List (Nat×(Sg→Prop))} {tm:Tm} {S:Sg},Q2 k P n b ops K l B tm S→Ae P n b ops B l tm S K
 |[],_,_,_,h=>h
 |(i,q,o)::l,_,_,_,h=>by
  unfold Q2 at h;split at h
  ·exact h
  ·rename_i hs;simp only[Bool.and_eq_true]at hs;obtain⟨rfl,-⟩:=hs;split at h
   ·exact Ga h.1 (xA _ h.2)
   ·exact xG h.1 (xA _ h.2)
   ·exact Ae.fL h.1 (xA _ h.2)
theorem Ae.Oz{q:Bool}{j:Nat}{want:Bool}(hq:q=true)(hg:o.guard=some (j,want))
  (hp:AAd ops tm j want=some true∧A6 n o.dst∧AAS P o.op tm S∧CM P o.op tm S=S)
  (h2:Ae P n b ops ((i,fun S'=>S'=S)::B) restA (put tm o.dst (BP P o.op tm S)) S K):Ae P n b ops B ((i,q,o)::restA) tm S K:=by
 subst hq;obtain⟨h3,h4,h5,h6⟩:=hp;refine Ae.quiet (fun S'=>S'=S) rfl (fun hi S' hS=>?_) h2;subst hS;intro tm' he;obtain⟨e1,e2,e3⟩:=Hw (P:=P) (S:=S') (op:=o.op) (Fy he);have:=Step.FB (b:=b) hi h4 hg (by rw[guard_congr hg he];exact h3) (IW (P:=P) (n:=n) (o:=o) (tm:=tm') (S:=S') (by rw[e1];exact h5));rw[e2,e3,h6]at this;exact this
def Rd(P:Program)(n b:Nat)(ops:Array Oper)(K:Tm→Sg→Prop):List (Nat×Bool×Oper)→List (Nat×(Sg→Prop))→Tm→Sg→Prop
 |[],B,tm,S=>Ae P n b ops B [] tm S K
 |(i,q,o)::l,B,tm,S=>match q with
  |false=>Ae P n b ops B ((i,q,o)::l) tm S K
  |true=>match o.guard with
   |none=>(match GW o.op with
    |true=>Ae P n b ops B ((i,q,o)::l) tm S K
    |false=>(AAw P n ops o tm S∧oS P o tm S=S)∧Rd P n b ops K l ((i,fun S'=>S'=S)::B) (put tm o.dst (Cq P ops o tm S)) S)
   |some (j,w)=>(match AAd ops tm j w with
    |some false=>A6 n o.dst∧Rd P n b ops K l ((i,fun _=>True)::B) (put tm o.dst (.opt false (.d (.bool false)))) S
    |some true=>(match GW o.op with
     |true=>Ae P n b ops B ((i,q,o)::l) tm S K
     |false=>(A6 n o.dst∧AAS P o.op tm S∧CM P o.op tm S=S)∧Rd P n b ops K l ((i,fun S'=>S'=S)::B) (put tm o.dst (BP P o.op tm S)) S)
    |none=>False)
theorem xZ:∀{l:List (Nat×Bool×Oper)} {B:List (Nat×(Sg→Prop))} {tm:Tm} {S:Sg},Rd P n b ops K l B tm S→Ae P n b ops B l tm S K
 |[],_,_,_,h=>h
 |(i,q,o)::l,_,tm,_,h=>by
  unfold Rd at h;cases q with
  |false=>exact h
  |true=>
   simp only[]at h;cases hg:o.guard with
   |none=>
    rw[hg]at h;simp only[]at h;cases hs:GW o.op<;>rw[hs]at h
    ·exact Ga h.1 (xZ h.2)
    ·exact h
   |some jw=>
    obtain⟨j,w⟩:=jw;rw[hg]at h;simp only[]at h;split at h
    ·exact Oi rfl hg ⟨h.1,‹_›⟩ (xZ h.2)
    ·cases hs:GW o.op<;>rw[hs]at h
     ·exact Ae.Oz rfl hg ⟨‹_›,h.1⟩ (xZ h.2)
     ·exact h
    ·exact h.elim
theorem xO(h:AAw P n ops o tm S∧AS P n b ops rest (put tm o.dst (Cq P ops o tm S)) (oS P o tm S) K):AS P n b ops (o::rest) tm S K:=B7 h.1 h.2
def xU:Nat→List (Nat×(Sg→Prop))→List Bool
 |_,[]=>[]
 |k,_::l=>(k % 2!=0)::xU (k / 2) l
def dK(S S':Sg):Nat→List (Nat×(Sg→Prop))→Prop
 |_,[]=>True
 |k,p::l=>(k % 2=0→p.2 S→p.2 S')∧dK S S' (k / 2) l
def Jd:Nat→List (Nat×(Sg→Prop))→List (Nat×(Sg→Prop))
 |_,[]=>[]
 |k,p::l=>if k % 2=0 then p::Jd (k / 2) l else Jd (k / 2) l
theorem PH:∀{k:Nat} {B:List (Nat×(Sg→Prop))},dK S S' k B→okB (xU k B) B S S'
 |_,[],_=>by simp[xU,okB]
 |k,p::l,h=>⟨fun e=>h.1 (by simpa using e),PH h.2⟩
theorem Ki:∀(k:Nat) (B:List (Nat×(Sg→Prop))),AA1 (xU k B) B=Jd k B
 |_,[]=>by simp[xU,AA1,Jd]
 |k,p::l=>by
  unfold xU AA1 Jd;rw[Ki];by_cases h:k % 2=0
  ·simp[h]
  ·have:k % 2=1:=by omega
   simp[this]
theorem xX(k:Nat)(j5:B.map (fun p=>waits ops i p.1)=xU k B)(h:(AAw P n ops o tm S∧dK S (oS P o tm S) k B)∧Ae P n b ops (Jd k B) restA (put tm o.dst (Cq P ops o tm S)) (oS P o tm S) K):
  Ae P n b ops B ((i,false,o)::restA) tm S K:=eU _ j5 ⟨h.1.1,PH h.1.2⟩ (by rw[Ki];exact h.2)
theorem xI(hw:(B.map (·.1)).all (waits ops i)=true)(h:AAw P n ops o tm S∧Ae P n b ops [] restA (put tm o.dst (Cq P ops o tm S)) (oS P o tm S) K):Ae P n b ops B ((i,false,o)::restA) tm S K:=Ae.gL hw h.1 h.2
theorem xF{c:Call}{f:FuncId}{args0:List V}(h:AE P f args0 S0 v S0')(rs:List Nat)(ho:o.op=.call c)
  (hp:(o.guard=none∧A6 n o.dst∧A5 tm c∧AAb tm c f args0 rs∧DZ S S0 rs∧rs.length≤S0'.length∧args0.all (AAB rs.length)=true)∧AS P n b ops rest (put tm o.dst (AAO (CN (nameOf rs) rs.length S.length) v)) (CF S S0' rs) K):AS P n b ops (o::rest) tm S K:=AS.Ds h rs ho hp.1 hp.2
theorem xY{c:Call}{f:FuncId}{args:List V}(h:AE P f args S0 v S0')(T:Sg)(hS:S=S0++T)(ho:o.op=.call c)
  (hp:(o.guard=none∧A6 n o.dst∧A5 tm c∧AA2 tm c f args∧S0'.length=S0.length∧S0.all (AAG S0.length)=true∧S0'.all (AAG S0.length)=true∧args.all (AAB S0.length)=true∧AAB S0.length v=true)∧AS P n b ops rest (put tm o.dst v) (S0'++T) K):AS P n b ops (o::rest) tm S K:=AS.KF T h hS ho hp.1 hp.2
theorem xL{c:Call}{f:FuncId}{args:List V}(k:Nat)(T:Sg)(h:AE P f args S0 v S0')(j5:B.map (fun p=>waits ops i p.1)=xU k B)(hS:S=S0++T)(ho:o.op=.call c)
  (hp:(o.guard=none∧A6 n o.dst∧A5 tm c∧AA2 tm c f args∧S0'.length=S0.length∧S0.all (AAG S0.length)=true∧S0'.all (AAG S0.length)=true∧args.all (AAB S0.length)=true∧AAB S0.length v=true∧dK S (S0'++T) k B)∧Ae P n b ops (Jd k B) restA (put tm o.dst v) (S0'++T) K):Ae P n b ops B ((i,false,o)::restA) tm S K:=by
 obtain⟨⟨h1,h2,h3,h4,h5,h6,h7,h8,h9,kT⟩,pI⟩:=hp;exact Ae.KF _ T h j5 hS ho ⟨h1,h2,h3,h4,h5,h6,h7,h8,h9,PH kT⟩ (by rw[Ki];exact pI)
end
attribute [simp] GW YR Rr Q2 Rd xU dK Jd
end Go.Koi
