/-
  Part 7 of the proof that the law ChangeLeaves returns true for every input.
-/
import Derived.Test.YtflldgdbdipagaaGreatDoorG05
import Derived.Recover
set_option maxHeartbeats 64000000
set_option maxRecDepth 100000
open List renaming length->Z,getD->lg,findIdx?_eq_none_iff->ae2
open Array renaming replicate->QQ
open Bool renaming true->J,false->am
open Option renaming some->al
open Go renaming FuncId->go,Oper->ej,Program->cP
open Go.IntKind renaming wrap->bv
open Nat renaming eq_of_mul_eq_mul_right->ae1
open Go.Proofs.Tryz renaming prog->a8
namespace Go.Koi
abbrev adw:=@Array.eq_empty_of_size_eq_zero
section
variable {P:cP} {n b:Nat} {o:ej} {tm tm':Tm} {S S0 S0' S':Sg} {v:V} {ops:Array ej} {Q:Exit->Tm->Sg->Prop}
def fz(P:cP)(g:go):Prop:=S5 P g=J/\∀(cap:Array Value) (w:World),CallsD P g cap .returning w λe u h=>(∃v,e=.returned v)/\u=.returning/\h=w
theorem YI{fn:Func}{R:V->Sg->Prop}{G:Gh}{w:World}(N:Rel P G S w){ds:List Deferred}{B:Act}{w':World}{m:Gh}{tm':Tm}(C:Iy P fn.ntmps (Z S) G S w ds B w' m S0 tm')
  (X:SO P fn.ntmps (Z S) fn.results.toList R .ret tm' S0):
  ∃x,(results fn B.tmps).run P w'=.ok x w'/\∃m v S',R v S'/\CV m S' w' v x/\Rel P m S' w'/\Tr G S w m S' w'/\BH G S w m S' w':=by
 obtain⟨H,E,g,h1,v,S',T,Y⟩:=X;obtain⟨u,j,t1,l1⟩:=g m w' B C.st C.late.len;obtain⟨k,U,q,F⟩:=Pf j fn.results.toList h1;have s:∀(k:List Value) (t:List V),Z k=Z t->(∀i (h:i<Z k) (h':i<Z t),CV u E w' t[i] k[i])->CV u E w' (YQ t) (pack k):=λk t q F=>by
  match k,t with
  |[],[]=>exact .CA _ _ rfl (λi h=>by simp at h)
  |[x],[y]=>exact F 0 (by simp) (by simp)
  |x::x'::xs,y::y'::ys=>
   refine .CA _ _ (by simpa using q) (λi h=>?_);have:=F i (by omega) h;simpa using this
  |[],_::_=>simp at q
  |_::_,[]=>simp at q
  |[_],_::_::_=>simp at q
  |_::_::_,[_]=>simp at q
 have z:CV u E w' (Mg P H E fn.results.toList) (pack k):=s k _ q F;have tr:=C.tr.trans t1;have W:=C.late.trans l1;rcases Y with⟨d,tm2,K,rfl,h4⟩|⟨K,rfl⟩
 .obtain⟨G2,L,t2,l2⟩:=h4 u w' B j l1.len;have A:=tr.trans t2;have M:=W.trans l2;exact⟨_,IN U,G2,.d d,S',T,.d _ _ ((z.BC j.rel K).mono t2.I (λ_ _=>rfl)),L.rel,A,M.later N A⟩
 .exact⟨_,IN U,u,v,S',T,K▸z,j.rel,tr,W.later N tr⟩
def eX(P:cP)(n:Nat)(ops:Array ej)(g:go)(tm:Tm)(S:Sg)(tm':Tm):Prop:=
 ∃o1 i t h j,ops=#[o1,i]/\o1.guard=none/\i.guard=none/\EX P n ops o1 tm S/\Dm P ops o1 tm S=.fn (.func g) [] h/\oS P o1 tm S=S/\o1.dst=al t/\t<n/\i.op=.defer ⟨.value (.tmp t),#[],j⟩/\i.dst=none/\tm'=ER tm t (.fn (.func g) [] h)
theorem ZE{g:go}(L:eX P n ops g tm S tm'){id:Nat}{G:Gh}{w:World}{a:Act}{F:Exit->Act->World->Prop}(st:St P n G S w a tm)(hb:b<=Z S)
  (h:∀q s u d cap,St P n u S s q tm'->q.defers=d::a.defers->d.target=.fn (.func g) cap->d.args=#[]->Tr G S w u S s->Fb b G S u S->F .normal q s):(Code.region id ops am).wp P F a w:=by
 obtain⟨o1,z,t,H,M,rfl,g1,N,h1,R,T,U,h5,W,Y,rfl⟩:=L;apply wp_region;have K:=Step.Eh (b:=b) (i:=0) (ops:=#[o1,z]) (o:=o1) (n:=n) (P:=P) (tm:=tm) (S:=S) rfl h1;rw[R,T,U]at K;have hr:List.range (#[o1,z]:Array ej).size=[0,1]:=rfl;rw[hr,ac0];refine K G w a _ _ st hb λA B G1 j=>?_;rw[ac0];unfold wpOp;simp[Region.wanted,N];left;have k:=j.st.tm t;simp only[put,ER,kw]at k;generalize hX:A.tmps.getD t undef=X at k;cases k with
 |fn _ _ _ xs m q1 q2 q3 q4=>
  have C:xs=#[]:=by apply adw;simpa using q1
  subst C;unfold Oper.wp;have zc:(execOp A.eval z).run P B=.ok (.defer {target:=.fn (.func g) m,args:=#[]}) B:=by
   have E:A.eval (.tmp t)=.func (.func g) #[] m:=hX;simp[execOp,W,resolve,E,Deferred.ofValue]
  rw[zc];simp[Oper.upon,Y,Act.put];simp[wpOps];refine h _ B G1 {target:=.fn (.func g) m,args:=#[]} m ⟨j.st.size,j.st.tm,j.st.rel⟩ (by rw[j.ds]) rfl rfl j.tr j.late
theorem BL.oG{f g:go}{fn:Func}{c1 c2 c3:Code}{id:Nat}{H:Array ej}{args:List V}{R:V->Sg->Prop}(hf:P.funcs[f]?=al fn)(zS:(fn.name== "runtime.NumGoroutine")=am)
  (hb:fn.body=al (.seq c1 (.seq c2 (.seq (.region id H am) c3)))) (hn:Z args<=fn.ntmps) (hg:fz P g)
  (h:HC args->Ln S->AW P fn.ntmps (Z S) c1 (C8 (AW P fn.ntmps (Z S) c2 (C8 (λN S2=>∃T,eX P fn.ntmps H g N S2 T/\AW P fn.ntmps (Z S) c3 (SO P fn.ntmps (Z S) fn.results.toList R) T S2) (SO P fn.ntmps (Z S) fn.results.toList R))) (SO P fn.ntmps (Z S) fn.results.toList R)) (Er args) S):BL P f args S R:=by
 refine⟨by simp[S5,hf,zS,hb],λG w j R0 zg zd=>?_⟩;refine calls_of_wp_defers hf hb ?_;have st:St P fn.ntmps G S w {tmps:=j++QQ (fn.ntmps - j.size) undef,defers:=[]} (Er args):=by
  refine⟨by simp;omega,λk=>?_,R0⟩;unfold Er;by_cases hk:k<Z args
  .have e1:args.getD k .any=args[k]:=by simp[lg,hk]
   have e2:(j++QQ (fn.ntmps - j.size) undef).getD k undef=j[k]'(by omega):=by
    rw[wn,ab9 (by omega)];simp[show k<j.size by omega]
   simp only[e1,e2];exact zd k hk (by omega)
  .have e1:args.getD k .any=.any:=by simp[lg,ut (show Z args<=k by omega)]
   rw[e1];exact .any _
 have X:HC args/\Ln S:=⟨ID λi hi=>by
  have:=st.tm i;have e:Er args i=args[i]:=by simp[Er,lg,hi]
  rw[e]at this;exact this.wf,st.rel.wZ⟩
 have h:=h X.1 X.2;have K:∀{C m q S0 tm'},Iy P fn.ntmps (Z S) G S w [] C m q S0 tm'->SO P fn.ntmps (Z S) fn.results.toList R .ret tm' S0->Leaves P fn C.tmps (λe m=>∃cv q v S',R v S'/\e=.returned cv/\CV q S' m v cv/\Rel P q S' m/\Tr G S w q S' m/\BH G S w q S' m) C.defers .returning m:=λ{C m q S0 tm'} Y hq=>by
  obtain⟨x,hx,G2,v,S',hR,k1,k2,k3,k4⟩:=YI R0 Y hq;rw[Y.ds];exact⟨x,hx,x,G2,v,S',hR,rfl,k1,k2,k3,k4⟩
 have L:∀{C m q S0 tm'} {d:Deferred} {cap:Array Value},Iy P fn.ntmps (Z S) G S w [d] C m q S0 tm'->d.target=.fn (.func g) cap->d.args=#[]->SO P fn.ntmps (Z S) fn.results.toList R .ret tm' S0->Leaves P fn C.tmps (λe m=>∃cv q v S',R v S'/\e=.returned cv/\CV q S' m v cv/\Rel P q S' m/\Tr G S w q S' m/\BH G S w q S' m) C.defers .returning m:=λ{C m q S0 tm' d cap} Y E B hq=>by
  obtain⟨x,hx,G2,v,S',hR,k1,k2,k3,k4⟩:=YI R0 Y hq;rw[Y.ds];obtain⟨dt,da⟩:=d;simp only at E B;subst E;subst B;obtain⟨u,hg2⟩:=hg;refine leaves_cons (f:=g) (args:=cap) (by simp) ?_ ((hg2 cap m).mono λe u' w'' hh=>?_)
  .unfold S5 at u;split at u
   .rename_i fn2 hfn2;simp[ne_eq]at u;obtain⟨b2,zB⟩:=ol.1 u.2;simp[invoke,callFunc,hfn2,u.1,zB]
   .cases u
  .obtain⟨⟨v',rfl⟩,rfl,rfl⟩:=hh;exact⟨x,hx,x,G2,v,S',hR,rfl,k1,k2,k3,k4⟩
 refine wp_seq (adU (h G w _ st (ci _)) λex a1 w1 hl=>?_);obtain⟨G1,S1,tm1,W,s⟩:=hl;cases ex with
 |exit=>exact s.elim
 |goto=>exact s.elim
 |panic=>exact s.elim
 |outgrown=>exact s.elim
 |ret=>exact K W s
 |normal=>
  simp[C8]at s;refine wp_seq (adU (s G1 w1 a1 W.st W.late.len) λex a2 w2 hl=>?_);obtain⟨G2,S2,N,U,z⟩:=hl;have t:Iy P fn.ntmps (Z S) G S w [] a2 w2 G2 S2 N:=⟨U.st,U.ds.trans W.ds,W.tr.trans U.tr,W.late.trans U.late⟩;cases ex with
  |exit=>exact z.elim
  |goto=>exact z.elim
  |panic=>exact z.elim
  |outgrown=>exact z.elim
  |ret=>exact K t z
  |normal=>
   obtain⟨T,hdr,haw⟩:=z;refine wp_seq (ZE hdr U.st U.late.len λa3 w3 G3 d cap st3 E B hd3 t3 l3=>?_);refine adU (haw G3 w3 a3 st3 U.late.len) λex a4 w4 hl=>?_;obtain⟨G4,S4,tm4,F,A⟩:=hl;have M:Iy P fn.ntmps (Z S) G S w [d] a4 w4 G4 S4 tm4:=⟨F.st,by rw[F.ds,E,t.ds],(t.tr.trans t3).trans F.tr,(t.late.trans l3).trans F.late⟩;cases ex with
   |exit=>exact A.elim
   |goto=>exact A.elim
   |panic=>exact A.elim
   |outgrown=>exact A.elim
   |ret=>exact L M B hd3 A
   |normal=>exact L M B hd3 A
end
section
variable {P:cP} {n b:Nat} {o:ej} {tm tm':Tm} {S S0 S0' S':Sg} {v:V} {ops:Array ej} {K:Tm->Sg->Prop}
theorem Step.Hc{i j:Nat}{g:Bool}(hi:ops[i]?=al o)(q:A6 n o.dst)(s:o.guard=al (j,g))(t:CN ops tm j g=al J)
  (h:CP P n o tm S v S'):Step P n b ops i tm S (put tm o.dst v) S':=λG w a u Q st hb k=>by
 unfold wpOp;simp[hi,R9 st s t];exact .inl (h G w a u Q st λcv C z h1 A B m=>k _ _ z ⟨st.put q h1 A m,Cv,B,m.late hb⟩)
theorem FD{rest:List ej}{j:Nat}{g:Bool}(i:o.guard=al (j,g))(h:A6 n o.dst/\CN ops tm j g=al am)
  (k:AY P n b ops rest (put tm o.dst (.opt am (.d (.bool am)))) S K):AY P n b ops (o::rest) tm S K:=
 aer (λ_ hi=>Step.GV (v:=.d (.bool am)) hi h.1 i h.2 λe=>by cases e) k
theorem AY.LQ{rest:List ej}{c:Call}{f:go}{g:List V}{j:Nat}{i:Bool}(h:AH P f g S0 v S0')(k:List Nat)(q:o.op=.call c)(s:o.guard=al (j,i))
  (t:CN ops tm j i=al J/\A6 n o.dst/\A9 tm c/\Cm tm c f g k/\FB S S0 k/\Z k<=Z S0'/\g.all (AP (Z k))=J)
  (u:AY P n b ops rest (put tm o.dst (BU (FP (nameOf k) (Z k) (Z S)) v)) (Dd S S0' k) K):AY P n b ops (o::rest) tm S K:=by
 obtain⟨w,z,A,m,B,C,E⟩:=t;unfold Cm at m;split at m
 .rename_i G args F;obtain⟨rfl,rfl⟩:=m;exact aer (λ_ hi=>Step.Hc hi z s w (IQ q F A (h.Ee k B C E))) u
 .exact m.elim
theorem AY.CM{rest:List ej}{c:Call}{f:go}{ds:List D}{d:D}{j:Nat}{g:Bool}(h:Pure P f ds d)(i:o.op=.call c)(k:o.guard=al (j,g))
  (m:CN ops tm j g=al J/\A6 n o.dst/\A9 tm c/\F1 S tm c f ds)
  (q:AY P n b ops rest (put tm o.dst (.d d)) S K):AY P n b ops (o::rest) tm S K:=by
 obtain⟨s,t,u,w⟩:=m;obtain⟨args,z,A⟩:=GG w;exact aer (λ_ hi=>Step.Hc hi t k s (IQ i z u (h.call A))) q
abbrev nc:=@AY.CM
theorem Ov{rest:List ej}{j:Nat}{g:Bool}(i:o.guard=al (j,g))(h:CN ops tm j g=al J/\A6 n o.dst/\BV P o.op tm S)
  (k:AY P n b ops rest (put tm o.dst (BX P o.op tm S)) (C5 P o.op tm S) K):AY P n b ops (o::rest) tm S K:=
 aer (λ_ hi=>Step.Hc hi h.2.1 i h.1 (Mr h.2.2)) k
theorem AW.FA{x y:Code}{Q:Exit->Tm->Sg->Prop}{R:Tm->Sg->Prop}(h1:AW P n b x (C8 R Q) tm S)(h:∀tm S,R tm S->AW P n b y Q tm S):AW P n b (.seq x y) Q tm S:=by
 refine xS (h1.mono λi tm S g=>?_);cases i<;>first|exact g|exact h _ _ g
abbrev nt:=@AW.FA
end
section
variable {P:cP} {n b:Nat} {o:ej} {tm tm':Tm} {S S0 S0' S':Sg} {v:V} {ops:Array ej} {K:Tm->Sg->Prop}
theorem ZZ{T E:TypeId}{g:Nat}{y:Operand}{k:IntKind}{i:Int}(u:o.op=.indexAddr T (.global g) y)(z:(P.globals[g]?).map (·.name)=al "math/bits.deBruijn64tab")(A:Of P T=al (64,E))
  (B:DH P E=al 1) (C:need (ev tm y)) (F:strip (ev tm y)=.d (.int k i)) (h0:0<=i) (h1:i<64):CP P n o tm S (.DW [.int .u8 (B0.getD i.toNat 0)]) S:=.pure λG w a st=>by
 have hi:=B5 st C F;obtain⟨t,H,L⟩:=RZ A;obtain⟨e,f1,f2,_⟩:=CB B;obtain⟨d,M,m⟩:=An H w;have q:d=.array 64 E:=by rw[L]at m;cases d<;>simp[tk]at m⊢;exact m
 subst q;have s:a.eval (.global g)=.pointer (al ⟨g,0,none⟩):=rfl;obtain⟨N,Q⟩:=st.rel.HU g z;have h:i.toNat<Z B0:=by simp[B0];omega
 refine⟨.pointer (al ⟨g,0+i.toNat,none⟩),?_,.DW _ _ _ (λ_=>.int .u8 B0[i.toNat]) N λj hj=>?_⟩
 .simp[execOp,u,s,hi,Instr.indexAt,asIntOf,M,Instr.sureAddr,Gm];rw[b8 ⟨h0,by exact_mod_cast h1⟩];simp[Ba f1,show e.size=1 from f2]
 .have:j=0:=by simp at hj;omega
  subst this;have hb:∀l<64,0<=B0.getD l 0/\B0.getD l 0<64:=by decide
  have hb:=hb i.toNat (by omega);have e:B0.getD i.toNat 0=B0[i.toNat]:=by simp[lg,h]
  rw[e]at hb⊢;refine⟨by simpa using Q i.toNat h,.int _ _ ?_,rfl⟩;simp[IX];omega
theorem AY.sP{rest:List ej}{T E:TypeId}{g:Nat}{y:Operand}(m:o.op=.indexAddr T (.global g) y)(h:o.guard=none)(q:(P.globals[g]?).map (·.name)=al "math/bits.deBruijn64tab")(s:Of P T=al (64,E))
  (t:DH P E=al 1) (u:A6 n o.dst) {k:IntKind} {i:Int} (j:ev tm y=.d (.int k i)) (h0:0<=i) (h1:i<64)
  (w:AY P n b ops rest (put tm o.dst (.DW [.int .u8 (B0.getD i.toNat 0)])) S K):AY P n b ops (o::rest) tm S K:=
 aer (λ_ hi=>aeq hi u h (ZZ m q s t (by rw[j];trivial) (by rw[j];rfl) h0 h1)) w
theorem tE{T:TypeId}{x:Operand}{k:IntKind}{i:Int}(g:o.op=.unOp .neg T x)(h:need (ev tm x))(j:strip (ev tm x)=.d (.int k i)):
  CP P n o tm S (.d (.int k (k.wrap (-i)))) S:=.pure λG w a st=>by
 have h1:=(BY st x).strip h;rw[j]at h1;exact⟨.int k (k.wrap (-i)),by simp[execOp,g,h1.int,Op.unary,Op.intArith],.d _ _ (.int _ _ (Jy _ _))⟩
theorem AY.neg{rest:List ej}{T:TypeId}{x:Operand}(j:o.op=.unOp .neg T x)(g:o.guard=none)(m:A6 n o.dst){k:IntKind}{i:Int}(h:ev tm x=.d (.int k i))
  (q:AY P n b ops rest (put tm o.dst (.d (.int k (k.wrap (-i))))) S K):AY P n b ops (o::rest) tm S K:=
 aer (λ_ hi=>aeq hi m g (tE j (by rw[h];trivial) (by rw[h];rfl))) q
end
abbrev acL:=@List.not_mem_nil
section
variable {P:cP} {n b:Nat} {o:ej} {tm tm':Tm} {S S0 S0' S':Sg} {v:V} {ops:Array ej} {K:Tm->Sg->Prop} {Q:Exit->Tm->Sg->Prop}
theorem AJ.perm(q:List Nat)(hn:q.Nodup)(X:Z q=Z S)(F:Z S'=Z S)(hm:q.map (λr=>S'[r]?)=S.map (λo=>al (DM (nameOf q) o)))(zv:∀i<b,nameOf q i=i)(Y:List Nat)(his:Y.map (nameOf q)=List.range (Z S))(M:Y.all (· <Z S)=J):
  AJ P n b tm S (λk=>BU (nameOf q) (tm k)) S':=λG w a st hb=>by
 have Dj:∀i (h:i<Z S),S'[nameOf q i]?=al (DM (nameOf q) S[i]):=λi h=>by
  have:=mn (·[i]?) hm;simp[h,X]at this;simpa[nameOf,lg,X,h]using this
 have y7:∀i,i<Z S->nameOf q i<Z S:=λi hi=>by rw[<-F];exact Ai (Dj i hi)
 have N:∀i j,i<Z S->j<Z S->nameOf q i=nameOf q j->i=j:=λi j hi hj h=>by
  have h1:nameOf q i=q[i]'(by omega):=by simp[nameOf,lg,X,hi]
  have u:nameOf q j=q[j]'(by omega):=by simp[nameOf,lg,X,hj]
  rw[h1,u]at h;exact Ku hn (by omega) (by omega) h
 have R:∀r,r<Z S->∃i,i<Z S/\nameOf q i=r:=λr T=>by
  have h1:(Y.map (nameOf q))[r]?=al r:=by rw[his];simp[T]
  rw[L1]at h1;obtain⟨i,u,h3⟩:=WP.1 h1;exact⟨i,by simpa using de.1 M i (pu u),h3⟩
 let ρ:=nameOf q;let s (r:Nat):Nat:=if h:∃i,i<Z S/\ρ i=r then h.choose else 0;have L:∀i,i<Z S->s (ρ i)=i:=λi hi=>by
  have U:∃j,j<Z S/\ρ j=ρ i:=⟨i,hi,rfl⟩;have:=U.choose_spec;simp[s,U,adV];exact N _ _ this.1 hi this.2
 let C:Gh:={I:=G.I,Cf:=λr=>G.Cf (s r),cap:=λr=>G.cap (s r),BJ:=λr=>G.BJ (s r)};have m:∀i,i<Z S->lenOf S' (ρ i)=lenOf S i/\C0 S' (ρ i)=C0 S i/\Bn S' (ρ i)=Bn S i:=λi hi=>Ky ρ S[i] (dl hi) (Dj i hi);have A:∀i,i<Z S->C.Cf (ρ i)=G.Cf i/\C.cap (ρ i)=G.cap i/\C.BJ (ρ i)=G.BJ i:=λi hi=>by simp only[C,L i hi,lw]
 have E:cZ ρ G S C S':=⟨λ_=>Iff.rfl,λi hi=>by rw[F];exact y7 i hi,λi hi=>(m i hi).1,λi hi=>(m i hi).2.1,λi hi=>(m i hi).2.2,λi hi=>(A i hi).1.symm,λi hi=>(A i hi).2.1.symm,λi hi=>(A i hi).2.2.symm⟩;have H:∀r x,S'[r]?=al x->∃i,∃hi:i<Z S,ρ i=r/\x=DM ρ S[i]:=λr x z=>by
  obtain⟨i,hi,rfl⟩:=R r (by rw[<-F];exact Ai z);rw[Dj i hi]at z;exact⟨i,hi,rfl,(wa z).symm⟩
 have own:∀k,HG C S' k->HG G S k:=by
  rintro k ⟨r,x,h1,u,h3⟩;obtain⟨i,hi,rfl,rfl⟩:=H r x h1;exact⟨i,S[i],dl hi,by rw[Du (ρ:=ρ) (G0:=G) (G:=C) (i:=i) (j:=ρ i) S[i] (A i hi).2.2.symm]at u;exact u,by rw[h3,(A i hi).1]⟩
 refine⟨C,⟨st.size,λt=>(st.tm t).tB E,⟨λg hg=>st.rel.HU g hg,λr x z=>?_,λr1 r2 x1 x2 h1 u o1 o2 W=>?_,λx z=>st.rel.nI x (own x z),st.rel.Kf,λx z=>st.rel.Ik x (own x z)⟩⟩,⟨ci _,λ_ h=>h,λ_ _ _=>rfl,λx z=>.inl (own x z),λx z=>.inl z,rfl,rfl⟩,?_⟩
 .obtain⟨i,hi,rfl,rfl⟩:=H r x z;exact(st.rel.DX i S[i] (dl hi)).tB E hi
 .obtain⟨i,hi,rfl,rfl⟩:=H r1 x1 h1;obtain⟨j,hj,rfl,rfl⟩:=H r2 x2 u;rw[Du (ρ:=ρ) (G0:=G) (G:=C) (i:=i) (j:=ρ i) S[i] (A i hi).2.2.symm]at o1;rw[Du (ρ:=ρ) (G0:=G) (G:=C) (i:=j) (j:=ρ j) S[j] (A j hj).2.2.symm]at o2;rw[(A i hi).1,(A j hj).1]at W;rw[st.rel.inj i j _ _ (dl hi) (dl hj) o1 o2 W]
 .refine⟨by rw[F];exact hb,λr T n' zK=>?_,λr T hm'=>?_⟩
  .have B:r<Z S:=by omega
   have e:=zv r T;have h1:=m r B;have u:=A r B;rw[show ρ r=r from e]at h1 u;refine⟨n',by rw[<-h1.1];exact zK,ci _,λ_=>⟨u.1,u.2.1,u.2.2,.inl h1.2.1⟩⟩
  .have B:r<Z S:=by omega
   have e:=zv r T;have h1:=m r B;have u:=A r B;rw[show ρ r=r from e]at h1 u;exact⟨by rw[<-h1.2.2];exact hm',u.1⟩
theorem AW.regionF{id:Nat}(j:P.follows .mixedOrders=J)(h:∀K:Tm->Sg->Prop,(∀tm S,Q .normal tm S->K tm S)->Bf P n b ops K [] ops.size (QQ ops.size am) tm S):AW P n b (.region id ops J) Q tm S:=λG w a st hb=>by
 refine wp_region_any j ?_;obtain⟨r1,r2,i⟩:=st.rel.drawn (w':={w with drawn:=w.drawn+1}) rfl rfl rfl;refine Ld _ _ _ _ (h (Q .normal) λ_ _ h=>h) G {w with drawn:=w.drawn+1} a ⟨st.size,st.tm.later i,r1⟩ hb λs w' k=>?_;obtain⟨m,S',tm',g,q⟩:=k;exact⟨m,S',tm',⟨g.st,g.ds,r2.trans g.tr,(i.late hb).trans g.late⟩,q⟩
theorem Bf.quiet{B:List (Nat×(Sg->Prop))}{g:Array Bool}{j i:Nat}(C:Sg->Prop)(hS:C S)(hi:ops[i]?=al o)(m:∀S',C S'->Bw P n b ops i o tm S' v S')
  (k:((Region.ready .any ops g).contains i&&Region.free .any ops g i)=J) (h:Bf P n b ops K ((i,C)::B) j (g.setIfInBounds i J) (put tm o.dst v) S):Bf P n b ops K B (j+1) g tm S:=by
 simp at k;exact PZ hi j B g tm S (Region.free_spec hi k.2) (by simpa using k.1) hS m h
theorem Bf.uW{B:List (Nat×(Sg->Prop))}{g:Array Bool}{j i:Nat}(C:Sg->Prop)(hS:C S)(hi:ops[i]?=al o)(h1:∀S',C S'->EX P n ops o tm S'/\Dm P ops o tm S'=v/\oS P o tm S'=S')
  (k:((Region.ready .any ops g).contains i&&Region.free .any ops g i)=J) (h:Bf P n b ops K ((i,C)::B) j (g.setIfInBounds i J) (put tm o.dst v) S):Bf P n b ops K B (j+1) g tm S:=
 Bf.quiet C hS hi (λS' hS=>by
  obtain⟨m,q,s⟩:=h1 S' hS;have:=Bw.Eh (b:=b) hi m;rwa [q,s]at this) k h
theorem Bf.tw{B:List (Nat×(Sg->Prop))}{g:Array Bool}{j:Nat}(i:Nat)(hi:ops[i]?=al o)(q:((Region.ready .any ops g).contains i&&Region.free .any ops g i)=J)(t:o.guard=none/\(On o.op tm).isSome=J/\EX P n ops o tm S)
  (h:Bf P n b ops K ((i,YK (On o.op tm) S)::B) j (g.setIfInBounds i J) (put tm o.dst (Dm P ops o tm S)) S):Bf P n b ops K B (j+1) g tm S:=by
 obtain⟨s,m,k⟩:=t;obtain⟨d,m⟩:=ol.1 m;rw[m]at h;refine Bf.uW (YK (al d) S) (by unfold YK;split<;>trivial) hi (λS' hS=>?_) q h;obtain⟨h1,u,w⟩:=Xx (P:=P) m hS;refine⟨⟨k.1,?_⟩,?_,?_⟩
 .have:=k.2;rw[s]at this⊢;rw[h1];exact this
 .unfold Dm;rw[s];exact u
 .unfold oS;rw[s];exact w
theorem Bf.jJ{B:List (Nat×(Sg->Prop))}{g:Array Bool}{h:Nat}{o1 o2:ej}(i j:Nat)(m q:List Bool)(t:Region.ready .any ops g=[i,j])(hi:ops[i]?=al o1)(hj:ops[j]?=al o2)
  (u:B.map (λp=>waits ops i p.1)=m) (w:B.map (λp=>waits ops j p.1)=q)
  (h1:EX P n ops o1 tm S/\okB m B S (oS P o1 tm S)) (z:EX P n ops o2 tm S/\okB q B S (oS P o2 tm S))
  (k1:Bf P n b ops K (FK m B) h (g.setIfInBounds i J) (put tm o1.dst (Dm P ops o1 tm S)) (oS P o1 tm S))
  (k2:Bf P n b ops K (FK q B) h (g.setIfInBounds j J) (put tm o2.dst (Dm P ops o2 tm S)) (oS P o2 tm S)):Bf P n b ops K B (h+1) g tm S:=by
 refine⟨λh0=>(by rw[t]at h0;cases h0),λk s=>?_⟩;rw[t]at s;simp[or_false]at s;rcases s with rfl|rfl
 .exact⟨o1,_,_,hi,Bw.Eh hi h1.1,Ff u h1.2,by rw[Ge u];exact k1⟩
 .exact⟨o2,_,_,hj,Bw.Eh hj z.1,Ff w z.2,by rw[Ge w];exact k2⟩
theorem CV.vo{G:Gh}{w:World}{ds:List D}{x:Value}(h:CV G S w (.d (.agg ds)) x):CV G S w (.agg (ds.map .d)) x:=by
 cases h with
 |d _ _ h=>cases h with
  |agg _ g j h k=>exact .agg _ g (by simpa using j) (λi hi=>by simpa using CV.d _ _ (h i (by simpa using hi))) k
theorem CV.vB{G:Gh}{w:World}{ds:List D}{x:Value}(h:CV G S w (.d (.CA ds)) x):CV G S w (.CA (ds.map .d)) x:=by
 cases h with
 |d _ _ h=>cases h with
  |CA _ g j h=>exact .CA _ g (by simpa using j) λi hi=>by simpa using CV.d _ _ (h i (by simpa using hi))
theorem CV.iM{G:Gh}{w:World}{xs g:List V}{x:Value}(h:CV G S w (.CA xs) x)(m:Z xs=Z g)(hi:∀i (h:i<Z xs) (q:i<Z g) v,CV G S w xs[i] v->CV G S w g[i] v):CV G S w (.CA g) x:=by
 cases h with
 |CA _ j s h=>exact .CA _ j (by omega) λi k=>hi i (by omega) k _ (h i (by omega))
theorem AH.conv{f:go}{args:List V}{i:V}(h:AH P f args S v S')(j:∀G w x,CV G S' w v x->CV G S' w i x):AH P f args S i S':=
 ⟨h.1,λG w g R k ha=>(h.2 G w g R k ha).mono λ_ _ ⟨cv,m,h1,q,s⟩=>⟨cv,m,h1,j _ _ _ q,s⟩⟩
theorem Bf.Q5{B:List (Nat×(Sg->Prop))}{g:Array Bool}{j:Nat}(i:Nat)(hi:ops[i]?=al o)(k:((Region.ready .any ops g).contains i&&Region.free .any ops g i)=J)(h1:EX P n ops o tm S/\oS P o tm S=S)
  (h:Bf P n b ops K ((i,Aa P n ops o tm (Dm P ops o tm S))::B) j (g.setIfInBounds i J) (put tm o.dst (Dm P ops o tm S)) S):Bf P n b ops K B (j+1) g tm S:=
 Bf.uW _ ⟨h1.1,rfl,h1.2⟩ hi (λ_ h=>h) k h
abbrev ul:=@Bf.Q5
theorem Bf.K7{B:List (Nat×(Sg->Prop))}{g:Array Bool}{h:Nat}{o1:ej}(i:Nat)(j:List Bool)(q:Region.ready .any ops g=[i])(hi:ops[i]?=al o1)
  (s:B.map (λp=>waits ops i p.1)=j) (h1:EX P n ops o1 tm S/\okB j B S (oS P o1 tm S))
  (k1:Bf P n b ops K (FK j B) h (g.setIfInBounds i J) (put tm o1.dst (Dm P ops o1 tm S)) (oS P o1 tm S)):Bf P n b ops K B (h+1) g tm S:=by
 refine⟨λh0=>(by rw[q]at h0;cases h0),λk m=>?_⟩;rw[q]at m;simp[or_false]at m;subst m;exact⟨o1,_,_,hi,Bw.Eh hi h1.1,Ff s h1.2,by rw[Ge s];exact k1⟩
abbrev Do:=@Bf.K7
theorem Bf.done{B:List (Nat×(Sg->Prop))}{g:Array Bool}(i:Region.ready .any ops g=[])(h:K tm S):Bf P n b ops K B 0 g tm S:=⟨i,h⟩
abbrev aeB:=@Bf.done
theorem AW.I2{x y:Code}{Q:Exit->Tm->Sg->Prop}{R:Tm->Sg->Prop}(h1:AW P n b x (C8 (λtm S=>∃tm' S',AJ P n b tm S tm' S'/\R tm' S') Q) tm S)(i:∀tm S,R tm S->AW P n b y Q tm S):AW P n b (.seq x y) Q tm S:=
 nt h1 λ_ _ ⟨_,_,g,h⟩=>io g (i _ _ h)
abbrev PP:=@AW.I2
theorem Bw.Pw{i:Nat}{c:Call}{f:go}{args:List V}{j:Nat}{g:Bool}(hi:ops[i]?=al o)(k:o.op=.call c)(m:o.guard=al (j,g))(s:A6 n o.dst)
  (t:CN ops tm j g=al J) (u:callee tm c=al (f,args)) (hn:A9 tm c) (h:AH P f args S v S'):Bw P n b ops i o tm S v S':=λtm' q=>by
 obtain⟨h1,w⟩:=HT k q;exact Step.Hc hi s m (by rw[guard_congr m q];exact t) (IQ k (by rw[h1];exact u) (by rw[w];exact hn) h)
theorem P4{B:List (Nat×(Sg->Prop))}{i:Nat}{q:Bool}{rest:List (Nat×Bool×ej)}{j:Nat}{g:Bool}(m:q=J)(h:o.guard=al (j,g))(k:A6 n o.dst/\CN ops tm j g=al am)
  (s:Ad P n b ops ((i,λ_=>True)::B) rest (put tm o.dst (.opt am (.d (.bool am)))) S K):Ad P n b ops B ((i,q,o)::rest) tm S K:=by
 subst m;exact vb (λ_=>True) trivial (λhi S' _=>λtm' t=>Step.GV (v:=.d (.bool am)) hi k.1 h (by rw[guard_congr h t];exact k.2) λe=>by cases e) s
theorem Ad.vx{B:List (Nat×(Sg->Prop))}{i:Nat}{rest:List (Nat×Bool×ej)}{j:Nat}{g:Bool}(ws:List Bool)(k:B.map (λp=>waits ops i p.1)=ws)(m:o.guard=al (j,g))(q:A6 n o.dst/\CN ops tm j g=al am)
  (s:Ad P n b ops (FK ws B) rest (put tm o.dst (.opt am (.d (.bool am)))) S K):Ad P n b ops B ((i,am,o)::rest) tm S K:=
 Ad.tT ws k (λhi=>λtm' t=>Step.GV (v:=.d (.bool am)) hi q.1 m (by rw[guard_congr m t];exact q.2) λe=>by cases e)
  (by clear k s;induction ws generalizing B with
   |nil=>cases B<;>trivial
   |cons w ws u=>cases B with
    |nil=>trivial
    |cons p B=>exact⟨λ_ h=>h,u⟩) s
theorem Ad.Xo{B:List (Nat×(Sg->Prop))}{i:Nat}{rest:List (Nat×Bool×ej)}{c:Call}{f:go}{g:List V}{j:Nat}{k:Bool}(h:AH P f g S0 v S0')(m:List Nat)(u:o.op=.call c)(w:o.guard=al (j,k))
  (z:CN ops tm j k=al J/\A6 n o.dst/\A9 tm c/\Cm tm c f g m/\FB S S0 m/\Z m<=Z S0'/\g.all (AP (Z m))=J/\Dd S S0' m=S)
  (A:Ad P n b ops ((i,λS'=>S'=S)::B) rest (put tm o.dst (BU (FP (nameOf m) (Z m) (Z S)) v)) S K):Ad P n b ops B ((i,J,o)::rest) tm S K:=by
 obtain⟨C,E,F,q,G,H,L,s⟩:=z;unfold Cm at q;split at q
 .rename_i N args M;obtain⟨rfl,rfl⟩:=q;refine vb (λS'=>S'=S) rfl (λhi S' t=>?_) A;subst t;have:=h.Ee m G H L;rw[s]at this;exact Bw.Pw hi u w E C M F this
 .exact q.elim
theorem Ad.sO{B:List (Nat×(Sg->Prop))}{i:Nat}{rest:List (Nat×Bool×ej)}{c:Call}{f:go}{g:List V}{j:Nat}{m:Bool}(ws:List Bool)(h:AH P f g S0 v S0')(k:List Nat)(s:B.map (λp=>waits ops i p.1)=ws)(u:o.op=.call c)(w:o.guard=al (j,m))
  (z:CN ops tm j m=al J/\A6 n o.dst/\A9 tm c/\Cm tm c f g k/\FB S S0 k/\Z k<=Z S0'/\g.all (AP (Z k))=J/\okB ws B S (Dd S S0' k))
  (A:Ad P n b ops (FK ws B) rest (put tm o.dst (BU (FP (nameOf k) (Z k) (Z S)) v)) (Dd S S0' k) K):Ad P n b ops B ((i,am,o)::rest) tm S K:=by
 obtain⟨C,E,F,q,G,H,L,t⟩:=z;unfold Cm at q;split at q
 .rename_i N args M;obtain⟨rfl,rfl⟩:=q;exact Ad.tT ws s (λhi=>Bw.Pw hi u w E C M F (h.Ee k G H L)) t A
 .exact q.elim
theorem AY.SS{rest:List ej}{c:Call}{f:go}{i:List V}{j:Nat}{m g:Bool}(h:AH P f i S0 v S0')(k:List Nat)(u:o.op=.call c)(w:o.guard=al (j,m))(z:CN ops tm j m=al g)
  (A:A6 n o.dst) (B:g=J->A9 tm c/\Cm tm c f i k) (C:FB S S0 k/\Z k<=Z S0'/\i.all (AP (Z k))=J/\Dd S S0' k=S)
  (E:AY P n b ops rest (put tm o.dst (H0 g (BU (FP (nameOf k) (Z k) (Z S)) v))) S K):AY P n b ops (o::rest) tm S K:=by
 obtain⟨F,G,H,s⟩:=C;have t:=h.Ee k F G H;rw[s]at t;refine AY.Mo (v:=BU (FP (nameOf k) (Z k) (Z S)) v) (f:=f) (args:=i.map (BU (nameOf k))) u w A z (λe=>?_) E;obtain⟨L,q⟩:=B e;unfold Cm at q;split at q
 .rename_i N args M;obtain⟨rfl,rfl⟩:=q;exact⟨M,L,t⟩
 .exact q.elim
theorem CV.uy{G:Gh}{w:World}{ds:List D}{x:Value}(h:CV G S w (.agg (ds.map .d)) x):CV G S w (.d (.agg ds)) x:=by
 cases h with
 |agg _ g j h k=>exact .d _ _ (.agg _ g (by simpa using j) (λi hi=>by
   have:=h i (by simpa using hi);rw[rg]at this;cases this with
   |d _ _ h=>exact h) k)
theorem AH.sM{f:go}{ds:List D}{rest:List V}(h:AH P f (.d (.agg ds)::rest) S v S'):AH P f (.agg (ds.map .d)::rest) S v S':=
 ⟨h.1,λG w g R k ha=>h.2 G w g R (by simpa using k) λi hi j=>by
  cases i with
  |zero=>exact(ha 0 (by simp) j).uy
  |succ i=>exact ha (i+1) hi j⟩
theorem AJ.ra(k:Nat)(d:D)(h:BC S (tm k)=al d):AJ P n b tm S (ER tm k (.d d)) S:=λG w a st hb=>
 ⟨G,⟨st.size,λj=>by
  unfold ER;split
  .rename_i e;subst e;exact .d _ _ ((st.tm j).BC st.rel h)
  .exact st.tm j,st.rel⟩,aep _ _ _,aeu hb⟩
theorem AH.ghost{f:go}{args:List V}{q:V}{j:Sg}(h:AH P f args S v S')(g:∀tm:Tm,tm 0=v->∃tm',AJ P 1 (Z S) tm S' tm' j/\tm' 0=q):AH P f args S q j:=
 ⟨h.1,λG w i R B ha=>(h.2 G w i R B ha).mono λe s ⟨cv,t,h1,C,E,u,z⟩=>by
  obtain⟨tm',F,H⟩:=g (λk=>if k=0 then v else .any) rfl;have st:St P 1 t S' s {tmps:=#[cv],defers:=[]} (λk=>if k=0 then v else .any):=⟨rfl,λk=>by
   by_cases A:k=0
   .subst A;simpa using C
   .simp[A];exact .any _,E⟩
  obtain⟨L,m,t2,l2⟩:=F t s _ st z.len;exact⟨cv,L,h1,by have:=m.tm 0;rw[H]at this;simpa using this,m.rel,u.trans t2,((z.late (ci _)).trans l2).later R (u.trans t2)⟩⟩
theorem AH.np{f:go}{args:List V}{wr:Bool}{sz:Nat}{xs:List D}(h:AH P f args [] (.row 0 (Z xs)) [.row wr sz (xs.map .d)]):AH P f args [] (.d (.sl xs)) []:=
 h.ghost λtm h0=>by
  have g:AJ P 1 0 tm [.row wr sz (xs.map .d)] tm [.BQ xs]:=fc 0 (wr:=wr) (sz:=sz) (els:=xs.map .d) rfl (Cr _ xs);have i:AJ P 1 0 tm [.BQ xs] (ER tm 0 (.d (.sl xs))) [.BQ xs]:=AJ.ra 0 (.sl xs) (by rw[h0];simp[BC,CZ]);refine⟨_,(g.trans i).trans (AJ.drop 0 (ci _) (by simp) (by simp)),?_⟩;simp[clean,ER,AP]
theorem AJ.A4(r:Nat){wr:Bool}{sz:Nat}{els:List V}{xs:List D}(z:S[r]?=al (.row wr sz els))(q:DR S els=al xs):AJ P n b tm S tm (S.set r (.row wr sz (xs.map .d))):=λG w a st hb=>by
 have R:=st.rel;have Y:=Ai z;obtain⟨C,zy⟩:=QW q;have Dj:(S.set r (.row wr sz (xs.map .d)))[r]?=al (.row wr sz (xs.map .d)):=by simp[Y]
 have A:∀g,g≠r->(S.set r (.row wr sz (xs.map .d)))[g]?=S[g]?:=λg h=>by simp[sn (ru h)]
 have el:∀g,lenOf (S.set r (.row wr sz (xs.map .d))) g=lenOf S g:=λg=>by
  by_cases e:g=r
  .subst e;simp[lenOf,Dj,z,C]
  .simp[lenOf,A g e]
 have H:∀g,C0 (S.set r (.row wr sz (xs.map .d))) g=C0 S g:=λg=>by
  by_cases e:g=r
  .subst e;simp[C0,Dj,z]
  .simp[C0,A g e]
 have em:∀g,Bn (S.set r (.row wr sz (xs.map .d))) g=Bn S g:=λg=>by
  by_cases e:g=r
  .subst e;simp[Bn,Dj,z]
  .simp[Bn,A g e]
 have L:BH G S w G (S.set r (.row wr sz (xs.map .d))) w:=
  ⟨λ_ h=>h,λ_ _=>rfl,by simp,λg _ n' zK=>⟨n',by rw[<-el];exact zK,ci _,λ_=>⟨rfl,rfl,rfl,.inl (H g)⟩⟩,λg _ hm=>⟨by rw[<-em];exact hm,rfl⟩⟩
 have own:∀g x,(S.set r (.row wr sz (xs.map .d)))[g]?=al x->∃E,S[g]?=al E/\Bb G g E=Bb G g x:=λg x q=>by
  by_cases e:g=r
  .subst e;rw[Dj]at q;cases q;exact⟨_,z,rfl⟩
  .rw[A g e]at q;exact⟨x,q,rfl⟩
 have j:∀k,HG G (S.set r (.row wr sz (xs.map .d))) k->HG G S k:=by
  rintro k ⟨g,x,h1,M,h3⟩;obtain⟨E,t,s⟩:=own g x h1;exact⟨g,E,t,by rw[s];exact M,h3⟩
 refine⟨G,⟨st.size,st.tm.later L,⟨R.HU.later L,λg x m=>?_,λr1 r2 x1 x2 h1 M o1 o2 he=>?_,λk u=>R.nI k (j k u),R.Kf,λk u=>R.Ik k (j k u)⟩⟩,⟨ci _,λ_ h=>h,λ_ _ _=>rfl,λk u=>.inl (j k u),λk u=>.inl u,rfl,rfl⟩,L.late hb⟩
 .by_cases e:g=r
  .subst e;rw[Dj]at m;cases m;have B:=R.DX g _ z;simp only[OK]at B⊢;cases W:G.BJ g with
   |none=>
    simp only[W]at B⊢;obtain⟨c,T,t,s,N,F,g5⟩:=B;refine⟨c,T,t,s,by simpa[C]using N,by simpa[C]using F,λi hi=>?_⟩;have X:i<Z els:=by simpa[C]using hi
    obtain⟨v,f1,f2,f3,f4⟩:=g5 i X;exact⟨v,by simpa using CV.d _ _ (f1.BC R (zy i X (by omega))),f2,f3,f4⟩
   |some a=>
    simp[W]at B⊢;obtain⟨t,s,ys,N,F⟩:=B;subst N;rw[Cr]at q;have U:=wa q;rw[U]at s F;exact⟨t,by simpa using s,xs,rfl,F⟩
  .rw[A g e]at m;exact(R.DX g x m).later L (λ_=>rfl) rfl rfl rfl
 .obtain⟨y1,t,p1⟩:=own r1 x1 h1;obtain⟨y2,s,p2⟩:=own r2 x2 M;exact R.inj r1 r2 y1 y2 t s (by rw[p1];exact o1) (by rw[p2];exact o2) he
abbrev jp:=@AJ.A4
theorem AJ.wg(k:Nat){m g:List V}(h:tm k=.agg m)(B:Z g=Z m)(s:∀i (h:i<Z m) (C:i<Z g),g[i]=m[i]\/∃d,BC S m[i]=al d/\g[i]=.d d):AJ P n b tm S (ER tm k (.agg g)) S:=λG w a st hb=>
 ⟨G,⟨st.size,λj=>by
  unfold ER;split
  .rename_i e;subst e;have:=st.tm j;rw[h]at this;generalize a.tmps.getD j undef=x at this;cases this with
   |agg _ t E q u=>
    refine .agg _ t (by omega) (λi hi=>?_) u;rcases s i (by omega) hi with e|⟨d,z,A⟩
    .rw[e];exact q i (by omega)
    .rw[A];exact .d _ _ ((q i (by omega)).BC st.rel z)
  .exact st.tm j,st.rel⟩,aep _ _ _,aeu hb⟩
theorem Ad.Gz{B:List (Nat×(Sg->Prop))}{i:Nat}{rest:List (Nat×Bool×ej)}{c:Call}{f:go}{args:List V}(h:AH P f args S v S)(g:o.op=.call c)
  (j:o.guard=none/\A6 n o.dst/\A9 tm c/\callee tm c=al (f,args)) (k:Ad P n b ops ((i,λS'=>S'=S)::B) rest (put tm o.dst v) S K):Ad P n b ops B ((i,J,o)::rest) tm S K:=by
 obtain⟨m,q,s,t⟩:=j;exact vb (λS'=>S'=S) rfl (λhi S' hS=>by subst hS;exact Pi hi g m q t s h) k
theorem Ad.JU{B:List (Nat×(Sg->Prop))}{i:Nat}{rest:List (Nat×Bool×ej)}{c:Call}{f:go}{args:List V}{j:Nat}{k g:Bool}(h:g=J->AH P f args S v S)(q:o.op=.call c)(s:o.guard=al (j,k))
  (t:CN ops tm j k=al g) (u:A6 n o.dst) (m:g=J->callee tm c=al (f,args)/\A9 tm c) (w:Ad P n b ops ((i,λS'=>S'=S)::B) rest (put tm o.dst (H0 g v)) S K):Ad P n b ops B ((i,J,o)::rest) tm S K:=
 vb (λS'=>S'=S) rfl (λhi S' hS=>by subst hS;exact Bw.Mo hi q s u t λe=>⟨(m e).1,(m e).2,h e⟩) w
theorem AY.JU{rest:List ej}{c:Call}{f:go}{args:List V}{j:Nat}{i g:Bool}(h:g=J->AH P f args S v S)(m:o.op=.call c)(q:o.guard=al (j,i))
  (s:CN ops tm j i=al g) (t:A6 n o.dst) (k:g=J->callee tm c=al (f,args)/\A9 tm c) (u:AY P n b ops rest (put tm o.dst (H0 g v)) S K):AY P n b ops (o::rest) tm S K:=
 AY.Mo m q t s (λe=>⟨(k e).1,(k e).2,h e⟩) u
end
section
variable {P:cP} {n b:Nat} {o:ej} {tm tm':Tm} {S S0 S0' S':Sg} {v:V} {ops:Array ej} {K:Tm->Sg->Prop} {Q:Exit->Tm->Sg->Prop} {B:List (Nat×(Sg->Prop))} {i:Nat} {rest:List ej} {restA:List (Nat×Bool×ej)}
def Es(o:Op):Bool:=match o with
 |.call c=>(match c.callee with|.builtin _=>am|_=>J)
 |_=>am
def o9(P:cP)(n b:Nat)(ops:Array ej)(K:Tm->Sg->Prop):List ej->Tm->Sg->Prop
 |[],tm,S=>AY P n b ops [] tm S K
 |o::l,tm,S=>match Es o.op with
  |true=>AY P n b ops (o::l) tm S K
  |false=>EX P n ops o tm S/\o9 P n b ops K l (put tm o.dst (Dm P ops o tm S)) (oS P o tm S)
theorem xJ:∀{l:List ej} {tm:Tm} {S:Sg},o9 P n b ops K l tm S->AY P n b ops l tm S K
 |[],_,_,h=>h
 |o::l,_,_,h=>by
  unfold o9 at h;cases g:Es o.op<;>rw[g]at h
  .exact Cg h.1 (xJ h.2)
  .exact h
def Zt(P:cP)(n b:Nat)(ops:Array ej)(K:Tm->Sg->Prop):List ej->Tm->Sg->Prop
 |[],tm,S=>AY P n b ops [] tm S K
 |o::l,tm,S=>match o.guard with
  |none=>(match Es o.op with
   |true=>AY P n b ops (o::l) tm S K
   |false=>EX P n ops o tm S/\Zt P n b ops K l (put tm o.dst (Dm P ops o tm S)) (oS P o tm S))
  |some (j,w)=>(match CN ops tm j w with
   |some am=>A6 n o.dst/\Zt P n b ops K l (put tm o.dst (.opt am (.d (.bool am)))) S
   |some J=>(match Es o.op with
    |true=>AY P n b ops (o::l) tm S K
    |false=>(A6 n o.dst/\BV P o.op tm S)/\Zt P n b ops K l (put tm o.dst (BX P o.op tm S)) (C5 P o.op tm S))
   |none=>False)
theorem xH:∀{l:List ej} {tm:Tm} {S:Sg},Zt P n b ops K l tm S->AY P n b ops l tm S K
 |[],_,_,h=>h
 |o::l,tm,_,h=>by
  unfold Zt at h;cases g:o.guard with
  |none=>
   rw[g]at h;simp only[]at h;cases k:Es o.op<;>rw[k]at h
   .exact Cg h.1 (xH h.2)
   .exact h
  |some m=>
   obtain⟨j,w⟩:=m;rw[g]at h;simp only[]at h;split at h
   .exact FD g ⟨h.1,‹_›⟩ (xH h.2)
   .cases k:Es o.op<;>rw[k]at h
    .exact Ov g ⟨‹_›,h.1.1,h.1.2⟩ (xH h.2)
    .exact h
   .exact h.elim
def ZJ(k:Nat)(P:cP)(n b:Nat)(ops:Array ej)(K:Tm->Sg->Prop):List (Nat×Bool×ej)->List (Nat×(Sg->Prop))->Tm->Sg->Prop
 |[],B,tm,S=>Ad P n b ops B [] tm S K
 |(i,q,o)::l,B,tm,S=>match q&&!Es o.op with
  |false=>Ad P n b ops B ((i,q,o)::l) tm S K
  |true=>match k with
   |0=>(EX P n ops o tm S/\oS P o tm S=S)/\ZJ k P n b ops K l ((i,λS'=>S'=S)::B) (put tm o.dst (Dm P ops o tm S)) S
   |1=>(EX P n ops o tm S/\oS P o tm S=S)/\ZJ k P n b ops K l ((i,Aa P n ops o tm (Dm P ops o tm S))::B) (put tm o.dst (Dm P ops o tm S)) S
   |_=>(o.guard=none/\(On o.op tm).isSome=J/\EX P n ops o tm S)/\ZJ k P n b ops K l ((i,YK (On o.op tm) S)::B) (put tm o.dst (Dm P ops o tm S)) S
theorem xA(k:Nat):∀{l:List (Nat×Bool×ej)} {B:List (Nat×(Sg->Prop))} {tm:Tm} {S:Sg},ZJ k P n b ops K l B tm S->Ad P n b ops B l tm S K
 |[],_,_,_,h=>h
 |(i,q,o)::l,_,_,_,h=>by
  unfold ZJ at h;split at h
  .exact h
  .rename_i g;simp only[b9]at g;obtain⟨rfl,-⟩:=g;split at h
   .exact H3 h.1 (xA _ h.2)
   .exact xG h.1 (xA _ h.2)
   .exact Ad.tw h.1 (xA _ h.2)
theorem Ad.Qr{q:Bool}{j:Nat}{g:Bool}(m:q=J)(h:o.guard=al (j,g))
  (s:CN ops tm j g=al J/\A6 n o.dst/\BV P o.op tm S/\C5 P o.op tm S=S)
  (t:Ad P n b ops ((i,λS'=>S'=S)::B) restA (put tm o.dst (BX P o.op tm S)) S K):Ad P n b ops B ((i,q,o)::restA) tm S K:=by
 subst m;obtain⟨u,w,z,A⟩:=s;refine vb (λS'=>S'=S) rfl (λhi S' hS=>?_) t;subst hS;intro tm' k;obtain⟨C,E,F⟩:=LW (P:=P) (S:=S') (op:=o.op) (Hr k);have:=Step.Hc (b:=b) hi w h (by rw[guard_congr h k];exact u) (Mr (P:=P) (n:=n) (o:=o) (tm:=tm') (S:=S') (by rw[C];exact z));rw[E,F,A]at this;exact this
def Zr(P:cP)(n b:Nat)(ops:Array ej)(K:Tm->Sg->Prop):List (Nat×Bool×ej)->List (Nat×(Sg->Prop))->Tm->Sg->Prop
 |[],B,tm,S=>Ad P n b ops B [] tm S K
 |(i,q,o)::l,B,tm,S=>match q with
  |false=>Ad P n b ops B ((i,q,o)::l) tm S K
  |true=>match o.guard with
   |none=>(match Es o.op with
    |true=>Ad P n b ops B ((i,q,o)::l) tm S K
    |false=>(EX P n ops o tm S/\oS P o tm S=S)/\Zr P n b ops K l ((i,λS'=>S'=S)::B) (put tm o.dst (Dm P ops o tm S)) S)
   |some (j,w)=>(match CN ops tm j w with
    |some am=>A6 n o.dst/\Zr P n b ops K l ((i,λ_=>True)::B) (put tm o.dst (.opt am (.d (.bool am)))) S
    |some J=>(match Es o.op with
     |true=>Ad P n b ops B ((i,q,o)::l) tm S K
     |false=>(A6 n o.dst/\BV P o.op tm S/\C5 P o.op tm S=S)/\Zr P n b ops K l ((i,λS'=>S'=S)::B) (put tm o.dst (BX P o.op tm S)) S)
    |none=>False)
theorem xZ:∀{l:List (Nat×Bool×ej)} {B:List (Nat×(Sg->Prop))} {tm:Tm} {S:Sg},Zr P n b ops K l B tm S->Ad P n b ops B l tm S K
 |[],_,_,_,h=>h
 |(i,q,o)::l,_,tm,_,h=>by
  unfold Zr at h;cases q with
  |false=>exact h
  |true=>
   simp only[]at h;cases g:o.guard with
   |none=>
    rw[g]at h;simp only[]at h;cases k:Es o.op<;>rw[k]at h
    .exact H3 h.1 (xZ h.2)
    .exact h
   |some m=>
    obtain⟨j,w⟩:=m;rw[g]at h;simp only[]at h;split at h
    .exact P4 rfl g ⟨h.1,‹_›⟩ (xZ h.2)
    .cases k:Es o.op<;>rw[k]at h
     .exact Ad.Qr rfl g ⟨‹_›,h.1⟩ (xZ h.2)
     .exact h
    .exact h.elim
theorem xO(h:EX P n ops o tm S/\AY P n b ops rest (put tm o.dst (Dm P ops o tm S)) (oS P o tm S) K):AY P n b ops (o::rest) tm S K:=Cg h.1 h.2
def xU:Nat->List (Nat×(Sg->Prop))->List Bool
 |_,[]=>[]
 |k,_::l=>(k % 2!=0)::xU (k / 2) l
def vU(S S':Sg):Nat->List (Nat×(Sg->Prop))->Prop
 |_,[]=>True
 |k,p::l=>(k % 2=0->p.2 S->p.2 S')/\vU S S' (k / 2) l
def OI:Nat->List (Nat×(Sg->Prop))->List (Nat×(Sg->Prop))
 |_,[]=>[]
 |k,p::l=>if k % 2=0 then p::OI (k / 2) l else OI (k / 2) l
theorem V8:∀{k:Nat} {B:List (Nat×(Sg->Prop))},vU S S' k B->okB (xU k B) B S S'
 |_,[],_=>by simp[xU,okB]
 |k,p::l,h=>⟨λe=>h.1 (by simpa using e),V8 h.2⟩
theorem PK:∀(k:Nat) (B:List (Nat×(Sg->Prop))),FK (xU k B) B=OI k B
 |_,[]=>by simp[xU,FK,OI]
 |k,p::l=>by
  unfold xU FK OI;rw[PK];by_cases h:k % 2=0
  .simp[h]
  .have:k % 2=1:=by omega
   simp[this]
theorem xX(k:Nat)(g:B.map (λp=>waits ops i p.1)=xU k B)(h:(EX P n ops o tm S/\vU S (oS P o tm S) k B)/\Ad P n b ops (OI k B) restA (put tm o.dst (Dm P ops o tm S)) (oS P o tm S) K):
  Ad P n b ops B ((i,am,o)::restA) tm S K:=xp _ g ⟨h.1.1,V8 h.1.2⟩ (by rw[PK];exact h.2)
theorem xF{c:Call}{f:go}{g:List V}(h:AH P f g S0 v S0')(j:List Nat)(m:o.op=.call c)
  (k:(o.guard=none/\A6 n o.dst/\A9 tm c/\Cm tm c f g j/\FB S S0 j/\Z j<=Z S0'/\g.all (AP (Z j))=J)/\AY P n b ops rest (put tm o.dst (BU (FP (nameOf j) (Z j) (Z S)) v)) (Dd S S0' j) K):AY P n b ops (o::rest) tm S K:=AY.Ei h j m k.1 k.2
theorem xY{c:Call}{f:go}{args:List V}(h:AH P f args S0 v S0')(T:Sg)(hS:S=S0++T)(j:o.op=.call c)
  (g:(o.guard=none/\A6 n o.dst/\A9 tm c/\FT tm c f args/\Z S0'=Z S0/\S0.all (Ao (Z S0))=J/\S0'.all (Ao (Z S0))=J/\args.all (AP (Z S0))=J/\AP (Z S0) v=J)/\AY P n b ops rest (put tm o.dst v) (S0'++T) K):AY P n b ops (o::rest) tm S K:=AY.Pw T h hS j g.1 g.2
theorem xL{c:Call}{f:go}{args:List V}(k:Nat)(T:Sg)(h:AH P f args S0 v S0')(g:B.map (λp=>waits ops i p.1)=xU k B)(hS:S=S0++T)(q:o.op=.call c)
  (s:(o.guard=none/\A6 n o.dst/\A9 tm c/\FT tm c f args/\Z S0'=Z S0/\S0.all (Ao (Z S0))=J/\S0'.all (Ao (Z S0))=J/\args.all (AP (Z S0))=J/\AP (Z S0) v=J/\vU S (S0'++T) k B)/\Ad P n b ops (OI k B) restA (put tm o.dst v) (S0'++T) K):Ad P n b ops B ((i,am,o)::restA) tm S K:=by
 obtain⟨⟨h1,t,u,w,z,A,C,E,F,j⟩,m⟩:=s;exact Ad.Pw _ T h g hS q ⟨h1,t,u,w,z,A,C,E,F,V8 j⟩ (by rw[PK];exact m)
end
attribute [simp] Es o9 Zt ZJ Zr xU vU OI
end Go.Koi
open Go.Koi.D renaming int->bi
namespace Go.Koi
def UQ(_:Code)(_:Exit->Tm->Sg->Prop):Type:=Unit
def HW(P:Program)(n b:Nat)(y:Code)(Q:Exit->Tm->Sg->Prop)(_:UQ y Q)(tm:Tm)(S:Sg):Prop:=AW P n b y Q tm S
def UE(_:Exit->Tm->Sg->Prop):Type:=Unit
def HQ(Q:Exit->Tm->Sg->Prop)(_:UE Q)(e:Exit)(tm:Tm)(S:Sg):Prop:=Q e tm S
section
variable {P:Program} {n b:Nat} {o:Oper} {tm tm':Tm} {S S0 S0' S':Sg} {v:V} {ops:Array Oper} {K:Tm->Sg->Prop} {Q:Exit->Tm->Sg->Prop} {B:List (Nat×(Sg->Prop))} {i:Nat} {rest:List Oper} {restA:List (Nat×Bool×Oper)}
theorem yT{id:Nat}(h:AY P n b ops ops.toList tm S (HQ Q () .normal)):AW P n b (.region id ops am) Q tm S:=AW.region h
theorem yS{id:Nat}{y:Code}(h:AY P n b ops ops.toList tm S (HW P n b y Q ())):AW P n b (.seq (.region id ops am) y) Q tm S:=xS (AW.region h)
theorem yV{id:Nat}(h:xR P n ops (HQ Q () .normal) ops.toList tm S):AW P n b (.region id ops am) Q tm S:=yT (US h)
theorem yW{id:Nat}{y:Code}(h:xR P n ops (HW P n b y Q ()) ops.toList tm S):AW P n b (.seq (.region id ops am) y) Q tm S:=yS (US h)
theorem yE{id:Nat}(l:List Nat)(g:(P.follows .mixedOrders&&(Z (xP l)==ops.size&&(En ops (xP l) (Array.replicate ops.size am)&&(xP l).all λp=>decide (p.1<ops.size))))=J)
  (h:Ad P n b ops [] (GA ops (xP l)) tm S (HQ Q () .normal)):AW P n b (.region id ops J) Q tm S:=by
 simp only[b9,acG]at g;exact AW.Xn (xP l) g.1 g.2.1 g.2.2.1 g.2.2.2 h
theorem yD{id:Nat}{y:Code}(l:List Nat)(g:(P.follows .mixedOrders&&(Z (xP l)==ops.size&&(En ops (xP l) (Array.replicate ops.size am)&&(xP l).all λp=>decide (p.1<ops.size))))=J)
  (h:Ad P n b ops [] (GA ops (xP l)) tm S (HW P n b y Q ())):AW P n b (.seq (.region id ops J) y) Q tm S:=xS (yE l g h)
def wQ(P:Program)(n b:Nat)(ops:Array Oper)(K:Tm->Sg->Prop):List Oper->Tm->Sg->Prop
 |[],tm,S=>K tm S
 |o::l,tm,S=>match Es o.op with
  |true=>AY P n b ops (o::l) tm S K
  |false=>EX P n ops o tm S/\wQ P n b ops K l (put tm o.dst (Dm P ops o tm S)) (oS P o tm S)
theorem yJ:∀{l:List Oper} {tm:Tm} {S:Sg},wQ P n b ops K l tm S->AY P n b ops l tm S K
 |[],_,_,h=>CO h
 |o::l,_,_,h=>by
  unfold wQ at h;cases g:Es o.op<;>rw[g]at h
  .exact Cg h.1 (yJ h.2)
  .exact h
def uX(P:Program)(n b:Nat)(ops:Array Oper)(K:Tm->Sg->Prop):List Oper->Tm->Sg->Prop
 |[],tm,S=>K tm S
 |o::l,tm,S=>match o.guard with
  |none=>(match Es o.op with
   |true=>AY P n b ops (o::l) tm S K
   |false=>EX P n ops o tm S/\uX P n b ops K l (put tm o.dst (Dm P ops o tm S)) (oS P o tm S))
  |some (j,w)=>(match CN ops tm j w with
   |some am=>A6 n o.dst/\uX P n b ops K l (put tm o.dst (.opt am (.d (.bool am)))) S
   |some J=>(match Es o.op with
    |true=>AY P n b ops (o::l) tm S K
    |false=>(A6 n o.dst/\BV P o.op tm S)/\uX P n b ops K l (put tm o.dst (BX P o.op tm S)) (C5 P o.op tm S))
   |none=>False)
theorem yH:∀{l:List Oper} {tm:Tm} {S:Sg},uX P n b ops K l tm S->AY P n b ops l tm S K
 |[],_,_,h=>CO h
 |o::l,tm,_,h=>by
  unfold uX at h;cases g:o.guard with
  |none=>
   rw[g]at h;simp only[]at h;cases k:Es o.op<;>rw[k]at h
   .exact Cg h.1 (yH h.2)
   .exact h
  |some m=>
   obtain⟨j,w⟩:=m;rw[g]at h;simp only[]at h;split at h
   .exact FD g ⟨h.1,‹_›⟩ (yH h.2)
   .cases k:Es o.op<;>rw[k]at h
    .exact Ov g ⟨‹_›,h.1.1,h.1.2⟩ (yH h.2)
    .exact h
   .exact h.elim
def uB(k:Nat)(P:Program)(n b:Nat)(ops:Array Oper)(K:Tm->Sg->Prop):List (Nat×Bool×Oper)->List (Nat×(Sg->Prop))->Tm->Sg->Prop
 |[],_,tm,S=>K tm S
 |(i,q,o)::l,B,tm,S=>match q&&!Es o.op with
  |false=>Ad P n b ops B ((i,q,o)::l) tm S K
  |true=>match k with
   |0=>(EX P n ops o tm S/\oS P o tm S=S)/\uB k P n b ops K l ((i,λS'=>S'=S)::B) (put tm o.dst (Dm P ops o tm S)) S
   |1=>(EX P n ops o tm S/\oS P o tm S=S)/\uB k P n b ops K l ((i,Aa P n ops o tm (Dm P ops o tm S))::B) (put tm o.dst (Dm P ops o tm S)) S
   |_=>(o.guard=none/\(On o.op tm).isSome=J/\EX P n ops o tm S)/\uB k P n b ops K l ((i,YK (On o.op tm) S)::B) (put tm o.dst (Dm P ops o tm S)) S
theorem yA(k:Nat):∀{l:List (Nat×Bool×Oper)} {B:List (Nat×(Sg->Prop))} {tm:Tm} {S:Sg},uB k P n b ops K l B tm S->Ad P n b ops B l tm S K
 |[],_,_,_,h=>xM h
 |(i,q,o)::l,_,_,_,h=>by
  unfold uB at h;split at h
  .exact h
  .rename_i g;simp only[b9]at g;obtain⟨rfl,-⟩:=g;split at h
   .exact H3 h.1 (yA _ h.2)
   .exact xG h.1 (yA _ h.2)
   .exact Ad.tw h.1 (yA _ h.2)
def uI(P:Program)(n b:Nat)(ops:Array Oper)(K:Tm->Sg->Prop):List (Nat×Bool×Oper)->List (Nat×(Sg->Prop))->Tm->Sg->Prop
 |[],_,tm,S=>K tm S
 |(i,q,o)::l,B,tm,S=>match q with
  |false=>Ad P n b ops B ((i,q,o)::l) tm S K
  |true=>match o.guard with
   |none=>(match Es o.op with
    |true=>Ad P n b ops B ((i,q,o)::l) tm S K
    |false=>(EX P n ops o tm S/\oS P o tm S=S)/\uI P n b ops K l ((i,λS'=>S'=S)::B) (put tm o.dst (Dm P ops o tm S)) S)
   |some (j,w)=>(match CN ops tm j w with
    |some am=>A6 n o.dst/\uI P n b ops K l ((i,λ_=>True)::B) (put tm o.dst (.opt am (.d (.bool am)))) S
    |some J=>(match Es o.op with
     |true=>Ad P n b ops B ((i,q,o)::l) tm S K
     |false=>(A6 n o.dst/\BV P o.op tm S/\C5 P o.op tm S=S)/\uI P n b ops K l ((i,λS'=>S'=S)::B) (put tm o.dst (BX P o.op tm S)) S)
    |none=>False)
theorem yZ:∀{l:List (Nat×Bool×Oper)} {B:List (Nat×(Sg->Prop))} {tm:Tm} {S:Sg},uI P n b ops K l B tm S->Ad P n b ops B l tm S K
 |[],_,_,_,h=>xM h
 |(i,q,o)::l,_,tm,_,h=>by
  unfold uI at h;cases q with
  |false=>exact h
  |true=>
   simp only[]at h;cases g:o.guard with
   |none=>
    rw[g]at h;simp only[]at h;cases k:Es o.op<;>rw[k]at h
    .exact H3 h.1 (yZ h.2)
    .exact h
   |some m=>
    obtain⟨j,w⟩:=m;rw[g]at h;simp only[]at h;split at h
    .exact P4 rfl g ⟨h.1,‹_›⟩ (yZ h.2)
    .cases k:Es o.op<;>rw[k]at h
     .exact Ad.Qr rfl g ⟨‹_›,h.1⟩ (yZ h.2)
     .exact h
    .exact h.elim
theorem yQ{next:Tm->Sg->Prop}{i j:Nat}{y:Code}{g:Exit->Tm->Sg->Prop}:HQ (C8 (AW P n b y Q) g) () .normal tm S=HW P n b y Q () tm S/\HQ (C8 next Q) () .normal tm S=next tm S/\HQ (Bh i Q) () .normal tm S=HQ Q () .normal tm S/\C8 (AW P n b y Q) g .normal tm S=HW P n b y Q () tm S/\C8 next Q .normal tm S=next tm S/\C8 next Q .ret tm S=Q .ret tm S/\C8 next Q (.exit i) tm S=Q (.exit i) tm S/\Bh i Q .normal tm S=Q .normal tm S/\Bh i Q .ret tm S=Q .ret tm S/\Bh i Q (.exit j) tm S=if j=i then Q .normal tm S else Q (.exit j) tm S:=⟨rfl,rfl,rfl,rfl,rfl,rfl,rfl,rfl,rfl,rfl⟩
def zQ(fn:Func)(n k:Nat):Bool×Bool×Option Code×Nat:=(fn.name== "runtime.NumGoroutine",decide (k<=n),fn.body,fn.ntmps)
theorem Xr{fn:Func}{n k:Nat}{c:Code}(h:zQ fn n k=(am,J,al c,n)):(fn.name== "runtime.NumGoroutine")=am/\k<=n/\fn.body=al c/\fn.ntmps=n:=by
 simp only[zQ,acY,cR]at h;exact h
theorem zP{f:FuncId}{c:Code}{ds:List D}{d:D}{fn:Func}(g:P.funcs[f]?=al fn)(n:Nat)(j:zQ fn n (Z ds)=(am,J,al c,n))(h:Bq ds->AW P n 0 c (nM P n fn.results.toList d) (Er (ds.map .d)) []):Pure P f ds d:=by
 obtain⟨h1,k,m,rfl⟩:=Xr j;exact ip g h1 m k h
theorem zC{f:FuncId}{c:Code}{args:List V}{fn:Func}(g:P.funcs[f]?=al fn)(n:Nat)(j:zQ fn n (Z args)=(am,J,al c,n))(h:HC args->Ln S->AW P n (Z S) c (sr P n (Z S) fn.results.toList v S') (Er args) S):AH P f args S v S':=by
 obtain⟨h1,k,m,rfl⟩:=Xr j;exact j0 g h1 m k h
theorem zD{f:FuncId}{c:Code}{args:List V}{d:D}{fn:Func}(g:P.funcs[f]?=al fn)(n:Nat)(j:zQ fn n (Z args)=(am,J,al c,n))(h:HC args->Ln S->AW P n (Z S) c (oE P n (Z S) fn.results.toList d S') (Er args) S):AH P f args S (.d d) S':=by
 obtain⟨h1,k,m,rfl⟩:=Xr j;exact AH.F8 g h1 m k h
theorem zR{f:FuncId}{c:Code}{args:List V}{R:V->Sg->Prop}{fn:Func}(g:P.funcs[f]?=al fn)(n:Nat)(j:zQ fn n (Z args)=(am,J,al c,n))(h:HC args->Ln S->AW P n (Z S) c (SO P n (Z S) fn.results.toList R) (Er args) S):BL P f args S R:=by
 obtain⟨h1,k,m,rfl⟩:=Xr j;exact Ks g h1 m k h
theorem zT{g:List ResultVar}{d:D}(h:J0 P tm S g/\BC S (Mg P tm S g)=al d):AW P n b .ret (nM P n g d) tm S:=Am ⟨_,_,λG w _ st _=>⟨G,st,aep G S w,aeu (ed _)⟩,h⟩
theorem zL{c:Code}(N:Nat)(Inv:Nat->Tm->Sg->Prop)(h0:Inv 0 tm S)
  (j:∀i tm S,i<=N->Inv i tm S->AW P n b c (C8 (λtm' S'=>i<N/\∃g h,AJ P n b tm' S' g h/\Inv (i+1) g h) Q) tm S):AW P n b (.loop c) Q tm S:=FH N Inv (ed _) h0 j
end
attribute [simp] wQ uX uB uI
structure Al where
 var:Int
 low:Int
 high:Int
 deriving DecidableEq
structure AO where
 nodes:List Al
 root:Int
 deriving DecidableEq
structure Symbol where
 token:Bool
 index:Int
 deriving DecidableEq
structure Fo where
 kind:Int
 a:Int
 b:Int
 deriving DecidableEq
structure A7 where
 kind:Int
 lo:Int
 hi:Int
 a:Int
 b:Int
 deriving DecidableEq
structure Scope where
 opens:Bool
 declares:Int
 kind:Int
 Fk:Int
 allowed:Int
 deriving DecidableEq
structure Token where
 name:ByteArray
 cls:Int
 literal:ByteArray
 pattern:List A7
 Cy:ByteArray
 cond:AO
 deriving DecidableEq
structure AM where
 name:ByteArray
 left:Int
 right:List Symbol
 cond:AO
 bracket:Bool
 EC:Int
 layout:List Fo
 scope:Scope
 deriving DecidableEq
structure Level where
 AE:List Int
 assoc:Int
 cond:AO
 deriving DecidableEq
structure Filter where
 kind:Int
 parent:Int
 at_:Int
 child:Int
 left:Int
 token:Int
 tokens:List Int
 cond:AO
 deriving DecidableEq
structure AD where
 conds:List ByteArray
 fam:AO
 AU:List Token
 Ay:List ByteArray
 AE:List AM
 start:Int
 levels:List Level
 AT:List Filter
 deriving DecidableEq
structure Bo where
 hole:Int
 prod:Int
 token:Int
 text:ByteArray
 deriving DecidableEq
structure Rewrite where
 prod:Int
 at_:Int
 child:Int
 Ah:List Bo
 deriving DecidableEq
structure AR where
 kind:Int
 number:Int
 at_:Int
 to:Int
 name:ByteArray
 value:Bool
 cond:AO
 levels:List Level
 AT:List Filter
 token:Token
 prod:AM
 Ah:List Bo
 deriving DecidableEq
inductive DT where
 |leaf (b:Bool)
 |node (v:Int) (lo hi:DT)
 deriving DecidableEq
namespace DT
def level:DT->Int|leaf _=>64|node v _ _=>v
def size:DT->Nat|leaf _=>0|node _ l h=>l.size+h.size+1
def B9:DT->(Int->Bool)->Bool|leaf b,_=>b|node v l h,c=>if c v then h.B9 c else l.B9 c
def Good:DT->Prop|leaf _=>True|node v l h=>0<=v/\v<=63/\l≠h/\v<l.level/\v<h.level/\l.Good/\h.Good
def lo(v:Int):DT->DT|leaf b=>leaf b|node w l h=>if w=v then l else node w l h
def hi(v:Int):DT->DT|leaf b=>leaf b|node w l h=>if w=v then h else node w l h
def mk(v:Int)(l h:DT):DT:=if l=h then l else node v l h
def ER(c:Int->Bool)(v:Int)(b:Bool):Int->Bool:=λw=>if w=v then b else c w
theorem PL{t:DT}(h:t.Good):t.level<=64:=by
 cases t with
 |leaf=>exact H1 _
 |node v l r=>simp[Good]at h;simp[level];omega
theorem O4{t:DT}(h:t.Good){v:Int}(j:v<t.level)(c:Int->Bool)(b:Bool):t.B9 (ER c v b)=t.B9 c:=by
 induction t with
 |leaf=>rfl
 |node w l r g i=>
  obtain⟨h0,h1,q,s,u,k,m⟩:=h;simp[level]at j;have o:ER c v b w=c w:=by simp[ER];omega
  simp[B9,o];rw[g k (by omega),i m (by omega)]
theorem MB{t:DT}(h:t.Good)(v:Int):(t.lo v).Good:=by
 cases t with
 |leaf=>trivial
 |node w l r=>simp[lo];split;exact h.2.2.2.2.2.1;exact h
theorem Mz{t:DT}(h:t.Good)(v:Int):(t.hi v).Good:=by
 cases t with
 |leaf=>trivial
 |node w l r=>simp[hi];split;exact h.2.2.2.2.2.2;exact h
theorem PC{t:DT}(h:t.Good){v:Int}(g:v<=t.level)(i:v<=63):v<(t.lo v).level:=by
 cases t with
 |leaf=>simp[lo,level];omega
 |node w l r=>
  obtain⟨h0,h1,j,k,m,o,q⟩:=h;simp[level]at g;simp[lo];split
  .omega
  .simp[level];omega
theorem QS{t:DT}(h:t.Good){v:Int}(g:v<=t.level)(i:v<=63):v<(t.hi v).level:=by
 cases t with
 |leaf=>simp[hi,level];omega
 |node w l r=>
  obtain⟨h0,h1,j,k,m,o,q⟩:=h;simp[level]at g;simp[hi];split
  .omega
  .simp[level];omega
theorem Wx{t:DT}(h:t.Good){v:Int}(g:v<=t.level)(c:Int->Bool):(t.lo v).B9 c=t.B9 (ER c v am):=by
 cases t with
 |leaf=>rfl
 |node w l r=>
  have i:=h;obtain⟨h0,h1,m,j,o,k,q⟩:=h;simp[level]at g;simp[lo];split
  .next e=>subst e;simp[B9,ER];exact(O4 k j c am).symm
  .exact(O4 i (by simp[level];omega) c am).symm
theorem XH{t:DT}(h:t.Good){v:Int}(g:v<=t.level)(c:Int->Bool):(t.hi v).B9 c=t.B9 (ER c v J):=by
 cases t with
 |leaf=>rfl
 |node w l r=>
  have i:=h;obtain⟨h0,h1,m,o,j,q,k⟩:=h;simp[level]at g;simp[hi];split
  .next e=>subst e;simp[B9,ER];exact(O4 k j c J).symm
  .exact(O4 i (by simp[level];omega) c J).symm
theorem RK{t:DT}(v:Int)(c:Int->Bool):t.B9 c=if c v then(t.hi v).B9 c else(t.lo v).B9 c:=by
 cases t with
 |leaf=>simp[B9,lo,hi]
 |node w l r=>
  by_cases e:w=v
  .subst e;simp[lo,hi,B9]
  .simp[lo,hi,e]
theorem sg(v:Int)(l h:DT)(c:Int->Bool):(mk v l h).B9 c=if c v then h.B9 c else l.B9 c:=by
 unfold mk;split
 .next e=>subst e;simp
 .rfl
theorem wT{v:Int}{l h:DT}(h0:0<=v)(h1:v<=63)(g:l.Good)(i:h.Good)(j:v<l.level)(k:v<h.level):(mk v l h).Good:=by
 unfold mk;split
 .exact g
 .next e=>exact⟨h0,h1,e,j,k,g,i⟩
theorem jq{v:Int}{l h:DT}(g:v<l.level):v<=(mk v l h).level:=by
 unfold mk;split
 .omega
 .exact H1 _
theorem ND(t:DT)(v:Int):(t.lo v).size<=t.size:=by
 cases t with
 |leaf=>exact ci _
 |node w l r=>simp[lo];split<;>simp[size];omega
theorem MI(t:DT)(v:Int):(t.hi v).size<=t.size:=by
 cases t with
 |leaf=>exact ci _
 |node w l r=>simp[hi];split<;>simp[size];omega
theorem He{t:DT}{v:Int}(h:t.level=v)(g:v≠64):(t.lo v).size<t.size:=by
 cases t with
 |leaf=>exact absurd h.symm g
 |node w l r=>simp[level]at h;simp[lo,h,size];omega
theorem Hp{t:DT}{v:Int}(h:t.level=v)(g:v≠64):(t.hi v).size<t.size:=by
 cases t with
 |leaf=>exact absurd h.symm g
 |node w l r=>simp[level]at h;simp[hi,h,size];omega
theorem Dv{t:DT}(h:t.size=0):∃b,t=leaf b:=by
 cases t with
 |leaf b=>exact⟨b,rfl⟩
 |node=>simp[size]at h
theorem FY{t:DT}(g:t.Good)(h:t.size≠0):0<=t.level/\t.level<=63:=by
 cases t with
 |leaf b=>exact absurd rfl h
 |node v l r=>exact⟨g.1,g.2.1⟩
theorem Sb{t:DT}{v:Int}(h:t.level≠v):t.lo v=t:=by
 cases t with
 |leaf=>rfl
 |node w l r=>simp[level]at h;simp[lo,h]
theorem Ta{t:DT}{v:Int}(h:t.level≠v):t.hi v=t:=by
 cases t with
 |leaf=>rfl
 |node w l r=>simp[level]at h;simp[hi,h]
theorem Ws(n:Nat):∀s t:DT,s.size+t.size<=n->s.Good->t.Good->(∀c,s.B9 c=t.B9 c)->s=t:=by
 induction n with
 |zero=>
  intro s t hn k j h;obtain⟨a,rfl⟩:=Dv (t:=s) (by omega);obtain⟨b,rfl⟩:=Dv (t:=t) (by omega);have:=h λ_=>am;simp[B9]at this;rw[this]
 |succ n F=>
  intro s t hn k j h;by_cases C:s.size=0/\t.size=0
  .obtain⟨a,rfl⟩:=Dv C.1;obtain⟨b,rfl⟩:=Dv C.2;have:=h λ_=>am;simp[B9]at this;rw[this]
  have G:∃v:Int,v=min s.level t.level/\v<=63/\(s.level=v\/t.level=v):=by
   refine⟨_,rfl,?_,by omega⟩;by_cases h1:s.size=0
   .have:=FY j (λe=>C ⟨h1,e⟩);omega
   .have:=FY k h1;omega
  obtain⟨v,G,L,u⟩:=G;have z:v<=s.level:=by omega
  have A:v<=t.level:=by omega
  have g:s.lo v=t.lo v:=by
   refine F _ _ ?_ (MB k v) (MB j v) λc=>by rw[Wx k z,Wx j A,h]
   have:=ND s v;have:=ND t v;rcases u with e|e
   .have:=He e (by omega);omega
   .have:=He e (by omega);omega
  have i:s.hi v=t.hi v:=by
   refine F _ _ ?_ (Mz k v) (Mz j v) λc=>by rw[XH k z,XH j A,h]
   have:=MI s v;have:=MI t v;rcases u with e|e
   .have:=Hp e (by omega);omega
   .have:=Hp e (by omega);omega
  have key:∀x:DT,x.Good->x.level=v->∃l h,x=node v l h/\l≠h/\x.lo v=l/\x.hi v=h:=by
   intro x M e;cases x with
   |leaf=>simp[level]at e;omega
   |node w l r=>simp[level]at e;subst e;exact⟨l,r,rfl,M.2.2.1,by simp[lo],by simp[hi]⟩
  by_cases E:s.level=v
  .obtain⟨l,r,N,m,el,H⟩:=key s k E;by_cases B:t.level=v
   .obtain⟨P,Q,K,_,o,q⟩:=key t j B;rw[N,K,<-el,<-H,<-o,<-q,g,i]
   .rw[Sb B]at g;rw[Ta B]at i;exact absurd (by rw[<-el,<-H,g,i]) m
  .have B:t.level=v:=by omega
   obtain⟨P,Q,K,m,o,q⟩:=key t j B;rw[Sb E]at g;rw[Ta E]at i;exact absurd (by rw[<-o,<-q,<-g,<-i]) m
theorem unique{s t:DT}(g:s.Good)(i:t.Good)(h:∀c,s.B9 c=t.B9 c):s=t:=Ws _ s t (ci _) g i h
end DT
open DT
def BZ(N:List Al):DT->Int->Prop
 |.leaf b,n=>n=if b then 1 else 0
 |.node v s t,n=>∃k:Nat,n=k+2/\∃lo hi,N[k]?=al ⟨v,lo,hi⟩/\BZ N s lo/\BZ N t hi
theorem BZ.uniq{N:List Al}:∀{s t:DT} {n:Int},BZ N s n->BZ N t n->s=t:=by
 intro s;induction s with
 |leaf a=>
  intro t n h1 g;cases t with
  |leaf b=>simp[BZ]at h1 g;cases a<;>cases b<;>simp_all
  |node v l r=>obtain⟨k,m,_⟩:=g;simp[BZ]at h1;split at h1<;>omega
 |node v l r h i=>
  intro t n h1 g;cases t with
  |leaf b=>obtain⟨k,m,_⟩:=h1;simp[BZ]at g;split at g<;>omega
  |node w B C=>
   obtain⟨k,m,lo,hi,e,a,b⟩:=h1;obtain⟨o,q,u,E,j,z,A⟩:=g;obtain rfl:k=o:=by omega
   rw[e]at j;simp[Al.mk.injEq]at j;obtain⟨rfl,rfl,rfl⟩:=j;rw[h a z,i b A]
theorem BZ.inj{N:List Al}(j:N.Nodup):∀{t:DT} {n m:Int},BZ N t n->BZ N t m->n=m:=by
 intro t;induction t with
 |leaf a=>intro n m h1 g;simp[BZ]at h1 g;rw[h1,g]
 |node v l r h i=>
  intro n m h1 g;obtain⟨k,A,lo,hi,e,a,b⟩:=h1;obtain⟨o,q,s,B,u,w,z⟩:=g;obtain rfl:=h a w;obtain rfl:=i b z;obtain⟨C,h1⟩:=er.1 e;obtain⟨E,g⟩:=er.1 u;have:k=o:=(List.getElem_inj j).1 (h1.trans g.symm);omega
theorem BZ.mono{N:List Al}(M:List Al):∀{t:DT} {n:Int},BZ N t n->BZ (N++M) t n:=by
 intro t;induction t with
 |leaf a=>intro n h;exact h
 |node v l r g i=>
  intro n h;obtain⟨k,j,lo,hi,e,a,b⟩:=h;refine⟨k,j,lo,hi,?_,g a,i b⟩;obtain⟨m,h1⟩:=er.1 e;rw[i5 m];exact e
theorem BZ.range{N:List Al}{t:DT}{n:Int}(h:BZ N t n):0<=n/\n<Z N+2:=by
 cases t with
 |leaf b=>simp[BZ]at h;cases b<;>simp at h<;>omega
 |node v l r=>
  obtain⟨k,g,lo,hi,e,a,b⟩:=h;obtain⟨i,h1⟩:=er.1 e;omega
theorem BZ.FW{N:List Al}{t:DT}{n:Int}(h:BZ N t n):n<2↔∃b,t=.leaf b:=by
 cases t with
 |leaf b=>simp[BZ]at h;cases b<;>simp at h<;>simp[h]
 |node v l r=>
  obtain⟨k,g,lo,hi,e,a,b⟩:=h;constructor
  .intro;omega
  .rintro⟨b,hb⟩;exact absurd hb (by simp)
theorem BZ.zero{N:List Al}{t:DT}(h:BZ N t 0):t=.leaf false:=h.uniq (by simp[BZ])
theorem BZ.one{N:List Al}{t:DT}(h:BZ N t 1):t=.leaf true:=h.uniq (by simp[BZ])
structure QZ(N:List Al):Prop where
 nodup:N.Nodup
 all:∀k,k<Z N->∃t,t.Good/\BZ N t (k+2)
theorem QZ.nil:QZ []:=⟨ac4,λ_ h=>absurd h (by simp)⟩
theorem QZ.get{N:List Al}(h:QZ N){n:Int}(h0:0<=n)(h1:n<Z N+2):∃t,t.Good/\BZ N t n:=by
 by_cases g:n=0
 .subst g;exact⟨.leaf am,trivial,by simp[BZ]⟩
 by_cases i:n=1
 .subst i;exact⟨.leaf J,trivial,by simp[BZ]⟩
 have:=h.all (n - 2).toNat (by omega);rwa [show(((n - 2).toNat:Int)+2)=n by omega]at this
theorem QZ.snoc{N:List Al}(h:QZ N){v lo hi:Int}{s t:DT}(h0:0<=v)(h1:v<=63)(q:s.Good)(w:t.Good)(z:v<s.level)(lt:v<t.level)
  (i:BZ N s lo) (j:BZ N t hi) (A:lo≠hi) (g:⟨v,lo,hi⟩∉N):QZ (N++[⟨v,lo,hi⟩])/\BZ (N++[⟨v,lo,hi⟩]) (.node v s t) (Z N+2)/\(DT.node v s t).Good:=by
 have B:s≠t:=λe=>by subst e;exact A (i.inj h.nodup j)
 have m:BZ (N++[⟨v,lo,hi⟩]) (.node v s t) (Z N+2):=⟨Z N,rfl,lo,hi,by simp,i.mono _,j.mono _⟩;have o:(DT.node v s t).Good:=⟨h0,h1,B,z,lt,q,w⟩;refine⟨⟨?_,λk C=>?_⟩,m,o⟩
 .rw[L2];refine⟨h.nodup,by simp,?_⟩;intro a ha b hb e;simp at hb;subst e;subst hb;exact g ha
 .simp at C;by_cases e:k=Z N
  .subst e;exact⟨_,o,m⟩
  .obtain⟨u,E,F⟩:=h.all k (by omega);exact⟨u,E,F.mono _⟩
def emit:DT->List DT->List DT
 |.leaf _,L=>L
 |.node v l h,L=>if DT.node v l h∈L then L else emit h (emit l L)++[.node v l h]
def num(L:List DT):DT->Int
 |.leaf b=>if b then 1 else 0
 |t=>L.idxOf t+2
def dA(L:List DT):DT->Al
 |.leaf _=>⟨0,0,0⟩
 |.node v l h=>⟨v,num L l,num L h⟩
def HN(L:List DT)(t:DT):Prop:=(∃b,t=.leaf b)\/t∈L
def Ie(L:List DT):Prop:=∀v l h,DT.node v l h∈L->HN L l/\HN L h
def tA(L:List DT)(t:DT):AO:=⟨L.map (dA L),num L t⟩
def Ch(t:DT):AO:=tA (emit t []) t
theorem HN.mono{L:List DT}{t:DT}(h:HN L t)(M:List DT):HN (L++M) t:=by
 rcases h with h|h
 .exact .inl h
 .exact .inr (acn _ h)
theorem OR(t:DT):∀L,∃M,emit t L=L++M:=by
 induction t with
 |leaf b=>intro L;exact⟨[],by simp[emit]⟩
 |node v l h g i=>
  intro L;unfold emit;split
  .exact⟨[],by simp⟩
  .obtain⟨j,k⟩:=g L;obtain⟨m,o⟩:=i (emit l L);exact⟨j++m++[.node v l h],by rw[o,k];simp⟩
theorem IS(t:DT)(L:List DT):HN (emit t L) t:=by
 cases t with
 |leaf b=>exact .inl ⟨b,rfl⟩
 |node v l h=>
  unfold emit;split
  .next h=>exact .inr h
  .exact .inr (by simp)
theorem Ny{L:List DT}{s:DT}(t:DT)(h:HN L s):HN (emit t L) s:=by
 obtain⟨M,e⟩:=OR t L;rw[e];exact h.mono M
theorem KD(t:DT):∀L,Ie L->Ie (emit t L):=by
 induction t with
 |leaf b=>intro L h;exact h
 |node v l h i j=>
  intro L k;unfold emit;split
  .exact k
  .have h1:=j _ (i L k);intro w a b g;rcases gc.1 g with g|g
   .have:=h1 w a b g;exact⟨this.1.mono _,this.2.mono _⟩
   .simp[DT.node.injEq]at g;obtain⟨rfl,rfl,rfl⟩:=g;exact⟨(Ny b (IS a L)).mono _,(IS b _).mono _⟩
theorem GL{L:List DT}{t:DT}(h:HN L t)(M:List DT):num (L++M) t=num L t:=by
 cases t with
 |leaf b=>rfl
 |node v l r=>
  rcases h with⟨b,hb⟩|h
  .exact absurd hb (by simp)
  .simp[num];rw[List.idxOf_append,b8 h]
theorem Wn{L:List DT}(g:Ie L){t:DT}(h:t∈L)(M:List DT):dA (L++M) t=dA L t:=by
 cases t with
 |leaf b=>rfl
 |node v l r=>have:=g v l r h;simp only[dA];rw[GL this.1,GL this.2]
theorem Ns{L:List DT}{t:DT}(h:HN L t):0<=num L t/\num L t<Z L+2:=by
 cases t with
 |leaf b=>simp[num];cases b<;>simp<;>omega
 |node v l r=>
  rcases h with⟨b,hb⟩|h
  .exact absurd hb (by simp)
  .have:=acV h;simp[num];omega
theorem Ri{L:List DT}(j:Ie L):∀{t:DT},HN L t->BZ (L.map (dA L)) t (num L t):=by
 intro t;induction t with
 |leaf b=>intro _;simp[BZ,num]
 |node v l r g i=>
  intro h;rcases h with⟨b,hb⟩|h
  .exact absurd hb (by simp)
  .have hi:=acV h;have:=j v l r h;refine⟨L.idxOf (.node v l r),rfl,num L l,num L r,?_,g this.1,i this.2⟩;rw[L1,dl hi,List.getElem_idxOf hi];rfl
theorem Ie.nil:Ie []:=λ_ _ _ h=>absurd h (by simp)
theorem Fw(t:DT):BZ (Ch t).nodes t (Ch t).root:=Ri (KD t [] Ie.nil) (IS t [])
theorem Oy{s t:DT}(h:Ch s=Ch t):s=t:=(Fw s).uniq (h▸Fw t)
theorem Iq(b:Bool):Ch (.leaf b)=⟨[],if b then 1 else 0⟩:=rfl
open Go.Proofs
@[simp] def DB(x:Bool):D:=.bool x
@[simp] def AF(n:Int):D:=.int .i64 n
@[simp] def BG(s:ByteArray):D:=.str s
@[simp] def A2(l:List Int):D:=.sl (l.map AF)
@[simp] def Bv(l:List ByteArray):D:=.sl (l.map BG)
def AZ(x:Al):D:=.agg [AF x.var,AF x.low,AF x.high]
@[simp] theorem Zm(x:Al):Aj (.d (AZ x))=[.d (AF x.var),.d (AF x.low),.d (AF x.high)]:=rfl
@[simp] theorem Zo(x:Al):Ap (.d (AZ x))=true:=rfl
@[simp] theorem iI(x:Al):Bu (.d (AZ x))=false:=rfl
@[simp] theorem Z6(x:Al):BE (AZ x)=[AF x.var,AF x.low,AF x.high]:=rfl
@[simp] theorem jI(x:Al):CR.oneD (AZ x)=true:=rfl
@[simp] theorem oZ(x:Al):Da (AZ x)=Bq [AF x.var,AF x.low,AF x.high]:=rfl
@[simp] theorem fp(x y:Al):CS [bi .i64 x.var,bi .i64 x.low,bi .i64 x.high] [bi .i64 y.var,bi .i64 y.low,bi .i64 y.high]=decide (x=y):=by
 cases x;cases y;rw[gI];simp[CS,DY]
@[simp] theorem ck(S:Sg)(x:Al):Dp S (.d (AZ x))=al [AF x.var,AF x.low,AF x.high]:=rfl
@[simp] def AX(l:List Al):D:=.sl (l.map AZ)
def AB(x:AO):D:=.agg [AX x.nodes,AF x.root]
@[simp] theorem YG(x:AO):Aj (.d (AB x))=[.d (AX x.nodes),.d (AF x.root)]:=rfl
@[simp] theorem Yr(x:AO):Ap (.d (AB x))=true:=rfl
@[simp] theorem dE(x:AO):Bu (.d (AB x))=false:=rfl
@[simp] theorem YM(x:AO):BE (AB x)=[AX x.nodes,AF x.root]:=rfl
@[simp] theorem cu(x:AO):CR.oneD (AB x)=true:=rfl
@[simp] theorem lH(x:AO):Da (AB x)=Bq [AX x.nodes,AF x.root]:=rfl
@[simp] theorem ak(S:Sg)(x:AO):Dp S (.d (AB x))=al [AX x.nodes,AF x.root]:=rfl
def AI(x:Symbol):D:=.agg [DB x.token,AF x.index]
@[simp] theorem Z2(x:Symbol):Aj (.d (AI x))=[.d (DB x.token),.d (AF x.index)]:=rfl
@[simp] theorem aM(x:Symbol):Ap (.d (AI x))=true:=rfl
@[simp] theorem jU(x:Symbol):Bu (.d (AI x))=false:=rfl
@[simp] theorem bL(x:Symbol):BE (AI x)=[DB x.token,AF x.index]:=rfl
@[simp] theorem iC(x:Symbol):CR.oneD (AI x)=true:=rfl
@[simp] theorem m8(x:Symbol):Da (AI x)=Bq [DB x.token,AF x.index]:=rfl
@[simp] theorem ib(x y:Symbol):CS [D.bool x.token,bi .i64 x.index] [D.bool y.token,bi .i64 y.index]=decide (x=y):=by
 cases x;cases y;rw[gI];simp[CS,DY]
@[simp] theorem bz(S:Sg)(x:Symbol):Dp S (.d (AI x))=al [DB x.token,AF x.index]:=rfl
@[simp] def As(l:List Symbol):D:=.sl (l.map AI)
def BF(x:Fo):D:=.agg [AF x.kind,AF x.a,AF x.b]
@[simp] theorem bc(x:Fo):Aj (.d (BF x))=[.d (AF x.kind),.d (AF x.a),.d (AF x.b)]:=rfl
@[simp] theorem aa(x:Fo):Ap (.d (BF x))=true:=rfl
@[simp] theorem kC(x:Fo):Bu (.d (BF x))=false:=rfl
@[simp] theorem ZU(x:Fo):BE (BF x)=[AF x.kind,AF x.a,AF x.b]:=rfl
@[simp] theorem dR(x:Fo):CR.oneD (BF x)=true:=rfl
@[simp] theorem nD(x:Fo):Da (BF x)=Bq [AF x.kind,AF x.a,AF x.b]:=rfl
@[simp] theorem fO(x y:Fo):CS [bi .i64 x.kind,bi .i64 x.a,bi .i64 x.b] [bi .i64 y.kind,bi .i64 y.a,bi .i64 y.b]=decide (x=y):=by
 cases x;cases y;rw[gI];simp[CS,DY]
@[simp] theorem cW(S:Sg)(x:Fo):Dp S (.d (BF x))=al [AF x.kind,AF x.a,AF x.b]:=rfl
@[simp] def CX(l:List Fo):D:=.sl (l.map BF)
def AS(x:A7):D:=.agg [AF x.kind,AF x.lo,AF x.hi,AF x.a,AF x.b]
@[simp] theorem cJ(x:A7):Aj (.d (AS x))=[.d (AF x.kind),.d (AF x.lo),.d (AF x.hi),.d (AF x.a),.d (AF x.b)]:=rfl
@[simp] theorem bq(x:A7):Ap (.d (AS x))=true:=rfl
@[simp] theorem ku(x:A7):Bu (.d (AS x))=false:=rfl
@[simp] theorem cU(x:A7):BE (AS x)=[AF x.kind,AF x.lo,AF x.hi,AF x.a,AF x.b]:=rfl
@[simp] theorem ko(x:A7):CR.oneD (AS x)=true:=rfl
@[simp] theorem pJ(x:A7):Da (AS x)=Bq [AF x.kind,AF x.lo,AF x.hi,AF x.a,AF x.b]:=rfl
@[simp] theorem kj(x y:A7):CS [bi .i64 x.kind,bi .i64 x.lo,bi .i64 x.hi,bi .i64 x.a,bi .i64 x.b] [bi .i64 y.kind,bi .i64 y.lo,bi .i64 y.hi,bi .i64 y.a,bi .i64 y.b]=decide (x=y):=by
 cases x;cases y;rw[gI];simp[CS,DY]
@[simp] theorem dh(S:Sg)(x:A7):Dp S (.d (AS x))=al [AF x.kind,AF x.lo,AF x.hi,AF x.a,AF x.b]:=rfl
@[simp] def Av(l:List A7):D:=.sl (l.map AS)
def Et(x:Scope):D:=.agg [DB x.opens,AF x.declares,AF x.kind,AF x.Fk,AF x.allowed]
@[simp] theorem bo(x:Scope):Aj (.d (Et x))=[.d (DB x.opens),.d (AF x.declares),.d (AF x.kind),.d (AF x.Fk),.d (AF x.allowed)]:=rfl
@[simp] theorem cy(x:Scope):Ap (.d (Et x))=true:=rfl
@[simp] theorem kT(x:Scope):Bu (.d (Et x))=false:=rfl
@[simp] theorem cw(x:Scope):BE (Et x)=[DB x.opens,AF x.declares,AF x.kind,AF x.Fk,AF x.allowed]:=rfl
@[simp] theorem kX(x:Scope):CR.oneD (Et x)=true:=rfl
@[simp] theorem pY(x:Scope):Da (Et x)=Bq [DB x.opens,AF x.declares,AF x.kind,AF x.Fk,AF x.allowed]:=rfl
@[simp] theorem Q0(x y:Scope):CS [D.bool x.opens,bi .i64 x.declares,bi .i64 x.kind,bi .i64 x.Fk,bi .i64 x.allowed] [D.bool y.opens,bi .i64 y.declares,bi .i64 y.kind,bi .i64 y.Fk,bi .i64 y.allowed]=decide (x=y):=by
 cases x;cases y;rw[gI];simp[CS,DY]
@[simp] theorem jv(S:Sg)(x:Scope):Dp S (.d (Et x))=al [DB x.opens,AF x.declares,AF x.kind,AF x.Fk,AF x.allowed]:=rfl
def AV(x:Token):D:=.agg [BG x.name,AF x.cls,BG x.literal,Av x.pattern,BG x.Cy,AX x.cond.nodes,AF x.cond.root]
@[simp] theorem cV(x:Token):Aj (.d (AV x))=[.d (BG x.name),.d (AF x.cls),.d (BG x.literal),.d (Av x.pattern),.d (BG x.Cy),.d (AX x.cond.nodes),.d (AF x.cond.root)]:=rfl
@[simp] theorem dB(x:Token):Ap (.d (AV x))=true:=rfl
@[simp] theorem kU(x:Token):Bu (.d (AV x))=false:=rfl
@[simp] theorem bp(x:Token):BE (AV x)=[BG x.name,AF x.cls,BG x.literal,Av x.pattern,BG x.Cy,AX x.cond.nodes,AF x.cond.root]:=rfl
@[simp] theorem kO(x:Token):CR.oneD (AV x)=true:=rfl
@[simp] theorem p9(x:Token):Da (AV x)=Bq [BG x.name,AF x.cls,BG x.literal,Av x.pattern,BG x.Cy,AX x.cond.nodes,AF x.cond.root]:=rfl
@[simp] theorem fo(S:Sg)(x:Token):Dp S (.d (AV x))=al [BG x.name,AF x.cls,BG x.literal,Av x.pattern,BG x.Cy,AX x.cond.nodes,AF x.cond.root]:=rfl
@[simp] def C7(l:List Token):D:=.sl (l.map AV)
def AG(x:AM):D:=.agg [BG x.name,AF x.left,As x.right,AX x.cond.nodes,AF x.cond.root,DB x.bracket,AF x.EC,CX x.layout,DB x.scope.opens,AF x.scope.declares,AF x.scope.kind,AF x.scope.Fk,AF x.scope.allowed]
@[simp] theorem fA(x:AM):Aj (.d (AG x))=[.d (BG x.name),.d (AF x.left),.d (As x.right),.d (AX x.cond.nodes),.d (AF x.cond.root),.d (DB x.bracket),.d (AF x.EC),.d (CX x.layout),.d (DB x.scope.opens),.d (AF x.scope.declares),.d (AF x.scope.kind),.d (AF x.scope.Fk),.d (AF x.scope.allowed)]:=rfl
@[simp] theorem eR(x:AM):Ap (.d (AG x))=true:=rfl
@[simp] theorem nV(x:AM):Bu (.d (AG x))=false:=rfl
@[simp] theorem gL(x:AM):BE (AG x)=[BG x.name,AF x.left,As x.right,AX x.cond.nodes,AF x.cond.root,DB x.bracket,AF x.EC,CX x.layout,DB x.scope.opens,AF x.scope.declares,AF x.scope.kind,AF x.scope.Fk,AF x.scope.allowed]:=rfl
@[simp] theorem nn(x:AM):CR.oneD (AG x)=true:=rfl
@[simp] theorem rI(x:AM):Da (AG x)=Bq [BG x.name,AF x.left,As x.right,AX x.cond.nodes,AF x.cond.root,DB x.bracket,AF x.EC,CX x.layout,DB x.scope.opens,AF x.scope.declares,AF x.scope.kind,AF x.scope.Fk,AF x.scope.allowed]:=rfl
@[simp] theorem lJ(S:Sg)(x:AM):Dp S (.d (AG x))=al [BG x.name,AF x.left,As x.right,AX x.cond.nodes,AF x.cond.root,DB x.bracket,AF x.EC,CX x.layout,DB x.scope.opens,AF x.scope.declares,AF x.scope.kind,AF x.scope.Fk,AF x.scope.allowed]:=rfl
@[simp] def Cd(l:List AM):D:=.sl (l.map AG)
def Ak(x:Level):D:=.agg [A2 x.AE,AF x.assoc,AX x.cond.nodes,AF x.cond.root]
@[simp] theorem cT(x:Level):Aj (.d (Ak x))=[.d (A2 x.AE),.d (AF x.assoc),.d (AX x.cond.nodes),.d (AF x.cond.root)]:=rfl
@[simp] theorem bk(x:Level):Ap (.d (Ak x))=true:=rfl
@[simp] theorem k9(x:Level):Bu (.d (Ak x))=false:=rfl
@[simp] theorem cI(x:Level):BE (Ak x)=[A2 x.AE,AF x.assoc,AX x.cond.nodes,AF x.cond.root]:=rfl
@[simp] theorem lM(x:Level):CR.oneD (Ak x)=true:=rfl
@[simp] theorem qA(x:Level):Da (Ak x)=Bq [A2 x.AE,AF x.assoc,AX x.cond.nodes,AF x.cond.root]:=rfl
@[simp] theorem fG(S:Sg)(x:Level):Dp S (.d (Ak x))=al [A2 x.AE,AF x.assoc,AX x.cond.nodes,AF x.cond.root]:=rfl
@[simp] def Bl(l:List Level):D:=.sl (l.map Ak)
def AN(x:Filter):D:=.agg [AF x.kind,AF x.parent,AF x.at_,AF x.child,AF x.left,AF x.token,A2 x.tokens,AX x.cond.nodes,AF x.cond.root]
@[simp] theorem Z3(x:Filter):Aj (.d (AN x))=[.d (AF x.kind),.d (AF x.parent),.d (AF x.at_),.d (AF x.child),.d (AF x.left),.d (AF x.token),.d (A2 x.tokens),.d (AX x.cond.nodes),.d (AF x.cond.root)]:=rfl
@[simp] theorem aw(x:Filter):Ap (.d (AN x))=true:=rfl
@[simp] theorem kL(x:Filter):Bu (.d (AN x))=false:=rfl
@[simp] theorem Y4(x:Filter):BE (AN x)=[AF x.kind,AF x.parent,AF x.at_,AF x.child,AF x.left,AF x.token,A2 x.tokens,AX x.cond.nodes,AF x.cond.root]:=rfl
@[simp] theorem fM(x:Filter):CR.oneD (AN x)=true:=rfl
@[simp] theorem oM(x:Filter):Da (AN x)=Bq [AF x.kind,AF x.parent,AF x.at_,AF x.child,AF x.left,AF x.token,A2 x.tokens,AX x.cond.nodes,AF x.cond.root]:=rfl
@[simp] theorem cg(S:Sg)(x:Filter):Dp S (.d (AN x))=al [AF x.kind,AF x.parent,AF x.at_,AF x.child,AF x.left,AF x.token,A2 x.tokens,AX x.cond.nodes,AF x.cond.root]:=rfl
@[simp] def BR(l:List Filter):D:=.sl (l.map AN)
def AA(x:AD):D:=.agg [Bv x.conds,AX x.fam.nodes,AF x.fam.root,C7 x.AU,Bv x.Ay,Cd x.AE,AF x.start,Bl x.levels,BR x.AT]
@[simp] theorem Yh(x:AD):Aj (.d (AA x))=[.d (Bv x.conds),.d (AX x.fam.nodes),.d (AF x.fam.root),.d (C7 x.AU),.d (Bv x.Ay),.d (Cd x.AE),.d (AF x.start),.d (Bl x.levels),.d (BR x.AT)]:=rfl
@[simp] theorem YO(x:AD):Ap (.d (AA x))=true:=rfl
@[simp] theorem cj(x:AD):Bu (.d (AA x))=false:=rfl
@[simp] theorem YB(x:AD):BE (AA x)=[Bv x.conds,AX x.fam.nodes,AF x.fam.root,C7 x.AU,Bv x.Ay,Cd x.AE,AF x.start,Bl x.levels,BR x.AT]:=rfl
@[simp] theorem cD(x:AD):CR.oneD (AA x)=true:=rfl
@[simp] theorem km(x:AD):Da (AA x)=Bq [Bv x.conds,AX x.fam.nodes,AF x.fam.root,C7 x.AU,Bv x.Ay,Cd x.AE,AF x.start,Bl x.levels,BR x.AT]:=rfl
@[simp] theorem af(S:Sg)(x:AD):Dp S (.d (AA x))=al [Bv x.conds,AX x.fam.nodes,AF x.fam.root,C7 x.AU,Bv x.Ay,Cd x.AE,AF x.start,Bl x.levels,BR x.AT]:=rfl
def Ar(x:Bo):D:=.agg [AF x.hole,AF x.prod,AF x.token,BG x.text]
@[simp] theorem cQ(x:Bo):Aj (.d (Ar x))=[.d (AF x.hole),.d (AF x.prod),.d (AF x.token),.d (BG x.text)]:=rfl
@[simp] theorem ct(x:Bo):Ap (.d (Ar x))=true:=rfl
@[simp] theorem kZ(x:Bo):Bu (.d (Ar x))=false:=rfl
@[simp] theorem dC(x:Bo):BE (Ar x)=[AF x.hole,AF x.prod,AF x.token,BG x.text]:=rfl
@[simp] theorem kf(x:Bo):CR.oneD (Ar x)=true:=rfl
@[simp] theorem pj(x:Bo):Da (Ar x)=Bq [AF x.hole,AF x.prod,AF x.token,BG x.text]:=rfl
@[simp] theorem lB(x y:Bo):CS [bi .i64 x.hole,bi .i64 x.prod,bi .i64 x.token,D.str x.text] [bi .i64 y.hole,bi .i64 y.prod,bi .i64 y.token,D.str y.text]=decide (x=y):=by
 cases x;cases y;rw[gI];simp[CS,DY]
@[simp] theorem jc(S:Sg)(x:Bo):Dp S (.d (Ar x))=al [AF x.hole,AF x.prod,AF x.token,BG x.text]:=rfl
@[simp] def CF(l:List Bo):D:=.sl (l.map Ar)
def Ab(x:Rewrite):D:=.agg [AF x.prod,AF x.at_,AF x.child,CF x.Ah]
@[simp] theorem Xi(x:Rewrite):Aj (.d (Ab x))=[.d (AF x.prod),.d (AF x.at_),.d (AF x.child),.d (CF x.Ah)]:=rfl
@[simp] theorem Yd(x:Rewrite):Ap (.d (Ab x))=true:=rfl
@[simp] theorem cX(x:Rewrite):Bu (.d (Ab x))=false:=rfl
@[simp] theorem X2(x:Rewrite):BE (Ab x)=[AF x.prod,AF x.at_,AF x.child,CF x.Ah]:=rfl
@[simp] theorem cx(x:Rewrite):CR.oneD (Ab x)=true:=rfl
@[simp] theorem lC(x:Rewrite):Da (Ab x)=Bq [AF x.prod,AF x.at_,AF x.child,CF x.Ah]:=rfl
@[simp] theorem bD(S:Sg)(x:Rewrite):Dp S (.d (Ab x))=al [AF x.prod,AF x.at_,AF x.child,CF x.Ah]:=rfl
@[simp] def BA(l:List Rewrite):D:=.sl (l.map Ab)
def AK(x:AR):D:=.agg [AF x.kind,AF x.number,AF x.at_,AF x.to,BG x.name,DB x.value,AX x.cond.nodes,AF x.cond.root,Bl x.levels,BR x.AT,BG x.token.name,AF x.token.cls,BG x.token.literal,Av x.token.pattern,BG x.token.Cy,AX x.token.cond.nodes,AF x.token.cond.root,BG x.prod.name,AF x.prod.left,As x.prod.right,AX x.prod.cond.nodes,AF x.prod.cond.root,DB x.prod.bracket,AF x.prod.EC,CX x.prod.layout,DB x.prod.scope.opens,AF x.prod.scope.declares,AF x.prod.scope.kind,AF x.prod.scope.Fk,AF x.prod.scope.allowed,CF x.Ah]
@[simp] theorem ag(x:AR):Aj (.d (AK x))=[.d (AF x.kind),.d (AF x.number),.d (AF x.at_),.d (AF x.to),.d (BG x.name),.d (DB x.value),.d (AX x.cond.nodes),.d (AF x.cond.root),.d (Bl x.levels),.d (BR x.AT),.d (BG x.token.name),.d (AF x.token.cls),.d (BG x.token.literal),.d (Av x.token.pattern),.d (BG x.token.Cy),.d (AX x.token.cond.nodes),.d (AF x.token.cond.root),.d (BG x.prod.name),.d (AF x.prod.left),.d (As x.prod.right),.d (AX x.prod.cond.nodes),.d (AF x.prod.cond.root),.d (DB x.prod.bracket),.d (AF x.prod.EC),.d (CX x.prod.layout),.d (DB x.prod.scope.opens),.d (AF x.prod.scope.declares),.d (AF x.prod.scope.kind),.d (AF x.prod.scope.Fk),.d (AF x.prod.scope.allowed),.d (CF x.Ah)]:=rfl
@[simp] theorem Z9(x:AR):Ap (.d (AK x))=true:=rfl
@[simp] theorem iB(x:AR):Bu (.d (AK x))=false:=rfl
@[simp] theorem ZI(x:AR):BE (AK x)=[AF x.kind,AF x.number,AF x.at_,AF x.to,BG x.name,DB x.value,AX x.cond.nodes,AF x.cond.root,Bl x.levels,BR x.AT,BG x.token.name,AF x.token.cls,BG x.token.literal,Av x.token.pattern,BG x.token.Cy,AX x.token.cond.nodes,AF x.token.cond.root,BG x.prod.name,AF x.prod.left,As x.prod.right,AX x.prod.cond.nodes,AF x.prod.cond.root,DB x.prod.bracket,AF x.prod.EC,CX x.prod.layout,DB x.prod.scope.opens,AF x.prod.scope.declares,AF x.prod.scope.kind,AF x.prod.scope.Fk,AF x.prod.scope.allowed,CF x.Ah]:=rfl
@[simp] theorem jh(x:AR):CR.oneD (AK x)=true:=rfl
@[simp] theorem mb(x:AR):Da (AK x)=Bq [AF x.kind,AF x.number,AF x.at_,AF x.to,BG x.name,DB x.value,AX x.cond.nodes,AF x.cond.root,Bl x.levels,BR x.AT,BG x.token.name,AF x.token.cls,BG x.token.literal,Av x.token.pattern,BG x.token.Cy,AX x.token.cond.nodes,AF x.token.cond.root,BG x.prod.name,AF x.prod.left,As x.prod.right,AX x.prod.cond.nodes,AF x.prod.cond.root,DB x.prod.bracket,AF x.prod.EC,CX x.prod.layout,DB x.prod.scope.opens,AF x.prod.scope.declares,AF x.prod.scope.kind,AF x.prod.scope.Fk,AF x.prod.scope.allowed,CF x.Ah]:=rfl
@[simp] theorem cG(S:Sg)(x:AR):Dp S (.d (AK x))=al [AF x.kind,AF x.number,AF x.at_,AF x.to,BG x.name,DB x.value,AX x.cond.nodes,AF x.cond.root,Bl x.levels,BR x.AT,BG x.token.name,AF x.token.cls,BG x.token.literal,Av x.token.pattern,BG x.token.Cy,AX x.token.cond.nodes,AF x.token.cond.root,BG x.prod.name,AF x.prod.left,As x.prod.right,AX x.prod.cond.nodes,AF x.prod.cond.root,DB x.prod.bracket,AF x.prod.EC,CX x.prod.layout,DB x.prod.scope.opens,AF x.prod.scope.declares,AF x.prod.scope.kind,AF x.prod.scope.Fk,AF x.prod.scope.allowed,CF x.Ah]:=rfl
theorem xN:(∀x:Al,AZ x=.agg [AF x.var,AF x.low,AF x.high])/\(∀x:AO,AB x=.agg [AX x.nodes,AF x.root])/\(∀x:Symbol,AI x=.agg [DB x.token,AF x.index])/\(∀x:Fo,BF x=.agg [AF x.kind,AF x.a,AF x.b])/\(∀x:A7,AS x=.agg [AF x.kind,AF x.lo,AF x.hi,AF x.a,AF x.b])/\(∀x:Scope,Et x=.agg [DB x.opens,AF x.declares,AF x.kind,AF x.Fk,AF x.allowed])/\(∀x:Token,AV x=.agg [BG x.name,AF x.cls,BG x.literal,Av x.pattern,BG x.Cy,AX x.cond.nodes,AF x.cond.root])/\(∀x:AM,AG x=.agg [BG x.name,AF x.left,As x.right,AX x.cond.nodes,AF x.cond.root,DB x.bracket,AF x.EC,CX x.layout,DB x.scope.opens,AF x.scope.declares,AF x.scope.kind,AF x.scope.Fk,AF x.scope.allowed])/\(∀x:Level,Ak x=.agg [A2 x.AE,AF x.assoc,AX x.cond.nodes,AF x.cond.root])/\(∀x:Filter,AN x=.agg [AF x.kind,AF x.parent,AF x.at_,AF x.child,AF x.left,AF x.token,A2 x.tokens,AX x.cond.nodes,AF x.cond.root])/\(∀x:AD,AA x=.agg [Bv x.conds,AX x.fam.nodes,AF x.fam.root,C7 x.AU,Bv x.Ay,Cd x.AE,AF x.start,Bl x.levels,BR x.AT])/\(∀x:Bo,Ar x=.agg [AF x.hole,AF x.prod,AF x.token,BG x.text])/\(∀x:Rewrite,Ab x=.agg [AF x.prod,AF x.at_,AF x.child,CF x.Ah])/\(∀x:AR,AK x=.agg [AF x.kind,AF x.number,AF x.at_,AF x.to,BG x.name,DB x.value,AX x.cond.nodes,AF x.cond.root,Bl x.levels,BR x.AT,BG x.token.name,AF x.token.cls,BG x.token.literal,Av x.token.pattern,BG x.token.Cy,AX x.token.cond.nodes,AF x.token.cond.root,BG x.prod.name,AF x.prod.left,As x.prod.right,AX x.prod.cond.nodes,AF x.prod.cond.root,DB x.prod.bracket,AF x.prod.EC,CX x.prod.layout,DB x.prod.scope.opens,AF x.prod.scope.declares,AF x.prod.scope.kind,AF x.prod.scope.Fk,AF x.prod.scope.allowed,CF x.Ah]):=
 ⟨λ_=>rfl,λ_=>rfl,λ_=>rfl,λ_=>rfl,λ_=>rfl,λ_=>rfl,λ_=>rfl,λ_=>rfl,λ_=>rfl,λ_=>rfl,λ_=>rfl,λ_=>rfl,λ_=>rfl,λ_=>rfl⟩
end Go.Koi
open Go.Koi.DT renaming level->ae3
namespace Go.Koi
open Go.Proofs Tryz
abbrev vj:=@List.take_succ_eq_append_getElem
theorem Ki{α:Type}{l:List α}{i:Nat}(h:i<Z l):l.take (i+1)=l.take i++[l[i]]:=by rw[vj h]
abbrev s9:=@List.take_length
theorem TX(a c:List Al):Pure a8 215 [.sl (a.map AZ),.sl (c.map AZ)] (.bool (decide (a=c))):=by
 refine ip func215 (by kernel_rfl) rfl (by simp) λwf=>?_;have s:Z a<=maxLen:=by have:=wf.1;simp[Da]at this;simpa using this.1
 rw[ntmps215];apply yW;simp;refine xS (yW ?_);simp;apply AQ;simp;refine⟨λj=>?_,λh=>?_⟩
 .apply yW;simp;refine Am ⟨_,_,ap,?_⟩;(try simp);intro e;rw[e]at j;exact j rfl
 .have h:Z a=Z c:=by omega
  apply xK;refine xS (yW ?_);simp;apply Bp;refine FH (Z a) (λi tm S=>tm 0=.d (.sl (a.map AZ))/\tm 1=.d (.sl (c.map AZ))/\tm 13=.d (AF i)/\tm 12=.d (AF (Z a))/\S=[]/\a.take i=c.take i) (ed _) (by simp) ?_;rintro i tm S hi ⟨t0,t1,t13,t12,rfl,m⟩;apply yW;simp[t13,t12];apply xC;simp;refine⟨λk=>?_,λu=>?_⟩
  .have g:i<Z c:=by omega
   apply xK;apply xB;apply yW;simp[t13];refine yD (A3 9 []) (by kernel_rfl) ?_;simp;apply yA 0;simp[t0,t1,k,g];apply AQ;simp;refine⟨λj=>?_,λt=>?_⟩
   .apply yW;simp;refine Am ⟨_,_,ap,?_⟩;(try simp);intro e;subst e;simp at j
   .apply B8;apply yV;simp[t13];refine⟨k,_,_,ap,?_⟩;simp[t0,t1,t12,AL k s];rw[Ki k,Ki g,m,t]
  .have o:i=Z a:=by omega
   subst o;have q:a=c:=by rw[s9,h,s9]at m;exact m
   apply Co;apply yW;simp;apply zT;(try simp);exact q
theorem TQ(a c:List Symbol):Pure a8 118 [.sl (a.map AI),.sl (c.map AI)] (.bool (decide (a=c))):=by
 refine ip func118 (by kernel_rfl) rfl (by simp) λwf=>?_;have s:Z a<=maxLen:=by have:=wf.1;simp[Da]at this;simpa using this.1
 rw[ntmps118];apply yW;simp;refine xS (yW ?_);simp;apply AQ;simp;refine⟨λj=>?_,λh=>?_⟩
 .apply yW;simp;refine Am ⟨_,_,ap,?_⟩;(try simp);intro e;rw[e]at j;exact j rfl
 .have h:Z a=Z c:=by omega
  apply xK;refine xS (yW ?_);simp;apply Bp;refine FH (Z a) (λi tm S=>tm 0=.d (.sl (a.map AI))/\tm 1=.d (.sl (c.map AI))/\tm 13=.d (AF i)/\tm 12=.d (AF (Z a))/\S=[]/\a.take i=c.take i) (ed _) (by simp) ?_;rintro i tm S hi ⟨t0,t1,t13,t12,rfl,m⟩;apply yW;simp[t13,t12];apply xC;simp;refine⟨λk=>?_,λu=>?_⟩
  .have g:i<Z c:=by omega
   apply xK;apply xB;apply yW;simp[t13];refine yD (A3 9 []) (by kernel_rfl) ?_;simp;apply yA 0;simp[t0,t1,k,g];apply AQ;simp;refine⟨λj=>?_,λt=>?_⟩
   .apply yW;simp;refine Am ⟨_,_,ap,?_⟩;(try simp);intro e;subst e;simp at j
   .apply B8;apply yV;simp[t13];refine⟨k,_,_,ap,?_⟩;simp[t0,t1,t12,AL k s];rw[Ki k,Ki g,m,t]
  .have o:i=Z a:=by omega
   subst o;have q:a=c:=by rw[s9,h,s9]at m;exact m
   apply Co;apply yW;simp;apply zT;(try simp);exact q
theorem Ox(a c:AO):Pure a8 162 [AB a,AB c] (.bool (decide (a=c))):=by
 refine zP func162 17 rfl λwf=>?_;apply yW;simp;(repeat apply xS);apply yT;apply yJ;simp;refine Fr (g:=a.root==c.root) (ds:=[AX a.nodes,AX c.nodes]) rfl rfl (by simp) (λ_=>TX _ _) (by simp) ?_;simp;apply yJ;simp;apply zT;(try simp);cases a;cases c;rw[gI];simp[and_comm]
theorem II(x:Bool):Pure a8 157 [.bool x] (AB ⟨[],if x then 1 else 0⟩):=by
 refine zP func157 6 rfl λwf=>?_;apply yW;simp;refine xS (yW ?_);simp;apply AQ;simp;refine⟨λg=>?_,λg=>?_⟩
 .apply yW;simp;refine Am ⟨_,_,ap,?_⟩;simp[g,AB]
 .apply xK;apply yW;simp;apply zT;simp[g,AB]
def AO.level(d:AO)(e:Int):Int:=if e<2 then 64 else match d.nodes[(e - 2).toNat]? with|some x=>x.var|none=>0
theorem I7(d:AO)(e:Int)(m:e<2+Z d.nodes):Pure a8 166 [AB d,AF e] (AF (d.level e)):=by
 refine ip func166 (by kernel_rfl) rfl (by simp) λwf=>?_;simp[Bq,Dh,Da]at wf;rw[ntmps166];apply yW;simp;refine xS (yW ?_);simp;apply AQ;simp;refine⟨λg=>?_,λg=>?_⟩
 .apply yW;simp;refine Am ⟨_,_,ap,?_⟩;simp[AO.level,g]
 .have i:bv .i64 (e - 2)=e - 2:=wrap_i64 (by omega) (by omega);have h:(e - 2).toNat<Z d.nodes:=by omega
  have j:e - 2<(Z d.nodes:Int):=by omega
  have k:¬e<2:=by omega
  apply xK;apply yW;simp[i,h,j,g];refine Am ⟨_,_,ap,?_⟩;simp[AO.level,k,h]
def PF{α:Type}(f:FuncId)(enc:α->D)(sz:Nat):Prop:=∀e,e=enc->∀g:List α,Z g<=2 ^ 30->AH a8 f [.d (.sl (g.map e))] [] (.row 0 (Z g)) [.row (!g.isEmpty) sz (g.map λx=>.d (e x))]
theorem F6:PF 106 D.str 1/\PF 178 AZ 3/\PF 108 AV 7/\PF 109 AG 13/\PF 110 Ak 4/\PF 111 AN 9/\PF 112 AS 5/\PF 113 AI 2/\PF 114 BF 3/\PF 115 (D.int .i64) 1/\PF 27 Ar 4:=by
 refine⟨λe g xs i=>j0 func106 (by kernel_rfl) rfl (by simp) λwf _=>?_,λe g xs i=>j0 func178 (by kernel_rfl) rfl (by simp) λwf _=>?_,λe g xs i=>j0 func108 (by kernel_rfl) rfl (by simp) λwf _=>?_,λe g xs i=>j0 func109 (by kernel_rfl) rfl (by simp) λwf _=>?_,λe g xs i=>j0 func110 (by kernel_rfl) rfl (by simp) λwf _=>?_,λe g xs i=>j0 func111 (by kernel_rfl) rfl (by simp) λwf _=>?_,λe g xs i=>j0 func112 (by kernel_rfl) rfl (by simp) λwf _=>?_,λe g xs i=>j0 func113 (by kernel_rfl) rfl (by simp) λwf _=>?_,λe g xs i=>j0 func114 (by kernel_rfl) rfl (by simp) λwf _=>?_,λe g xs i=>j0 func115 (by kernel_rfl) rfl (by simp) λwf _=>?_,λe g xs i=>j0 func27 (by kernel_rfl) rfl (by simp) λwf _=>?_⟩;all_goals
  simp only[ntmps106,ntmps178,ntmps108,ntmps109,ntmps110,ntmps111,ntmps112,ntmps113,ntmps114,ntmps115,ntmps27]
  apply yW;simp
  refine xS (yS ?_)
  (repeat(refine Cg ?_ ?_;(·simp);simp))
  refine AY.ph (neg:=false) (xs:=xs.map e) rfl (by simp) λt j=>?_
  simp
  apply CO
  apply AQ;simp
  refine⟨λh=>?_,λh=>?_⟩
  .have hn:xs=[]:=by
    cases xs with
    |nil=>rfl
    |cons x xs=>simp[j]at h
   subst hn
   apply yW;simp
   refine Am ?_;(try simp only[yQ,reduceIte]);refine⟨_,tv 2 _ (xs:=[]) (by simp),?_⟩;simp[At]
  .subst g
   refine xK ?_
   apply yW;simp[i]
   apply Am;refine⟨_,ap,?_⟩;simp[At]
theorem Rw(xs:List ByteArray)(g:Z xs<=2 ^ 30):AH a8 106 [.d (.sl (xs.map D.str))] [] (.row 0 (Z xs)) [.row (!xs.isEmpty) 1 (xs.map λx=>.d (D.str x))]:=F6.1 _ rfl xs g
theorem Th(xs:List Al)(g:Z xs<=2 ^ 30):AH a8 178 [.d (.sl (xs.map AZ))] [] (.row 0 (Z xs)) [.row (!xs.isEmpty) 3 (xs.map λx=>.d (AZ x))]:=F6.2.1 _ rfl xs g
theorem ba(xs:List Token)(g:Z xs<=2 ^ 30):AH a8 108 [.d (.sl (xs.map AV))] [] (.row 0 (Z xs)) [.row (!xs.isEmpty) 7 (xs.map λx=>.d (AV x))]:=F6.2.2.1 _ rfl xs g
theorem XC(xs:List AM)(g:Z xs<=2 ^ 30):AH a8 109 [.d (.sl (xs.map AG))] [] (.row 0 (Z xs)) [.row (!xs.isEmpty) 13 (xs.map λx=>.d (AG x))]:=F6.2.2.2.1 _ rfl xs g
theorem UL(xs:List Level)(g:Z xs<=2 ^ 30):AH a8 110 [.d (.sl (xs.map Ak))] [] (.row 0 (Z xs)) [.row (!xs.isEmpty) 4 (xs.map λx=>.d (Ak x))]:=F6.2.2.2.2.1 _ rfl xs g
theorem TU(xs:List Filter)(g:Z xs<=2 ^ 30):AH a8 111 [.d (.sl (xs.map AN))] [] (.row 0 (Z xs)) [.row (!xs.isEmpty) 9 (xs.map λx=>.d (AN x))]:=F6.2.2.2.2.2.1 _ rfl xs g
theorem VA(xs:List A7)(g:Z xs<=2 ^ 30):AH a8 112 [.d (.sl (xs.map AS))] [] (.row 0 (Z xs)) [.row (!xs.isEmpty) 5 (xs.map λx=>.d (AS x))]:=F6.2.2.2.2.2.2.1 _ rfl xs g
theorem JH(xs:List Symbol)(g:Z xs<=2 ^ 30):AH a8 113 [.d (.sl (xs.map AI))] [] (.row 0 (Z xs)) [.row (!xs.isEmpty) 2 (xs.map λx=>.d (AI x))]:=F6.2.2.2.2.2.2.2.1 _ rfl xs g
theorem TS(xs:List Fo)(g:Z xs<=2 ^ 30):AH a8 114 [.d (.sl (xs.map BF))] [] (.row 0 (Z xs)) [.row (!xs.isEmpty) 3 (xs.map λx=>.d (BF x))]:=F6.2.2.2.2.2.2.2.2.1 _ rfl xs g
theorem RS(xs:List Int)(g:Z xs<=2 ^ 30):AH a8 115 [.d (.sl (xs.map (D.int .i64)))] [] (.row 0 (Z xs)) [.row (!xs.isEmpty) 1 (xs.map λx=>.d ((D.int .i64) x))]:=F6.2.2.2.2.2.2.2.2.2.1 _ rfl xs g
theorem Ue(xs:List Bo)(g:Z xs<=2 ^ 30):AH a8 27 [.d (.sl (xs.map Ar))] [] (.row 0 (Z xs)) [.row (!xs.isEmpty) 4 (xs.map λx=>.d (Ar x))]:=F6.2.2.2.2.2.2.2.2.2.2 _ rfl xs g
def firstIdx{α:Type}(p:α->Bool)(xs:List α):Int:=match xs.findIdx? p with|some i=>i|none=>-1
abbrev adg:=@List.findIdx?_eq_some_iff_getElem
theorem EP{α:Type}{p:α->Bool}{xs:List α}{i:Nat}(h:i<Z xs)(g:p xs[i]=J)(k:∀j (hj:j<i),p (xs[j]'(by omega))=am):firstIdx p xs=i:=by
 have:xs.findIdx? p=some i:=by
  rw[adg];exact⟨h,g,λj hj=>by simp[k j hj]⟩
 simp[firstIdx,this]
theorem firstIdx_none{α:Type}{p:α->Bool}{xs:List α}(g:∀j (hj:j<Z xs),p xs[j]=am):firstIdx p xs= -1:=by
 have:xs.findIdx? p=none:=by
  rw[ae2];intro x h;obtain⟨i,hi,rfl⟩:=oi.1 h;exact g i hi
 simp[firstIdx,this]
abbrev E2:=@List.any_eq_false
abbrev Hs:=@List.any_eq_true
theorem Ft{α:Type}(p:α->Bool)(xs:List α):decide (firstIdx p xs≥0)=xs.any p:=by
 unfold firstIdx;cases h:xs.findIdx? p with
 |none=>
  rw[ae2]at h;have:xs.any p=false:=by rw[E2];intro x g;simp[h x g]
  simp[this]
 |some i=>
  rw[adg]at h;obtain⟨h1,j,_⟩:=h;have:xs.any p=true:=Hs.2 ⟨_,cF h1,j⟩;rw[this];simp
def Tt{α:Type}(f:FuncId)(enc:α->D):Prop:=∀e,e=enc->∀(i:List α) (p:α->Bool) (k:FuncId) (g:List V) (h:Sg),(∀x∈i,AH a8 k (.d (e x)::g) h (.d (.bool (p x))) h)->AH a8 f [.d (.sl (i.map e)),.fn (.func k) [] g] h (.d (AF (firstIdx p i))) h
def Jl{α:Type}(f:FuncId)(enc:α->D):Prop:=∀(i:List α) (p:α->Bool) (k:FuncId) (g:List V) (h:Sg),(∀x∈i,AH a8 k (.d (enc x)::g) h (.d (.bool (p x))) h)->AH a8 f [.d (.sl (i.map enc)),.fn (.func k) [] g] h (.d (.bool (i.any p))) h
theorem IH:Tt 284 AZ/\Tt 271 AG/\Tt 275 AI/\Tt 263 Ak/\Tt 265 AN/\Tt 224 (D.int .i64)/\Tt 33 Ab:=by
 refine⟨λe o m p k g q s=>j0 func284 (by kernel_rfl) rfl (by simp) λwf _=>?_,λe o m p k g q s=>j0 func271 (by kernel_rfl) rfl (by simp) λwf _=>?_,λe o m p k g q s=>j0 func275 (by kernel_rfl) rfl (by simp) λwf _=>?_,λe o m p k g q s=>j0 func263 (by kernel_rfl) rfl (by simp) λwf _=>?_,λe o m p k g q s=>j0 func265 (by kernel_rfl) rfl (by simp) λwf _=>?_,λe o m p k g q s=>j0 func224 (by kernel_rfl) rfl (by simp) λwf _=>?_,λe o m p k g q s=>j0 func33 (by kernel_rfl) rfl (by simp) λwf _=>?_⟩;all_goals
  simp only[ntmps284,ntmps271,ntmps275,ntmps263,ntmps265,ntmps224,ntmps33]
  have A:Z m<=maxLen:=by have:=wf.1;simp[K0,Da]at this;simpa using this.1
  apply yW;simp
  refine xS (yW ?_);simp
  apply Bp
  refine FH (Z m) (λi tm S=>tm 0=.d (.sl (m.map e))/\tm 1=.fn (.func k) [] g/\tm 8=.d (AF i)/\tm 7=.d (AF (Z m))/\S=q/\∀j (_:j<i) (h:j<Z m),p m[j]=am) (ed _) (by simp) ?_
  rintro i tm S hi ⟨t0,t1,t8,t7,rfl,u⟩
  apply yW;simp[t8,t7]
  apply xC;simp
  refine⟨λt=>?_,λB=>?_⟩
  .apply xK
   apply xB
   apply yW;simp[t8]
   apply yS
   refine yJ ?_;simp[t0,t1,t,o]
   refine ms (v:=.d (.bool (p m[i]))) rfl rfl (by simp) (f:=k) (args:=.d (e m[i])::g) (by simp;try(subst o;rfl)) (by simp) (s _ (cF t)) ?_;simp
   apply CO
   apply AQ;simp
   refine⟨λw=>?_,λw=>?_⟩
   .apply yW;simp
    apply Am;refine⟨_,ap,?_⟩;simp[At]
    exact .inl (EP t w λj hj=>u j hj (by omega)).symm
   .apply B8
    apply yV;simp[t8]
    refine⟨t,_,_,ap,?_⟩
    simp[t0,t1,t7,AL t A]
    intro j hj z
    by_cases e:j=i
    .subst e;exact w
    .exact u j (by omega) z
  .apply Co
   apply yW;simp
   apply Am;refine⟨_,ap,?_⟩;simp[At]
   exact .inl (firstIdx_none λj hj=>u j (by omega) hj).symm
theorem JT:Jl 273 AZ/\Jl 245 AG/\Jl 252 AI/\Jl 218 Ak/\Jl 221 AN/\Jl 172 (D.int .i64)/\Jl 182 Ab:=by
 refine⟨λh p k g i j=>(λhi=>j0 func273 (by kernel_rfl) rfl (by simp) λwf _=>?_) (IH.1 _ rfl h p k g i j),λh p k g i j=>(λhi=>j0 func245 (by kernel_rfl) rfl (by simp) λwf _=>?_) (IH.2.1 _ rfl h p k g i j),λh p k g i j=>(λhi=>j0 func252 (by kernel_rfl) rfl (by simp) λwf _=>?_) (IH.2.2.1 _ rfl h p k g i j),λh p k g i j=>(λhi=>j0 func218 (by kernel_rfl) rfl (by simp) λwf _=>?_) (IH.2.2.2.1 _ rfl h p k g i j),λh p k g i j=>(λhi=>j0 func221 (by kernel_rfl) rfl (by simp) λwf _=>?_) (IH.2.2.2.2.1 _ rfl h p k g i j),λh p k g i j=>(λhi=>j0 func172 (by kernel_rfl) rfl (by simp) λwf _=>?_) (IH.2.2.2.2.2.1 _ rfl h p k g i j),λh p k g i j=>(λhi=>j0 func182 (by kernel_rfl) rfl (by simp) λwf _=>?_) (IH.2.2.2.2.2.2 _ rfl h p k g i j)⟩;all_goals
  simp only[ntmps273,ntmps245,ntmps252,ntmps218,ntmps221,ntmps172,ntmps182]
  apply yW;simp
  (repeat apply xS);apply yT
  apply yJ;simp
  refine ms rfl rfl (by simp) (by simp[callee]) (by simp) hi (yJ ?_);simp
  apply Am;refine⟨_,ap,?_⟩;simp[At]
  have:=Ft p h
  simp at this
  simp[this]
theorem K9:Jl 273 AZ:=JT.1
theorem MF:Jl 245 AG:=JT.2.1
theorem K5:Jl 252 AI:=JT.2.2.1
theorem LY:Jl 218 Ak:=JT.2.2.2.1
theorem HM:Jl 221 AN:=JT.2.2.2.2.1
theorem I5:Jl 172 (D.int .i64):=JT.2.2.2.2.2.1
theorem IP:∀(i:List Rewrite) (p:Rewrite->Bool) (k:FuncId) (g:List V) (h:Sg),(∀x∈i,AH a8 k (.d (Ab x)::g) h (.d (.bool (p x))) h)->AH a8 33 [.d (.sl (i.map Ab)),.fn (.func k) [] g] h (.d (AF (firstIdx p i))) h:=IH.2.2.2.2.2.2 _ rfl
theorem Jt:Jl 182 Ab:=JT.2.2.2.2.2.2
theorem B2(x:Bool):Pure a8 47 [.bool x] (AB ⟨[],if x then 1 else 0⟩):=by
 refine zP func47 6 rfl λwf=>?_;apply yW;simp;refine xS (yW ?_);simp;apply AQ;simp;refine⟨λg=>?_,λg=>?_⟩
 .apply yW;simp;refine Am ⟨_,_,ap,?_⟩;simp[g,AB]
 .apply xK;apply yW;simp;apply zT;simp[g,AB]
theorem Ir(d:AO)(e:Int)(m:e<2+Z d.nodes):Pure a8 241 [AB d,AF e] (AF (d.level e)):=by
 refine ip func241 rfl rfl (by simp) λwf=>?_;simp[Bq,Dh,Da]at wf;rw[ntmps241];apply yW;simp;refine xS (yW ?_);simp;apply AQ;simp;refine⟨λg=>?_,λg=>?_⟩
 .apply yW;simp;refine Am ⟨_,_,ap,?_⟩;simp[AO.level,g]
 .have i:bv .i64 (e - 2)=e - 2:=wrap_i64 (by omega) (by omega);have h:(e - 2).toNat<Z d.nodes:=by omega
  have j:e - 2<(Z d.nodes:Int):=by omega
  have k:¬e<2:=by omega
  apply xK;apply yW;simp[i,h,j,g];apply zT;simp[AO.level,k,h]
theorem Dc(i:Int):Pure a8 48 [AF i] (AI ⟨J,i⟩):=by
 refine zP func48 5 rfl λwf=>?_;apply yW;simp;apply yW;simp;apply zT;simp[AI]
theorem Ex(i:Int):Pure a8 49 [AF i] (AI ⟨am,i⟩):=by
 refine zP func49 5 rfl λwf=>?_;apply yW;simp;apply yW;simp;apply zT;simp[AI]
theorem Bk(n:ByteArray)(l:Int)(r:List Symbol):Pure a8 51 [BG n,AF l,As r] (AG ⟨n,l,r,⟨[],1⟩,am,0,[],⟨am,0,0,0,0⟩⟩):=by
 refine zP func51 12 rfl λwf=>?_;apply yW;simp;(repeat apply xS);apply yT;apply yJ;simp;refine Bz (B2 J) rfl (by simp) (yJ ?_);simp;apply zT;simp[AG,AB]
def Aq(v:Int):AO:=if v<0\/v>63 then⟨[],0⟩else⟨[⟨v,0,1⟩],2⟩
def Wa(v:Int):Int:=if v<0\/v>63 then 1 else 0
theorem Yp(v:Int):Pure a8 149 [AF v] (.CA [AB (Aq v),AF (Wa v)]):=by
 refine zP func149 15 rfl λwf=>?_;apply yW;simp;refine xS (yW ?_);simp;apply AQ;simp;refine⟨λg=>?_,λh1 h=>?_⟩
 .apply yW;simp;refine Am ⟨_,_,ap,?_⟩;have:v<0\/v>63:=by omega
  simp[Aq,Wa,this,AB]
 .apply xK;apply yW;simp[maxLen];apply zT;have:¬(v<0\/v>63):=by omega
  simp[Aq,Wa,this,AB,AZ]
theorem sH(v:Int):Pure a8 164 [AF v] (.CA [AB (Aq v),AF (Wa v)]):=by
 refine zP func164 15 rfl λwf=>?_;apply yW;simp;refine xS (yW ?_);simp;apply AQ;simp;refine⟨λg=>?_,λh1 h=>?_⟩
 .apply yW;simp;refine Am ⟨_,_,ap,?_⟩;have:v<0\/v>63:=by omega
  simp[Aq,Wa,this,AB]
 .apply xK;apply yW;simp[maxLen];apply zT;have:¬(v<0\/v>63):=by omega
  simp[Aq,Wa,this,AB,AZ]
theorem CL(v:Int):Pure a8 59 [AF v] (AB (Aq v)):=by
 refine zP func59 11 rfl λwf=>?_;apply yW;simp;apply yS;apply yJ;simp;refine Bz (Yp v) rfl (by simp) (yJ ?_);simp;apply yW;simp;apply zT;try simp
theorem HX(a c:Int):Pure a8 190 [AF a,AF c] (AS ⟨1,a,c,0,0⟩):=by
 refine zP func190 8 rfl λwf=>?_;apply yW;simp;apply yW;simp;apply zT;simp[AS]
theorem EN(k a c:Int):Pure a8 191 [AF k,AF a,AF c] (AS ⟨k,0,0,a,c⟩):=by
 refine zP func191 11 rfl λwf=>?_;apply yW;simp;apply yW;simp;apply zT;simp[AS]
@[simp] def vr:V:=.fn (.func 217) [] [.ptr 0 1 0 0,.ptr 1 1 0 0,.ptr 2 1 0 0,.ptr 3 1 0 0]
def Qo(N:List Al)(g:Bool)(L:List DT)(es:List (Int×Int)):Sg:=
 [.row J 1 [.map 4],.row J 1 [.ptr 5 1 0 0],.row J 1 [vr],.row J 2 [.agg [.row 6 (Z L),.d (.int .i64 0)]],.map (BT (D.int .i64) (λx=>.d (.int .i64 x)) es),.row g 2 [.agg [.d (AX N),.any]],.row (!L.isEmpty) 3 (L.map λt=>.d (AZ (dA L t)))]
def ot(N:List Al)(L:List DT)(es:List (Int×Int)):Prop:=∀n u,BZ N u n->(HN L u->look es n=some (num L u))/\(¬HN L u->look es n=none)
structure pM(N:List Al)(L:List DT):Prop where
 closed:Ie L
 nodup:L.Nodup
 SQ:∀t∈L,∃v l h,t=.node v l h/\∃n,BZ N t n
theorem pM.nil(N:List Al):pM N []:=⟨Ie.nil,ac4,λt h=>absurd h (by simp)⟩
open Classical in
theorem pM.len{N:List Al}{L:List DT}(h:pM N L):Z L<=Z N:=by
 let f:DT->Nat:=λt=>if h:∃n,BZ N t n then(h.choose - 2).toNat else 0;have i:∀t∈L,∃n:Int,2<=n/\n<Z N+2/\BZ N t n/\(f t:Int)=n - 2:=λt g=>by
  obtain⟨v,l,r,e,hn⟩:=h.SQ t g;have h1:=hn.choose_spec;have j:=h1.range;have k:¬hn.choose<2:=λo=>by
   obtain⟨b,hb⟩:=h1.FW.1 o;rw[e]at hb;exact absurd hb (by simp)
  refine⟨hn.choose,by omega,j.2,h1,?_⟩;simp[f,hn,adV];omega
 refine JR f h.nodup (λt g=>?_) λs q t g e=>?_
 .obtain⟨n,h1,j,_,k⟩:=i t g;omega
 .obtain⟨n,h1,j,k,w⟩:=i s q;obtain⟨m,z,A,u,B⟩:=i t g;have:n=m:=by omega
  subst this;exact k.uniq u
theorem Mm(t:DT):∀L x,x∈emit t L->x∈L\/x.size<=t.size:=by
 induction t with
 |leaf b=>intro L x h;exact .inl h
 |node v l r g i=>
  intro L x h;unfold emit at h;split at h
  .exact .inl h
  .rcases gc.1 h with h|h
   .rcases i _ x h with h|h
    .rcases g _ x h with h|h
     .exact .inl h
     .right;simp[DT.size];omega
    .right;simp[DT.size];omega
   .simp at h;subst h;exact .inr (ci _)
theorem OF{N:List Al}(h:Bool){t:DT}{n:Int}{L:List DT}{es:List (Int×Int)}(i:BZ N t n)(j:ot N L es)(hi:HN L t):
  AH a8 217 [.d (AF n),.ptr 0 1 0 0,.ptr 1 1 0 0,.ptr 2 1 0 0,.ptr 3 1 0 0] (Qo N h L es) (.d (AF (num L t))) (Qo N h L es):=by
 have g:look es n=some (num L t):=(j n _ i).1 hi;refine zC func217 55 rfl λwf k=>?_;unfold Qo;apply yW;simp;refine xS (yW ?_);simp;apply yW;simp[g];apply AQ;simp;apply yW;simp;apply Am;refine⟨_,ap,?_⟩;simp[At]
theorem gX(N:List Al)(P:N.Nodup)(hN:Z N<=2 ^ 30)(H:Bool):∀(t:DT) (n:Int) (L:List DT) (m:List (Int×Int)),BZ N t n->pM N L->ot N L m->∃C,ot N (emit t L) C/\pM N (emit t L)/\AH a8 217 [.d (AF n),.ptr 0 1 0 0,.ptr 1 1 0 0,.ptr 2 1 0 0,.ptr 3 1 0 0] (Qo N H L m) (.d (AF (num (emit t L) t))) (Qo N H (emit t L) C):=by
 intro t;induction t with
 |leaf b=>exact λn L m o E z=>⟨m,z,E,OF H o z (.inl ⟨b,rfl⟩)⟩
 |node v l r Q R=>
  intro n L m o E z;by_cases hi:DT.node v l r∈L
  .have e:emit (.node v l r) L=L:=by simp[emit,hi]
   rw[e];exact⟨m,z,E,OF H o z (.inr hi)⟩
  .obtain⟨k,S,lo,T,U,W,X⟩:=o;obtain⟨Y,hE1,hL1,c1⟩:=Q lo L m W E z;obtain⟨es2,F,A,c2⟩:=R T (emit l L) Y X hL1 hE1;have hl:look m n=none:=(z n (.node v l r) ⟨k,S,lo,T,U,W,X⟩).2 (by rintro(⟨b,hb⟩|h);exact absurd hb (by simp);exact hi h);have e:emit (.node v l r) L=emit r (emit l L)++[.node v l r]:=by simp[emit,hi]
   rw[e];generalize i:emit r (emit l L)=g at *;have o:BZ N (.node v l r) n:=⟨k,S,lo,T,U,W,X⟩;have q:DT.node v l r∉g:=by
    intro j;rw[<-i]at j;rcases Mm _ _ _ j with j|j
    .rcases Mm _ _ _ j with j|j
     .exact hi j
     .simp[DT.size]at j;omega
    .simp[DT.size]at j;omega
   have G:pM N (g++[.node v l r]):=by
    refine⟨e▸KD (.node v l r) L E.closed,?_,?_⟩
    .rw[L2];refine⟨A.nodup,by simp,?_⟩;intro a ha b hb eab;simp at hb;subst eab;subst hb;exact q ha
    .intro t B;rcases gc.1 B with B|B
     .exact A.SQ t B
     .simp at B;subst B;exact⟨v,l,r,rfl,n,o⟩
   have hlen:Z g+1<=Z N:=by have:=G.len;simpa using this
   have s:num (g++[.node v l r]) (.node v l r)=Z g+2:=by
    simp[num];rw[List.idxOf_append,a9 q];simp
   refine⟨Cu es2 n (Z g+2),?_,G,?_⟩
   .intro n' u K;rw[Fj];by_cases en:n'=n
    .subst en;have:u=.node v l r:=K.uniq o;subst this;refine⟨λ_=>by rw[b8 rfl,s],λzm=>absurd (.inr (by simp)) zm⟩
    .have y9:u≠.node v l r:=λeu=>by subst eu;exact en (K.inj P o)
     rw[a9 en];have w:HN (g++[.node v l r]) u->HN g u:=by
      rintro(h|h)
      .exact .inl h
      .rcases gc.1 h with h|h
       .exact .inr h
       .simp at h;exact absurd h y9
     refine⟨λh=>?_,λh=>(F n' u K).2 λh'=>h (h'.mono _)⟩;rw[GL (w h)];exact(F n' u K).1 (w h)
   .obtain⟨zA,hke⟩:=er.1 U;refine zC func217 55 rfl λwf wfs=>?_;unfold Qo;apply yW;simp;refine xS (yW ?_);simp;apply yW;simp[hl];apply AQ;simp;apply B8;have hw:bv .i64 (k:Int)=k:=wrap_i64 (by omega) (by omega);have zN:bv .i64 ((Z g:Int)+1+1)=Z g+2:=wrap_i64 (by omega) (by omega);subst S;apply yW;simp[hw,zA,hke];apply yS;apply yJ;simp;refine xY (c1) _ rfl rfl ?_;simp[Qo];apply yJ;simp;(repeat apply xS);apply yT;apply yJ;simp;refine xY (c2) _ rfl rfl ?_;simp[Qo];apply yJ;simp;have hl2:Z g<=1073741823:=by omega
    apply yS;apply yJ;simp[maxLen,hl2];apply yW;simp[zN];(repeat apply xS);apply yV;simp;have il:HN (emit l L) l:=IS l L;have il2:HN g l:=by rw[<-i];exact Ny r il
    have ir:HN g r:=by rw[<-i];exact IS r _
    have e1:num (g++[DT.node v l r]) l=num (emit l L) l:=by
     rw[GL il2,<-i];obtain⟨M,hM⟩:=OR r (emit l L);rw[hM,GL il]
    have e2:num (g++[DT.node v l r]) r=num g r:=GL ir _;apply Am;refine⟨_,ea 7 ?_ (by simp) (by simp) (by simp),?_⟩
    .simp;refine⟨λa ha=>by rw[Wn A.closed ha],?_⟩;simp[dA,e1,e2,AZ,AF]
    .simp[At,clean,Fj,s]
theorem BZ.dn{N:List Al}{u:DT}{n:Int}(h:BZ N u n):HN [] u↔n<2:=by
 rw[h.FW];simp[HN]
theorem QD(N:List Al)(j:N.Nodup)(w:Z N<=2 ^ 30)(k:Bool)(t:DT)(n:Int)(z:BZ N t n):
  AH a8 167 [.ptr 0 1 0 0,.d (AF n)] [.row k 2 [.agg [.d (AX N),.any]]] (.d (AB (Ch t))) [.row k 2 [.agg [.d (AX N),.any]]]:=by
 have o:ot N [] [(0,0),(1,1)]:=by
  intro m u i;have v:=i.dn;refine⟨λh=>?_,λh=>?_⟩
  .have A:=v.1 h;have:=i.range;have q:m=0\/m=1:=by omega
   rcases q with rfl|rfl
   .rw[i.zero];rfl
   .rw[i.one];rfl
  .have A:¬m<2:=λB=>h (v.2 B);rw[Cl,a9 (by simp only;omega),Cl,a9 (by simp only;omega)];rfl
 obtain⟨E,F,G,c⟩:=gX N j w k t n [] _ z (pM.nil N) o;refine AH.F8 func167 (by kernel_rfl) rfl (by simp) λwf C=>?_;rw[ntmps167];refine xW λK g=>?_;simp;apply g;refine Gb λK g=>?_;refine xO ?_;simp;refine z0 (AJ.jE 8 0 3 rfl rfl) ?_;simp;refine xJ ?_;simp;refine CO (g _ _ ?_);refine xW λK g=>?_;simp[Cq,Ej];apply g;refine xW λK g=>?_;simp;apply g;refine xW λK g=>?_;simp;apply g;(repeat refine xS ?_);refine H9 λK g=>?_;refine xJ ?_;simp;refine AY.Ei (c) [6,1,7,4,5,0,3] rfl (by simp[Qo];try rfl) ?_;simp[Qo];(repeat((refine Cg ?_ ?_);(focus(simp;done));simp));refine CO (g _ _ ?_);(try simp only[C8]);refine xW λK g=>?_;simp;apply g;refine Am ?_;(try simp only[xQ,reduceIte]);refine⟨_,_,_,fc 3 (xs:=(emit t []).map λs=>AZ (dA (emit t []) s)) rfl (by simp),by simp,by simp[AB,Ch,tA],k6 1 (by simp)⟩
theorem Hi(a b:Al):DY (AZ a) (AZ b)=decide (a=b):=by
 cases a;cases b;rw[gI];simp[DY,CS,AZ]
section
variable {β:Type} {ev:β->V}
@[simp] theorem nZ(l:List (Al×β))(a b c:Int):Cq (BT AZ ev l) (.agg [.int .i64 a,.int .i64 b,.int .i64 c])=(look l ⟨a,b,c⟩).map ev:=Fe Hi l ⟨a,b,c⟩
@[simp] theorem ki(l:List (Al×β))(x:Al):Cq (BT AZ ev l) (AZ x)=(look l x).map ev:=Fe Hi l x
@[simp] theorem qL(l:List (Al×Int))(a b c x:Int):Ej (BT AZ (λx=>.d (.int .i64 x)) l) (.agg [.int .i64 a,.int .i64 b,.int .i64 c]) (.d (.int .i64 x))=BT AZ (λx=>.d (.int .i64 x)) (Cu l ⟨a,b,c⟩ x):=EA (ev:=λx=>V.d (.int .i64 x)) Hi l ⟨a,b,c⟩ x
@[simp] theorem oB(l:List (Al×Bool))(a b c:Int)(x:Bool):Ej (BT AZ (λx=>.d (.bool x)) l) (.agg [.int .i64 a,.int .i64 b,.int .i64 c]) (.d (.bool x))=BT AZ (λx=>.d (.bool x)) (Cu l ⟨a,b,c⟩ x):=EA (ev:=λx=>V.d (.bool x)) Hi l ⟨a,b,c⟩ x
@[simp] theorem kY(l:List (Al×Bool))(y:Al)(x:Bool):Ej (BT AZ (λx=>.d (.bool x)) l) (AZ y) (.d (.bool x))=BT AZ (λx=>.d (.bool x)) (Cu l y x):=EA (ev:=λx=>V.d (.bool x)) Hi l y x
@[simp] theorem cm(l:List (Al×β)):BW (.cells [.int .i64,.int .i64,.int .i64]) (BT AZ ev l)=True:=eq_true (FJ (by intro a;simp[B1,Bx,B3,AZ]) l)
@[simp] theorem kS(y:Al):B1 (.cells [.int .i64,.int .i64,.int .i64]) (AZ y)=true:=by simp[B1,Bx,B3,AZ]
end
def AO.Hk(d:AO)(n v:Int):Int:=if d.level n=v then(match d.nodes[(n - 2).toNat]? with|some x=>x.low|none=>0)else n
def AO.Hf(d:AO)(n v:Int):Int:=if d.level n=v then(match d.nodes[(n - 2).toNat]? with|some x=>x.high|none=>0)else n
theorem QK(d:AO)(n v:Int)(hn:n<2+Z d.nodes)(o:v<64):Pure a8 280 [AB d,AF n,AF v] (.CA [AF (d.Hk n v),AF (d.Hf n v)]):=by
 refine ip func280 rfl rfl (by simp) λwf=>?_;simp[Bq,Dh,Da]at wf;rw[ntmps280];apply yW;simp;refine xS (yS ?_);apply yJ;simp;refine Bz (I7 d n hn) rfl (by simp[xN]) (yJ ?_);simp;apply AQ;simp;refine⟨λh=>?_,λh=>?_⟩
 .apply yW;simp;refine Am ⟨_,_,ap,?_⟩;simp[AO.Hk,AO.Hf,h]
 .have g:¬n<2:=by intro g;simp[AO.level,g]at h;omega
  have j:bv .i64 (n - 2)=n - 2:=wrap_i64 (by omega) (by omega);have i:(n - 2).toNat<Z d.nodes:=by omega
  have k:n - 2<(Z d.nodes:Int):=by omega
  have m:2<=n:=by omega
  apply xK;(repeat apply xS);refine yE (A3 16 []) (by kernel_rfl) ?_;simp;apply yA 0;simp[j,i,k,m];apply zT;simp[AO.Hk,AO.Hf,h,i]
def TC(f:FuncId)(g:Bool->Bool->Bool):Prop:=∀x y,Pure a8 f [.bool x,.bool y] (.bool (g x y))
theorem GZ:TC 211 and:=λx y=>by
 refine zP func211 9 rfl λwf=>?_;apply yW;simp;apply yW;simp;apply zT;try simp
theorem JJ:TC 214 or:=λx y=>by
 refine zP func214 9 rfl λwf=>?_;apply yW;simp;apply yW;simp;apply zT;try simp
theorem mQ:TC 216 (λx _=>!x):=λx y=>by
 refine zP func216 7 rfl λwf=>?_;apply yW;simp;apply yW;simp;apply zT;try simp
theorem Xd{f:FuncId}{g:Bool->Bool->Bool}(h:TC f g)(x y z:Bool):AH a8 261 [.d (.bool x),.d (.bool y),.d (.bool z),.ptr 0 1 0 0] [.row J 1 [.fn (.func f) [] []]] (.d (.bool (g x y))) [.row J 1 [.fn (.func f) [] []]]:=by
 refine zC func261 12 rfl λwf i=>?_;apply yW;simp;(repeat apply xS);apply yT;apply yJ;simp;refine Bz (h x y) rfl (by simp) (yJ ?_);simp;apply Am;refine⟨_,ap,?_⟩;simp[At]
theorem Xa(d:AO):Pure a8 259 [AB d] (.CA [AB (if Z d.nodes>4096 then⟨[],0⟩else d),AF (if Z d.nodes>4096 then 2 else 0)]):=by
 refine zP func259 10 rfl λwf=>?_;apply yW;simp;refine xS (yW ?_);simp;apply AQ;simp;refine⟨λh=>?_,λh=>?_⟩
 .have h:Z d.nodes>4096:=by omega
  apply yW;simp;refine Am ⟨_,_,ap,?_⟩;simp[h,AB]
 .have h:¬Z d.nodes>4096:=by omega
  apply xK;apply yW;simp;apply zT;(try simp);have e:(if 4096<Z d.nodes then(⟨[],0⟩:AO)else d)=d:=a9 (by omega);rw[e];exact⟨rfl,by omega⟩
def fT(N:List Al)(kn:List (Al×Int)):Sg:=
 [.row J 2 [.agg [.row 1 (Z N),.map 2]],.row (!N.isEmpty) 3 (N.map λx=>.d (AZ x)),.map (BT AZ (λx=>.d (.int .i64 x)) kn)]
theorem Q8:AH a8 278 [] [] (.ptr 2 1 0 0) [.map [],.row am 3 [],.row J 2 [.agg [.row 1 0,.map 0]]]:=by
 refine zC func278 4 rfl λwf g=>?_;apply yW;simp;(repeat apply xS);apply yT;apply xO;simp;apply xO;simp;refine z0 (AJ.jE 2 0 3 rfl rfl) ?_;simp;apply yJ;simp;apply Am;refine⟨_,ap,?_⟩;simp[At]
def Ob(N:List Al)(kn:List (Al×Int))(v lo hi:Int):List Al×List (Al×Int)×Int:=
 if lo=hi then(N,kn,lo)else match look kn ⟨v,lo,hi⟩with
  |some n=>(N,kn,n)
  |none=>(N++[⟨v,lo,hi⟩],Cu kn ⟨v,lo,hi⟩ (Z N+2),Z N+2)
theorem ax(N:List Al)(kn:List (Al×Int))(v lo hi:Int)(m:Z N<2 ^ 30):
  AH a8 281 [.ptr 0 1 0 0,.d (AF v),.d (AF lo),.d (AF hi)] (fT N kn) (.d (AF (Ob N kn v lo hi).2.2)) (fT (Ob N kn v lo hi).1 (Ob N kn v lo hi).2.1):=by
 refine j0 func281 (by kernel_rfl) rfl (by simp) λwf j=>?_;rw[ntmps281];unfold fT;apply yW;simp;refine xS (yW ?_);simp;refine AQ ?_;simp;refine⟨λh=>?_,λh=>?_⟩
 .apply yW;simp;refine Am ?_;(try simp only[yQ,reduceIte]);refine⟨_,rr (by simp[Ob,h]),?_⟩;simp[At,Ob,h]
 .refine xK ?_;apply yW;simp;refine yD (A3 11 []) (by kernel_rfl) ?_;simp;refine yA 0 ?_;simp;refine xS (yW ?_);simp;cases g:look kn ⟨v,lo,hi⟩with
  |some n=>
   refine AQ ?_;simp;refine xK ?_;apply yW;simp;refine Am ?_;(try simp only[yQ,reduceIte]);refine⟨_,ea 3 (by simp[Ob,h,g]) (by simp) (by simp) (by simp),?_⟩;simp[At,clean,Ob,h,g]
  |none=>
   have i:Z N<=1073741823:=by omega
   have k:bv .i64 ((Z N:Int)+1+1)=Z N+2:=wrap_i64 (by omega) (by omega);refine AQ ?_;simp;refine yD (A3 7 [15,16,18,21]) (by kernel_rfl) ?_;simp;(repeat(refine Ad.tw ?_ ?_;(·simp);simp));(repeat((refine H3 ?_ ?_);(focus(simp[maxLen];done));simp[maxLen]));((refine xp [J,am,J,am,am,am,am] (by kernel_rfl) ?_ ?_);(focus(simp[i];done));simp);refine yA 2 ?_;simp;refine xX 125 (by kernel_rfl) ?_;simp;apply xM;apply yW;simp[k];refine yE (A3 6 [13]) (by kernel_rfl) ?_;simp;refine yA 0 ?_;simp;refine xX 63 (by kernel_rfl) ?_;simp;apply xM;apply yW;simp;refine Am ?_;(try simp only[yQ,reduceIte]);refine⟨_,ea 3 (by simp[Ob,h,g,AZ]) (by simp) (by simp) (by simp),?_⟩;simp[At,clean,Ob,h,g]
open Go.Proofs DT
structure BK(N:List Al)(kn:List (Al×Int)):Prop where
 mM:QZ N
 kn:∀b n,look kn b=some n↔∃k:Nat,N[k]?=some b/\n=k+2
theorem BK.nil:BK [] []:=⟨QZ.nil,λb n=>by simp⟩
theorem gm{N:List Al}{kn:List (Al×Int)}(h:BK N kn){v lo hi:Int}{s t:DT}(h0:0<=v)(h1:v<=63)(w:s.Good)(E:t.Good)(F:v<s.level)(lt:v<t.level)
  (j:BZ N s lo) (q:BZ N t hi):BK (Ob N kn v lo hi).1 (Ob N kn v lo hi).2.1/\(∃M,(Ob N kn v lo hi).1=N++M)/\BZ (Ob N kn v lo hi).1 (DT.mk v s t) (Ob N kn v lo hi).2.2/\(DT.mk v s t).Good/\∀k:Nat,Z N<=k->k<Z (Ob N kn v lo hi).1->(Ob N kn v lo hi).2.2=k+2:=by
 by_cases m:lo=hi
 .subst m;have e:s=t:=j.uniq q;subst e;have em:DT.mk v s s=s:=by simp[DT.mk]
  simp only[Ob,kw];rw[em];exact⟨h,⟨[],by simp⟩,j,w,λk h1 o=>absurd o (by omega)⟩
 .have G:s≠t:=λe=>by subst e;exact m (j.inj h.mM.nodup q)
  have em:DT.mk v s t=.node v s t:=by simp[DT.mk,G]
  cases u:look kn ⟨v,lo,hi⟩with
  |some n=>
   have e:Ob N kn v lo hi=(N,kn,n):=by simp[Ob,m,u]
   rw[e,em];obtain⟨k,g,hn⟩:=(h.kn _ _).1 u;exact⟨h,⟨[],by simp⟩,⟨k,hn,lo,hi,g,j,q⟩,⟨h0,h1,G,F,lt,w,E⟩,λk h1 o=>absurd o (by simp only;omega)⟩
  |none=>
   have e:Ob N kn v lo hi=(N++[⟨v,lo,hi⟩],Cu kn ⟨v,lo,hi⟩ (Z N+2),(Z N:Int)+2):=by simp[Ob,m,u]
   rw[e,em];have i:(⟨v,lo,hi⟩:Al)∉N:=λK=>by
    obtain⟨k,g,z⟩:=oi.1 K;have:=(h.kn ⟨v,lo,hi⟩ (k+2)).2 ⟨k,by rw[dl g,z],rfl⟩;rw[u]at this;cases this
   obtain⟨L,P,Q⟩:=h.mM.snoc h0 h1 w E F lt j q m i;refine⟨⟨L,λb n=>?_⟩,⟨_,rfl⟩,P,Q,λk h1 o=>?_⟩
   .rw[Fj];by_cases A:b=⟨v,lo,hi⟩
    .subst A;rw[b8 rfl];constructor
     .intro H;simp at H;exact⟨Z N,by simp,H.symm⟩
     .rintro⟨k,g,rfl⟩;by_cases B:k<Z N
      .rw[i5 B]at g;exact absurd (pu g) i
      .have C:=(er.1 g).1;simp at C;have:k=Z N:=by omega
       subst this;rfl
    .rw[a9 A,h.kn];constructor
     .rintro⟨k,g,rfl⟩;refine⟨k,?_,rfl⟩;rw[i5 (er.1 g).1];exact g
     .rintro⟨k,g,rfl⟩;refine⟨k,?_,rfl⟩;by_cases B:k<Z N
      .rw[i5 B]at g;exact g
      .have C:=(er.1 g).1;simp at C;have:k=Z N:=by omega
       subst this;simp at g;exact absurd g.symm A
   .simp at o;simp only;omega
theorem BZ.level{d:AO}{s:DT}{n:Int}(h:BZ d.nodes s n):d.level n=s.level:=by
 cases s with
 |leaf b=>have:=h.FW.2 ⟨b,rfl⟩;simp[AO.level,this,ae3]
 |node v l r=>
  obtain⟨k,i,lo,hi,e,_,_⟩:=h;have:¬n<2:=by omega
  have g:(n - 2).toNat=k:=by omega
  simp[AO.level,this,g,e,ae3]
theorem BZ.lt{N:List Al}{s:DT}{n:Int}(h:BZ N s n):n<2+Z N:=by have:=h.range;omega
theorem BZ.Hk{d:AO}{s:DT}{n v:Int}(h:BZ d.nodes s n)(j:v<64):BZ d.nodes (s.lo v) (d.Hk n v):=by
 unfold AO.Hk;rw[h.level];split
 .next e=>
  cases s with
  |leaf b=>simp[ae3]at e;omega
  |node w l r=>
   obtain⟨k,m,lo,hi,g,h1,o⟩:=h;simp[ae3]at e;subst e;have i:(n - 2).toNat=k:=by omega
   simp[i,g,DT.lo];exact h1
 .next e=>rw[Sb e];exact h
theorem BZ.Hf{d:AO}{s:DT}{n v:Int}(h:BZ d.nodes s n)(m:v<64):BZ d.nodes (s.hi v) (d.Hf n v):=by
 unfold AO.Hf;rw[h.level];split
 .next e=>
  cases s with
  |leaf b=>simp[ae3]at e;omega
  |node w l r=>
   obtain⟨k,o,lo,hi,g,h1,i⟩:=h;simp[ae3]at e;subst e;have j:(n - 2).toNat=k:=by omega
   simp[j,g,DT.hi];exact i
 .next e=>rw[Ta e];exact h
abbrev ca:=Int×Int×Int
def SL(t:ca):D:=.agg [.int .i64 t.1,.int .i64 t.2.1,.int .i64 t.2.2]
theorem p8(a b:ca):DY (SL a) (SL b)=decide (a=b):=by
 obtain⟨g,h,i⟩:=a;obtain⟨j,k,m⟩:=b;rw[gI];simp[DY,CS,SL]
section
variable {β:Type} {ev:β->V}
@[simp] theorem wV(l:List (ca×β))(a b c:Int):Cq (BT SL ev l) (.agg [.int .i64 a,.int .i64 b,.int .i64 c])=(look l (a,b,c)).map ev:=Fe p8 l (a,b,c)
@[simp] theorem x6(l:List (ca×Int))(a b c x:Int):Ej (BT SL (λx=>.d (.int .i64 x)) l) (.agg [.int .i64 a,.int .i64 b,.int .i64 c]) (.d (.int .i64 x))=BT SL (λx=>.d (.int .i64 x)) (Cu l (a,b,c) x):=EA (ev:=λx=>V.d (.int .i64 x)) p8 l (a,b,c) x
@[simp] theorem tF(l:List (ca×β)):BW (.cells [.int .i64,.int .i64,.int .i64]) (BT SL ev l)=True:=eq_true (FJ (by intro a;simp[B1,Bx,B3,SL]) l)
end
def vv:V:=.fn (.func 279) [] [.ptr 0 1 0 0,.ptr 1 1 0 0,.ptr 2 1 0 0,.ptr 3 1 0 0,.ptr 4 1 0 0]
def vW:V:=.fn (.func 261) [] [.ptr 9 1 0 0]
attribute [simp] vv vW
def Nf(f:FuncId)(a b c:AO)(N:List Al)(kn:List (Al×Int))(memo:List (ca×Int)):Sg:=
 [.row J 1 [vW],.row J 1 [.map 6],.row J 6 [.d (.agg [AX a.nodes,AF a.root,AX b.nodes,AF b.root,AX c.nodes,AF c.root])],.row J 1 [vv],.row J 1 [.ptr 5 1 0 0],.row J 2 [.agg [.row 7 (Z N),.map 8]],.map (BT SL (λx=>.d (.int .i64 x)) memo),.row (!N.isEmpty) 3 (N.map λx=>.d (AZ x)),.map (BT AZ (λx=>.d (.int .i64 x)) kn),.row J 1 [.fn (.func f) [] []]]
structure UU(g:Bool->Bool->Bool)(s0 s1 s2:DT)(N:List Al)(r:Int)(t:DT):Prop where
 SQ:BZ N t r
 G9:t.Good
 B9:∀c,t.B9 c=g (s0.B9 c) (s1.B9 c)
 yG:min s0.level (min s1.level s2.level)<=t.level
structure CI(g:Bool->Bool->Bool)(a b c:AO)(N:List Al)(kn:List (Al×Int))(memo:List (ca×Int)):Prop extends BK N kn where
 memo:∀x y z r,look memo (x,y,z)=some r->∀s0 s1 s2,BZ a.nodes s0 x->BZ b.nodes s1 y->BZ c.nodes s2 z->s0.Good->s1.Good->s2.Good->∃t,UU g s0 s1 s2 N r t
 src:∀k:Nat,k<Z N->∃x y z s0 s1 s2 t,BZ a.nodes s0 x/\BZ b.nodes s1 y/\BZ c.nodes s2 z/\UU g s0 s1 s2 N (k+2) t
theorem UU.mono{g:Bool->Bool->Bool}{i j k t:DT}{N:List Al}{r:Int}(h:UU g i j k N r t)(M:List Al):UU g i j k (N++M) r t:=⟨h.SQ.mono M,h.G9,h.B9,h.yG⟩
open Classical in
theorem CI.len{g:Bool->Bool->Bool}{a b c:AO}{N:List Al}{kn:List (Al×Int)}{memo:List (ca×Int)}(h:CI g a b c N kn memo):
  Z N<=(Z a.nodes+2) * (Z b.nodes+2) * (Z c.nodes+2):=by
 let f:Nat->Nat:=λk=>if i:k<Z N then
  ((h.src k i).choose.toNat * (Z b.nodes+2)+(h.src k i).choose_spec.choose.toNat) * (Z c.nodes+2)+(h.src k i).choose_spec.choose_spec.choose.toNat else 0
 have H:∀k,k<Z N->∃x y z o q s t,BZ a.nodes o x/\BZ b.nodes q y/\BZ c.nodes s z/\UU g o q s N (k+2) t/\f k=(x.toNat * (Z b.nodes+2)+y.toNat) * (Z c.nodes+2)+z.toNat:=λk i=>by
  obtain⟨o,q,s,t,u,v,E,w⟩:=(h.src k i).choose_spec.choose_spec.choose_spec;exact⟨_,_,_,o,q,s,t,u,v,E,w,by simp[f,i,adV]⟩
 have key:=JR f (l:=List.range (Z N)) (n:=(Z a.nodes+2) * (Z b.nodes+2) * (Z c.nodes+2)) List.nodup_range (λk i=>?_) (λk i k' K e=>?_)
 .simpa using key
 .obtain⟨x,y,z,o,q,s,t,u,v,E,w,L⟩:=H k (by simpa using i);have r1:=u.range;have r2:=v.range;have r3:=E.range;rw[L];have h1:x.toNat+1<=Z a.nodes+2:=by omega
  have h2:y.toNat+1<=Z b.nodes+2:=by omega
  have h3:z.toNat+1<=Z c.nodes+2:=by omega
  generalize x.toNat=X at *;generalize y.toNat=Y at *;generalize z.toNat=zQ0 at *;generalize Z a.nodes+2=A at *;generalize Z b.nodes+2=B at *;generalize Z c.nodes+2=C at *;have M:X * B+Y+1<=A * B:=by
   have:=abg B h1;rw[sw]at this;omega
  have:=abg C M;rw[sw]at this;omega
 .obtain⟨x,y,z,o,q,s,t,u,v,E,w,L⟩:=H k (by simpa using i);obtain⟨P,Q,z',s0',s1',s2',t',F,G,R,j,S⟩:=H k' (by simpa using K);have r1:=u.range;have r2:=v.range;have r3:=E.range;have r1':=F.range;have r2':=G.range;have r3':=R.range;rw[L,S]at e;have ez:z.toNat=z'.toNat:=by
   have:=mn (·% (Z c.nodes+2)) e;simp[acR _ (Z c.nodes+2)]at this;rwa [ww (by omega),ww (by omega)]at this
  rw[ez]at e;have U:x.toNat * (Z b.nodes+2)+y.toNat=P.toNat * (Z b.nodes+2)+Q.toNat:=ae1 (m:=Z c.nodes+2) (by omega) (by omega);have T:y.toNat=Q.toNat:=by
   have:=mn (·% (Z b.nodes+2)) U;simp[acR _ (Z b.nodes+2)]at this;rwa [ww (by omega),ww (by omega)]at this
  rw[T]at U;have W:x.toNat=P.toNat:=ae1 (m:=Z b.nodes+2) (by omega) (by omega);have W:x=P:=by omega
  have T:y=Q:=by omega
  subst W;subst T;have e0:=u.uniq F;have M:=v.uniq G;subst e0;subst M;have et:t=t':=DT.unique w.G9 j.G9 λc=>by rw[w.B9,j.B9]
  subst et;have:=w.SQ.inj h.mM.nodup j.SQ;omega
end Go.Koi
