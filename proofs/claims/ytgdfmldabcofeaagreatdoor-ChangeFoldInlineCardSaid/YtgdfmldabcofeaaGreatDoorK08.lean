/-
  Part 9 of the proof that the law ChangeFoldInline returns true for every input.
-/
import Derived.Test.YtgdfmldabcofeaaGreatDoorK07
import Derived.Recover
import Derived.Test.YtgdfmldabcofeaaGreatDoorK04
set_option maxHeartbeats 64000000
set_option maxRecDepth 100000
namespace Go.Koi
open Go renaming FuncId->cP,Oper->cL,Program->b8,maxLen->al
abbrev adt:=@Array.eq_empty_of_size_eq_zero
section
variable {P:b8} {n b:Nat} {o:cL} {tm tm':Tm} {S S0 S0' S':Sg} {v:V} {ops:Array cL} {Q:Exit->Tm->Sg->Prop}
def gY(P:b8)(g:cP):Prop:=OO P g=true/\∀(cap:Array Value) (w:World),CallsD P g cap .returning w λe u h=>(∃v,e=.returned v)/\u=.returning/\h=w
theorem W4{fn:Func}{R:V->Sg->Prop}{G:Gh}{w:World}(K:Rel P G S w){ds:List Deferred}{z:Act}{w':World}{m:Gh}{tm':Tm}(A:Gu P fn.ntmps S.length G S w ds z w' m S0 tm')
  (U:UF P fn.ntmps S.length fn.results.toList R .ret tm' S0):
  ∃x,(results fn z.tmps).run P w'=.ok x w'/\∃m v S',R v S'/\CV m S' w' v x/\Rel P m S' w'/\Tr G S w m S' w'/\BL G S w m S' w':=by
 obtain⟨E,B,g,h1,v,S',L,W⟩:=U;obtain⟨t,j,t1,l1⟩:=g m w' z A.st A.late.len;obtain⟨k,M,q,C⟩:=LX j fn.results.toList h1;have X:∀(k:List Value) (s:List V),k.length=s.length->(∀i (h:i<k.length) (h':i<s.length),CV t B w' s[i] k[i])->CV t B w' (TO s) (pack k):=λk s q C=>by
  match k,s with
  |[],[]=>exact .Cb _ _ rfl (λi h=>by simp at h)
  |[x],[y]=>exact C 0 (by simp) (by simp)
  |x::x'::xs,y::y'::ys=>
   refine .Cb _ _ (by simpa using q) (λi h=>?_);have:=C i (by omega) h;simpa using this
  |[],_::_=>simp at q
  |_::_,[]=>simp at q
  |[_],_::_::_=>simp at q
  |_::_::_,[_]=>simp at q
 have N:CV t B w' (Lc P E B fn.results.toList) (pack k):=X k _ q C;have tr:=A.tr.trans t1;have T:=A.late.trans l1;rcases W with⟨d,Y,F,rfl,Z⟩|⟨F,rfl⟩
 .obtain⟨G2,H,t2,l2⟩:=Z t w' z j l1.len;have u:=tr.trans t2;have J:=T.trans l2;exact⟨_,Ga M,G2,.d d,S',L,.d _ _ ((N.Ba j.rel F).mono t2.I (λ_ _=>rfl)),H.rel,u,J.later K u⟩
 .exact⟨_,Ga M,t,v,S',L,F▸N,j.rel,tr,T.later K tr⟩
def dK(P:b8)(n:Nat)(ops:Array cL)(g:cP)(tm:Tm)(S:Sg)(tm':Tm):Prop:=
 ∃o1 i t h j,ops=#[o1,i]/\o1.guard=none/\i.guard=none/\EE P n ops o1 tm S/\Dc P ops o1 tm S=.fn (.func g) [] h/\oS P o1 tm S=S/\o1.dst=some t/\t<n/\i.op=.defer ⟨.value (.tmp t),#[],j⟩/\i.dst=none/\tm'=FP tm t (.fn (.func g) [] h)
theorem YY{g:cP}(K:dK P n ops g tm S tm'){id:Nat}{G:Gh}{w:World}{a:Act}{F:Exit->Act->World->Prop}(st:St P n G S w a tm)(hb:b<=S.length)
  (h:∀m q s d cap,St P n s S q m tm'->m.defers=d::a.defers->d.target=.fn (.func g) cap->d.args=#[]->Tr G S w s S q->E7 b G S s S->F .normal m q):(Code.region id ops false).wp P F a w:=by
 obtain⟨o1,u,t,H,L,rfl,g1,M,h1,N,R,T,h5,U,W,rfl⟩:=K;apply R3;have J:=Step.D7 (b:=b) (i:=0) (ops:=#[o1,u]) (o:=o1) (n:=n) (P:=P) (tm:=tm) (S:=S) rfl h1;rw[N,R,T]at J;have Y:List.range (#[o1,u]:Array cL).size=[0,1]:=rfl;rw[Y,vj];refine J G w a _ _ st hb λz A Z j=>?_;rw[vj];unfold wpOp;simp[Region.wanted,M];left;have B:=j.st.tm t;simp only[put,FP,er]at B;generalize hX:z.tmps.getD t undef=X at B;cases B with
 |fn _ _ _ xs k q1 q2 q3 q4=>
  have C:xs=#[]:=by apply adt;simpa using q1
  subst C;unfold Oper.wp;have vm:(execOp z.eval u).run P A=.ok (.defer {target:=.fn (.func g) k,args:=#[]}) A:=by
   have E:z.eval (.tmp t)=.func (.func g) #[] k:=hX;simp[execOp,U,resolve,E,Deferred.ofValue]
  rw[vm];simp[Oper.upon,W,Act.put];simp[wpOps];refine h _ A Z {target:=.fn (.func g) k,args:=#[]} k ⟨j.st.size,j.st.tm,j.st.rel⟩ (by rw[j.ds]) rfl rfl j.tr j.late
theorem BP.mF{f g:cP}{fn:Func}{c1 c2 c3:Code}{id:Nat}{B:Array cL}{args:List V}{R:V->Sg->Prop}(hf:P.funcs[f]?=some fn)(wA:(fn.name== "runtime.NumGoroutine")=false)
  (hb:fn.body=some (.seq c1 (.seq c2 (.seq (.region id B false) c3)))) (hn:args.length<=fn.ntmps) (hg:gY P g)
  (h:Hw args->OI S->AW P fn.ntmps S.length c1 (C4 (AW P fn.ntmps S.length c2 (C4 (λH S2=>∃J,dK P fn.ntmps B g H S2 J/\AW P fn.ntmps S.length c3 (UF P fn.ntmps S.length fn.results.toList R) J S2) (UF P fn.ntmps S.length fn.results.toList R))) (UF P fn.ntmps S.length fn.results.toList R)) (E3 args) S):BP P f args S R:=by
 refine⟨by simp[OO,hf,wA,hb],λG w j R0 vr vl=>?_⟩;refine calls_of_wp_defers hf hb ?_;have st:St P fn.ntmps G S w {tmps:=j++Array.replicate (fn.ntmps - j.size) undef,defers:=[]} (E3 args):=by
  refine⟨by simp;omega,λk=>?_,R0⟩;unfold E3;by_cases hk:k<args.length
  .have e1:args.getD k .any=args[k]:=by simp[List.getD,hk]
   have e2:(j++Array.replicate (fn.ntmps - j.size) undef).getD k undef=j[k]'(by omega):=by
    rw[pi,abX (by omega)];simp[show k<j.size by omega]
   simp only[e1,e2];exact vl k hk (by omega)
  .have e1:args.getD k .any=.any:=by simp[List.getD,np (show args.length<=k by omega)]
   rw[e1];exact .any _
 have T:Hw args/\OI S:=⟨H6 λi hi=>by
  have:=st.tm i;have e:E3 args i=args[i]:=by simp[E3,List.getD,hi]
  rw[e]at this;exact this.wf,st.rel.tT⟩
 have h:=h T.1 T.2;have C:∀{z m q S0 tm'},Gu P fn.ntmps S.length G S w [] z m q S0 tm'->UF P fn.ntmps S.length fn.results.toList R .ret tm' S0->Leaves P fn z.tmps (λe m=>∃cv q v S',R v S'/\e=.returned cv/\CV q S' m v cv/\Rel P q S' m/\Tr G S w q S' m/\BL G S w q S' m) z.defers .returning m:=λ{z m q S0 tm'} U hq=>by
  obtain⟨x,hx,W,v,S',hR,k1,k2,k3,k4⟩:=W4 R0 U hq;rw[U.ds];exact⟨x,hx,x,W,v,S',hR,rfl,k1,k2,k3,k4⟩
 have E:∀{z m q S0 tm'} {d:Deferred} {cap:Array Value},Gu P fn.ntmps S.length G S w [d] z m q S0 tm'->d.target=.fn (.func g) cap->d.args=#[]->UF P fn.ntmps S.length fn.results.toList R .ret tm' S0->Leaves P fn z.tmps (λe m=>∃cv q v S',R v S'/\e=.returned cv/\CV q S' m v cv/\Rel P q S' m/\Tr G S w q S' m/\BL G S w q S' m) z.defers .returning m:=λ{z m q S0 tm' d cap} U A X hq=>by
  obtain⟨x,hx,W,v,S',hR,k1,k2,k3,k4⟩:=W4 R0 U hq;rw[U.ds];obtain⟨dt,da⟩:=d;simp only at A X;subst A;subst X;obtain⟨t,hg2⟩:=hg;refine leaves_cons (f:=g) (args:=cap) (by simp) ?_ ((hg2 cap m).mono λe u' w'' hh=>?_)
  .unfold OO at t;split at t
   .rename_i fn2 Y;simp[ne_eq]at t;obtain⟨b2,wx⟩:=jw.1 t.2;simp[invoke,callFunc,Y,t.1,wx]
   .cases t
  .obtain⟨⟨v',rfl⟩,rfl,rfl⟩:=hh;exact⟨x,hx,x,W,v,S',hR,rfl,k1,k2,k3,k4⟩
 refine vw (vX (h G w _ st (br _)) λZ a1 w1 hl=>?_);obtain⟨G1,S1,tm1,M,K⟩:=hl;cases Z with
 |exit=>exact K.elim
 |goto=>exact K.elim
 |panic=>exact K.elim
 |outgrown=>exact K.elim
 |ret=>exact C M K
 |normal=>
  simp[C4]at K;refine vw (vX (K G1 w1 a1 M.st M.late.len) λZ a2 w2 hl=>?_);obtain⟨W,S2,H,L,N⟩:=hl;have s:Gu P fn.ntmps S.length G S w [] a2 w2 W S2 H:=⟨L.st,L.ds.trans M.ds,M.tr.trans L.tr,M.late.trans L.late⟩;cases Z with
  |exit=>exact N.elim
  |goto=>exact N.elim
  |panic=>exact N.elim
  |outgrown=>exact N.elim
  |ret=>exact C s N
  |normal=>
   obtain⟨J,hdr,haw⟩:=N;refine vw (YY hdr L.st L.late.len λa3 w3 G3 d cap st3 A X hd3 t3 l3=>?_);refine vX (haw G3 w3 a3 st3 L.late.len) λZ a4 w4 hl=>?_;obtain⟨G4,S4,tm4,yb,u⟩:=hl;have F:Gu P fn.ntmps S.length G S w [d] a4 w4 G4 S4 tm4:=⟨yb.st,by rw[yb.ds,A,s.ds],(s.tr.trans t3).trans yb.tr,(s.late.trans l3).trans yb.late⟩;cases Z with
   |exit=>exact u.elim
   |goto=>exact u.elim
   |panic=>exact u.elim
   |outgrown=>exact u.elim
   |ret=>exact E F X hd3 u
   |normal=>exact E F X hd3 u
end
section
variable {P:b8} {n b:Nat} {o:cL} {tm tm':Tm} {S S0 S0' S':Sg} {v:V} {ops:Array cL} {K:Tm->Sg->Prop}
theorem Step.HN{i j:Nat}{g:Bool}(hi:ops[i]?=some o)(q:BA n o.dst)(s:o.guard=some (j,g))(t:CW ops tm j g=some true)
  (h:Cf P n o tm S v S'):Step P n b ops i tm S (put tm o.dst v) S':=λG w a u Q st hb k=>by
 unfold wpOp;simp[hi,RM st s t];exact .inl (h G w a u Q st λcv C z h1 A B m=>k _ _ z ⟨st.put q h1 A m,B8,B,m.late hb⟩)
theorem FJ{rest:List cL}{j:Nat}{g:Bool}(i:o.guard=some (j,g))(h:BA n o.dst/\CW ops tm j g=some false)
  (k:AV P n b ops rest (put tm o.dst (.opt false (.d (.bool false)))) S K):AV P n b ops (o::rest) tm S K:=
 Do (λ_ hi=>Step.Fw (v:=.d (.bool false)) hi h.1 i h.2 λe=>by cases e) k
theorem AV.QC{rest:List cL}{c:Call}{f:cP}{g:List V}{j:Nat}{i:Bool}(h:AG P f g S0 v S0')(k:List Nat)(q:o.op=.call c)(s:o.guard=some (j,i))
  (t:CW ops tm j i=some true/\BA n o.dst/\BE tm c/\Ch tm c f g k/\Eg S S0 k/\k.length<=S0'.length/\g.all (AP k.length)=true)
  (u:AV P n b ops rest (put tm o.dst (Bc (EF (nameOf k) k.length S.length) v)) (C8 S S0' k) K):AV P n b ops (o::rest) tm S K:=by
 obtain⟨w,z,A,m,B,C,E⟩:=t;unfold Ch at m;split at m
 .rename_i G args F;obtain⟨rfl,rfl⟩:=m;exact Do (λ_ hi=>Step.HN hi z s w (HH q F A (h.Eb k B C E))) u
 .exact m.elim
theorem AV.CG{rest:List cL}{c:Call}{f:cP}{ds:List D}{d:D}{j:Nat}{g:Bool}(h:Pure P f ds d)(i:o.op=.call c)(k:o.guard=some (j,g))
  (m:CW ops tm j g=some true/\BA n o.dst/\BE tm c/\Fk S tm c f ds)
  (q:AV P n b ops rest (put tm o.dst (.d d)) S K):AV P n b ops (o::rest) tm S K:=by
 obtain⟨s,t,u,w⟩:=m;obtain⟨args,z,A⟩:=F9 w;exact Do (λ_ hi=>Step.HN hi t k s (HH i z u (h.call A))) q
abbrev i7:=@AV.CG
theorem QX{rest:List cL}{j:Nat}{g:Bool}(i:o.guard=some (j,g))(h:CW ops tm j g=some true/\BA n o.dst/\Bd P o.op tm S)
  (k:AV P n b ops rest (put tm o.dst (Bh P o.op tm S)) (DC P o.op tm S) K):AV P n b ops (o::rest) tm S K:=
 Do (λ_ hi=>Step.HN hi h.2.1 i h.1 (Lk h.2.2)) k
theorem AW.Fp{x y:Code}{Q:Exit->Tm->Sg->Prop}{R:Tm->Sg->Prop}(h1:AW P n b x (C4 R Q) tm S)(h:∀tm S,R tm S->AW P n b y Q tm S):AW P n b (.seq x y) Q tm S:=by
 refine xS (h1.mono λi tm S g=>?_);cases i<;>first|exact g|exact h _ _ g
abbrev k7:=@AW.Fp
end
section
variable {P:b8} {n b:Nat} {o:cL} {tm tm':Tm} {S S0 S0' S':Sg} {v:V} {ops:Array cL} {K:Tm->Sg->Prop}
theorem Zh{T E:TypeId}{g:Nat}{y:Operand}{k:IntKind}{i:Int}(u:o.op=.indexAddr T (.global g) y)(z:(P.globals[g]?).map (·.name)=some "math/bits.deBruijn64tab")(A:EX P T=some (64,E))
  (B:Aq P E=some 1) (C:need (ev tm y)) (F:strip (ev tm y)=.d (.int k i)) (h0:0<=i) (h1:i<64):Cf P n o tm S (.DX [.int .u8 (Bz.getD i.toNat 0)]) S:=.pure λG w a st=>by
 have hi:=CE st C F;obtain⟨t,H,J⟩:=Qm A;obtain⟨e,f1,f2,_⟩:=CM B;obtain⟨d,L,m⟩:=An H w;have q:d=.array 64 E:=by rw[J]at m;cases d<;>simp[tk]at m⊢;exact m
 subst q;have s:a.eval (.global g)=.pointer (some ⟨g,0,none⟩):=rfl;obtain⟨M,N⟩:=st.rel.GQ g z;have h:i.toNat<Bz.length:=by simp[Bz];omega
 refine⟨.pointer (some ⟨g,0+i.toNat,none⟩),?_,.DX _ _ _ (λ_=>.int .u8 Bz[i.toNat]) M λj hj=>?_⟩
 .simp[execOp,u,s,hi,Instr.indexAt,asIntOf,L,Instr.sureAddr,Gf];rw[ap ⟨h0,by exact_mod_cast h1⟩];simp[Bi f1,show e.size=1 from f2]
 .have:j=0:=by simp at hj;omega
  subst this;have hb:∀l<64,0<=Bz.getD l 0/\Bz.getD l 0<64:=by decide
  have hb:=hb i.toNat (by omega);have e:Bz.getD i.toNat 0=Bz[i.toNat]:=by simp[List.getD,h]
  rw[e]at hb⊢;refine⟨by simpa using N i.toNat h,.int _ _ ?_,rfl⟩;simp[IL];omega
theorem AV.oV{rest:List cL}{T E:TypeId}{g:Nat}{y:Operand}(j:o.op=.indexAddr T (.global g) y)(m:o.guard=none)(q:(P.globals[g]?).map (·.name)=some "math/bits.deBruijn64tab")(s:EX P T=some (64,E))
  (t:Aq P E=some 1) (u:BA n o.dst) {k:IntKind} {i:Int} (h:ev tm y=.d (.int k i)) (h0:0<=i) (h1:i<64)
  (w:AV P n b ops rest (put tm o.dst (.DX [.int .u8 (Bz.getD i.toNat 0)])) S K):AV P n b ops (o::rest) tm S K:=
 Do (λ_ hi=>AC hi u m (Zh j q s t (by rw[h];trivial) (by rw[h];rfl) h0 h1)) w
theorem oE{T:TypeId}{x:Operand}{k:IntKind}{i:Int}(g:o.op=.unOp .neg T x)(h:need (ev tm x))(j:strip (ev tm x)=.d (.int k i)):
  Cf P n o tm S (.d (.int k (k.wrap (-i)))) S:=.pure λG w a st=>by
 have h1:=(BV st x).strip h;rw[j]at h1;exact⟨.int k (k.wrap (-i)),by simp[execOp,g,h1.int,Op.unary,Op.intArith],.d _ _ (.int _ _ (Je _ _))⟩
theorem AV.neg{rest:List cL}{T:TypeId}{x:Operand}(h:o.op=.unOp .neg T x)(j:o.guard=none)(m:BA n o.dst){k:IntKind}{i:Int}(g:ev tm x=.d (.int k i))
  (q:AV P n b ops rest (put tm o.dst (.d (.int k (k.wrap (-i))))) S K):AV P n b ops (o::rest) tm S K:=
 Do (λ_ hi=>AC hi m j (oE h (by rw[g];trivial) (by rw[g];rfl))) q
end
abbrev acz:=@List.not_mem_nil
abbrev ad6:=@or_false
section
variable {P:b8} {n b:Nat} {o:cL} {tm tm':Tm} {S S0 S0' S':Sg} {v:V} {ops:Array cL} {K:Tm->Sg->Prop} {Q:Exit->Tm->Sg->Prop}
theorem AJ.perm(q:List Nat)(hn:q.Nodup)(T:q.length=S.length)(B:S'.length=S.length)(hm:q.map (λr=>S'[r]?)=S.map (λo=>some (DK (nameOf q) o)))(Y:∀i<b,nameOf q i=i)(U:List Nat)(W:U.map (nameOf q)=List.range S.length)(F:U.all (· <S.length)=true):
  AJ P n b tm S (λk=>Bc (nameOf q) (tm k)) S':=λG w a st hb=>by
 have Df:∀i (h:i<S.length),S'[nameOf q i]?=some (DK (nameOf q) S[i]):=λi h=>by
  have:=i6 (·[i]?) hm;simp[h,T]at this;simpa[nameOf,List.getD,T,h]using this
 have vc:∀i,i<S.length->nameOf q i<S.length:=λi hi=>by rw[<-B];exact AZ (Df i hi)
 have H:∀i j,i<S.length->j<S.length->nameOf q i=nameOf q j->i=j:=λi j hi hj h=>by
  have h1:nameOf q i=q[i]'(by omega):=by simp[nameOf,List.getD,T,hi]
  have s:nameOf q j=q[j]'(by omega):=by simp[nameOf,List.getD,T,hj]
  rw[h1,s]at h;exact IQ hn (by omega) (by omega) h
 have J:∀r,r<S.length->∃i,i<S.length/\nameOf q i=r:=λr L=>by
  have h1:(U.map (nameOf q))[r]?=some r:=by rw[W];simp[L]
  rw[xi]at h1;obtain⟨i,s,X⟩:=wL.1 h1;exact⟨i,by simpa using cl.1 F i (lw s),X⟩
 let ρ:=nameOf q;let back (r:Nat):Nat:=if h:∃i,i<S.length/\ρ i=r then h.choose else 0;have zz:∀i,i<S.length->back (ρ i)=i:=λi hi=>by
  have M:∃j,j<S.length/\ρ j=ρ i:=⟨i,hi,rfl⟩;have:=M.choose_spec;simp[back,M,x0];exact H _ _ this.1 hi this.2
 let A:Gh:={I:=G.I,B3:=λr=>G.B3 (back r),cap:=λr=>G.cap (back r),BB:=λr=>G.BB (back r)};have m:∀i,i<S.length->lenOf S' (ρ i)=lenOf S i/\C0 S' (ρ i)=C0 S i/\Bb S' (ρ i)=Bb S i:=λi hi=>HJ ρ S[i] (ci hi) (Df i hi);have z:∀i,i<S.length->A.B3 (ρ i)=G.B3 i/\A.cap (ρ i)=G.cap i/\A.BB (ρ i)=G.BB i:=λi hi=>by simp only[A,zz i hi,gr]
 have E:Xy ρ G S A S':=⟨λ_=>UV,λi hi=>by rw[B];exact vc i hi,λi hi=>(m i hi).1,λi hi=>(m i hi).2.1,λi hi=>(m i hi).2.2,λi hi=>(z i hi).1.symm,λi hi=>(z i hi).2.1.symm,λi hi=>(z i hi).2.2.symm⟩;have C:∀r x,S'[r]?=some x->∃i,∃hi:i<S.length,ρ i=r/\x=DK ρ S[i]:=λr x u=>by
  obtain⟨i,hi,rfl⟩:=J r (by rw[<-B];exact AZ u);rw[Df i hi]at u;exact⟨i,hi,rfl,(oi u).symm⟩
 have own:∀k,Fy A S' k->Fy G S k:=by
  rintro k ⟨r,x,h1,s,X⟩;obtain⟨i,hi,rfl,rfl⟩:=C r x h1;exact⟨i,S[i],ci hi,by rw[Cl (ρ:=ρ) (G0:=G) (G:=A) (i:=i) (j:=ρ i) S[i] (z i hi).2.2.symm]at s;exact s,by rw[X,(z i hi).1]⟩
 refine⟨A,⟨st.size,λt=>(st.tm t).jm E,⟨λg hg=>st.rel.GQ g hg,λr x u=>?_,λr1 r2 x1 x2 h1 s o1 Z N=>?_,λx u=>st.rel.nI x (own x u),st.rel.JY,λx u=>st.rel.HL x (own x u)⟩⟩,⟨br _,λ_ h=>h,λ_ _ _=>rfl,λx u=>.inl (own x u),λx u=>.inl u,rfl,rfl⟩,?_⟩
 .obtain⟨i,hi,rfl,rfl⟩:=C r x u;exact(st.rel.DG i S[i] (ci hi)).jm E hi
 .obtain⟨i,hi,rfl,rfl⟩:=C r1 x1 h1;obtain⟨j,hj,rfl,rfl⟩:=C r2 x2 s;rw[Cl (ρ:=ρ) (G0:=G) (G:=A) (i:=i) (j:=ρ i) S[i] (z i hi).2.2.symm]at o1;rw[Cl (ρ:=ρ) (G0:=G) (G:=A) (i:=j) (j:=ρ j) S[j] (z j hj).2.2.symm]at Z;rw[(z i hi).1,(z j hj).1]at N;rw[st.rel.inj i j _ _ (ci hi) (ci hj) o1 Z N]
 .refine⟨by rw[B];exact hb,λr L n' wg=>?_,λr L wO=>?_⟩
  .have R:r<S.length:=by omega
   have e:=Y r L;have h1:=m r R;have s:=z r R;rw[show ρ r=r from e]at h1 s;refine⟨n',by rw[<-h1.1];exact wg,br _,λ_=>⟨s.1,s.2.1,s.2.2,.inl h1.2.1⟩⟩
  .have R:r<S.length:=by omega
   have e:=Y r L;have h1:=m r R;have s:=z r R;rw[show ρ r=r from e]at h1 s;exact⟨by rw[<-h1.2.2];exact wO,s.1⟩
theorem AW.regionF{id:Nat}(j:P.follows .mixedOrders=true)(h:∀K:Tm->Sg->Prop,(∀tm S,Q .normal tm S->K tm S)->Bm P n b ops K [] ops.size (Array.replicate ops.size false) tm S):AW P n b (.region id ops true) Q tm S:=λG w a st hb=>by
 refine wp_region_any j ?_;obtain⟨r1,r2,i⟩:=st.rel.drawn (w':={w with drawn:=w.drawn+1}) rfl rfl rfl;refine LI _ _ _ _ (h (Q .normal) λ_ _ h=>h) G {w with drawn:=w.drawn+1} a ⟨st.size,st.tm.later i,r1⟩ hb λs w' k=>?_;obtain⟨m,S',tm',g,q⟩:=k;exact⟨m,S',tm',⟨g.st,g.ds,r2.trans g.tr,(i.late hb).trans g.late⟩,q⟩
theorem Bm.quiet{B:List (Nat×(Sg->Prop))}{g:Array Bool}{j i:Nat}(C:Sg->Prop)(hS:C S)(hi:ops[i]?=some o)(m:∀S',C S'->B1 P n b ops i o tm S' v S')
  (k:((Region.ready .any ops g).contains i&&Region.free .any ops g i)=true) (h:Bm P n b ops K ((i,C)::B) j (g.setIfInBounds i true) (put tm o.dst v) S):Bm P n b ops K B (j+1) g tm S:=by
 simp at k;exact Pb hi j B g tm S (Region.free_spec hi k.2) (by simpa using k.1) hS m h
theorem Bm.qg{B:List (Nat×(Sg->Prop))}{g:Array Bool}{j i:Nat}(C:Sg->Prop)(hS:C S)(hi:ops[i]?=some o)(h1:∀S',C S'->EE P n ops o tm S'/\Dc P ops o tm S'=v/\oS P o tm S'=S')
  (k:((Region.ready .any ops g).contains i&&Region.free .any ops g i)=true) (h:Bm P n b ops K ((i,C)::B) j (g.setIfInBounds i true) (put tm o.dst v) S):Bm P n b ops K B (j+1) g tm S:=
 Bm.quiet C hS hi (λS' hS=>by
  obtain⟨m,q,s⟩:=h1 S' hS;have:=B1.D7 (b:=b) hi m;rwa [q,s]at this) k h
theorem Bm.qn{B:List (Nat×(Sg->Prop))}{g:Array Bool}{j:Nat}(i:Nat)(hi:ops[i]?=some o)(s:((Region.ready .any ops g).contains i&&Region.free .any ops g i)=true)(t:o.guard=none/\(OF o.op tm).isSome=true/\EE P n ops o tm S)
  (h:Bm P n b ops K ((i,W9 (OF o.op tm) S)::B) j (g.setIfInBounds i true) (put tm o.dst (Dc P ops o tm S)) S):Bm P n b ops K B (j+1) g tm S:=by
 obtain⟨m,k,q⟩:=t;obtain⟨d,k⟩:=jw.1 k;rw[k]at h;refine Bm.qg (W9 (some d) S) (by unfold W9;split<;>trivial) hi (λS' hS=>?_) s h;obtain⟨h1,u,w⟩:=Wu (P:=P) k hS;refine⟨⟨q.1,?_⟩,?_,?_⟩
 .have:=q.2;rw[m]at this⊢;rw[h1];exact this
 .unfold Dc;rw[m];exact u
 .unfold oS;rw[m];exact w
theorem Bm.dG{B:List (Nat×(Sg->Prop))}{g:Array Bool}{h:Nat}{o1 o2:cL}(i j:Nat)(m q:List Bool)(t:Region.ready .any ops g=[i,j])(hi:ops[i]?=some o1)(hj:ops[j]?=some o2)
  (u:B.map (λp=>waits ops i p.1)=m) (w:B.map (λp=>waits ops j p.1)=q)
  (h1:EE P n ops o1 tm S/\okB m B S (oS P o1 tm S)) (z:EE P n ops o2 tm S/\okB q B S (oS P o2 tm S))
  (k1:Bm P n b ops K (FA m B) h (g.setIfInBounds i true) (put tm o1.dst (Dc P ops o1 tm S)) (oS P o1 tm S))
  (k2:Bm P n b ops K (FA q B) h (g.setIfInBounds j true) (put tm o2.dst (Dc P ops o2 tm S)) (oS P o2 tm S)):Bm P n b ops K B (h+1) g tm S:=by
 refine⟨λh0=>(by rw[t]at h0;cases h0),λk s=>?_⟩;rw[t]at s;simp at s;rcases s with rfl|rfl
 .exact⟨o1,_,_,hi,B1.D7 hi h1.1,FQ u h1.2,by rw[Gl u];exact k1⟩
 .exact⟨o2,_,_,hj,B1.D7 hj z.1,FQ w z.2,by rw[Gl w];exact k2⟩
theorem CV.sr{G:Gh}{w:World}{ds:List D}{x:Value}(h:CV G S w (.d (.agg ds)) x):CV G S w (.agg (ds.map .d)) x:=by
 cases h with
 |d _ _ h=>cases h with
  |agg _ g j h k=>exact .agg _ g (by simpa using j) (λi hi=>by simpa using CV.d _ _ (h i (by simpa using hi))) k
theorem CV.ra{G:Gh}{w:World}{ds:List D}{x:Value}(h:CV G S w (.d (.Cb ds)) x):CV G S w (.Cb (ds.map .d)) x:=by
 cases h with
 |d _ _ h=>cases h with
  |Cb _ g j h=>exact .Cb _ g (by simpa using j) λi hi=>by simpa using CV.d _ _ (h i (by simpa using hi))
theorem CV.iA{G:Gh}{w:World}{xs g:List V}{x:Value}(h:CV G S w (.Cb xs) x)(m:xs.length=g.length)(hi:∀i (h:i<xs.length) (q:i<g.length) v,CV G S w xs[i] v->CV G S w g[i] v):CV G S w (.Cb g) x:=by
 cases h with
 |Cb _ j s h=>exact .Cb _ j (by omega) λi k=>hi i (by omega) k _ (h i (by omega))
theorem AG.conv{f:cP}{args:List V}{i:V}(h:AG P f args S v S')(j:∀G w x,CV G S' w v x->CV G S' w i x):AG P f args S i S':=
 ⟨h.1,λG w g R k ha=>(h.2 G w g R k ha).mono λ_ _ ⟨cv,m,h1,q,s⟩=>⟨cv,m,h1,j _ _ _ q,s⟩⟩
theorem Bm.QS{B:List (Nat×(Sg->Prop))}{g:Array Bool}{j:Nat}(i:Nat)(hi:ops[i]?=some o)(k:((Region.ready .any ops g).contains i&&Region.free .any ops g i)=true)(h1:EE P n ops o tm S/\oS P o tm S=S)
  (h:Bm P n b ops K ((i,Ac P n ops o tm (Dc P ops o tm S))::B) j (g.setIfInBounds i true) (put tm o.dst (Dc P ops o tm S)) S):Bm P n b ops K B (j+1) g tm S:=
 Bm.qg _ ⟨h1.1,rfl,h1.2⟩ hi (λ_ h=>h) k h
abbrev nu:=@Bm.QS
theorem Bm.Kh{B:List (Nat×(Sg->Prop))}{g:Array Bool}{h:Nat}{o1:cL}(i:Nat)(j:List Bool)(q:Region.ready .any ops g=[i])(hi:ops[i]?=some o1)
  (s:B.map (λp=>waits ops i p.1)=j) (h1:EE P n ops o1 tm S/\okB j B S (oS P o1 tm S))
  (k1:Bm P n b ops K (FA j B) h (g.setIfInBounds i true) (put tm o1.dst (Dc P ops o1 tm S)) (oS P o1 tm S)):Bm P n b ops K B (h+1) g tm S:=by
 refine⟨λh0=>(by rw[q]at h0;cases h0),λk m=>?_⟩;rw[q]at m;simp at m;subst m;exact⟨o1,_,_,hi,B1.D7 hi h1.1,FQ s h1.2,by rw[Gl s];exact k1⟩
abbrev sn:=@Bm.Kh
theorem Bm.done{B:List (Nat×(Sg->Prop))}{g:Array Bool}(i:Region.ready .any ops g=[])(h:K tm S):Bm P n b ops K B 0 g tm S:=⟨i,h⟩
abbrev aeB:=@Bm.done
theorem AW.Ju{x y:Code}{Q:Exit->Tm->Sg->Prop}{R:Tm->Sg->Prop}(h1:AW P n b x (C4 (λtm S=>∃tm' S',AJ P n b tm S tm' S'/\R tm' S') Q) tm S)(i:∀tm S,R tm S->AW P n b y Q tm S):AW P n b (.seq x y) Q tm S:=
 k7 h1 λ_ _ ⟨_,_,g,h⟩=>ed g (i _ _ h)
theorem B1.PA{i:Nat}{c:Call}{f:cP}{args:List V}{j:Nat}{g:Bool}(hi:ops[i]?=some o)(k:o.op=.call c)(m:o.guard=some (j,g))(s:BA n o.dst)
  (t:CW ops tm j g=some true) (u:callee tm c=some (f,args)) (hn:BE tm c) (h:AG P f args S v S'):B1 P n b ops i o tm S v S':=λtm' q=>by
 obtain⟨h1,w⟩:=HF k q;exact Step.HN hi s m (by rw[guard_congr m q];exact t) (HH k (by rw[h1];exact u) (by rw[w];exact hn) h)
theorem Pv{B:List (Nat×(Sg->Prop))}{i:Nat}{q:Bool}{rest:List (Nat×Bool×cL)}{j:Nat}{g:Bool}(m:q=true)(h:o.guard=some (j,g))(k:BA n o.dst/\CW ops tm j g=some false)
  (s:Ag P n b ops ((i,λ_=>True)::B) rest (put tm o.dst (.opt false (.d (.bool false)))) S K):Ag P n b ops B ((i,q,o)::rest) tm S K:=by
 subst m;exact o4 (λ_=>True) trivial (λhi S' _=>λtm' t=>Step.Fw (v:=.d (.bool false)) hi k.1 h (by rw[guard_congr h t];exact k.2) λe=>by cases e) s
theorem Ag.rv{B:List (Nat×(Sg->Prop))}{i:Nat}{rest:List (Nat×Bool×cL)}{j:Nat}{g:Bool}(ws:List Bool)(k:B.map (λp=>waits ops i p.1)=ws)(m:o.guard=some (j,g))(q:BA n o.dst/\CW ops tm j g=some false)
  (s:Ag P n b ops (FA ws B) rest (put tm o.dst (.opt false (.d (.bool false)))) S K):Ag P n b ops B ((i,false,o)::rest) tm S K:=
 Ag.pD ws k (λhi=>λtm' t=>Step.Fw (v:=.d (.bool false)) hi q.1 m (by rw[guard_congr m t];exact q.2) λe=>by cases e)
  (by clear k s;induction ws generalizing B with
   |nil=>cases B<;>trivial
   |cons w ws u=>cases B with
    |nil=>trivial
    |cons p B=>exact⟨λ_ h=>h,u⟩) s
theorem Ag.X1{B:List (Nat×(Sg->Prop))}{i:Nat}{rest:List (Nat×Bool×cL)}{c:Call}{f:cP}{g:List V}{j:Nat}{k:Bool}(h:AG P f g S0 v S0')(m:List Nat)(t:o.op=.call c)(u:o.guard=some (j,k))
  (w:CW ops tm j k=some true/\BA n o.dst/\BE tm c/\Ch tm c f g m/\Eg S S0 m/\m.length<=S0'.length/\g.all (AP m.length)=true/\C8 S S0' m=S)
  (z:Ag P n b ops ((i,λS'=>S'=S)::B) rest (put tm o.dst (Bc (EF (nameOf m) m.length S.length) v)) S K):Ag P n b ops B ((i,true,o)::rest) tm S K:=by
 obtain⟨A,C,E,q,F,G,H,J⟩:=w;unfold Ch at q;split at q
 .rename_i M args L;obtain⟨rfl,rfl⟩:=q;refine o4 (λS'=>S'=S) rfl (λhi S' s=>?_) z;subst s;have:=h.Eb m F G H;rw[J]at this;exact B1.PA hi t u C A L E this
 .exact q.elim
theorem Ag.pX{B:List (Nat×(Sg->Prop))}{i:Nat}{rest:List (Nat×Bool×cL)}{c:Call}{f:cP}{g:List V}{j:Nat}{m:Bool}(ws:List Bool)(h:AG P f g S0 v S0')(k:List Nat)(s:B.map (λp=>waits ops i p.1)=ws)(t:o.op=.call c)(u:o.guard=some (j,m))
  (w:CW ops tm j m=some true/\BA n o.dst/\BE tm c/\Ch tm c f g k/\Eg S S0 k/\k.length<=S0'.length/\g.all (AP k.length)=true/\okB ws B S (C8 S S0' k))
  (z:Ag P n b ops (FA ws B) rest (put tm o.dst (Bc (EF (nameOf k) k.length S.length) v)) (C8 S S0' k) K):Ag P n b ops B ((i,false,o)::rest) tm S K:=by
 obtain⟨A,C,E,q,F,G,H,J⟩:=w;unfold Ch at q;split at q
 .rename_i M args L;obtain⟨rfl,rfl⟩:=q;exact Ag.pD ws s (λhi=>B1.PA hi t u C A L E (h.Eb k F G H)) J z
 .exact q.elim
theorem AV.Rn{rest:List cL}{c:Call}{f:cP}{i:List V}{j:Nat}{m g:Bool}(h:AG P f i S0 v S0')(k:List Nat)(t:o.op=.call c)(u:o.guard=some (j,m))(w:CW ops tm j m=some g)
  (z:BA n o.dst) (A:g=true->BE tm c/\Ch tm c f i k) (B:Eg S S0 k/\k.length<=S0'.length/\i.all (AP k.length)=true/\C8 S S0' k=S)
  (C:AV P n b ops rest (put tm o.dst (HP g (Bc (EF (nameOf k) k.length S.length) v))) S K):AV P n b ops (o::rest) tm S K:=by
 obtain⟨E,F,G,H⟩:=B;have s:=h.Eb k E F G;rw[H]at s;refine AV.Li (v:=Bc (EF (nameOf k) k.length S.length) v) (f:=f) (args:=i.map (Bc (nameOf k))) t u z w (λe=>?_) C;obtain⟨J,q⟩:=A e;unfold Ch at q;split at q
 .rename_i M args L;obtain⟨rfl,rfl⟩:=q;exact⟨L,J,s⟩
 .exact q.elim
theorem CV.sJ{G:Gh}{w:World}{ds:List D}{x:Value}(h:CV G S w (.agg (ds.map .d)) x):CV G S w (.d (.agg ds)) x:=by
 cases h with
 |agg _ g j h k=>exact .d _ _ (.agg _ g (by simpa using j) (λi hi=>by
   have:=h i (by simpa using hi);rw[kt]at this;cases this with
   |d _ _ h=>exact h) k)
theorem AG.pS{f:cP}{ds:List D}{rest:List V}(h:AG P f (.d (.agg ds)::rest) S v S'):AG P f (.agg (ds.map .d)::rest) S v S':=
 ⟨h.1,λG w g R k ha=>h.2 G w g R (by simpa using k) λi hi j=>by
  cases i with
  |zero=>exact(ha 0 (by simp) j).sJ
  |succ i=>exact ha (i+1) hi j⟩
theorem AJ.nn(k:Nat)(d:D)(h:Ba S (tm k)=some d):AJ P n b tm S (FP tm k (.d d)) S:=λG w a st hb=>
 ⟨G,⟨st.size,λj=>by
  unfold FP;split
  .rename_i e;subst e;exact .d _ _ ((st.tm j).Ba st.rel h)
  .exact st.tm j,st.rel⟩,yL _ _ _,GT hb⟩
theorem AG.ghost{f:cP}{args:List V}{q:V}{j:Sg}(h:AG P f args S v S')(g:∀tm:Tm,tm 0=v->∃tm',AJ P 1 S.length tm S' tm' j/\tm' 0=q):AG P f args S q j:=
 ⟨h.1,λG w i R B ha=>(h.2 G w i R B ha).mono λe s ⟨cv,t,h1,C,E,u,z⟩=>by
  obtain⟨tm',F,H⟩:=g (λk=>if k=0 then v else .any) rfl;have st:St P 1 t S' s {tmps:=#[cv],defers:=[]} (λk=>if k=0 then v else .any):=⟨rfl,λk=>by
   by_cases A:k=0
   .subst A;simpa using C
   .simp[A];exact .any _,E⟩
  obtain⟨J,m,t2,l2⟩:=F t s _ st z.len;exact⟨cv,J,h1,by have:=m.tm 0;rw[H]at this;simpa using this,m.rel,u.trans t2,((z.late (br _)).trans l2).later R (u.trans t2)⟩⟩
theorem AG.kP{f:cP}{args:List V}{wr:Bool}{sz:Nat}{xs:List D}(h:AG P f args [] (.row 0 xs.length) [.row wr sz (xs.map .d)]):AG P f args [] (.d (.sl xs)) []:=
 h.ghost λtm h0=>by
  have g:AJ P 1 0 tm [.row wr sz (xs.map .d)] tm [.BY xs]:=c9 0 (wr:=wr) (sz:=sz) (els:=xs.map .d) rfl (CQ _ xs);have i:AJ P 1 0 tm [.BY xs] (FP tm 0 (.d (.sl xs))) [.BY xs]:=AJ.nn 0 (.sl xs) (by rw[h0];simp[Ba,CF]);refine⟨_,(g.trans i).trans (ip 0 (br _) (by simp) (by simp)),?_⟩;simp[clean,FP,AP]
theorem AJ.Bf(r:Nat){wr:Bool}{sz:Nat}{els:List V}{xs:List D}(u:S[r]?=some (.row wr sz els))(m:Dw S els=some xs):AJ P n b tm S tm (S.set r (.row wr sz (xs.map .d))):=λG w a st hb=>by
 have R:=st.rel;have X:=AZ u;obtain⟨B,Y⟩:=PF m;have Df:(S.set r (.row wr sz (xs.map .d)))[r]?=some (.row wr sz (xs.map .d)):=by simp[X]
 have z:∀g,g≠r->(S.set r (.row wr sz (xs.map .d)))[g]?=S[g]?:=λg h=>by simp[nt (le h)]
 have el:∀g,lenOf (S.set r (.row wr sz (xs.map .d))) g=lenOf S g:=λg=>by
  by_cases e:g=r
  .subst e;simp[lenOf,Df,u,B]
  .simp[lenOf,z g e]
 have H:∀g,C0 (S.set r (.row wr sz (xs.map .d))) g=C0 S g:=λg=>by
  by_cases e:g=r
  .subst e;simp[C0,Df,u]
  .simp[C0,z g e]
 have em:∀g,Bb (S.set r (.row wr sz (xs.map .d))) g=Bb S g:=λg=>by
  by_cases e:g=r
  .subst e;simp[Bb,Df,u]
  .simp[Bb,z g e]
 have L:BL G S w G (S.set r (.row wr sz (xs.map .d))) w:=
  ⟨λ_ h=>h,λ_ _=>rfl,by simp,λg _ Z wg=>⟨Z,by rw[<-el];exact wg,br _,λ_=>⟨rfl,rfl,rfl,.inl (H g)⟩⟩,λg _ hm=>⟨by rw[<-em];exact hm,rfl⟩⟩
 have own:∀g x,(S.set r (.row wr sz (xs.map .d)))[g]?=some x->∃C,S[g]?=some C/\BQ G g C=BQ G g x:=λg x m=>by
  by_cases e:g=r
  .subst e;rw[Df]at m;cases m;exact⟨_,u,rfl⟩
  .rw[z g e]at m;exact⟨x,m,rfl⟩
 have j:∀k,Fy G (S.set r (.row wr sz (xs.map .d))) k->Fy G S k:=by
  rintro k ⟨g,x,h1,J,h3⟩;obtain⟨C,s,q⟩:=own g x h1;exact⟨g,C,s,by rw[q];exact J,h3⟩
 refine⟨G,⟨st.size,st.tm.later L,⟨R.GQ.later L,λg x E=>?_,λr1 r2 x1 x2 h1 J o1 o2 he=>?_,λk t=>R.nI k (j k t),R.JY,λk t=>R.HL k (j k t)⟩⟩,⟨br _,λ_ h=>h,λ_ _ _=>rfl,λk t=>.inl (j k t),λk t=>.inl t,rfl,rfl⟩,L.late hb⟩
 .by_cases e:g=r
  .subst e;rw[Df]at E;cases E;have A:=R.DG g _ u;simp only[OK]at A⊢;cases U:G.BB g with
   |none=>
    simp only[U]at A⊢;obtain⟨c,T,s,q,M,F,g5⟩:=A;refine⟨c,T,s,q,by simpa[B]using M,by simpa[B]using F,λi hi=>?_⟩;have W:i<els.length:=by simpa[B]using hi
    obtain⟨v,f1,f2,f3,f4⟩:=g5 i W;exact⟨v,by simpa using CV.d _ _ (f1.Ba R (Y i W (by omega))),f2,f3,f4⟩
   |some a=>
    simp[U]at A⊢;obtain⟨s,q,ys,M,F⟩:=A;subst M;rw[CQ]at m;have N:=oi m;rw[N]at q F;exact⟨s,by simpa using q,xs,rfl,F⟩
  .rw[z g e]at E;exact(R.DG g x E).later L (λ_=>rfl) rfl rfl rfl
 .obtain⟨y1,s,p1⟩:=own r1 x1 h1;obtain⟨y2,q,p2⟩:=own r2 x2 J;exact R.inj r1 r2 y1 y2 s q (by rw[p1];exact o1) (by rw[p2];exact o2) he
abbrev i5:=@AJ.Bf
theorem AJ.uD(k:Nat){m g:List V}(h:tm k=.agg m)(B:g.length=m.length)(s:∀i (h:i<m.length) (C:i<g.length),g[i]=m[i]\/∃d,Ba S m[i]=some d/\g[i]=.d d):AJ P n b tm S (FP tm k (.agg g)) S:=λG w a st hb=>
 ⟨G,⟨st.size,λj=>by
  unfold FP;split
  .rename_i e;subst e;have:=st.tm j;rw[h]at this;generalize a.tmps.getD j undef=x at this;cases this with
   |agg _ t E q u=>
    refine .agg _ t (by omega) (λi hi=>?_) u;rcases s i (by omega) hi with e|⟨d,z,A⟩
    .rw[e];exact q i (by omega)
    .rw[A];exact .d _ _ ((q i (by omega)).Ba st.rel z)
  .exact st.tm j,st.rel⟩,yL _ _ _,GT hb⟩
theorem Ag.Gs{B:List (Nat×(Sg->Prop))}{i:Nat}{rest:List (Nat×Bool×cL)}{c:Call}{f:cP}{args:List V}(h:AG P f args S v S)(g:o.op=.call c)
  (j:o.guard=none/\BA n o.dst/\BE tm c/\callee tm c=some (f,args)) (k:Ag P n b ops ((i,λS'=>S'=S)::B) rest (put tm o.dst v) S K):Ag P n b ops B ((i,true,o)::rest) tm S K:=by
 obtain⟨m,q,s,t⟩:=j;exact o4 (λS'=>S'=S) rfl (λhi S' hS=>by subst hS;exact wd hi g m q t s h) k
theorem Ag.I7{B:List (Nat×(Sg->Prop))}{i:Nat}{rest:List (Nat×Bool×cL)}{c:Call}{f:cP}{args:List V}{j:Nat}{k g:Bool}(h:g=true->AG P f args S v S)(q:o.op=.call c)(s:o.guard=some (j,k))
  (t:CW ops tm j k=some g) (u:BA n o.dst) (m:g=true->callee tm c=some (f,args)/\BE tm c) (w:Ag P n b ops ((i,λS'=>S'=S)::B) rest (put tm o.dst (HP g v)) S K):Ag P n b ops B ((i,true,o)::rest) tm S K:=
 o4 (λS'=>S'=S) rfl (λhi S' hS=>by subst hS;exact B1.Li hi q s u t λe=>⟨(m e).1,(m e).2,h e⟩) w
theorem AV.I7{rest:List cL}{c:Call}{f:cP}{args:List V}{j:Nat}{i g:Bool}(h:g=true->AG P f args S v S)(m:o.op=.call c)(q:o.guard=some (j,i))
  (s:CW ops tm j i=some g) (t:BA n o.dst) (k:g=true->callee tm c=some (f,args)/\BE tm c) (u:AV P n b ops rest (put tm o.dst (HP g v)) S K):AV P n b ops (o::rest) tm S K:=
 AV.Li m q t s (λe=>⟨(k e).1,(k e).2,h e⟩) u
end
section
variable {P:b8} {n b:Nat} {o:cL} {tm tm':Tm} {S S0 S0' S':Sg} {v:V} {ops:Array cL} {K:Tm->Sg->Prop} {Q:Exit->Tm->Sg->Prop} {B:List (Nat×(Sg->Prop))} {i:Nat} {rest:List cL} {restA:List (Nat×Bool×cL)}
def Ej(o:Op):Bool:=match o with
 |.call c=>(match c.callee with|.builtin _=>false|_=>true)
 |_=>false
def lJ(P:b8)(n b:Nat)(ops:Array cL)(K:Tm->Sg->Prop):List cL->Tm->Sg->Prop
 |[],tm,S=>AV P n b ops [] tm S K
 |o::l,tm,S=>match Ej o.op with
  |true=>AV P n b ops (o::l) tm S K
  |false=>EE P n ops o tm S/\lJ P n b ops K l (put tm o.dst (Dc P ops o tm S)) (oS P o tm S)
theorem xJ:∀{l:List cL} {tm:Tm} {S:Sg},lJ P n b ops K l tm S->AV P n b ops l tm S K
 |[],_,_,h=>h
 |o::l,_,_,h=>by
  unfold lJ at h;cases g:Ej o.op<;>rw[g]at h
  .exact Cd h.1 (xJ h.2)
  .exact h
def Yc(P:b8)(n b:Nat)(ops:Array cL)(K:Tm->Sg->Prop):List cL->Tm->Sg->Prop
 |[],tm,S=>AV P n b ops [] tm S K
 |o::l,tm,S=>match o.guard with
  |none=>(match Ej o.op with
   |true=>AV P n b ops (o::l) tm S K
   |false=>EE P n ops o tm S/\Yc P n b ops K l (put tm o.dst (Dc P ops o tm S)) (oS P o tm S))
  |some (j,w)=>(match CW ops tm j w with
   |some false=>BA n o.dst/\Yc P n b ops K l (put tm o.dst (.opt false (.d (.bool false)))) S
   |some true=>(match Ej o.op with
    |true=>AV P n b ops (o::l) tm S K
    |false=>(BA n o.dst/\Bd P o.op tm S)/\Yc P n b ops K l (put tm o.dst (Bh P o.op tm S)) (DC P o.op tm S))
   |none=>False)
theorem xH:∀{l:List cL} {tm:Tm} {S:Sg},Yc P n b ops K l tm S->AV P n b ops l tm S K
 |[],_,_,h=>h
 |o::l,tm,_,h=>by
  unfold Yc at h;cases g:o.guard with
  |none=>
   rw[g]at h;simp only[]at h;cases k:Ej o.op<;>rw[k]at h
   .exact Cd h.1 (xH h.2)
   .exact h
  |some m=>
   obtain⟨j,w⟩:=m;rw[g]at h;simp only[]at h;split at h
   .exact FJ g ⟨h.1,‹_›⟩ (xH h.2)
   .cases k:Ej o.op<;>rw[k]at h
    .exact QX g ⟨‹_›,h.1.1,h.1.2⟩ (xH h.2)
    .exact h
   .exact h.elim
def YR(k:Nat)(P:b8)(n b:Nat)(ops:Array cL)(K:Tm->Sg->Prop):List (Nat×Bool×cL)->List (Nat×(Sg->Prop))->Tm->Sg->Prop
 |[],B,tm,S=>Ag P n b ops B [] tm S K
 |(i,q,o)::l,B,tm,S=>match q&&!Ej o.op with
  |false=>Ag P n b ops B ((i,q,o)::l) tm S K
  |true=>match k with
   |0=>(EE P n ops o tm S/\oS P o tm S=S)/\YR k P n b ops K l ((i,λS'=>S'=S)::B) (put tm o.dst (Dc P ops o tm S)) S
   |1=>(EE P n ops o tm S/\oS P o tm S=S)/\YR k P n b ops K l ((i,Ac P n ops o tm (Dc P ops o tm S))::B) (put tm o.dst (Dc P ops o tm S)) S
   |_=>(o.guard=none/\(OF o.op tm).isSome=true/\EE P n ops o tm S)/\YR k P n b ops K l ((i,W9 (OF o.op tm) S)::B) (put tm o.dst (Dc P ops o tm S)) S
theorem xA(k:Nat):∀{l:List (Nat×Bool×cL)} {B:List (Nat×(Sg->Prop))} {tm:Tm} {S:Sg},YR k P n b ops K l B tm S->Ag P n b ops B l tm S K
 |[],_,_,_,h=>h
 |(i,q,o)::l,_,_,_,h=>by
  unfold YR at h;split at h
  .exact h
  .rename_i g;simp only[bi]at g;obtain⟨rfl,-⟩:=g;split at h
   .exact Hz h.1 (xA _ h.2)
   .exact xG h.1 (xA _ h.2)
   .exact Ag.qn h.1 (xA _ h.2)
theorem Ag.QL{q:Bool}{j:Nat}{g:Bool}(m:q=true)(h:o.guard=some (j,g))
  (s:CW ops tm j g=some true/\BA n o.dst/\Bd P o.op tm S/\DC P o.op tm S=S)
  (t:Ag P n b ops ((i,λS'=>S'=S)::B) restA (put tm o.dst (Bh P o.op tm S)) S K):Ag P n b ops B ((i,q,o)::restA) tm S K:=by
 subst m;obtain⟨u,w,z,A⟩:=s;refine o4 (λS'=>S'=S) rfl (λhi S' hS=>?_) t;subst hS;intro tm' k;obtain⟨C,E,F⟩:=K8 (P:=P) (S:=S') (op:=o.op) (Ig k);have:=Step.HN (b:=b) hi w h (by rw[guard_congr h k];exact u) (Lk (P:=P) (n:=n) (o:=o) (tm:=tm') (S:=S') (by rw[C];exact z));rw[E,F,A]at this;exact this
def ZY(P:b8)(n b:Nat)(ops:Array cL)(K:Tm->Sg->Prop):List (Nat×Bool×cL)->List (Nat×(Sg->Prop))->Tm->Sg->Prop
 |[],B,tm,S=>Ag P n b ops B [] tm S K
 |(i,q,o)::l,B,tm,S=>match q with
  |false=>Ag P n b ops B ((i,q,o)::l) tm S K
  |true=>match o.guard with
   |none=>(match Ej o.op with
    |true=>Ag P n b ops B ((i,q,o)::l) tm S K
    |false=>(EE P n ops o tm S/\oS P o tm S=S)/\ZY P n b ops K l ((i,λS'=>S'=S)::B) (put tm o.dst (Dc P ops o tm S)) S)
   |some (j,w)=>(match CW ops tm j w with
    |some false=>BA n o.dst/\ZY P n b ops K l ((i,λ_=>True)::B) (put tm o.dst (.opt false (.d (.bool false)))) S
    |some true=>(match Ej o.op with
     |true=>Ag P n b ops B ((i,q,o)::l) tm S K
     |false=>(BA n o.dst/\Bd P o.op tm S/\DC P o.op tm S=S)/\ZY P n b ops K l ((i,λS'=>S'=S)::B) (put tm o.dst (Bh P o.op tm S)) S)
    |none=>False)
theorem xZ:∀{l:List (Nat×Bool×cL)} {B:List (Nat×(Sg->Prop))} {tm:Tm} {S:Sg},ZY P n b ops K l B tm S->Ag P n b ops B l tm S K
 |[],_,_,_,h=>h
 |(i,q,o)::l,_,tm,_,h=>by
  unfold ZY at h;cases q with
  |false=>exact h
  |true=>
   simp only[]at h;cases g:o.guard with
   |none=>
    rw[g]at h;simp only[]at h;cases k:Ej o.op<;>rw[k]at h
    .exact Hz h.1 (xZ h.2)
    .exact h
   |some m=>
    obtain⟨j,w⟩:=m;rw[g]at h;simp only[]at h;split at h
    .exact Pv rfl g ⟨h.1,‹_›⟩ (xZ h.2)
    .cases k:Ej o.op<;>rw[k]at h
     .exact Ag.QL rfl g ⟨‹_›,h.1⟩ (xZ h.2)
     .exact h
    .exact h.elim
theorem xO(h:EE P n ops o tm S/\AV P n b ops rest (put tm o.dst (Dc P ops o tm S)) (oS P o tm S) K):AV P n b ops (o::rest) tm S K:=Cd h.1 h.2
def xU:Nat->List (Nat×(Sg->Prop))->List Bool
 |_,[]=>[]
 |k,_::l=>(k % 2!=0)::xU (k / 2) l
def rP(S S':Sg):Nat->List (Nat×(Sg->Prop))->Prop
 |_,[]=>True
 |k,p::l=>(k % 2=0->p.2 S->p.2 S')/\rP S S' (k / 2) l
def Ns:Nat->List (Nat×(Sg->Prop))->List (Nat×(Sg->Prop))
 |_,[]=>[]
 |k,p::l=>if k % 2=0 then p::Ns (k / 2) l else Ns (k / 2) l
theorem Wc:∀{k:Nat} {B:List (Nat×(Sg->Prop))},rP S S' k B->okB (xU k B) B S S'
 |_,[],_=>by simp[xU,okB]
 |k,p::l,h=>⟨λe=>h.1 (by simpa using e),Wc h.2⟩
theorem Oq:∀(k:Nat) (B:List (Nat×(Sg->Prop))),FA (xU k B) B=Ns k B
 |_,[]=>by simp[xU,FA,Ns]
 |k,p::l=>by
  unfold xU FA Ns;rw[Oq];by_cases h:k % 2=0
  .simp[h]
  .have:k % 2=1:=by omega
   simp[this]
theorem xX(k:Nat)(g:B.map (λp=>waits ops i p.1)=xU k B)(h:(EE P n ops o tm S/\rP S (oS P o tm S) k B)/\Ag P n b ops (Ns k B) restA (put tm o.dst (Dc P ops o tm S)) (oS P o tm S) K):
  Ag P n b ops B ((i,false,o)::restA) tm S K:=tS _ g ⟨h.1.1,Wc h.1.2⟩ (by rw[Oq];exact h.2)
theorem xI(g:(B.map (·.1)).all (waits ops i)=true)(h:EE P n ops o tm S/\Ag P n b ops [] restA (put tm o.dst (Dc P ops o tm S)) (oS P o tm S) K):Ag P n b ops B ((i,false,o)::restA) tm S K:=Ag.vB g h.1 h.2
theorem xF{c:Call}{f:cP}{g:List V}(h:AG P f g S0 v S0')(j:List Nat)(m:o.op=.call c)
  (k:(o.guard=none/\BA n o.dst/\BE tm c/\Ch tm c f g j/\Eg S S0 j/\j.length<=S0'.length/\g.all (AP j.length)=true)/\AV P n b ops rest (put tm o.dst (Bc (EF (nameOf j) j.length S.length) v)) (C8 S S0' j) K):AV P n b ops (o::rest) tm S K:=AV.El h j m k.1 k.2
theorem xY{c:Call}{f:cP}{args:List V}(h:AG P f args S0 v S0')(T:Sg)(hS:S=S0++T)(j:o.op=.call c)
  (g:(o.guard=none/\BA n o.dst/\BE tm c/\FF tm c f args/\S0'.length=S0.length/\S0.all (Ar S0.length)=true/\S0'.all (Ar S0.length)=true/\args.all (AP S0.length)=true/\AP S0.length v=true)/\AV P n b ops rest (put tm o.dst v) (S0'++T) K):AV P n b ops (o::rest) tm S K:=AV.PA T h hS j g.1 g.2
theorem xL{c:Call}{f:cP}{args:List V}(k:Nat)(T:Sg)(h:AG P f args S0 v S0')(j:B.map (λp=>waits ops i p.1)=xU k B)(hS:S=S0++T)(m:o.op=.call c)
  (q:(o.guard=none/\BA n o.dst/\BE tm c/\FF tm c f args/\S0'.length=S0.length/\S0.all (Ar S0.length)=true/\S0'.all (Ar S0.length)=true/\args.all (AP S0.length)=true/\AP S0.length v=true/\rP S (S0'++T) k B)/\Ag P n b ops (Ns k B) restA (put tm o.dst v) (S0'++T) K):Ag P n b ops B ((i,false,o)::restA) tm S K:=by
 obtain⟨⟨h1,s,t,u,w,z,A,C,E,F⟩,g⟩:=q;exact Ag.PA _ T h j hS m ⟨h1,s,t,u,w,z,A,C,E,Wc F⟩ (by rw[Oq];exact g)
end
attribute [simp] Ej lJ Yc YR ZY xU rP Ns
def UQ(_:Code)(_:Exit->Tm->Sg->Prop):Type:=Unit
def HW(P:Program)(n b:Nat)(y:Code)(Q:Exit->Tm->Sg->Prop)(_:UQ y Q)(tm:Tm)(S:Sg):Prop:=AW P n b y Q tm S
def UE(_:Exit->Tm->Sg->Prop):Type:=Unit
def HQ(Q:Exit->Tm->Sg->Prop)(_:UE Q)(e:Exit)(tm:Tm)(S:Sg):Prop:=Q e tm S
section
variable {P:Program} {n b:Nat} {o:Oper} {tm tm':Tm} {S S0 S0' S':Sg} {v:V} {ops:Array Oper} {K:Tm->Sg->Prop} {Q:Exit->Tm->Sg->Prop} {B:List (Nat×(Sg->Prop))} {i:Nat} {rest:List Oper} {restA:List (Nat×Bool×Oper)}
theorem yT{id:Nat}(h:AV P n b ops ops.toList tm S (HQ Q () .normal)):AW P n b (.region id ops false) Q tm S:=AW.region h
theorem yS{id:Nat}{y:Code}(h:AV P n b ops ops.toList tm S (HW P n b y Q ())):AW P n b (.seq (.region id ops false) y) Q tm S:=xS (AW.region h)
theorem yV{id:Nat}(h:xR P n ops (HQ Q () .normal) ops.toList tm S):AW P n b (.region id ops false) Q tm S:=yT (TS h)
theorem yW{id:Nat}{y:Code}(h:xR P n ops (HW P n b y Q ()) ops.toList tm S):AW P n b (.seq (.region id ops false) y) Q tm S:=yS (TS h)
theorem yE{id:Nat}(l:List Nat)(g:(P.follows .mixedOrders&&((xP l).length==ops.size&&(Ec ops (xP l) (Array.replicate ops.size false)&&(xP l).all λp=>decide (p.1<ops.size))))=true)
  (h:Ag P n b ops [] (Fu ops (xP l)) tm S (HQ Q () .normal)):AW P n b (.region id ops true) Q tm S:=by
 simp only[bi,zO]at g;exact AW.Xl (xP l) g.1 g.2.1 g.2.2.1 g.2.2.2 h
theorem yD{id:Nat}{y:Code}(l:List Nat)(g:(P.follows .mixedOrders&&((xP l).length==ops.size&&(Ec ops (xP l) (Array.replicate ops.size false)&&(xP l).all λp=>decide (p.1<ops.size))))=true)
  (h:Ag P n b ops [] (Fu ops (xP l)) tm S (HW P n b y Q ())):AW P n b (.seq (.region id ops true) y) Q tm S:=xS (yE l g h)
def tK(P:Program)(n b:Nat)(ops:Array Oper)(K:Tm->Sg->Prop):List Oper->Tm->Sg->Prop
 |[],tm,S=>K tm S
 |o::l,tm,S=>match Ej o.op with
  |true=>AV P n b ops (o::l) tm S K
  |false=>EE P n ops o tm S/\tK P n b ops K l (put tm o.dst (Dc P ops o tm S)) (oS P o tm S)
theorem yJ:∀{l:List Oper} {tm:Tm} {S:Sg},tK P n b ops K l tm S->AV P n b ops l tm S K
 |[],_,_,h=>B6 h
 |o::l,_,_,h=>by
  unfold tK at h;cases g:Ej o.op<;>rw[g]at h
  .exact Cd h.1 (yJ h.2)
  .exact h
def qf(P:Program)(n b:Nat)(ops:Array Oper)(K:Tm->Sg->Prop):List Oper->Tm->Sg->Prop
 |[],tm,S=>K tm S
 |o::l,tm,S=>match o.guard with
  |none=>(match Ej o.op with
   |true=>AV P n b ops (o::l) tm S K
   |false=>EE P n ops o tm S/\qf P n b ops K l (put tm o.dst (Dc P ops o tm S)) (oS P o tm S))
  |some (j,w)=>(match CW ops tm j w with
   |some false=>BA n o.dst/\qf P n b ops K l (put tm o.dst (.opt false (.d (.bool false)))) S
   |some true=>(match Ej o.op with
    |true=>AV P n b ops (o::l) tm S K
    |false=>(BA n o.dst/\Bd P o.op tm S)/\qf P n b ops K l (put tm o.dst (Bh P o.op tm S)) (DC P o.op tm S))
   |none=>False)
theorem yH:∀{l:List Oper} {tm:Tm} {S:Sg},qf P n b ops K l tm S->AV P n b ops l tm S K
 |[],_,_,h=>B6 h
 |o::l,tm,_,h=>by
  unfold qf at h;cases g:o.guard with
  |none=>
   rw[g]at h;simp only[]at h;cases k:Ej o.op<;>rw[k]at h
   .exact Cd h.1 (yH h.2)
   .exact h
  |some m=>
   obtain⟨j,w⟩:=m;rw[g]at h;simp only[]at h;split at h
   .exact FJ g ⟨h.1,‹_›⟩ (yH h.2)
   .cases k:Ej o.op<;>rw[k]at h
    .exact QX g ⟨‹_›,h.1.1,h.1.2⟩ (yH h.2)
    .exact h
   .exact h.elim
def qV(k:Nat)(P:Program)(n b:Nat)(ops:Array Oper)(K:Tm->Sg->Prop):List (Nat×Bool×Oper)->List (Nat×(Sg->Prop))->Tm->Sg->Prop
 |[],_,tm,S=>K tm S
 |(i,q,o)::l,B,tm,S=>match q&&!Ej o.op with
  |false=>Ag P n b ops B ((i,q,o)::l) tm S K
  |true=>match k with
   |0=>(EE P n ops o tm S/\oS P o tm S=S)/\qV k P n b ops K l ((i,λS'=>S'=S)::B) (put tm o.dst (Dc P ops o tm S)) S
   |1=>(EE P n ops o tm S/\oS P o tm S=S)/\qV k P n b ops K l ((i,Ac P n ops o tm (Dc P ops o tm S))::B) (put tm o.dst (Dc P ops o tm S)) S
   |_=>(o.guard=none/\(OF o.op tm).isSome=true/\EE P n ops o tm S)/\qV k P n b ops K l ((i,W9 (OF o.op tm) S)::B) (put tm o.dst (Dc P ops o tm S)) S
theorem yA(k:Nat):∀{l:List (Nat×Bool×Oper)} {B:List (Nat×(Sg->Prop))} {tm:Tm} {S:Sg},qV k P n b ops K l B tm S->Ag P n b ops B l tm S K
 |[],_,_,_,h=>xM h
 |(i,q,o)::l,_,_,_,h=>by
  unfold qV at h;split at h
  .exact h
  .rename_i g;simp only[bi]at g;obtain⟨rfl,-⟩:=g;split at h
   .exact Hz h.1 (yA _ h.2)
   .exact xG h.1 (yA _ h.2)
   .exact Ag.qn h.1 (yA _ h.2)
def rB(P:Program)(n b:Nat)(ops:Array Oper)(K:Tm->Sg->Prop):List (Nat×Bool×Oper)->List (Nat×(Sg->Prop))->Tm->Sg->Prop
 |[],_,tm,S=>K tm S
 |(i,q,o)::l,B,tm,S=>match q with
  |false=>Ag P n b ops B ((i,q,o)::l) tm S K
  |true=>match o.guard with
   |none=>(match Ej o.op with
    |true=>Ag P n b ops B ((i,q,o)::l) tm S K
    |false=>(EE P n ops o tm S/\oS P o tm S=S)/\rB P n b ops K l ((i,λS'=>S'=S)::B) (put tm o.dst (Dc P ops o tm S)) S)
   |some (j,w)=>(match CW ops tm j w with
    |some false=>BA n o.dst/\rB P n b ops K l ((i,λ_=>True)::B) (put tm o.dst (.opt false (.d (.bool false)))) S
    |some true=>(match Ej o.op with
     |true=>Ag P n b ops B ((i,q,o)::l) tm S K
     |false=>(BA n o.dst/\Bd P o.op tm S/\DC P o.op tm S=S)/\rB P n b ops K l ((i,λS'=>S'=S)::B) (put tm o.dst (Bh P o.op tm S)) S)
    |none=>False)
theorem yZ:∀{l:List (Nat×Bool×Oper)} {B:List (Nat×(Sg->Prop))} {tm:Tm} {S:Sg},rB P n b ops K l B tm S->Ag P n b ops B l tm S K
 |[],_,_,_,h=>xM h
 |(i,q,o)::l,_,tm,_,h=>by
  unfold rB at h;cases q with
  |false=>exact h
  |true=>
   simp only[]at h;cases g:o.guard with
   |none=>
    rw[g]at h;simp only[]at h;cases k:Ej o.op<;>rw[k]at h
    .exact Hz h.1 (yZ h.2)
    .exact h
   |some m=>
    obtain⟨j,w⟩:=m;rw[g]at h;simp only[]at h;split at h
    .exact Pv rfl g ⟨h.1,‹_›⟩ (yZ h.2)
    .cases k:Ej o.op<;>rw[k]at h
     .exact Ag.QL rfl g ⟨‹_›,h.1⟩ (yZ h.2)
     .exact h
    .exact h.elim
theorem yQ{next:Tm->Sg->Prop}{i j:Nat}{y:Code}{g:Exit->Tm->Sg->Prop}:HQ (C4 (AW P n b y Q) g) () .normal tm S=HW P n b y Q () tm S/\HQ (C4 next Q) () .normal tm S=next tm S/\HQ (BW i Q) () .normal tm S=HQ Q () .normal tm S/\C4 (AW P n b y Q) g .normal tm S=HW P n b y Q () tm S/\C4 next Q .normal tm S=next tm S/\C4 next Q .ret tm S=Q .ret tm S/\C4 next Q (.exit i) tm S=Q (.exit i) tm S/\BW i Q .normal tm S=Q .normal tm S/\BW i Q .ret tm S=Q .ret tm S/\BW i Q (.exit j) tm S=if j=i then Q .normal tm S else Q (.exit j) tm S:=⟨rfl,rfl,rfl,rfl,rfl,rfl,rfl,rfl,rfl,rfl⟩
def zQ(fn:Func)(n k:Nat):Bool×Bool×Option Code×Nat:=(fn.name== "runtime.NumGoroutine",decide<|k<=n,fn.body,fn.ntmps)
theorem AAA{fn:Func}{n k:Nat}{c:Code}(h:zQ fn n k=(false,true,some c,n)):(fn.name== "runtime.NumGoroutine")=false/\k<=n/\fn.body=some c/\fn.ntmps=n:=by
 simp only[zQ,GE,cF]at h;exact h
theorem zP{f:FuncId}{c:Code}{ds:List D}{d:D}{fn:Func}(g:P.funcs[f]?=some fn)(n:Nat)(j:zQ fn n ds.length=(false,true,some c,n))(h:Bs ds->AW P n 0 c (sM P n fn.results.toList d) (E3 (ds.map .d)) []):Pure P f ds d:=by
 obtain⟨h1,k,m,rfl⟩:=AAA j;exact eJ g h1 m k h
theorem zC{f:FuncId}{c:Code}{args:List V}{fn:Func}(g:P.funcs[f]?=some fn)(n:Nat)(j:zQ fn n args.length=(false,true,some c,n))(h:Hw args->OI S->AW P n S.length c (sP P n S.length fn.results.toList v S') (E3 args) S):AG P f args S v S':=by
 obtain⟨h1,k,m,rfl⟩:=AAA j;exact md g h1 m k h
theorem zD{f:FuncId}{c:Code}{args:List V}{d:D}{fn:Func}(g:P.funcs[f]?=some fn)(n:Nat)(j:zQ fn n args.length=(false,true,some c,n))(h:Hw args->OI S->AW P n S.length c (qF P n S.length fn.results.toList d S') (E3 args) S):AG P f args S (.d d) S':=by
 obtain⟨h1,k,m,rfl⟩:=AAA j;exact AG.CJ g h1 m k h
theorem zR{f:FuncId}{c:Code}{args:List V}{R:V->Sg->Prop}{fn:Func}(g:P.funcs[f]?=some fn)(n:Nat)(j:zQ fn n args.length=(false,true,some c,n))(h:Hw args->OI S->AW P n S.length c (UF P n S.length fn.results.toList R) (E3 args) S):BP P f args S R:=by
 obtain⟨h1,k,m,rfl⟩:=AAA j;exact BP.AK g h1 m k h
theorem zT{g:List ResultVar}{d:D}(h:J6 P tm S g/\Ba S (Lc P tm S g)=some d):AW P n b .ret (sM P n g d) tm S:=Af ⟨_,_,λG w _ st _=>⟨G,st,yL G S w,GT (cq _)⟩,h⟩
theorem zL{c:Code}(N:Nat)(Inv:Nat->Tm->Sg->Prop)(h0:Inv 0 tm S)
  (j:∀i tm S,i<=N->Inv i tm S->AW P n b c (C4 (λtm' S'=>i<N/\∃g h,AJ P n b tm' S' g h/\Inv (i+1) g h) Q) tm S):AW P n b (.loop c) Q tm S:=DV N Inv (cq _) h0 j
end
attribute [simp] tK qf qV rB
structure Ap where
 var:Int
 low:Int
 high:Int
 deriving DecidableEq
structure AN where
 nodes:List Ap
 root:Int
 deriving DecidableEq
structure Symbol where
 token:Bool
 index:Int
 deriving DecidableEq
structure Fh where
 kind:Int
 a:Int
 b:Int
 deriving DecidableEq
structure BC where
 kind:Int
 lo:Int
 hi:Int
 a:Int
 b:Int
 deriving DecidableEq
structure Scope where
 opens:Bool
 declares:Int
 kind:Int
 FW:Int
 allowed:Int
 deriving DecidableEq
structure Token where
 name:ByteArray
 cls:Int
 literal:ByteArray
 pattern:List BC
 Dk:ByteArray
 cond:AN
 deriving DecidableEq
structure AO where
 name:ByteArray
 left:Int
 right:List Symbol
 cond:AN
 bracket:Bool
 D6:Int
 layout:List Fh
 scope:Scope
 deriving DecidableEq
structure Level where
 AD:List Int
 assoc:Int
 cond:AN
 deriving DecidableEq
structure Filter where
 kind:Int
 parent:Int
 at_:Int
 child:Int
 left:Int
 token:Int
 tokens:List Int
 cond:AN
 deriving DecidableEq
structure AE where
 conds:List ByteArray
 fam:AN
 Ae:List Token
 A2:List ByteArray
 AD:List AO
 start:Int
 levels:List Level
 AU:List Filter
 deriving DecidableEq
structure Cw where
 hole:Int
 prod:Int
 token:Int
 text:ByteArray
 deriving DecidableEq
structure Rewrite where
 prod:Int
 at_:Int
 child:Int
 A4:List Cw
 deriving DecidableEq
structure AX where
 kind:Int
 number:Int
 at_:Int
 to:Int
 name:ByteArray
 value:Bool
 cond:AN
 levels:List Level
 AU:List Filter
 token:Token
 prod:AO
 A4:List Cw
 deriving DecidableEq
inductive DT where
 |leaf (b:Bool)
 |node (v:Int) (lo hi:DT)
 deriving DecidableEq
namespace DT
def level:DT->Int|leaf _=>64|node v _ _=>v
def size:DT->Nat|leaf _=>0|node _ l h=>l.size+h.size+1
def Ca:DT->(Int->Bool)->Bool|leaf b,_=>b|node v l h,c=>if c v then h.Ca c else l.Ca c
def Good:DT->Prop|leaf _=>True|node v l h=>0<=v/\v<=63/\l≠h/\v<l.level/\v<h.level/\l.Good/\h.Good
def lo(v:Int):DT->DT|leaf b=>leaf b|node w l h=>if w=v then l else node w l h
def hi(v:Int):DT->DT|leaf b=>leaf b|node w l h=>if w=v then h else node w l h
def mk(v:Int)(l h:DT):DT:=if l=h then l else node v l h
def FP(c:Int->Bool)(v:Int)(b:Bool):Int->Bool:=λw=>if w=v then b else c w
theorem PM{t:DT}(h:t.Good):t.level<=64:=by
 cases t with
 |leaf=>exact vb _
 |node v l r=>simp[Good]at h;simp[level];omega
theorem OY{t:DT}(h:t.Good){v:Int}(j:v<t.level)(c:Int->Bool)(b:Bool):t.Ca (FP c v b)=t.Ca c:=by
 induction t with
 |leaf=>rfl
 |node w l r g i=>
  obtain⟨h0,h1,q,s,u,k,m⟩:=h;simp[level]at j;have o:FP c v b w=c w:=by simp[FP];omega
  simp[Ca,o];rw[g k (by omega),i m (by omega)]
theorem Mj{t:DT}(h:t.Good)(v:Int):(t.lo v).Good:=by
 cases t with
 |leaf=>trivial
 |node w l r=>simp[lo];split;exact h.2.2.2.2.2.1;exact h
theorem Lx{t:DT}(h:t.Good)(v:Int):(t.hi v).Good:=by
 cases t with
 |leaf=>trivial
 |node w l r=>simp[hi];split;exact h.2.2.2.2.2.2;exact h
theorem PD{t:DT}(h:t.Good){v:Int}(g:v<=t.level)(i:v<=63):v<(t.lo v).level:=by
 cases t with
 |leaf=>simp[lo,level];omega
 |node w l r=>
  obtain⟨h0,h1,j,k,m,o,q⟩:=h;simp[level]at g;simp[lo];split
  .omega
  .simp[level];omega
theorem PE{t:DT}(h:t.Good){v:Int}(g:v<=t.level)(i:v<=63):v<(t.hi v).level:=by
 cases t with
 |leaf=>simp[hi,level];omega
 |node w l r=>
  obtain⟨h0,h1,j,k,m,o,q⟩:=h;simp[level]at g;simp[hi];split
  .omega
  .simp[level];omega
theorem Vm{t:DT}(h:t.Good){v:Int}(g:v<=t.level)(c:Int->Bool):(t.lo v).Ca c=t.Ca (FP c v false):=by
 cases t with
 |leaf=>rfl
 |node w l r=>
  have i:=h;obtain⟨h0,h1,m,j,o,k,q⟩:=h;simp[level]at g;simp[lo];split
  .next e=>subst e;simp[Ca,FP];exact(OY k j c false).symm
  .exact(OY i (by simp[level];omega) c false).symm
theorem Vg{t:DT}(h:t.Good){v:Int}(g:v<=t.level)(c:Int->Bool):(t.hi v).Ca c=t.Ca (FP c v true):=by
 cases t with
 |leaf=>rfl
 |node w l r=>
  have i:=h;obtain⟨h0,h1,m,o,j,q,k⟩:=h;simp[level]at g;simp[hi];split
  .next e=>subst e;simp[Ca,FP];exact(OY k j c true).symm
  .exact(OY i (by simp[level];omega) c true).symm
theorem Qw{t:DT}(v:Int)(c:Int->Bool):t.Ca c=if c v then(t.hi v).Ca c else(t.lo v).Ca c:=by
 cases t with
 |leaf=>simp[Ca,lo,hi]
 |node w l r=>
  by_cases e:w=v
  .subst e;simp[lo,hi,Ca]
  .simp[lo,hi,e]
theorem n6(v:Int)(l h:DT)(c:Int->Bool):(mk v l h).Ca c=if c v then h.Ca c else l.Ca c:=by
 unfold mk;split
 .next e=>subst e;simp
 .rfl
theorem s7{v:Int}{l h:DT}(h0:0<=v)(h1:v<=63)(g:l.Good)(i:h.Good)(j:v<l.level)(k:v<h.level):(mk v l h).Good:=by
 unfold mk;split
 .exact g
 .next e=>exact⟨h0,h1,e,j,k,g,i⟩
theorem ie{v:Int}{l h:DT}(g:v<l.level):v<=(mk v l h).level:=by
 unfold mk;split
 .omega
 .exact vb _
theorem Lm(t:DT)(v:Int):(t.lo v).size<=t.size:=by
 cases t with
 |leaf=>exact br _
 |node w l r=>simp[lo];split<;>simp[size];omega
theorem MF(t:DT)(v:Int):(t.hi v).size<=t.size:=by
 cases t with
 |leaf=>exact br _
 |node w l r=>simp[hi];split<;>simp[size];omega
theorem Hj{t:DT}{v:Int}(h:t.level=v)(g:v≠64):(t.lo v).size<t.size:=by
 cases t with
 |leaf=>exact absurd h.symm g
 |node w l r=>simp[level]at h;simp[lo,h,size];omega
theorem Ha{t:DT}{v:Int}(h:t.level=v)(g:v≠64):(t.hi v).size<t.size:=by
 cases t with
 |leaf=>exact absurd h.symm g
 |node w l r=>simp[level]at h;simp[hi,h,size];omega
theorem Dr{t:DT}(h:t.size=0):∃b,t=leaf b:=by
 cases t with
 |leaf b=>exact⟨b,rfl⟩
 |node=>simp[size]at h
theorem FK{t:DT}(g:t.Good)(h:t.size≠0):0<=t.level/\t.level<=63:=by
 cases t with
 |leaf b=>exact absurd rfl h
 |node v l r=>exact⟨g.1,g.2.1⟩
theorem Rf{t:DT}{v:Int}(h:t.level≠v):t.lo v=t:=by
 cases t with
 |leaf=>rfl
 |node w l r=>simp[level]at h;simp[lo,h]
theorem SY{t:DT}{v:Int}(h:t.level≠v):t.hi v=t:=by
 cases t with
 |leaf=>rfl
 |node w l r=>simp[level]at h;simp[hi,h]
theorem WS(n:Nat):∀s t:DT,s.size+t.size<=n->s.Good->t.Good->(∀c,s.Ca c=t.Ca c)->s=t:=by
 induction n with
 |zero=>
  intro s t hn j i h;obtain⟨a,rfl⟩:=Dr (t:=s) (by omega);obtain⟨b,rfl⟩:=Dr (t:=t) (by omega);have:=h λ_=>false;simp[Ca]at this;rw[this]
 |succ n F=>
  intro s t hn j i h;by_cases B:s.size=0/\t.size=0
  .obtain⟨a,rfl⟩:=Dr B.1;obtain⟨b,rfl⟩:=Dr B.2;have:=h λ_=>false;simp[Ca]at this;rw[this]
  have G:∃v:Int,v=min s.level t.level/\v<=63/\(s.level=v\/t.level=v):=by
   refine⟨_,rfl,?_,by omega⟩;by_cases h1:s.size=0
   .have:=FK i (λe=>B ⟨h1,e⟩);omega
   .have:=FK j h1;omega
  obtain⟨v,G,K,o⟩:=G;have q:v<=s.level:=by omega
  have u:v<=t.level:=by omega
  have g:s.lo v=t.lo v:=by
   refine F _ _ ?_ (Mj j v) (Mj i v) λc=>by rw[Vm j q,Vm i u,h]
   have:=Lm s v;have:=Lm t v;rcases o with e|e
   .have:=Hj e (by omega);omega
   .have:=Hj e (by omega);omega
  have z:s.hi v=t.hi v:=by
   refine F _ _ ?_ (Lx j v) (Lx i v) λc=>by rw[Vg j q,Vg i u,h]
   have:=MF s v;have:=MF t v;rcases o with e|e
   .have:=Ha e (by omega);omega
   .have:=Ha e (by omega);omega
  have key:∀x:DT,x.Good->x.level=v->∃l h,x=node v l h/\l≠h/\x.lo v=l/\x.hi v=h:=by
   intro x L e;cases x with
   |leaf=>simp[level]at e;omega
   |node w l r=>simp[level]at e;subst e;exact⟨l,r,rfl,L.2.2.1,by simp[lo],by simp[hi]⟩
  by_cases C:s.level=v
  .obtain⟨l,r,M,E,el,H⟩:=key s j C;by_cases A:t.level=v
   .obtain⟨N,P,J,_,k,m⟩:=key t i A;rw[M,J,<-el,<-H,<-k,<-m,g,z]
   .rw[Rf A]at g;rw[SY A]at z;exact absurd (by rw[<-el,<-H,g,z]) E
  .have A:t.level=v:=by omega
   obtain⟨N,P,J,E,k,m⟩:=key t i A;rw[Rf C]at g;rw[SY C]at z;exact absurd (by rw[<-k,<-m,<-g,<-z]) E
theorem unique{s t:DT}(hs:s.Good)(g:t.Good)(h:∀c,s.Ca c=t.Ca c):s=t:=WS _ s t (br _) hs g h
end DT
open DT
def Bl(N:List Ap):DT->Int->Prop
 |.leaf b,n=>n=if b then 1 else 0
 |.node v s t,n=>∃k:Nat,n=k+2/\∃lo hi,N[k]?=some ⟨v,lo,hi⟩/\Bl N s lo/\Bl N t hi
theorem Bl.uniq{N:List Ap}:∀{s t:DT} {n:Int},Bl N s n->Bl N t n->s=t:=by
 intro s;induction s with
 |leaf a=>
  intro t n h1 g;cases t with
  |leaf b=>simp[Bl]at h1 g;cases a<;>cases b<;>simp_all
  |node v l r=>obtain⟨k,m,_⟩:=g;simp[Bl]at h1;split at h1<;>omega
 |node v l r h i=>
  intro t n h1 g;cases t with
  |leaf b=>obtain⟨k,m,_⟩:=h1;simp[Bl]at g;split at g<;>omega
  |node w A B=>
   obtain⟨k,m,lo,hi,e,a,b⟩:=h1;obtain⟨o,C,q,E,j,u,z⟩:=g;obtain rfl:k=o:=by omega
   rw[e]at j;simp[Ap.mk.injEq]at j;obtain⟨rfl,rfl,rfl⟩:=j;rw[h a u,i b z]
theorem Bl.inj{N:List Ap}(j:N.Nodup):∀{t:DT} {n m:Int},Bl N t n->Bl N t m->n=m:=by
 intro t;induction t with
 |leaf a=>intro n m h1 g;simp[Bl]at h1 g;rw[h1,g]
 |node v l r h i=>
  intro n m h1 g;obtain⟨k,z,lo,hi,e,a,b⟩:=h1;obtain⟨o,A,q,B,s,u,w⟩:=g;obtain rfl:=h a u;obtain rfl:=i b w;obtain⟨C,h1⟩:=df.1 e;obtain⟨E,g⟩:=df.1 s;have:k=o:=(List.getElem_inj j).1 (h1.trans g.symm);omega
theorem Bl.mono{N:List Ap}(M:List Ap):∀{t:DT} {n:Int},Bl N t n->Bl (N++M) t n:=by
 intro t;induction t with
 |leaf a=>intro n h;exact h
 |node v l r g i=>
  intro n h;obtain⟨k,j,lo,hi,e,a,b⟩:=h;refine⟨k,j,lo,hi,?_,g a,i b⟩;obtain⟨m,h1⟩:=df.1 e;rw[ej m];exact e
theorem Bl.range{N:List Ap}{t:DT}{n:Int}(h:Bl N t n):0<=n/\n<N.length+2:=by
 cases t with
 |leaf b=>simp[Bl]at h;cases b<;>simp at h<;>omega
 |node v l r=>
  obtain⟨k,g,lo,hi,e,a,b⟩:=h;obtain⟨i,h1⟩:=df.1 e;omega
theorem Bl.FB{N:List Ap}{t:DT}{n:Int}(h:Bl N t n):n<2↔∃b,t=.leaf b:=by
 cases t with
 |leaf b=>simp[Bl]at h;cases b<;>simp at h<;>simp[h]
 |node v l r=>
  obtain⟨k,g,lo,hi,e,a,b⟩:=h;constructor
  .intro;omega
  .rintro⟨b,hb⟩;exact absurd hb (by simp)
theorem Bl.zero{N:List Ap}{t:DT}(h:Bl N t 0):t=.leaf false:=h.uniq (by simp[Bl])
theorem Bl.one{N:List Ap}{t:DT}(h:Bl N t 1):t=.leaf true:=h.uniq (by simp[Bl])
structure Py(N:List Ap):Prop where
 nodup:N.Nodup
 all:∀k,k<N.length->∃t,t.Good/\Bl N t (k+2)
theorem Py.nil:Py []:=⟨acU,λ_ h=>absurd h (by simp)⟩
theorem Py.get{N:List Ap}(h:Py N){n:Int}(h0:0<=n)(h1:n<N.length+2):∃t,t.Good/\Bl N t n:=by
 by_cases g:n=0
 .subst g;exact⟨.leaf false,trivial,by simp[Bl]⟩
 by_cases i:n=1
 .subst i;exact⟨.leaf true,trivial,by simp[Bl]⟩
 have:=h.all (n - 2).toNat (by omega);rwa [show(((n - 2).toNat:Int)+2)=n by omega]at this
theorem Py.snoc{N:List Ap}(h:Py N){v lo hi:Int}{s t:DT}(h0:0<=v)(h1:v<=63)(hs:s.Good)(q:t.Good)(w:v<s.level)(lt:v<t.level)
  (i:Bl N s lo) (j:Bl N t hi) (z:lo≠hi) (g:⟨v,lo,hi⟩∉N):Py (N++[⟨v,lo,hi⟩])/\Bl (N++[⟨v,lo,hi⟩]) (.node v s t) (N.length+2)/\(DT.node v s t).Good:=by
 have A:s≠t:=λe=>by subst e;exact z (i.inj h.nodup j)
 have m:Bl (N++[⟨v,lo,hi⟩]) (.node v s t) (N.length+2):=⟨N.length,rfl,lo,hi,by simp,i.mono _,j.mono _⟩;have o:(DT.node v s t).Good:=⟨h0,h1,A,w,lt,hs,q⟩;refine⟨⟨?_,λk B=>?_⟩,m,o⟩
 .rw[rt];refine⟨h.nodup,by simp,?_⟩;intro a ha b hb e;simp at hb;subst e;subst hb;exact g ha
 .simp at B;by_cases e:k=N.length
  .subst e;exact⟨_,o,m⟩
  .obtain⟨u,C,E⟩:=h.all k (by omega);exact⟨u,C,E.mono _⟩
def emit:DT->List DT->List DT
 |.leaf _,L=>L
 |.node v l h,L=>if DT.node v l h∈L then L else emit h (emit l L)++[.node v l h]
def num(L:List DT):DT->Int
 |.leaf b=>if b then 1 else 0
 |t=>L.idxOf t+2
def aJ(L:List DT):DT->Ap
 |.leaf _=>⟨0,0,0⟩
 |.node v l h=>⟨v,num L l,num L h⟩
def GY(L:List DT)(t:DT):Prop:=(∃b,t=.leaf b)\/t∈L
def IE(L:List DT):Prop:=∀v l h,DT.node v l h∈L->GY L l/\GY L h
def qK(L:List DT)(t:DT):AN:=⟨L.map (aJ L),num L t⟩
def Cq(t:DT):AN:=qK (emit t []) t
theorem GY.mono{L:List DT}{t:DT}(h:GY L t)(M:List DT):GY (L++M) t:=by
 rcases h with h|h
 .exact .inl h
 .exact .inr (acm _ h)
theorem Nj(t:DT):∀L,∃M,emit t L=L++M:=by
 induction t with
 |leaf b=>intro L;exact⟨[],by simp[emit]⟩
 |node v l h g i=>
  intro L;unfold emit;split
  .exact⟨[],by simp⟩
  .obtain⟨j,k⟩:=g L;obtain⟨m,o⟩:=i (emit l L);exact⟨j++m++[.node v l h],by rw[o,k];simp⟩
theorem H0(t:DT)(L:List DT):GY (emit t L) t:=by
 cases t with
 |leaf b=>exact .inl ⟨b,rfl⟩
 |node v l h=>
  unfold emit;split
  .next h=>exact .inr h
  .exact .inr (by simp)
theorem NT{L:List DT}{s:DT}(t:DT)(h:GY L s):GY (emit t L) s:=by
 obtain⟨M,e⟩:=Nj t L;rw[e];exact h.mono M
theorem J7(t:DT):∀L,IE L->IE (emit t L):=by
 induction t with
 |leaf b=>intro L h;exact h
 |node v l h i j=>
  intro L k;unfold emit;split
  .exact k
  .have h1:=j _ (i L k);intro w a b g;rcases dl.1 g with g|g
   .have:=h1 w a b g;exact⟨this.1.mono _,this.2.mono _⟩
   .simp[DT.node.injEq]at g;obtain⟨rfl,rfl,rfl⟩:=g;exact⟨(NT b (H0 a L)).mono _,(H0 b _).mono _⟩
theorem F5{L:List DT}{t:DT}(h:GY L t)(M:List DT):num (L++M) t=num L t:=by
 cases t with
 |leaf b=>rfl
 |node v l r=>
  rcases h with⟨b,hb⟩|h
  .exact absurd hb (by simp)
  .simp[num];rw[List.idxOf_append,ap h]
theorem VE{L:List DT}(g:IE L){t:DT}(h:t∈L)(M:List DT):aJ (L++M) t=aJ L t:=by
 cases t with
 |leaf b=>rfl
 |node v l r=>have:=g v l r h;simp only[aJ];rw[F5 this.1,F5 this.2]
theorem NM{L:List DT}{t:DT}(h:GY L t):0<=num L t/\num L t<L.length+2:=by
 cases t with
 |leaf b=>simp[num];cases b<;>simp<;>omega
 |node v l r=>
  rcases h with⟨b,hb⟩|h
  .exact absurd hb (by simp)
  .have:=ac4 h;simp[num];omega
theorem RH{L:List DT}(j:IE L):∀{t:DT},GY L t->Bl (L.map (aJ L)) t (num L t):=by
 intro t;induction t with
 |leaf b=>intro _;simp[Bl,num]
 |node v l r g i=>
  intro h;rcases h with⟨b,hb⟩|h
  .exact absurd hb (by simp)
  .have hi:=ac4 h;have:=j v l r h;refine⟨L.idxOf (.node v l r),rfl,num L l,num L r,?_,g this.1,i this.2⟩;rw[xi,ci hi,List.getElem_idxOf hi];rfl
theorem IE.nil:IE []:=λ_ _ _ h=>absurd h (by simp)
theorem GO(t:DT):Bl (Cq t).nodes t (Cq t).root:=RH (J7 t [] IE.nil) (H0 t [])
theorem Oc{s t:DT}(h:Cq s=Cq t):s=t:=(GO s).uniq (h▸GO t)
theorem Gi(b:Bool):Cq (.leaf b)=⟨[],if b then 1 else 0⟩:=rfl
open Go.Proofs
@[simp] def DN(x:Bool):D:=.bool x
@[simp] def AF(n:Int):D:=.int .i64 n
@[simp] def BO(s:ByteArray):D:=.str s
@[simp] def A9(l:List Int):D:=.sl (l.map AF)
@[simp] def By(l:List ByteArray):D:=.sl (l.map BO)
def Aa(x:Ap):D:=.agg [AF x.var,AF x.low,AF x.high]
@[simp] theorem ZO(x:Ap):Ai (.d (Aa x))=[.d (AF x.var),.d (AF x.low),.d (AF x.high)]:=rfl
@[simp] theorem ZJ(x:Ap):At (.d (Aa x))=true:=rfl
@[simp] theorem gw(x:Ap):Bw (.d (Aa x))=false:=rfl
@[simp] theorem Ya(x:Ap):BN (Aa x)=[AF x.var,AF x.low,AF x.high]:=rfl
@[simp] theorem iq(x:Ap):CZ.oneD (Aa x)=true:=rfl
@[simp] theorem jn(x:Ap):DZ (Aa x)=Bs [AF x.var,AF x.low,AF x.high]:=rfl
@[simp] theorem fD(x y:Ap):Cg [D.int .i64 x.var,D.int .i64 x.low,D.int .i64 x.high] [D.int .i64 y.var,D.int .i64 y.low,D.int .i64 y.high]=decide (x=y):=by
 cases x;cases y;rw[eg];simp[Cg,De]
@[simp] theorem aM(S:Sg)(x:Ap):Dm S (.d (Aa x))=some [AF x.var,AF x.low,AF x.high]:=rfl
@[simp] def AY(l:List Ap):D:=.sl (l.map Aa)
def AB(x:AN):D:=.agg [AY x.nodes,AF x.root]
@[simp] theorem Xo(x:AN):Ai (.d (AB x))=[.d (AY x.nodes),.d (AF x.root)]:=rfl
@[simp] theorem Xc(x:AN):At (.d (AB x))=true:=rfl
@[simp] theorem bH(x:AN):Bw (.d (AB x))=false:=rfl
@[simp] theorem XW(x:AN):BN (AB x)=[AY x.nodes,AF x.root]:=rfl
@[simp] theorem ah(x:AN):CZ.oneD (AB x)=true:=rfl
@[simp] theorem jb(x:AN):DZ (AB x)=Bs [AY x.nodes,AF x.root]:=rfl
@[simp] theorem YD(S:Sg)(x:AN):Dm S (.d (AB x))=some [AY x.nodes,AF x.root]:=rfl
def AI(x:Symbol):D:=.agg [DN x.token,AF x.index]
@[simp] theorem Y6(x:Symbol):Ai (.d (AI x))=[.d (DN x.token),.d (AF x.index)]:=rfl
@[simp] theorem ZF(x:Symbol):At (.d (AI x))=true:=rfl
@[simp] theorem cy(x:Symbol):Bw (.d (AI x))=false:=rfl
@[simp] theorem Yn(x:Symbol):BN (AI x)=[DN x.token,AF x.index]:=rfl
@[simp] theorem cC(x:Symbol):CZ.oneD (AI x)=true:=rfl
@[simp] theorem j8(x:Symbol):DZ (AI x)=Bs [DN x.token,AF x.index]:=rfl
@[simp] theorem ik(x y:Symbol):Cg [D.bool x.token,D.int .i64 x.index] [D.bool y.token,D.int .i64 y.index]=decide (x=y):=by
 cases x;cases y;rw[eg];simp[Cg,De]
@[simp] theorem bD(S:Sg)(x:Symbol):Dm S (.d (AI x))=some [DN x.token,AF x.index]:=rfl
@[simp] def Az(l:List Symbol):D:=.sl (l.map AI)
def BH(x:Fh):D:=.agg [AF x.kind,AF x.a,AF x.b]
@[simp] theorem YP(x:Fh):Ai (.d (BH x))=[.d (AF x.kind),.d (AF x.a),.d (AF x.b)]:=rfl
@[simp] theorem ZP(x:Fh):At (.d (BH x))=true:=rfl
@[simp] theorem ct(x:Fh):Bw (.d (BH x))=false:=rfl
@[simp] theorem Zd(x:Fh):BN (BH x)=[AF x.kind,AF x.a,AF x.b]:=rfl
@[simp] theorem eD(x:Fh):CZ.oneD (BH x)=true:=rfl
@[simp] theorem mV(x:Fh):DZ (BH x)=Bs [AF x.kind,AF x.a,AF x.b]:=rfl
@[simp] theorem eS(x y:Fh):Cg [D.int .i64 x.kind,D.int .i64 x.a,D.int .i64 x.b] [D.int .i64 y.kind,D.int .i64 y.a,D.int .i64 y.b]=decide (x=y):=by
 cases x;cases y;rw[eg];simp[Cg,De]
@[simp] theorem aX(S:Sg)(x:Fh):Dm S (.d (BH x))=some [AF x.kind,AF x.a,AF x.b]:=rfl
@[simp] def Cc(l:List Fh):D:=.sl (l.map BH)
def AS(x:BC):D:=.agg [AF x.kind,AF x.lo,AF x.hi,AF x.a,AF x.b]
@[simp] theorem aG(x:BC):Ai (.d (AS x))=[.d (AF x.kind),.d (AF x.lo),.d (AF x.hi),.d (AF x.a),.d (AF x.b)]:=rfl
@[simp] theorem aT(x:BC):At (.d (AS x))=true:=rfl
@[simp] theorem jS(x:BC):Bw (.d (AS x))=false:=rfl
@[simp] theorem bA(x:BC):BN (AS x)=[AF x.kind,AF x.lo,AF x.hi,AF x.a,AF x.b]:=rfl
@[simp] theorem ja(x:BC):CZ.oneD (AS x)=true:=rfl
@[simp] theorem nY(x:BC):DZ (AS x)=Bs [AF x.kind,AF x.lo,AF x.hi,AF x.a,AF x.b]:=rfl
@[simp] theorem jU(x y:BC):Cg [D.int .i64 x.kind,D.int .i64 x.lo,D.int .i64 x.hi,D.int .i64 x.a,D.int .i64 x.b] [D.int .i64 y.kind,D.int .i64 y.lo,D.int .i64 y.hi,D.int .i64 y.a,D.int .i64 y.b]=decide (x=y):=by
 cases x;cases y;rw[eg];simp[Cg,De]
@[simp] theorem dY(S:Sg)(x:BC):Dm S (.d (AS x))=some [AF x.kind,AF x.lo,AF x.hi,AF x.a,AF x.b]:=rfl
@[simp] def Ay(l:List BC):D:=.sl (l.map AS)
def EW(x:Scope):D:=.agg [DN x.opens,AF x.declares,AF x.kind,AF x.FW,AF x.allowed]
@[simp] theorem aE(x:Scope):Ai (.d (EW x))=[.d (DN x.opens),.d (AF x.declares),.d (AF x.kind),.d (AF x.FW),.d (AF x.allowed)]:=rfl
@[simp] theorem aL(x:Scope):At (.d (EW x))=true:=rfl
@[simp] theorem jD(x:Scope):Bw (.d (EW x))=false:=rfl
@[simp] theorem az(x:Scope):BN (EW x)=[DN x.opens,AF x.declares,AF x.kind,AF x.FW,AF x.allowed]:=rfl
@[simp] theorem jf(x:Scope):CZ.oneD (EW x)=true:=rfl
@[simp] theorem nX(x:Scope):DZ (EW x)=Bs [DN x.opens,AF x.declares,AF x.kind,AF x.FW,AF x.allowed]:=rfl
@[simp] theorem Qe(x y:Scope):Cg [D.bool x.opens,D.int .i64 x.declares,D.int .i64 x.kind,D.int .i64 x.FW,D.int .i64 x.allowed] [D.bool y.opens,D.int .i64 y.declares,D.int .i64 y.kind,D.int .i64 y.FW,D.int .i64 y.allowed]=decide (x=y):=by
 cases x;cases y;rw[eg];simp[Cg,De]
@[simp] theorem gm(S:Sg)(x:Scope):Dm S (.d (EW x))=some [DN x.opens,AF x.declares,AF x.kind,AF x.FW,AF x.allowed]:=rfl
def Ad(x:Token):D:=.agg [BO x.name,AF x.cls,BO x.literal,Ay x.pattern,BO x.Dk,AY x.cond.nodes,AF x.cond.root]
@[simp] theorem bN(x:Token):Ai (.d (Ad x))=[.d (BO x.name),.d (AF x.cls),.d (BO x.literal),.d (Ay x.pattern),.d (BO x.Dk),.d (AY x.cond.nodes),.d (AF x.cond.root)]:=rfl
@[simp] theorem bG(x:Token):At (.d (Ad x))=true:=rfl
@[simp] theorem jZ(x:Token):Bw (.d (Ad x))=false:=rfl
@[simp] theorem aI(x:Token):BN (Ad x)=[BO x.name,AF x.cls,BO x.literal,Ay x.pattern,BO x.Dk,AY x.cond.nodes,AF x.cond.root]:=rfl
@[simp] theorem jX(x:Token):CZ.oneD (Ad x)=true:=rfl
@[simp] theorem nA(x:Token):DZ (Ad x)=Bs [BO x.name,AF x.cls,BO x.literal,Ay x.pattern,BO x.Dk,AY x.cond.nodes,AF x.cond.root]:=rfl
@[simp] theorem cJ(S:Sg)(x:Token):Dm S (.d (Ad x))=some [BO x.name,AF x.cls,BO x.literal,Ay x.pattern,BO x.Dk,AY x.cond.nodes,AF x.cond.root]:=rfl
@[simp] def DI(l:List Token):D:=.sl (l.map Ad)
def AH(x:AO):D:=.agg [BO x.name,AF x.left,Az x.right,AY x.cond.nodes,AF x.cond.root,DN x.bracket,AF x.D6,Cc x.layout,DN x.scope.opens,AF x.scope.declares,AF x.scope.kind,AF x.scope.FW,AF x.scope.allowed]
@[simp] theorem gP(x:AO):Ai (.d (AH x))=[.d (BO x.name),.d (AF x.left),.d (Az x.right),.d (AY x.cond.nodes),.d (AF x.cond.root),.d (DN x.bracket),.d (AF x.D6),.d (Cc x.layout),.d (DN x.scope.opens),.d (AF x.scope.declares),.d (AF x.scope.kind),.d (AF x.scope.FW),.d (AF x.scope.allowed)]:=rfl
@[simp] theorem dA(x:AO):At (.d (AH x))=true:=rfl
@[simp] theorem ku(x:AO):Bw (.d (AH x))=false:=rfl
@[simp] theorem dJ(x:AO):BN (AH x)=[BO x.name,AF x.left,Az x.right,AY x.cond.nodes,AF x.cond.root,DN x.bracket,AF x.D6,Cc x.layout,DN x.scope.opens,AF x.scope.declares,AF x.scope.kind,AF x.scope.FW,AF x.scope.allowed]:=rfl
@[simp] theorem ly(x:AO):CZ.oneD (AH x)=true:=rfl
@[simp] theorem pK(x:AO):DZ (AH x)=Bs [BO x.name,AF x.left,Az x.right,AY x.cond.nodes,AF x.cond.root,DN x.bracket,AF x.D6,Cc x.layout,DN x.scope.opens,AF x.scope.declares,AF x.scope.kind,AF x.scope.FW,AF x.scope.allowed]:=rfl
@[simp] theorem jd(S:Sg)(x:AO):Dm S (.d (AH x))=some [BO x.name,AF x.left,Az x.right,AY x.cond.nodes,AF x.cond.root,DN x.bracket,AF x.D6,Cc x.layout,DN x.scope.opens,AF x.scope.declares,AF x.scope.kind,AF x.scope.FW,AF x.scope.allowed]:=rfl
@[simp] def Co(l:List AO):D:=.sl (l.map AH)
def Ak(x:Level):D:=.agg [A9 x.AD,AF x.assoc,AY x.cond.nodes,AF x.cond.root]
@[simp] theorem bC(x:Level):Ai (.d (Ak x))=[.d (A9 x.AD),.d (AF x.assoc),.d (AY x.cond.nodes),.d (AF x.cond.root)]:=rfl
@[simp] theorem bJ(x:Level):At (.d (Ak x))=true:=rfl
@[simp] theorem jY(x:Level):Bw (.d (Ak x))=false:=rfl
@[simp] theorem af(x:Level):BN (Ak x)=[A9 x.AD,AF x.assoc,AY x.cond.nodes,AF x.cond.root]:=rfl
@[simp] theorem jC(x:Level):CZ.oneD (Ak x)=true:=rfl
@[simp] theorem nV(x:Level):DZ (Ak x)=Bs [A9 x.AD,AF x.assoc,AY x.cond.nodes,AF x.cond.root]:=rfl
@[simp] theorem dW(S:Sg)(x:Level):Dm S (.d (Ak x))=some [A9 x.AD,AF x.assoc,AY x.cond.nodes,AF x.cond.root]:=rfl
@[simp] def Bp(l:List Level):D:=.sl (l.map Ak)
def AM(x:Filter):D:=.agg [AF x.kind,AF x.parent,AF x.at_,AF x.child,AF x.left,AF x.token,A9 x.tokens,AY x.cond.nodes,AF x.cond.root]
@[simp] theorem Yx(x:Filter):Ai (.d (AM x))=[.d (AF x.kind),.d (AF x.parent),.d (AF x.at_),.d (AF x.child),.d (AF x.left),.d (AF x.token),.d (A9 x.tokens),.d (AY x.cond.nodes),.d (AF x.cond.root)]:=rfl
@[simp] theorem YU(x:Filter):At (.d (AM x))=true:=rfl
@[simp] theorem fS(x:Filter):Bw (.d (AM x))=false:=rfl
@[simp] theorem ZX(x:Filter):BN (AM x)=[AF x.kind,AF x.parent,AF x.at_,AF x.child,AF x.left,AF x.token,A9 x.tokens,AY x.cond.nodes,AF x.cond.root]:=rfl
@[simp] theorem fN(x:Filter):CZ.oneD (AM x)=true:=rfl
@[simp] theorem mM(x:Filter):DZ (AM x)=Bs [AF x.kind,AF x.parent,AF x.at_,AF x.child,AF x.left,AF x.token,A9 x.tokens,AY x.cond.nodes,AF x.cond.root]:=rfl
@[simp] theorem bF(S:Sg)(x:Filter):Dm S (.d (AM x))=some [AF x.kind,AF x.parent,AF x.at_,AF x.child,AF x.left,AF x.token,A9 x.tokens,AY x.cond.nodes,AF x.cond.root]:=rfl
@[simp] def BX(l:List Filter):D:=.sl (l.map AM)
def AA(x:AE):D:=.agg [By x.conds,AY x.fam.nodes,AF x.fam.root,DI x.Ae,By x.A2,Co x.AD,AF x.start,Bp x.levels,BX x.AU]
@[simp] theorem X2(x:AE):Ai (.d (AA x))=[.d (By x.conds),.d (AY x.fam.nodes),.d (AF x.fam.root),.d (DI x.Ae),.d (By x.A2),.d (Co x.AD),.d (AF x.start),.d (Bp x.levels),.d (BX x.AU)]:=rfl
@[simp] theorem Xd(x:AE):At (.d (AA x))=true:=rfl
@[simp] theorem aU(x:AE):Bw (.d (AA x))=false:=rfl
@[simp] theorem W5(x:AE):BN (AA x)=[By x.conds,AY x.fam.nodes,AF x.fam.root,DI x.Ae,By x.A2,Co x.AD,AF x.start,Bp x.levels,BX x.AU]:=rfl
@[simp] theorem bL(x:AE):CZ.oneD (AA x)=true:=rfl
@[simp] theorem jI(x:AE):DZ (AA x)=Bs [By x.conds,AY x.fam.nodes,AF x.fam.root,DI x.Ae,By x.A2,Co x.AD,AF x.start,Bp x.levels,BX x.AU]:=rfl
@[simp] theorem YZ(S:Sg)(x:AE):Dm S (.d (AA x))=some [By x.conds,AY x.fam.nodes,AF x.fam.root,DI x.Ae,By x.A2,Co x.AD,AF x.start,Bp x.levels,BX x.AU]:=rfl
def A7(x:Cw):D:=.agg [AF x.hole,AF x.prod,AF x.token,BO x.text]
@[simp] theorem aO(x:Cw):Ai (.d (A7 x))=[.d (AF x.hole),.d (AF x.prod),.d (AF x.token),.d (BO x.text)]:=rfl
@[simp] theorem ay(x:Cw):At (.d (A7 x))=true:=rfl
@[simp] theorem jV(x:Cw):Bw (.d (A7 x))=false:=rfl
@[simp] theorem bK(x:Cw):BN (A7 x)=[AF x.hole,AF x.prod,AF x.token,BO x.text]:=rfl
@[simp] theorem jW(x:Cw):CZ.oneD (A7 x)=true:=rfl
@[simp] theorem mi(x:Cw):DZ (A7 x)=Bs [AF x.hole,AF x.prod,AF x.token,BO x.text]:=rfl
@[simp] theorem jG(x y:Cw):Cg [D.int .i64 x.hole,D.int .i64 x.prod,D.int .i64 x.token,D.str x.text] [D.int .i64 y.hole,D.int .i64 y.prod,D.int .i64 y.token,D.str y.text]=decide (x=y):=by
 cases x;cases y;rw[eg];simp[Cg,De]
@[simp] theorem gM(S:Sg)(x:Cw):Dm S (.d (A7 x))=some [AF x.hole,AF x.prod,AF x.token,BO x.text]:=rfl
@[simp] def CP(l:List Cw):D:=.sl (l.map A7)
def Ab(x:Rewrite):D:=.agg [AF x.prod,AF x.at_,AF x.child,CP x.A4]
@[simp] theorem XH(x:Rewrite):Ai (.d (Ab x))=[.d (AF x.prod),.d (AF x.at_),.d (AF x.child),.d (CP x.A4)]:=rfl
@[simp] theorem Xq(x:Rewrite):At (.d (Ab x))=true:=rfl
@[simp] theorem aP(x:Rewrite):Bw (.d (Ab x))=false:=rfl
@[simp] theorem Xh(x:Rewrite):BN (Ab x)=[AF x.prod,AF x.at_,AF x.child,CP x.A4]:=rfl
@[simp] theorem aD(x:Rewrite):CZ.oneD (Ab x)=true:=rfl
@[simp] theorem jK(x:Rewrite):DZ (Ab x)=Bs [AF x.prod,AF x.at_,AF x.child,CP x.A4]:=rfl
@[simp] theorem Zo(S:Sg)(x:Rewrite):Dm S (.d (Ab x))=some [AF x.prod,AF x.at_,AF x.child,CP x.A4]:=rfl
@[simp] def A8(l:List Rewrite):D:=.sl (l.map Ab)
def Ao(x:AX):D:=.agg [AF x.kind,AF x.number,AF x.at_,AF x.to,BO x.name,DN x.value,AY x.cond.nodes,AF x.cond.root,Bp x.levels,BX x.AU,BO x.token.name,AF x.token.cls,BO x.token.literal,Ay x.token.pattern,BO x.token.Dk,AY x.token.cond.nodes,AF x.token.cond.root,BO x.prod.name,AF x.prod.left,Az x.prod.right,AY x.prod.cond.nodes,AF x.prod.cond.root,DN x.prod.bracket,AF x.prod.D6,Cc x.prod.layout,DN x.prod.scope.opens,AF x.prod.scope.declares,AF x.prod.scope.kind,AF x.prod.scope.FW,AF x.prod.scope.allowed,CP x.A4]
@[simp] theorem ZA(x:AX):Ai (.d (Ao x))=[.d (AF x.kind),.d (AF x.number),.d (AF x.at_),.d (AF x.to),.d (BO x.name),.d (DN x.value),.d (AY x.cond.nodes),.d (AF x.cond.root),.d (Bp x.levels),.d (BX x.AU),.d (BO x.token.name),.d (AF x.token.cls),.d (BO x.token.literal),.d (Ay x.token.pattern),.d (BO x.token.Dk),.d (AY x.token.cond.nodes),.d (AF x.token.cond.root),.d (BO x.prod.name),.d (AF x.prod.left),.d (Az x.prod.right),.d (AY x.prod.cond.nodes),.d (AF x.prod.cond.root),.d (DN x.prod.bracket),.d (AF x.prod.D6),.d (Cc x.prod.layout),.d (DN x.prod.scope.opens),.d (AF x.prod.scope.declares),.d (AF x.prod.scope.kind),.d (AF x.prod.scope.FW),.d (AF x.prod.scope.allowed),.d (CP x.A4)]:=rfl
@[simp] theorem Za(x:AX):At (.d (Ao x))=true:=rfl
@[simp] theorem fz(x:AX):Bw (.d (Ao x))=false:=rfl
@[simp] theorem ZN(x:AX):BN (Ao x)=[AF x.kind,AF x.number,AF x.at_,AF x.to,BO x.name,DN x.value,AY x.cond.nodes,AF x.cond.root,Bp x.levels,BX x.AU,BO x.token.name,AF x.token.cls,BO x.token.literal,Ay x.token.pattern,BO x.token.Dk,AY x.token.cond.nodes,AF x.token.cond.root,BO x.prod.name,AF x.prod.left,Az x.prod.right,AY x.prod.cond.nodes,AF x.prod.cond.root,DN x.prod.bracket,AF x.prod.D6,Cc x.prod.layout,DN x.prod.scope.opens,AF x.prod.scope.declares,AF x.prod.scope.kind,AF x.prod.scope.FW,AF x.prod.scope.allowed,CP x.A4]:=rfl
@[simp] theorem gC(x:AX):CZ.oneD (Ao x)=true:=rfl
@[simp] theorem lW(x:AX):DZ (Ao x)=Bs [AF x.kind,AF x.number,AF x.at_,AF x.to,BO x.name,DN x.value,AY x.cond.nodes,AF x.cond.root,Bp x.levels,BX x.AU,BO x.token.name,AF x.token.cls,BO x.token.literal,Ay x.token.pattern,BO x.token.Dk,AY x.token.cond.nodes,AF x.token.cond.root,BO x.prod.name,AF x.prod.left,Az x.prod.right,AY x.prod.cond.nodes,AF x.prod.cond.root,DN x.prod.bracket,AF x.prod.D6,Cc x.prod.layout,DN x.prod.scope.opens,AF x.prod.scope.declares,AF x.prod.scope.kind,AF x.prod.scope.FW,AF x.prod.scope.allowed,CP x.A4]:=rfl
@[simp] theorem bI(S:Sg)(x:AX):Dm S (.d (Ao x))=some [AF x.kind,AF x.number,AF x.at_,AF x.to,BO x.name,DN x.value,AY x.cond.nodes,AF x.cond.root,Bp x.levels,BX x.AU,BO x.token.name,AF x.token.cls,BO x.token.literal,Ay x.token.pattern,BO x.token.Dk,AY x.token.cond.nodes,AF x.token.cond.root,BO x.prod.name,AF x.prod.left,Az x.prod.right,AY x.prod.cond.nodes,AF x.prod.cond.root,DN x.prod.bracket,AF x.prod.D6,Cc x.prod.layout,DN x.prod.scope.opens,AF x.prod.scope.declares,AF x.prod.scope.kind,AF x.prod.scope.FW,AF x.prod.scope.allowed,CP x.A4]:=rfl
theorem xN:(∀x:Ap,Aa x=.agg [AF x.var,AF x.low,AF x.high])/\(∀x:AN,AB x=.agg [AY x.nodes,AF x.root])/\(∀x:Symbol,AI x=.agg [DN x.token,AF x.index])/\(∀x:Fh,BH x=.agg [AF x.kind,AF x.a,AF x.b])/\(∀x:BC,AS x=.agg [AF x.kind,AF x.lo,AF x.hi,AF x.a,AF x.b])/\(∀x:Scope,EW x=.agg [DN x.opens,AF x.declares,AF x.kind,AF x.FW,AF x.allowed])/\(∀x:Token,Ad x=.agg [BO x.name,AF x.cls,BO x.literal,Ay x.pattern,BO x.Dk,AY x.cond.nodes,AF x.cond.root])/\(∀x:AO,AH x=.agg [BO x.name,AF x.left,Az x.right,AY x.cond.nodes,AF x.cond.root,DN x.bracket,AF x.D6,Cc x.layout,DN x.scope.opens,AF x.scope.declares,AF x.scope.kind,AF x.scope.FW,AF x.scope.allowed])/\(∀x:Level,Ak x=.agg [A9 x.AD,AF x.assoc,AY x.cond.nodes,AF x.cond.root])/\(∀x:Filter,AM x=.agg [AF x.kind,AF x.parent,AF x.at_,AF x.child,AF x.left,AF x.token,A9 x.tokens,AY x.cond.nodes,AF x.cond.root])/\(∀x:AE,AA x=.agg [By x.conds,AY x.fam.nodes,AF x.fam.root,DI x.Ae,By x.A2,Co x.AD,AF x.start,Bp x.levels,BX x.AU])/\(∀x:Cw,A7 x=.agg [AF x.hole,AF x.prod,AF x.token,BO x.text])/\(∀x:Rewrite,Ab x=.agg [AF x.prod,AF x.at_,AF x.child,CP x.A4])/\(∀x:AX,Ao x=.agg [AF x.kind,AF x.number,AF x.at_,AF x.to,BO x.name,DN x.value,AY x.cond.nodes,AF x.cond.root,Bp x.levels,BX x.AU,BO x.token.name,AF x.token.cls,BO x.token.literal,Ay x.token.pattern,BO x.token.Dk,AY x.token.cond.nodes,AF x.token.cond.root,BO x.prod.name,AF x.prod.left,Az x.prod.right,AY x.prod.cond.nodes,AF x.prod.cond.root,DN x.prod.bracket,AF x.prod.D6,Cc x.prod.layout,DN x.prod.scope.opens,AF x.prod.scope.declares,AF x.prod.scope.kind,AF x.prod.scope.FW,AF x.prod.scope.allowed,CP x.A4]):=
 ⟨λ_=>rfl,λ_=>rfl,λ_=>rfl,λ_=>rfl,λ_=>rfl,λ_=>rfl,λ_=>rfl,λ_=>rfl,λ_=>rfl,λ_=>rfl,λ_=>rfl,λ_=>rfl,λ_=>rfl,λ_=>rfl⟩
open Go.Proofs Tryz
abbrev pe:=@List.take_succ_eq_append_getElem
theorem KW{α:Type}{l:List α}{i:Nat}(h:i<l.length):l.take (i+1)=l.take i++[l[i]]:=by rw[pe h]
abbrev ne:=@List.take_length
theorem Rd(a c:List Ap):Pure prog 27 [.sl (a.map Aa),.sl (c.map Aa)] (.bool (decide (a=c))):=by
 refine eJ func27 (by kernel_rfl) rfl (by simp) λwf=>?_;have s:a.length<=al:=by have:=wf.1;simp[DZ]at this;simpa using this.1
 rw[ntmps27];apply yW;simp;refine xS (yW ?_);simp;apply AR;simp;refine⟨λj=>?_,λh=>?_⟩
 .apply yW;simp;refine Af ⟨_,_,am,?_⟩;(try simp);intro e;rw[e]at j;exact j rfl
 .have h:a.length=c.length:=by omega
  apply xK;refine xS (yW ?_);simp;apply Bx;refine DV a.length (λi tm S=>tm 0=.d (.sl (a.map Aa))/\tm 1=.d (.sl (c.map Aa))/\tm 13=.d (.int .i64 i)/\tm 12=.d (.int .i64 a.length)/\S=[]/\a.take i=c.take i) (cq _) (by simp) ?_;rintro i tm S hi ⟨t0,t1,t13,t12,rfl,m⟩;apply yW;simp[t13,t12];apply xC;simp;refine⟨λk=>?_,λu=>?_⟩
  .have g:i<c.length:=by omega
   apply xK;apply xB;apply yW;simp[t13];refine yD [0,2,4,6,8,10,12,14,16] (by kernel_rfl) ?_;simp;apply yA 0;simp[t0,t1,k,g];apply AR;simp;refine⟨λj=>?_,λt=>?_⟩
   .apply yW;simp;refine Af ⟨_,_,am,?_⟩;(try simp);intro e;subst e;simp at j
   .apply CT;apply yV;simp[t13];refine⟨k,_,_,am,?_⟩;simp[t0,t1,t12,AL k s];rw[KW k,KW g,m,t]
  .have o:i=a.length:=by omega
   subst o;have q:a=c:=by rw[ne,h,ne]at m;exact m
   apply C7;apply yW;simp;apply zT;(try simp);exact q
theorem SN(a c:List Symbol):Pure prog 111 [.sl (a.map AI),.sl (c.map AI)] (.bool (decide (a=c))):=by
 refine eJ func111 (by kernel_rfl) rfl (by simp) λwf=>?_;have s:a.length<=al:=by have:=wf.1;simp[DZ]at this;simpa using this.1
 rw[ntmps111];apply yW;simp;refine xS (yW ?_);simp;apply AR;simp;refine⟨λj=>?_,λh=>?_⟩
 .apply yW;simp;refine Af ⟨_,_,am,?_⟩;(try simp);intro e;rw[e]at j;exact j rfl
 .have h:a.length=c.length:=by omega
  apply xK;refine xS (yW ?_);simp;apply Bx;refine DV a.length (λi tm S=>tm 0=.d (.sl (a.map AI))/\tm 1=.d (.sl (c.map AI))/\tm 13=.d (.int .i64 i)/\tm 12=.d (.int .i64 a.length)/\S=[]/\a.take i=c.take i) (cq _) (by simp) ?_;rintro i tm S hi ⟨t0,t1,t13,t12,rfl,m⟩;apply yW;simp[t13,t12];apply xC;simp;refine⟨λk=>?_,λu=>?_⟩
  .have g:i<c.length:=by omega
   apply xK;apply xB;apply yW;simp[t13];refine yD [0,2,4,6,8,10,12,14,16] (by kernel_rfl) ?_;simp;apply yA 0;simp[t0,t1,k,g];apply AR;simp;refine⟨λj=>?_,λt=>?_⟩
   .apply yW;simp;refine Af ⟨_,_,am,?_⟩;(try simp);intro e;subst e;simp at j
   .apply CT;apply yV;simp[t13];refine⟨k,_,_,am,?_⟩;simp[t0,t1,t12,AL k s];rw[KW k,KW g,m,t]
  .have o:i=a.length:=by omega
   subst o;have q:a=c:=by rw[ne,h,ne]at m;exact m
   apply C7;apply yW;simp;apply zT;(try simp);exact q
theorem MM(a c:AN):Pure prog 8 [AB a,AB c] (.bool (decide (a=c))):=by
 refine zP func8 17 rfl λwf=>?_;apply yW;simp;(repeat apply xS);apply yT;apply yJ;simp;refine wl (g:=a.root==c.root) (ds:=[AY a.nodes,AY c.nodes]) rfl rfl (by simp) (λ_=>Rd _ _) (by simp) ?_;simp;apply yJ;simp;apply zT;(try simp);cases a;cases c;rw[eg];simp[and_comm]
theorem H7(x:Bool):Pure prog 146 [.bool x] (AB ⟨[],if x then 1 else 0⟩):=by
 refine zP func146 6 rfl λwf=>?_;apply yW;simp;refine xS (yW ?_);simp;apply AR;simp;refine⟨λg=>?_,λg=>?_⟩
 .apply yW;simp;refine Af ⟨_,_,am,?_⟩;simp[g,AB]
 .apply xK;apply yW;simp;apply zT;simp[g,AB]
def AN.level(d:AN)(e:Int):Int:=if e<2 then 64 else match d.nodes[(e - 2).toNat]? with|some x=>x.var|none=>0
theorem Ih(d:AN)(e:Int)(m:e<2+d.nodes.length):Pure prog 154 [AB d,AF e] (AF (d.level e)):=by
 refine eJ func154 (by kernel_rfl) rfl (by simp) λwf=>?_;simp[Bs,Di,DZ]at wf;rw[ntmps154];apply yW;simp;refine xS (yW ?_);simp;apply AR;simp;refine⟨λg=>?_,λg=>?_⟩
 .apply yW;simp;refine Af ⟨_,_,am,?_⟩;simp[AN.level,g]
 .have i:IntKind.i64.wrap (e - 2)=e - 2:=wrap_i64 (by omega) (by omega);have h:(e - 2).toNat<d.nodes.length:=by omega
  have j:e - 2<(d.nodes.length:Int):=by omega
  have k:¬e<2:=by omega
  apply xK;apply yW;simp[i,h,j,g];refine Af ⟨_,_,am,?_⟩;simp[AN.level,k,h]
theorem RS(xs:List ByteArray)(g:xs.length<=2 ^ 30):AG prog 99 [.d (.sl (xs.map D.str))] [] (.row 0 xs.length) [.row (!xs.isEmpty) 1 (xs.map λx=>.d (D.str x))]:=by
 refine zC func99 8 rfl λwf _=>?_;apply yW;simp;refine xS (yS ?_);(repeat(refine Cd ?_ ?_;(·simp);simp));refine AV.JT (neg:=false) (xs:=xs.map D.str) rfl (by simp) λt i=>?_;simp;apply B6;apply AR;simp;refine⟨λh=>?_,λh=>?_⟩
 .have hn:xs=[]:=by
   cases xs with
   |nil=>rfl
   |cons x xs=>simp[i]at h
  subst hn;apply yW;simp;apply Af;refine⟨_,ll 2 1 (xs:=[]) (by simp),?_⟩;simp[Au]
 .apply xK;apply yW;simp[g];apply Af;refine⟨_,am,?_⟩;simp[Au]
theorem Rk(xs:List Ap)(g:xs.length<=2 ^ 30):AG prog 166 [.d (.sl (xs.map Aa))] [] (.row 0 xs.length) [.row (!xs.isEmpty) 3 (xs.map λx=>.d (Aa x))]:=by
 refine zC func166 8 rfl λwf _=>?_;apply yW;simp;refine xS (yS ?_);(repeat(refine Cd ?_ ?_;(·simp);simp));refine AV.JT (neg:=false) (xs:=xs.map Aa) rfl (by simp) λt i=>?_;simp;apply B6;apply AR;simp;refine⟨λh=>?_,λh=>?_⟩
 .have hn:xs=[]:=by
   cases xs with
   |nil=>rfl
   |cons x xs=>simp[i]at h
  subst hn;apply yW;simp;apply Af;refine⟨_,ll 2 3 (xs:=[]) (by simp),?_⟩;simp[Au]
 .apply xK;apply yW;simp[g];apply Af;refine⟨_,am,?_⟩;simp[Au]
theorem Ym(xs:List Token)(g:xs.length<=2 ^ 30):AG prog 101 [.d (.sl (xs.map Ad))] [] (.row 0 xs.length) [.row (!xs.isEmpty) 7 (xs.map λx=>.d (Ad x))]:=by
 refine zC func101 8 rfl λwf _=>?_;apply yW;simp;refine xS (yS ?_);(repeat(refine Cd ?_ ?_;(·simp);simp));refine AV.JT (neg:=false) (xs:=xs.map Ad) rfl (by simp) λt i=>?_;simp;apply B6;apply AR;simp;refine⟨λh=>?_,λh=>?_⟩
 .have hn:xs=[]:=by
   cases xs with
   |nil=>rfl
   |cons x xs=>simp[i]at h
  subst hn;apply yW;simp;apply Af;refine⟨_,ll 2 7 (xs:=[]) (by simp),?_⟩;simp[Au]
 .apply xK;apply yW;simp[g];apply Af;refine⟨_,am,?_⟩;simp[Au]
theorem Wh(xs:List AO)(g:xs.length<=2 ^ 30):AG prog 102 [.d (.sl (xs.map AH))] [] (.row 0 xs.length) [.row (!xs.isEmpty) 13 (xs.map λx=>.d (AH x))]:=by
 refine zC func102 8 rfl λwf _=>?_;apply yW;simp;refine xS (yS ?_);(repeat(refine Cd ?_ ?_;(·simp);simp));refine AV.JT (neg:=false) (xs:=xs.map AH) rfl (by simp) λt i=>?_;simp;apply B6;apply AR;simp;refine⟨λh=>?_,λh=>?_⟩
 .have hn:xs=[]:=by
   cases xs with
   |nil=>rfl
   |cons x xs=>simp[i]at h
  subst hn;apply yW;simp;apply Af;refine⟨_,ll 2 13 (xs:=[]) (by simp),?_⟩;simp[Au]
 .apply xK;apply yW;simp[g];apply Af;refine⟨_,am,?_⟩;simp[Au]
theorem Uz(xs:List Level)(g:xs.length<=2 ^ 30):AG prog 103 [.d (.sl (xs.map Ak))] [] (.row 0 xs.length) [.row (!xs.isEmpty) 4 (xs.map λx=>.d (Ak x))]:=by
 refine zC func103 8 rfl λwf _=>?_;apply yW;simp;refine xS (yS ?_);(repeat(refine Cd ?_ ?_;(·simp);simp));refine AV.JT (neg:=false) (xs:=xs.map Ak) rfl (by simp) λt i=>?_;simp;apply B6;apply AR;simp;refine⟨λh=>?_,λh=>?_⟩
 .have hn:xs=[]:=by
   cases xs with
   |nil=>rfl
   |cons x xs=>simp[i]at h
  subst hn;apply yW;simp;apply Af;refine⟨_,ll 2 4 (xs:=[]) (by simp),?_⟩;simp[Au]
 .apply xK;apply yW;simp[g];apply Af;refine⟨_,am,?_⟩;simp[Au]
theorem Rs(xs:List Filter)(g:xs.length<=2 ^ 30):AG prog 104 [.d (.sl (xs.map AM))] [] (.row 0 xs.length) [.row (!xs.isEmpty) 9 (xs.map λx=>.d (AM x))]:=by
 refine zC func104 8 rfl λwf _=>?_;apply yW;simp;refine xS (yS ?_);(repeat(refine Cd ?_ ?_;(·simp);simp));refine AV.JT (neg:=false) (xs:=xs.map AM) rfl (by simp) λt i=>?_;simp;apply B6;apply AR;simp;refine⟨λh=>?_,λh=>?_⟩
 .have hn:xs=[]:=by
   cases xs with
   |nil=>rfl
   |cons x xs=>simp[i]at h
  subst hn;apply yW;simp;apply Af;refine⟨_,ll 2 9 (xs:=[]) (by simp),?_⟩;simp[Au]
 .apply xK;apply yW;simp[g];apply Af;refine⟨_,am,?_⟩;simp[Au]
theorem T9(xs:List BC)(g:xs.length<=2 ^ 30):AG prog 105 [.d (.sl (xs.map AS))] [] (.row 0 xs.length) [.row (!xs.isEmpty) 5 (xs.map λx=>.d (AS x))]:=by
 refine zC func105 8 rfl λwf _=>?_;apply yW;simp;refine xS (yS ?_);(repeat(refine Cd ?_ ?_;(·simp);simp));refine AV.JT (neg:=false) (xs:=xs.map AS) rfl (by simp) λt i=>?_;simp;apply B6;apply AR;simp;refine⟨λh=>?_,λh=>?_⟩
 .have hn:xs=[]:=by
   cases xs with
   |nil=>rfl
   |cons x xs=>simp[i]at h
  subst hn;apply yW;simp;apply Af;refine⟨_,ll 2 5 (xs:=[]) (by simp),?_⟩;simp[Au]
 .apply xK;apply yW;simp[g];apply Af;refine⟨_,am,?_⟩;simp[Au]
theorem I9(xs:List Symbol)(g:xs.length<=2 ^ 30):AG prog 106 [.d (.sl (xs.map AI))] [] (.row 0 xs.length) [.row (!xs.isEmpty) 2 (xs.map λx=>.d (AI x))]:=by
 refine zC func106 8 rfl λwf _=>?_;apply yW;simp;refine xS (yS ?_);(repeat(refine Cd ?_ ?_;(·simp);simp));refine AV.JT (neg:=false) (xs:=xs.map AI) rfl (by simp) λt i=>?_;simp;apply B6;apply AR;simp;refine⟨λh=>?_,λh=>?_⟩
 .have hn:xs=[]:=by
   cases xs with
   |nil=>rfl
   |cons x xs=>simp[i]at h
  subst hn;apply yW;simp;apply Af;refine⟨_,ll 2 2 (xs:=[]) (by simp),?_⟩;simp[Au]
 .apply xK;apply yW;simp[g];apply Af;refine⟨_,am,?_⟩;simp[Au]
theorem SI(xs:List Fh)(g:xs.length<=2 ^ 30):AG prog 107 [.d (.sl (xs.map BH))] [] (.row 0 xs.length) [.row (!xs.isEmpty) 3 (xs.map λx=>.d (BH x))]:=by
 refine zC func107 8 rfl λwf _=>?_;apply yW;simp;refine xS (yS ?_);(repeat(refine Cd ?_ ?_;(·simp);simp));refine AV.JT (neg:=false) (xs:=xs.map BH) rfl (by simp) λt i=>?_;simp;apply B6;apply AR;simp;refine⟨λh=>?_,λh=>?_⟩
 .have hn:xs=[]:=by
   cases xs with
   |nil=>rfl
   |cons x xs=>simp[i]at h
  subst hn;apply yW;simp;apply Af;refine⟨_,ll 2 3 (xs:=[]) (by simp),?_⟩;simp[Au]
 .apply xK;apply yW;simp[g];apply Af;refine⟨_,am,?_⟩;simp[Au]
theorem Ra(xs:List Int)(g:xs.length<=2 ^ 30):AG prog 108 [.d (.sl (xs.map (D.int .i64)))] [] (.row 0 xs.length) [.row (!xs.isEmpty) 1 (xs.map λx=>.d ((D.int .i64) x))]:=by
 refine zC func108 8 rfl λwf _=>?_;apply yW;simp;refine xS (yS ?_);(repeat(refine Cd ?_ ?_;(·simp);simp));refine AV.JT (neg:=false) (xs:=xs.map (D.int .i64)) rfl (by simp) λt i=>?_;simp;apply B6;apply AR;simp;refine⟨λh=>?_,λh=>?_⟩
 .have hn:xs=[]:=by
   cases xs with
   |nil=>rfl
   |cons x xs=>simp[i]at h
  subst hn;apply yW;simp;apply Af;refine⟨_,ll 2 1 (xs:=[]) (by simp),?_⟩;simp[Au]
 .apply xK;apply yW;simp[g];apply Af;refine⟨_,am,?_⟩;simp[Au]
theorem Uc(xs:List Cw)(g:xs.length<=2 ^ 30):AG prog 26 [.d (.sl (xs.map A7))] [] (.row 0 xs.length) [.row (!xs.isEmpty) 4 (xs.map λx=>.d (A7 x))]:=by
 refine zC func26 8 rfl λwf _=>?_;apply yW;simp;refine xS (yS ?_);(repeat(refine Cd ?_ ?_;(·simp);simp));refine AV.JT (neg:=false) (xs:=xs.map A7) rfl (by simp) λt i=>?_;simp;apply B6;apply AR;simp;refine⟨λh=>?_,λh=>?_⟩
 .have hn:xs=[]:=by
   cases xs with
   |nil=>rfl
   |cons x xs=>simp[i]at h
  subst hn;apply yW;simp;apply Af;refine⟨_,ll 2 4 (xs:=[]) (by simp),?_⟩;simp[Au]
 .apply xK;apply yW;simp[g];apply Af;refine⟨_,am,?_⟩;simp[Au]
def firstIdx{α:Type}(p:α->Bool)(xs:List α):Int:=match xs.findIdx? p with|some i=>i|none=>-1
abbrev adi:=@List.findIdx?_eq_some_iff_getElem
theorem Cp{α:Type}{p:α->Bool}{xs:List α}{i:Nat}(h:i<xs.length)(g:p xs[i]=true)(k:∀j (hj:j<i),p (xs[j]'(by omega))=false):firstIdx p xs=i:=by
 have:xs.findIdx? p=some i:=by
  rw[adi];exact⟨h,g,λj hj=>by simp[k j hj]⟩
 simp[firstIdx,this]
theorem firstIdx_none{α:Type}{p:α->Bool}{xs:List α}(g:∀j (hj:j<xs.length),p xs[j]=false):firstIdx p xs= -1:=by
 have:xs.findIdx? p=none:=by
  rw[List.findIdx?_eq_none_iff];intro x h;obtain⟨i,hi,rfl⟩:=jp.1 h;exact g i hi
 simp[firstIdx,this]
abbrev p6:=@List.any_eq_false
abbrev zv:=@List.any_eq_true
theorem DL{α:Type}(p:α->Bool)(xs:List α):decide (firstIdx p xs≥0)=xs.any p:=by
 unfold firstIdx;cases h:xs.findIdx? p with
 |none=>
  rw[List.findIdx?_eq_none_iff]at h;have:xs.any p=false:=by rw[p6];intro x g;simp[h x g]
  simp[this]
 |some i=>
  rw[adi]at h;obtain⟨h1,j,_⟩:=h;have:xs.any p=true:=zv.2 ⟨_,b9 h1,j⟩;rw[this];simp
theorem M9(xs:List Ap)(p:Ap->Bool)(k:cP)(g:List V)(S0:Sg)(s:∀x∈xs,AG prog k (.d (Aa x)::g) S0 (.d (.bool (p x))) S0):
  AG prog 271 [.d (.sl (xs.map Aa)),.fn (.func k) [] g] S0 (.d (AF (firstIdx p xs))) S0:=by
 refine md func271 rfl rfl (by simp) λwf _=>?_;have t:xs.length<=al:=by have:=wf.1;simp[JQ,DZ]at this;simpa using this.1
 rw[ntmps271];apply yW;simp;refine xS (yW ?_);simp;apply Bx;refine DV xs.length (λi tm S=>tm 0=.d (.sl (xs.map Aa))/\tm 1=.fn (.func k) [] g/\tm 8=.d (.int .i64 i)/\tm 7=.d (.int .i64 xs.length)/\S=S0/\∀j (_:j<i) (h:j<xs.length),p xs[j]=false) (cq _) (by simp) ?_;rintro i tm S hi ⟨t0,t1,t8,t7,rfl,o⟩;apply yW;simp[t8,t7];apply xC;simp;refine⟨λm=>?_,λw=>?_⟩
 .apply xK;apply xB;apply yW;simp[t8];apply yS;apply yJ;simp[t0,t1,m];refine gl (v:=.d (.bool (p xs[i]))) rfl rfl (by simp) (f:=k) (args:=.d (Aa xs[i])::g) (by simp;try rfl) (by simp) (s _ (b9 m)) ?_;simp;apply B6;apply AR;simp;refine⟨λq=>?_,λq=>?_⟩
  .apply yW;simp;apply Af;refine⟨_,am,?_⟩;simp[Au];exact .inl (Cp m q λj hj=>o j hj (by omega)).symm
  .apply CT;apply yV;simp[t8];refine⟨m,_,_,am,?_⟩;simp[t0,t1,t7,AL m t];intro j hj u;by_cases e:j=i
   .subst e;exact q
   .exact o j (by omega) u
 .apply C7;apply yW;simp;apply Af;refine⟨_,am,?_⟩;simp[Au];exact .inl (firstIdx_none λj hj=>o j (by omega) hj).symm
theorem Ke(xs:List Ap)(p:Ap->Bool)(k:cP)(g:List V)(S0:Sg)(h:∀x∈xs,AG prog k (.d (Aa x)::g) S0 (.d (.bool (p x))) S0):
  AG prog 250 [.d (.sl (xs.map Aa)),.fn (.func k) [] g] S0 (.d (.bool (xs.any p))) S0:=by
 refine zC func250 9 rfl λwf _=>?_;apply yW;simp;(repeat apply xS);apply yT;apply yJ;simp;refine gl rfl rfl (by simp) (f:=271) (args:=[.d (.sl (xs.map Aa)),.fn (.func k) [] g]) (by simp[callee]) (by simp) (M9 xs p k g S0 h) (yJ ?_);simp;apply Af;refine⟨_,am,?_⟩;simp[Au];have:=DL p xs;simp at this;simp[this]
theorem QE(xs:List AO)(p:AO->Bool)(k:cP)(g:List V)(S0:Sg)(s:∀x∈xs,AG prog k (.d (AH x)::g) S0 (.d (.bool (p x))) S0):
  AG prog 248 [.d (.sl (xs.map AH)),.fn (.func k) [] g] S0 (.d (AF (firstIdx p xs))) S0:=by
 refine md func248 rfl rfl (by simp) λwf _=>?_;have t:xs.length<=al:=by have:=wf.1;simp[JQ,DZ]at this;simpa using this.1
 rw[ntmps248];apply yW;simp;refine xS (yW ?_);simp;apply Bx;refine DV xs.length (λi tm S=>tm 0=.d (.sl (xs.map AH))/\tm 1=.fn (.func k) [] g/\tm 8=.d (.int .i64 i)/\tm 7=.d (.int .i64 xs.length)/\S=S0/\∀j (_:j<i) (h:j<xs.length),p xs[j]=false) (cq _) (by simp) ?_;rintro i tm S hi ⟨t0,t1,t8,t7,rfl,o⟩;apply yW;simp[t8,t7];apply xC;simp;refine⟨λm=>?_,λw=>?_⟩
 .apply xK;apply xB;apply yW;simp[t8];apply yS;apply yJ;simp[t0,t1,m];refine gl (v:=.d (.bool (p xs[i]))) rfl rfl (by simp) (f:=k) (args:=.d (AH xs[i])::g) (by simp;try rfl) (by simp) (s _ (b9 m)) ?_;simp;apply B6;apply AR;simp;refine⟨λq=>?_,λq=>?_⟩
  .apply yW;simp;apply Af;refine⟨_,am,?_⟩;simp[Au];exact .inl (Cp m q λj hj=>o j hj (by omega)).symm
  .apply CT;apply yV;simp[t8];refine⟨m,_,_,am,?_⟩;simp[t0,t1,t7,AL m t];intro j hj u;by_cases e:j=i
   .subst e;exact q
   .exact o j (by omega) u
 .apply C7;apply yW;simp;apply Af;refine⟨_,am,?_⟩;simp[Au];exact .inl (firstIdx_none λj hj=>o j (by omega) hj).symm
theorem MA(xs:List AO)(p:AO->Bool)(k:cP)(g:List V)(S0:Sg)(h:∀x∈xs,AG prog k (.d (AH x)::g) S0 (.d (.bool (p x))) S0):
  AG prog 219 [.d (.sl (xs.map AH)),.fn (.func k) [] g] S0 (.d (.bool (xs.any p))) S0:=by
 refine zC func219 9 rfl λwf _=>?_;apply yW;simp;(repeat apply xS);apply yT;apply yJ;simp;refine gl rfl rfl (by simp) (f:=248) (args:=[.d (.sl (xs.map AH)),.fn (.func k) [] g]) (by simp[callee]) (by simp) (QE xs p k g S0 h) (yJ ?_);simp;apply Af;refine⟨_,am,?_⟩;simp[Au];have:=DL p xs;simp at this;simp[this]
theorem Mp(xs:List Symbol)(p:Symbol->Bool)(k:cP)(g:List V)(S0:Sg)(s:∀x∈xs,AG prog k (.d (AI x)::g) S0 (.d (.bool (p x))) S0):
  AG prog 254 [.d (.sl (xs.map AI)),.fn (.func k) [] g] S0 (.d (AF (firstIdx p xs))) S0:=by
 refine md func254 rfl rfl (by simp) λwf _=>?_;have t:xs.length<=al:=by have:=wf.1;simp[JQ,DZ]at this;simpa using this.1
 rw[ntmps254];apply yW;simp;refine xS (yW ?_);simp;apply Bx;refine DV xs.length (λi tm S=>tm 0=.d (.sl (xs.map AI))/\tm 1=.fn (.func k) [] g/\tm 8=.d (.int .i64 i)/\tm 7=.d (.int .i64 xs.length)/\S=S0/\∀j (_:j<i) (h:j<xs.length),p xs[j]=false) (cq _) (by simp) ?_;rintro i tm S hi ⟨t0,t1,t8,t7,rfl,o⟩;apply yW;simp[t8,t7];apply xC;simp;refine⟨λm=>?_,λw=>?_⟩
 .apply xK;apply xB;apply yW;simp[t8];apply yS;apply yJ;simp[t0,t1,m];refine gl (v:=.d (.bool (p xs[i]))) rfl rfl (by simp) (f:=k) (args:=.d (AI xs[i])::g) (by simp;try rfl) (by simp) (s _ (b9 m)) ?_;simp;apply B6;apply AR;simp;refine⟨λq=>?_,λq=>?_⟩
  .apply yW;simp;apply Af;refine⟨_,am,?_⟩;simp[Au];exact .inl (Cp m q λj hj=>o j hj (by omega)).symm
  .apply CT;apply yV;simp[t8];refine⟨m,_,_,am,?_⟩;simp[t0,t1,t7,AL m t];intro j hj u;by_cases e:j=i
   .subst e;exact q
   .exact o j (by omega) u
 .apply C7;apply yW;simp;apply Af;refine⟨_,am,?_⟩;simp[Au];exact .inl (firstIdx_none λj hj=>o j (by omega) hj).symm
theorem Kg(xs:List Symbol)(p:Symbol->Bool)(k:cP)(g:List V)(S0:Sg)(h:∀x∈xs,AG prog k (.d (AI x)::g) S0 (.d (.bool (p x))) S0):
  AG prog 227 [.d (.sl (xs.map AI)),.fn (.func k) [] g] S0 (.d (.bool (xs.any p))) S0:=by
 refine zC func227 9 rfl λwf _=>?_;apply yW;simp;(repeat apply xS);apply yT;apply yJ;simp;refine gl rfl rfl (by simp) (f:=254) (args:=[.d (.sl (xs.map AI)),.fn (.func k) [] g]) (by simp[callee]) (by simp) (Mp xs p k g S0 h) (yJ ?_);simp;apply Af;refine⟨_,am,?_⟩;simp[Au];have:=DL p xs;simp at this;simp[this]
theorem OR(xs:List Level)(p:Level->Bool)(k:cP)(g:List V)(S0:Sg)(s:∀x∈xs,AG prog k (.d (Ak x)::g) S0 (.d (.bool (p x))) S0):
  AG prog 238 [.d (.sl (xs.map Ak)),.fn (.func k) [] g] S0 (.d (AF (firstIdx p xs))) S0:=by
 refine md func238 rfl rfl (by simp) λwf _=>?_;have t:xs.length<=al:=by have:=wf.1;simp[JQ,DZ]at this;simpa using this.1
 rw[ntmps238];apply yW;simp;refine xS (yW ?_);simp;apply Bx;refine DV xs.length (λi tm S=>tm 0=.d (.sl (xs.map Ak))/\tm 1=.fn (.func k) [] g/\tm 8=.d (.int .i64 i)/\tm 7=.d (.int .i64 xs.length)/\S=S0/\∀j (_:j<i) (h:j<xs.length),p xs[j]=false) (cq _) (by simp) ?_;rintro i tm S hi ⟨t0,t1,t8,t7,rfl,o⟩;apply yW;simp[t8,t7];apply xC;simp;refine⟨λm=>?_,λw=>?_⟩
 .apply xK;apply xB;apply yW;simp[t8];apply yS;apply yJ;simp[t0,t1,m];refine gl (v:=.d (.bool (p xs[i]))) rfl rfl (by simp) (f:=k) (args:=.d (Ak xs[i])::g) (by simp;try rfl) (by simp) (s _ (b9 m)) ?_;simp;apply B6;apply AR;simp;refine⟨λq=>?_,λq=>?_⟩
  .apply yW;simp;apply Af;refine⟨_,am,?_⟩;simp[Au];exact .inl (Cp m q λj hj=>o j hj (by omega)).symm
  .apply CT;apply yV;simp[t8];refine⟨m,_,_,am,?_⟩;simp[t0,t1,t7,AL m t];intro j hj u;by_cases e:j=i
   .subst e;exact q
   .exact o j (by omega) u
 .apply C7;apply yW;simp;apply Af;refine⟨_,am,?_⟩;simp[Au];exact .inl (firstIdx_none λj hj=>o j (by omega) hj).symm
theorem LU(xs:List Level)(p:Level->Bool)(k:cP)(g:List V)(S0:Sg)(h:∀x∈xs,AG prog k (.d (Ak x)::g) S0 (.d (.bool (p x))) S0):
  AG prog 201 [.d (.sl (xs.map Ak)),.fn (.func k) [] g] S0 (.d (.bool (xs.any p))) S0:=by
 refine zC func201 9 rfl λwf _=>?_;apply yW;simp;(repeat apply xS);apply yT;apply yJ;simp;refine gl rfl rfl (by simp) (f:=238) (args:=[.d (.sl (xs.map Ak)),.fn (.func k) [] g]) (by simp[callee]) (by simp) (OR xs p k g S0 h) (yJ ?_);simp;apply Af;refine⟨_,am,?_⟩;simp[Au];have:=DL p xs;simp at this;simp[this]
theorem Mm(xs:List Filter)(p:Filter->Bool)(k:cP)(g:List V)(S0:Sg)(s:∀x∈xs,AG prog k (.d (AM x)::g) S0 (.d (.bool (p x))) S0):
  AG prog 240 [.d (.sl (xs.map AM)),.fn (.func k) [] g] S0 (.d (AF (firstIdx p xs))) S0:=by
 refine md func240 rfl rfl (by simp) λwf _=>?_;have t:xs.length<=al:=by have:=wf.1;simp[JQ,DZ]at this;simpa using this.1
 rw[ntmps240];apply yW;simp;refine xS (yW ?_);simp;apply Bx;refine DV xs.length (λi tm S=>tm 0=.d (.sl (xs.map AM))/\tm 1=.fn (.func k) [] g/\tm 8=.d (.int .i64 i)/\tm 7=.d (.int .i64 xs.length)/\S=S0/\∀j (_:j<i) (h:j<xs.length),p xs[j]=false) (cq _) (by simp) ?_;rintro i tm S hi ⟨t0,t1,t8,t7,rfl,o⟩;apply yW;simp[t8,t7];apply xC;simp;refine⟨λm=>?_,λw=>?_⟩
 .apply xK;apply xB;apply yW;simp[t8];apply yS;apply yJ;simp[t0,t1,m];refine gl (v:=.d (.bool (p xs[i]))) rfl rfl (by simp) (f:=k) (args:=.d (AM xs[i])::g) (by simp;try rfl) (by simp) (s _ (b9 m)) ?_;simp;apply B6;apply AR;simp;refine⟨λq=>?_,λq=>?_⟩
  .apply yW;simp;apply Af;refine⟨_,am,?_⟩;simp[Au];exact .inl (Cp m q λj hj=>o j hj (by omega)).symm
  .apply CT;apply yV;simp[t8];refine⟨m,_,_,am,?_⟩;simp[t0,t1,t7,AL m t];intro j hj u;by_cases e:j=i
   .subst e;exact q
   .exact o j (by omega) u
 .apply C7;apply yW;simp;apply Af;refine⟨_,am,?_⟩;simp[Au];exact .inl (firstIdx_none λj hj=>o j (by omega) hj).symm
theorem Gx(xs:List Filter)(p:Filter->Bool)(k:cP)(g:List V)(S0:Sg)(h:∀x∈xs,AG prog k (.d (AM x)::g) S0 (.d (.bool (p x))) S0):
  AG prog 204 [.d (.sl (xs.map AM)),.fn (.func k) [] g] S0 (.d (.bool (xs.any p))) S0:=by
 refine zC func204 9 rfl λwf _=>?_;apply yW;simp;(repeat apply xS);apply yT;apply yJ;simp;refine gl rfl rfl (by simp) (f:=240) (args:=[.d (.sl (xs.map AM)),.fn (.func k) [] g]) (by simp[callee]) (by simp) (Mm xs p k g S0 h) (yJ ?_);simp;apply Af;refine⟨_,am,?_⟩;simp[Au];have:=DL p xs;simp at this;simp[this]
theorem Qj(xs:List Int)(p:Int->Bool)(k:cP)(g:List V)(S0:Sg)(s:∀x∈xs,AG prog k (.d ((D.int .i64) x)::g) S0 (.d (.bool (p x))) S0):
  AG prog 207 [.d (.sl (xs.map (D.int .i64))),.fn (.func k) [] g] S0 (.d (AF (firstIdx p xs))) S0:=by
 refine md func207 rfl rfl (by simp) λwf _=>?_;have t:xs.length<=al:=by have:=wf.1;simp[JQ,DZ]at this;simpa using this.1
 rw[ntmps207];apply yW;simp;refine xS (yW ?_);simp;apply Bx;refine DV xs.length (λi tm S=>tm 0=.d (.sl (xs.map (D.int .i64)))/\tm 1=.fn (.func k) [] g/\tm 8=.d (.int .i64 i)/\tm 7=.d (.int .i64 xs.length)/\S=S0/\∀j (_:j<i) (h:j<xs.length),p xs[j]=false) (cq _) (by simp) ?_;rintro i tm S hi ⟨t0,t1,t8,t7,rfl,o⟩;apply yW;simp[t8,t7];apply xC;simp;refine⟨λm=>?_,λw=>?_⟩
 .apply xK;apply xB;apply yW;simp[t8];apply yS;apply yJ;simp[t0,t1,m];refine gl (v:=.d (.bool (p xs[i]))) rfl rfl (by simp) (f:=k) (args:=.d ((D.int .i64) xs[i])::g) (by simp;try rfl) (by simp) (s _ (b9 m)) ?_;simp;apply B6;apply AR;simp;refine⟨λq=>?_,λq=>?_⟩
  .apply yW;simp;apply Af;refine⟨_,am,?_⟩;simp[Au];exact .inl (Cp m q λj hj=>o j hj (by omega)).symm
  .apply CT;apply yV;simp[t8];refine⟨m,_,_,am,?_⟩;simp[t0,t1,t7,AL m t];intro j hj u;by_cases e:j=i
   .subst e;exact q
   .exact o j (by omega) u
 .apply C7;apply yW;simp;apply Af;refine⟨_,am,?_⟩;simp[Au];exact .inl (firstIdx_none λj hj=>o j (by omega) hj).symm
theorem Io(xs:List Int)(p:Int->Bool)(k:cP)(g:List V)(S0:Sg)(h:∀x∈xs,AG prog k (.d ((D.int .i64) x)::g) S0 (.d (.bool (p x))) S0):
  AG prog 160 [.d (.sl (xs.map (D.int .i64))),.fn (.func k) [] g] S0 (.d (.bool (xs.any p))) S0:=by
 refine zC func160 9 rfl λwf _=>?_;apply yW;simp;(repeat apply xS);apply yT;apply yJ;simp;refine gl rfl rfl (by simp) (f:=207) (args:=[.d (.sl (xs.map (D.int .i64))),.fn (.func k) [] g]) (by simp[callee]) (by simp) (Qj xs p k g S0 h) (yJ ?_);simp;apply Af;refine⟨_,am,?_⟩;simp[Au];have:=DL p xs;simp at this;simp[this]
theorem Ff(xs:List Rewrite)(p:Rewrite->Bool)(k:cP)(g:List V)(S0:Sg)(s:∀x∈xs,AG prog k (.d (Ab x)::g) S0 (.d (.bool (p x))) S0):
  AG prog 33 [.d (.sl (xs.map Ab)),.fn (.func k) [] g] S0 (.d (AF (firstIdx p xs))) S0:=by
 refine md func33 rfl rfl (by simp) λwf _=>?_;have t:xs.length<=al:=by have:=wf.1;simp[JQ,DZ]at this;simpa using this.1
 rw[ntmps33];apply yW;simp;refine xS (yW ?_);simp;apply Bx;refine DV xs.length (λi tm S=>tm 0=.d (.sl (xs.map Ab))/\tm 1=.fn (.func k) [] g/\tm 8=.d (.int .i64 i)/\tm 7=.d (.int .i64 xs.length)/\S=S0/\∀j (_:j<i) (h:j<xs.length),p xs[j]=false) (cq _) (by simp) ?_;rintro i tm S hi ⟨t0,t1,t8,t7,rfl,o⟩;apply yW;simp[t8,t7];apply xC;simp;refine⟨λm=>?_,λw=>?_⟩
 .apply xK;apply xB;apply yW;simp[t8];apply yS;apply yJ;simp[t0,t1,m];refine gl (v:=.d (.bool (p xs[i]))) rfl rfl (by simp) (f:=k) (args:=.d (Ab xs[i])::g) (by simp;try rfl) (by simp) (s _ (b9 m)) ?_;simp;apply B6;apply AR;simp;refine⟨λq=>?_,λq=>?_⟩
  .apply yW;simp;apply Af;refine⟨_,am,?_⟩;simp[Au];exact .inl (Cp m q λj hj=>o j hj (by omega)).symm
  .apply CT;apply yV;simp[t8];refine⟨m,_,_,am,?_⟩;simp[t0,t1,t7,AL m t];intro j hj u;by_cases e:j=i
   .subst e;exact q
   .exact o j (by omega) u
 .apply C7;apply yW;simp;apply Af;refine⟨_,am,?_⟩;simp[Au];exact .inl (firstIdx_none λj hj=>o j (by omega) hj).symm
theorem Jx(xs:List Rewrite)(p:Rewrite->Bool)(k:cP)(g:List V)(S0:Sg)(h:∀x∈xs,AG prog k (.d (Ab x)::g) S0 (.d (.bool (p x))) S0):
  AG prog 171 [.d (.sl (xs.map Ab)),.fn (.func k) [] g] S0 (.d (.bool (xs.any p))) S0:=by
 refine zC func171 9 rfl λwf _=>?_;apply yW;simp;(repeat apply xS);apply yT;apply yJ;simp;refine gl rfl rfl (by simp) (f:=33) (args:=[.d (.sl (xs.map Ab)),.fn (.func k) [] g]) (by simp[callee]) (by simp) (Ff xs p k g S0 h) (yJ ?_);simp;apply Af;refine⟨_,am,?_⟩;simp[Au];have:=DL p xs;simp at this;simp[this]
theorem CA(x:Bool):Pure prog 40 [.bool x] (AB ⟨[],if x then 1 else 0⟩):=by
 refine zP func40 6 rfl λwf=>?_;apply yW;simp;refine xS (yW ?_);simp;apply AR;simp;refine⟨λg=>?_,λg=>?_⟩
 .apply yW;simp;refine Af ⟨_,_,am,?_⟩;simp[g,AB]
 .apply xK;apply yW;simp;apply zT;simp[g,AB]
theorem IT(d:AN)(e:Int)(m:e<2+d.nodes.length):Pure prog 215 [AB d,AF e] (AF (d.level e)):=by
 refine eJ func215 rfl rfl (by simp) λwf=>?_;simp[Bs,Di,DZ]at wf;rw[ntmps215];apply yW;simp;refine xS (yW ?_);simp;apply AR;simp;refine⟨λg=>?_,λg=>?_⟩
 .apply yW;simp;refine Af ⟨_,_,am,?_⟩;simp[AN.level,g]
 .have i:IntKind.i64.wrap (e - 2)=e - 2:=wrap_i64 (by omega) (by omega);have h:(e - 2).toNat<d.nodes.length:=by omega
  have j:e - 2<(d.nodes.length:Int):=by omega
  have k:¬e<2:=by omega
  apply xK;apply yW;simp[i,h,j,g];apply zT;simp[AN.level,k,h]
theorem Dp(i:Int):Pure prog 41 [AF i] (AI ⟨true,i⟩):=by
 refine zP func41 5 rfl λwf=>?_;apply yW;simp;apply yW;simp;apply zT;simp[AI]
theorem Et(i:Int):Pure prog 42 [AF i] (AI ⟨false,i⟩):=by
 refine zP func42 5 rfl λwf=>?_;apply yW;simp;apply yW;simp;apply zT;simp[AI]
theorem Bo(n:ByteArray)(l:Int)(r:List Symbol):Pure prog 44 [BO n,AF l,Az r] (AH ⟨n,l,r,⟨[],1⟩,false,0,[],⟨false,0,0,0,0⟩⟩):=by
 refine zP func44 12 rfl λwf=>?_;apply yW;simp;(repeat apply xS);apply yT;apply yJ;simp;refine B9 (CA true) rfl (by simp) (yJ ?_);simp;apply zT;simp[AH,AB]
def Av(v:Int):AN:=if v<0\/v>63 then⟨[],0⟩else⟨[⟨v,0,1⟩],2⟩
def pR(v:Int):Int:=if v<0\/v>63 then 1 else 0
theorem XO(v:Int):Pure prog 138 [AF v] (.Cb [AB (Av v),AF (pR v)]):=by
 refine zP func138 15 rfl λwf=>?_;apply yW;simp;refine xS (yW ?_);simp;apply AR;simp;refine⟨λg=>?_,λh1 h=>?_⟩
 .apply yW;simp;refine Af ⟨_,_,am,?_⟩;have:v<0\/v>63:=by omega
  simp[Av,pR,this,AB]
 .apply xK;apply yW;simp[al];apply zT;have:¬(v<0\/v>63):=by omega
  simp[Av,pR,this,AB,Aa]
theorem CX(v:Int):Pure prog 52 [AF v] (AB (Av v)):=by
 refine zP func52 11 rfl λwf=>?_;apply yW;simp;apply yS;apply yJ;simp;refine B9 (XO v) rfl (by simp) (yJ ?_);simp;apply yW;simp;apply zT;try simp
theorem HE(a c:Int):Pure prog 174 [AF a,AF c] (AS ⟨1,a,c,0,0⟩):=by
 refine zP func174 8 rfl λwf=>?_;apply yW;simp;apply yW;simp;apply zT;simp[AS]
theorem EO(k a c:Int):Pure prog 175 [AF k,AF a,AF c] (AS ⟨k,0,0,a,c⟩):=by
 refine zP func175 11 rfl λwf=>?_;apply yW;simp;apply yW;simp;apply zT;simp[AS]
@[simp] def rS:V:=.fn (.func 200) [] [.ptr 0 1 0 0,.ptr 1 1 0 0,.ptr 2 1 0 0,.ptr 3 1 0 0]
def PW(N:List Ap)(g:Bool)(L:List DT)(es:List (Int×Int)):Sg:=
 [.row true 1 [.map 4],.row true 1 [.ptr 5 1 0 0],.row true 1 [rS],.row true 2 [.agg [.row 6 L.length,.d (.int .i64 0)]],.map (Bg (D.int .i64) (λx=>.d (.int .i64 x)) es),.row g 2 [.agg [.d (AY N),.any]],.row (!L.isEmpty) 3 (L.map λt=>.d (Aa (aJ L t)))]
def lX(N:List Ap)(L:List DT)(es:List (Int×Int)):Prop:=∀n u,Bl N u n->(GY L u->look es n=some (num L u))/\(¬GY L u->look es n=none)
structure mz(N:List Ap)(L:List DT):Prop where
 closed:IE L
 nodup:L.Nodup
 R6:∀t∈L,∃v l h,t=.node v l h/\∃n,Bl N t n
theorem mz.nil(N:List Ap):mz N []:=⟨IE.nil,acU,λt h=>absurd h (by simp)⟩
open Classical in
theorem mz.len{N:List Ap}{L:List DT}(h:mz N L):L.length<=N.length:=by
 let f:DT->Nat:=λt=>if h:∃n,Bl N t n then(h.choose - 2).toNat else 0;have i:∀t∈L,∃n:Int,2<=n/\n<N.length+2/\Bl N t n/\(f t:Int)=n - 2:=λt g=>by
  obtain⟨v,l,r,e,hn⟩:=h.R6 t g;have h1:=hn.choose_spec;have j:=h1.range;have k:¬hn.choose<2:=λo=>by
   obtain⟨b,hb⟩:=h1.FB.1 o;rw[e]at hb;exact absurd hb (by simp)
  refine⟨hn.choose,by omega,j.2,h1,?_⟩;simp[f,hn,x0];omega
 refine Hb f h.nodup (λt g=>?_) λs q t g e=>?_
 .obtain⟨n,h1,j,_,k⟩:=i t g;omega
 .obtain⟨n,h1,j,k,w⟩:=i s q;obtain⟨m,z,A,u,B⟩:=i t g;have:n=m:=by omega
  subst this;exact k.uniq u
theorem Lw(t:DT):∀L x,x∈emit t L->x∈L\/x.size<=t.size:=by
 induction t with
 |leaf b=>intro L x h;exact .inl h
 |node v l r g i=>
  intro L x h;unfold emit at h;split at h
  .exact .inl h
  .rcases dl.1 h with h|h
   .rcases i _ x h with h|h
    .rcases g _ x h with h|h
     .exact .inl h
     .right;simp[DT.size];omega
    .right;simp[DT.size];omega
   .simp at h;subst h;exact .inr (br _)
theorem Nc{N:List Ap}(h:Bool){t:DT}{n:Int}{L:List DT}{es:List (Int×Int)}(i:Bl N t n)(j:lX N L es)(hi:GY L t):
  AG prog 200 [.d (AF n),.ptr 0 1 0 0,.ptr 1 1 0 0,.ptr 2 1 0 0,.ptr 3 1 0 0] (PW N h L es) (.d (AF (num L t))) (PW N h L es):=by
 have g:look es n=some (num L t):=(j n _ i).1 hi;refine zC func200 55 rfl λwf k=>?_;unfold PW;apply yW;simp;refine xS (yW ?_);simp;apply yW;simp[g];apply AR;simp;apply yW;simp;apply Af;refine⟨_,am,?_⟩;simp[Au]
theorem cW(N:List Ap)(K:N.Nodup)(hN:N.length<=2 ^ 30)(H:Bool):∀(t:DT) (n:Int) (L:List DT) (m:List (Int×Int)),Bl N t n->mz N L->lX N L m->∃C,lX N (emit t L) C/\mz N (emit t L)/\AG prog 200 [.d (AF n),.ptr 0 1 0 0,.ptr 1 1 0 0,.ptr 2 1 0 0,.ptr 3 1 0 0] (PW N H L m) (.d (AF (num (emit t L) t))) (PW N H (emit t L) C):=by
 intro t;induction t with
 |leaf b=>exact λn L m o E z=>⟨m,z,E,Nc H o z (.inl ⟨b,rfl⟩)⟩
 |node v l r P Q=>
  intro n L m o E z;by_cases hi:DT.node v l r∈L
  .have e:emit (.node v l r) L=L:=by simp[emit,hi]
   rw[e];exact⟨m,z,E,Nc H o z (.inr hi)⟩
  .obtain⟨k,R,lo,S,T,U,W⟩:=o;obtain⟨X,Y,Z,c1⟩:=P lo L m U E z;obtain⟨es2,F,A,c2⟩:=Q S (emit l L) X W Z Y;have hl:look m n=none:=(z n (.node v l r) ⟨k,R,lo,S,T,U,W⟩).2 (by rintro(⟨b,hb⟩|h);exact absurd hb (by simp);exact hi h);have e:emit (.node v l r) L=emit r (emit l L)++[.node v l r]:=by simp[emit,hi]
   rw[e];generalize i:emit r (emit l L)=g at *;have o:Bl N (.node v l r) n:=⟨k,R,lo,S,T,U,W⟩;have q:DT.node v l r∉g:=by
    intro j;rw[<-i]at j;rcases Lw _ _ _ j with j|j
    .rcases Lw _ _ _ j with j|j
     .exact hi j
     .simp[DT.size]at j;omega
    .simp[DT.size]at j;omega
   have G:mz N (g++[.node v l r]):=by
    refine⟨e▸J7 (.node v l r) L E.closed,?_,?_⟩
    .rw[rt];refine⟨A.nodup,by simp,?_⟩;intro a ha b hb eab;simp at hb;subst eab;subst hb;exact q ha
    .intro t B;rcases dl.1 B with B|B
     .exact A.R6 t B
     .simp at B;subst B;exact⟨v,l,r,rfl,n,o⟩
   have hlen:g.length+1<=N.length:=by have:=G.len;simpa using this
   have s:num (g++[.node v l r]) (.node v l r)=g.length+2:=by
    simp[num];rw[List.idxOf_append,ao q];simp
   refine⟨C9 es2 n (g.length+2),?_,G,?_⟩
   .intro n' u J;rw[FR];by_cases en:n'=n
    .subst en;have:u=.node v l r:=J.uniq o;subst this;refine⟨λ_=>by rw[ap rfl,s],λvt=>absurd (.inr (by simp)) vt⟩
    .have vh:u≠.node v l r:=λeu=>by subst eu;exact en (J.inj K o)
     rw[ao en];have w:GY (g++[.node v l r]) u->GY g u:=by
      rintro(h|h)
      .exact .inl h
      .rcases dl.1 h with h|h
       .exact .inr h
       .simp at h;exact absurd h vh
     refine⟨λh=>?_,λh=>(F n' u J).2 λh'=>h (h'.mono _)⟩;rw[F5 (w h)];exact(F n' u J).1 (w h)
   .obtain⟨vZ,hke⟩:=df.1 T;refine zC func200 55 rfl λwf wfs=>?_;unfold PW;apply yW;simp;refine xS (yW ?_);simp;apply yW;simp[hl];apply AR;simp;apply CT;have hw:IntKind.i64.wrap (k:Int)=k:=wrap_i64 (by omega) (by omega);have wm:IntKind.i64.wrap ((g.length:Int)+1+1)=g.length+2:=wrap_i64 (by omega) (by omega);subst R;apply yW;simp[hw,vZ,hke];apply yS;apply yJ;simp;refine xY (c1) _ rfl rfl ?_;simp[PW];apply yJ;simp;(repeat apply xS);apply yT;apply yJ;simp;refine xY (c2) _ rfl rfl ?_;simp[PW];apply yJ;simp;have wZ:g.length<=1073741823:=by omega
    apply yS;apply yJ;simp[al,wZ];apply yW;simp[wm];(repeat apply xS);apply yV;simp;have il:GY (emit l L) l:=H0 l L;have il2:GY g l:=by rw[<-i];exact NT r il
    have ir:GY g r:=by rw[<-i];exact H0 r _
    have e1:num (g++[DT.node v l r]) l=num (emit l L) l:=by
     rw[F5 il2,<-i];obtain⟨M,hM⟩:=Nj r (emit l L);rw[hM,F5 il]
    have e2:num (g++[DT.node v l r]) r=num g r:=F5 ir _;apply Af;refine⟨_,a8 7 ?_ (by simp) (by simp) (by simp),?_⟩
    .simp;refine⟨λa ha=>by rw[VE A.closed ha],?_⟩;simp[aJ,e1,e2,Aa,AF]
    .simp[Au,clean,FR,s]
theorem Bl.bz{N:List Ap}{u:DT}{n:Int}(h:Bl N u n):GY [] u↔n<2:=by
 rw[h.FB];simp[GY]
theorem P5(N:List Ap)(j:N.Nodup)(w:N.length<=2 ^ 30)(k:Bool)(t:DT)(n:Int)(z:Bl N t n):
  AG prog 155 [.ptr 0 1 0 0,.d (AF n)] [.row k 2 [.agg [.d (AY N),.any]]] (.d (AB (Cq t))) [.row k 2 [.agg [.d (AY N),.any]]]:=by
 have o:lX N [] [(0,0),(1,1)]:=by
  intro m u i;have v:=i.bz;refine⟨λh=>?_,λh=>?_⟩
  .have A:=v.1 h;have:=i.range;have q:m=0\/m=1:=by omega
   rcases q with rfl|rfl
   .rw[i.zero];rfl
   .rw[i.one];rfl
  .have A:¬m<2:=λB=>h (v.2 B);rw[Cx,ao (by simp only;omega),Cx,ao (by simp only;omega)];rfl
 obtain⟨E,F,G,c⟩:=cW N j w k t n [] _ z (mz.nil N) o;refine AG.CJ func155 (by kernel_rfl) rfl (by simp) λwf C=>?_;rw[ntmps155];refine xW λK g=>?_;simp;apply g;refine FX λK g=>?_;refine xO ?_;simp;refine sv (AJ.gF 8 0 3 rfl rfl) ?_;simp;refine xJ ?_;simp;refine B6 (g _ _ ?_);refine xW λK g=>?_;simp[DF,Ek];apply g;refine xW λK g=>?_;simp;apply g;refine xW λK g=>?_;simp;apply g;(repeat refine xS ?_);refine HA λK g=>?_;refine xJ ?_;simp;refine AV.El (c) [6,1,7,4,5,0,3] rfl (by simp[PW];try rfl) ?_;simp[PW];(repeat((refine Cd ?_ ?_);(focus(simp;done));simp));refine B6 (g _ _ ?_);(try simp only[C4]);refine xW λK g=>?_;simp;apply g;refine Af ?_;(try simp only[xQ,reduceIte]);refine⟨_,_,_,c9 3 (xs:=(emit t []).map λs=>Aa (aJ (emit t []) s)) rfl (by simp),by simp,by simp[AB,Cq,qK],a8 1 (by simp) (by simp) (by simp) (by simp)⟩
theorem LY(a b:Ap):De (Aa a) (Aa b)=decide (a=b):=by
 cases a;cases b;rw[eg];simp[De,Cg,Aa]
section
variable {β:Type} {ev:β->V}
@[simp] theorem mA(l:List (Ap×β))(a b c:Int):DF (Bg Aa ev l) (.agg [.int .i64 a,.int .i64 b,.int .i64 c])=(look l ⟨a,b,c⟩).map ev:=F2 LY l ⟨a,b,c⟩
@[simp] theorem nN(l:List (Ap×Int))(a b c x:Int):Ek (Bg Aa (λx=>.d (.int .i64 x)) l) (.agg [.int .i64 a,.int .i64 b,.int .i64 c]) (.d (.int .i64 x))=Bg Aa (λx=>.d (.int .i64 x)) (C9 l ⟨a,b,c⟩ x):=EZ (ev:=λx=>V.d (.int .i64 x)) LY l ⟨a,b,c⟩ x
@[simp] theorem jj(l:List (Ap×Bool))(a b c:Int)(x:Bool):Ek (Bg Aa (λx=>.d (.bool x)) l) (.agg [.int .i64 a,.int .i64 b,.int .i64 c]) (.d (.bool x))=Bg Aa (λx=>.d (.bool x)) (C9 l ⟨a,b,c⟩ x):=EZ (ev:=λx=>V.d (.bool x)) LY l ⟨a,b,c⟩ x
@[simp] theorem aR(l:List (Ap×β)):Bj (.cells [.int .i64,.int .i64,.int .i64]) (Bg Aa ev l)=True:=eq_true (E9 (by intro a;simp[B7,B2,CN,Aa]) l)
end
def AN.HZ(d:AN)(n v:Int):Int:=if d.level n=v then(match d.nodes[(n - 2).toNat]? with|some x=>x.low|none=>0)else n
def AN.Hm(d:AN)(n v:Int):Int:=if d.level n=v then(match d.nodes[(n - 2).toNat]? with|some x=>x.high|none=>0)else n
theorem O5(d:AN)(n v:Int)(hn:n<2+d.nodes.length)(o:v<64):Pure prog 259 [AB d,AF n,AF v] (.Cb [AF (d.HZ n v),AF (d.Hm n v)]):=by
 refine eJ func259 rfl rfl (by simp) λwf=>?_;simp[Bs,Di,DZ]at wf;rw[ntmps259];apply yW;simp;refine xS (yS ?_);apply yJ;simp;refine B9 (Ih d n hn) rfl (by simp[xN]) (yJ ?_);simp;apply AR;simp;refine⟨λh=>?_,λh=>?_⟩
 .apply yW;simp;refine Af ⟨_,_,am,?_⟩;simp[AN.HZ,AN.Hm,h]
 .have g:¬n<2:=by intro g;simp[AN.level,g]at h;omega
  have j:IntKind.i64.wrap (n - 2)=n - 2:=wrap_i64 (by omega) (by omega);have i:(n - 2).toNat<d.nodes.length:=by omega
  have k:n - 2<(d.nodes.length:Int):=by omega
  have m:2<=n:=by omega
  apply xK;(repeat apply xS);refine yE [0,2,4,6,8,10,12,14,16,18,20,22,24,26,28,30] (by kernel_rfl) ?_;simp;apply yA 0;simp[j,i,k,m];apply zT;simp[AN.HZ,AN.Hm,h,i]
def Ul(f:FuncId)(g:Bool->Bool->Bool):Prop:=∀x y,Pure prog f [.bool x,.bool y] (.bool (g x y))
theorem HI:Ul 195 and:=λx y=>by
 refine zP func195 9 rfl λwf=>?_;apply yW;simp;apply yW;simp;apply zT;try simp
theorem JL:Ul 198 or:=λx y=>by
 refine zP func198 9 rfl λwf=>?_;apply yW;simp;apply yW;simp;apply zT;try simp
theorem Vi{f:FuncId}{g:Bool->Bool->Bool}(h:Ul f g)(x y z:Bool):AG prog 236 [.d (.bool x),.d (.bool y),.d (.bool z),.ptr 0 1 0 0] [.row true 1 [.fn (.func f) [] []]] (.d (.bool (g x y))) [.row true 1 [.fn (.func f) [] []]]:=by
 refine zC func236 12 rfl λwf i=>?_;apply yW;simp;(repeat apply xS);apply yT;apply yJ;simp;refine B9 (h x y) rfl (by simp) (yJ ?_);simp;apply Af;refine⟨_,am,?_⟩;simp[Au]
theorem WT(d:AN):Pure prog 234 [AB d] (.Cb [AB (if d.nodes.length>4096 then⟨[],0⟩else d),AF (if d.nodes.length>4096 then 2 else 0)]):=by
 refine zP func234 10 rfl λwf=>?_;apply yW;simp;refine xS (yW ?_);simp;apply AR;simp;refine⟨λh=>?_,λh=>?_⟩
 .have h:d.nodes.length>4096:=by omega
  apply yW;simp;refine Af ⟨_,_,am,?_⟩;simp[h,AB]
 .have h:¬d.nodes.length>4096:=by omega
  apply xK;apply yW;simp;apply zT;(try simp);have e:(if 4096<d.nodes.length then(⟨[],0⟩:AN)else d)=d:=ao (by omega);rw[e];exact⟨rfl,by omega⟩
def iU(N:List Ap)(kn:List (Ap×Int)):Sg:=
 [.row true 2 [.agg [.row 1 N.length,.map 2]],.row (!N.isEmpty) 3 (N.map λx=>.d (Aa x)),.map (Bg Aa (λx=>.d (.int .i64 x)) kn)]
theorem Qg:AG prog 257 [] [] (.ptr 2 1 0 0) [.map [],.row false 3 [],.row true 2 [.agg [.row 1 0,.map 0]]]:=by
 refine zC func257 4 rfl λwf g=>?_;apply yW;simp;(repeat apply xS);apply yT;apply xO;simp;apply xO;simp;refine sv (AJ.gF 2 0 3 rfl rfl) ?_;simp;apply yJ;simp;apply Af;refine⟨_,am,?_⟩;simp[Au]
def Nm(N:List Ap)(kn:List (Ap×Int))(v lo hi:Int):List Ap×List (Ap×Int)×Int:=
 if lo=hi then(N,kn,lo)else match look kn ⟨v,lo,hi⟩with
  |some n=>(N,kn,n)
  |none=>(N++[⟨v,lo,hi⟩],C9 kn ⟨v,lo,hi⟩ (N.length+2),N.length+2)
theorem Z6(N:List Ap)(kn:List (Ap×Int))(v lo hi:Int)(m:N.length<2 ^ 30):
  AG prog 260 [.ptr 0 1 0 0,.d (AF v),.d (AF lo),.d (AF hi)] (iU N kn) (.d (AF (Nm N kn v lo hi).2.2)) (iU (Nm N kn v lo hi).1 (Nm N kn v lo hi).2.1):=by
 refine md func260 (by kernel_rfl) rfl (by simp) λwf j=>?_;rw[ntmps260];unfold iU;apply yW;simp;refine xS (yW ?_);simp;refine AR ?_;simp;refine⟨λh=>?_,λh=>?_⟩
 .apply yW;simp;refine Af ?_;(try simp only[yQ,reduceIte]);refine⟨_,rc (by simp[Nm,h]),?_⟩;simp[Au,Nm,h]
 .refine xK ?_;apply yW;simp;refine yD [0,2,4,6,8,10,12,14,16,18,20] (by kernel_rfl) ?_;simp;refine yA 0 ?_;simp;refine xS (yW ?_);simp;cases g:look kn ⟨v,lo,hi⟩with
  |some n=>
   refine AR ?_;simp;refine xK ?_;apply yW;simp;refine Af ?_;(try simp only[yQ,reduceIte]);refine⟨_,a8 3 (by simp[Nm,h,g]) (by simp) (by simp) (by simp),?_⟩;simp[Au,clean,Nm,h,g]
  |none=>
   have i:N.length<=1073741823:=by omega
   have k:IntKind.i64.wrap ((N.length:Int)+1+1)=N.length+2:=wrap_i64 (by omega) (by omega);refine AR ?_;simp;refine yD [0,2,4,6,8,10,12,15,16,18,21] (by kernel_rfl) ?_;simp;(repeat(refine Ag.qn ?_ ?_;(·simp);simp));(repeat((refine Hz ?_ ?_);(focus(simp[maxLen];done));simp[maxLen]));((refine tS [true,false,true,false,false,false,false] (by kernel_rfl) ?_ ?_);(focus(simp[i];done));simp);refine yA 2 ?_;simp;refine xX 125 (by kernel_rfl) ?_;simp;apply xM;apply yW;simp[k];refine yE [0,2,4,6,8,10,13] (by kernel_rfl) ?_;simp;refine yA 0 ?_;simp;refine xX 63 (by kernel_rfl) ?_;simp;apply xM;apply yW;simp;refine Af ?_;(try simp only[yQ,reduceIte]);refine⟨_,a8 3 (by simp[Nm,h,g,Aa]) (by simp) (by simp) (by simp),?_⟩;simp[Au,clean,Nm,h,g]
open Go.Proofs DT
structure BK(N:List Ap)(kn:List (Ap×Int)):Prop where
 km:Py N
 kn:∀b n,look kn b=some n↔∃k:Nat,N[k]?=some b/\n=k+2
theorem BK.nil:BK [] []:=⟨Py.nil,λb n=>by simp⟩
theorem eV{N:List Ap}{kn:List (Ap×Int)}(h:BK N kn){v lo hi:Int}{s t:DT}(h0:0<=v)(h1:v<=63)(hs:s.Good)(C:t.Good)(E:v<s.level)(lt:v<t.level)
  (j:Bl N s lo) (q:Bl N t hi):BK (Nm N kn v lo hi).1 (Nm N kn v lo hi).2.1/\(∃M,(Nm N kn v lo hi).1=N++M)/\Bl (Nm N kn v lo hi).1 (DT.mk v s t) (Nm N kn v lo hi).2.2/\(DT.mk v s t).Good/\∀k:Nat,N.length<=k->k<(Nm N kn v lo hi).1.length->(Nm N kn v lo hi).2.2=k+2:=by
 by_cases m:lo=hi
 .subst m;have e:s=t:=j.uniq q;subst e;have em:DT.mk v s s=s:=by simp[DT.mk]
  simp only[Nm,er];rw[em];exact⟨h,⟨[],by simp⟩,j,hs,λk h1 o=>absurd o (by omega)⟩
 .have F:s≠t:=λe=>by subst e;exact m (j.inj h.km.nodup q)
  have em:DT.mk v s t=.node v s t:=by simp[DT.mk,F]
  cases u:look kn ⟨v,lo,hi⟩with
  |some n=>
   have e:Nm N kn v lo hi=(N,kn,n):=by simp[Nm,m,u]
   rw[e,em];obtain⟨k,g,hn⟩:=(h.kn _ _).1 u;exact⟨h,⟨[],by simp⟩,⟨k,hn,lo,hi,g,j,q⟩,⟨h0,h1,F,E,lt,hs,C⟩,λk h1 o=>absurd o (by simp only;omega)⟩
  |none=>
   have e:Nm N kn v lo hi=(N++[⟨v,lo,hi⟩],C9 kn ⟨v,lo,hi⟩ (N.length+2),(N.length:Int)+2):=by simp[Nm,m,u]
   rw[e,em];have i:(⟨v,lo,hi⟩:Ap)∉N:=λH=>by
    obtain⟨k,g,w⟩:=jp.1 H;have:=(h.kn ⟨v,lo,hi⟩ (k+2)).2 ⟨k,by rw[ci g,w],rfl⟩;rw[u]at this;cases this
   obtain⟨J,K,L⟩:=h.km.snoc h0 h1 hs C E lt j q m i;refine⟨⟨J,λb n=>?_⟩,⟨_,rfl⟩,K,L,λk h1 o=>?_⟩
   .rw[FR];by_cases z:b=⟨v,lo,hi⟩
    .subst z;rw[ap rfl];constructor
     .intro G;simp at G;exact⟨N.length,by simp,G.symm⟩
     .rintro⟨k,g,rfl⟩;by_cases A:k<N.length
      .rw[ej A]at g;exact absurd (lw g) i
      .have B:=(df.1 g).1;simp at B;have:k=N.length:=by omega
       subst this;rfl
    .rw[ao z,h.kn];constructor
     .rintro⟨k,g,rfl⟩;refine⟨k,?_,rfl⟩;rw[ej (df.1 g).1];exact g
     .rintro⟨k,g,rfl⟩;refine⟨k,?_,rfl⟩;by_cases A:k<N.length
      .rw[ej A]at g;exact g
      .have B:=(df.1 g).1;simp at B;have:k=N.length:=by omega
       subst this;simp at g;exact absurd g.symm z
   .simp at o;simp only;omega
theorem Bl.level{d:AN}{s:DT}{n:Int}(h:Bl d.nodes s n):d.level n=s.level:=by
 cases s with
 |leaf b=>have:=h.FB.2 ⟨b,rfl⟩;simp[AN.level,this,DT.level]
 |node v l r=>
  obtain⟨k,i,lo,hi,e,_,_⟩:=h;have:¬n<2:=by omega
  have g:(n - 2).toNat=k:=by omega
  simp[AN.level,this,g,e,DT.level]
theorem Bl.lt{N:List Ap}{s:DT}{n:Int}(h:Bl N s n):n<2+N.length:=by have:=h.range;omega
theorem Bl.HZ{d:AN}{s:DT}{n v:Int}(h:Bl d.nodes s n)(j:v<64):Bl d.nodes (s.lo v) (d.HZ n v):=by
 unfold AN.HZ;rw[h.level];split
 .next e=>
  cases s with
  |leaf b=>simp[DT.level]at e;omega
  |node w l r=>
   obtain⟨k,m,lo,hi,g,h1,o⟩:=h;simp[DT.level]at e;subst e;have i:(n - 2).toNat=k:=by omega
   simp[i,g,DT.lo];exact h1
 .next e=>rw[Rf e];exact h
theorem Bl.Hm{d:AN}{s:DT}{n v:Int}(h:Bl d.nodes s n)(m:v<64):Bl d.nodes (s.hi v) (d.Hm n v):=by
 unfold AN.Hm;rw[h.level];split
 .next e=>
  cases s with
  |leaf b=>simp[DT.level]at e;omega
  |node w l r=>
   obtain⟨k,o,lo,hi,g,h1,i⟩:=h;simp[DT.level]at e;subst e;have j:(n - 2).toNat=k:=by omega
   simp[j,g,DT.hi];exact i
 .next e=>rw[SY e];exact h
abbrev aZ:=Int×Int×Int
def SE(t:aZ):D:=.agg [.int .i64 t.1,.int .i64 t.2.1,.int .i64 t.2.2]
theorem nD(a b:aZ):De (SE a) (SE b)=decide (a=b):=by
 obtain⟨g,h,i⟩:=a;obtain⟨j,k,m⟩:=b;rw[eg];simp[De,Cg,SE]
section
variable {β:Type} {ev:β->V}
@[simp] theorem tH(l:List (aZ×β))(a b c:Int):DF (Bg SE ev l) (.agg [.int .i64 a,.int .i64 b,.int .i64 c])=(look l (a,b,c)).map ev:=F2 nD l (a,b,c)
@[simp] theorem tY(l:List (aZ×Int))(a b c x:Int):Ek (Bg SE (λx=>.d (.int .i64 x)) l) (.agg [.int .i64 a,.int .i64 b,.int .i64 c]) (.d (.int .i64 x))=Bg SE (λx=>.d (.int .i64 x)) (C9 l (a,b,c) x):=EZ (ev:=λx=>V.d (.int .i64 x)) nD l (a,b,c) x
@[simp] theorem nb(l:List (aZ×β)):Bj (.cells [.int .i64,.int .i64,.int .i64]) (Bg SE ev l)=True:=eq_true (E9 (by intro a;simp[B7,B2,CN,SE]) l)
end
def sd:V:=.fn (.func 258) [] [.ptr 0 1 0 0,.ptr 1 1 0 0,.ptr 2 1 0 0,.ptr 3 1 0 0,.ptr 4 1 0 0]
def sK:V:=.fn (.func 236) [] [.ptr 9 1 0 0]
attribute [simp] sd sK
def Ml(f:FuncId)(a b c:AN)(N:List Ap)(kn:List (Ap×Int))(memo:List (aZ×Int)):Sg:=
 [.row true 1 [sK],.row true 1 [.map 6],.row true 6 [.d (.agg [AY a.nodes,AF a.root,AY b.nodes,AF b.root,AY c.nodes,AF c.root])],.row true 1 [sd],.row true 1 [.ptr 5 1 0 0],.row true 2 [.agg [.row 7 N.length,.map 8]],.map (Bg SE (λx=>.d (.int .i64 x)) memo),.row (!N.isEmpty) 3 (N.map λx=>.d (Aa x)),.map (Bg Aa (λx=>.d (.int .i64 x)) kn),.row true 1 [.fn (.func f) [] []]]
structure Te(g:Bool->Bool->Bool)(s0 s1 s2:DT)(N:List Ap)(r:Int)(t:DT):Prop where
 R6:Bl N t r
 HD:t.Good
 Ca:∀c,t.Ca c=g (s0.Ca c) (s1.Ca c)
 tz:min s0.level (min s1.level s2.level)<=t.level
structure CI(g:Bool->Bool->Bool)(a b c:AN)(N:List Ap)(kn:List (Ap×Int))(memo:List (aZ×Int)):Prop extends BK N kn where
 memo:∀x y z r,look memo (x,y,z)=some r->∀s0 s1 s2,Bl a.nodes s0 x->Bl b.nodes s1 y->Bl c.nodes s2 z->s0.Good->s1.Good->s2.Good->∃t,Te g s0 s1 s2 N r t
 src:∀k:Nat,k<N.length->∃x y z s0 s1 s2 t,Bl a.nodes s0 x/\Bl b.nodes s1 y/\Bl c.nodes s2 z/\Te g s0 s1 s2 N (k+2) t
theorem Te.mono{g:Bool->Bool->Bool}{i j k t:DT}{N:List Ap}{r:Int}(h:Te g i j k N r t)(M:List Ap):Te g i j k (N++M) r t:=⟨h.R6.mono M,h.HD,h.Ca,h.tz⟩
open Classical in
theorem CI.len{g:Bool->Bool->Bool}{a b c:AN}{N:List Ap}{kn:List (Ap×Int)}{memo:List (aZ×Int)}(h:CI g a b c N kn memo):
  N.length<=(a.nodes.length+2) * (b.nodes.length+2) * (c.nodes.length+2):=by
 let f:Nat->Nat:=λk=>if i:k<N.length then
  ((h.src k i).choose.toNat * (b.nodes.length+2)+(h.src k i).choose_spec.choose.toNat) * (c.nodes.length+2)+(h.src k i).choose_spec.choose_spec.choose.toNat else 0
 have H:∀k,k<N.length->∃x y z o q s t,Bl a.nodes o x/\Bl b.nodes q y/\Bl c.nodes s z/\Te g o q s N (k+2) t/\f k=(x.toNat * (b.nodes.length+2)+y.toNat) * (c.nodes.length+2)+z.toNat:=λk i=>by
  obtain⟨o,q,s,t,u,v,E,w⟩:=(h.src k i).choose_spec.choose_spec.choose_spec;exact⟨_,_,_,o,q,s,t,u,v,E,w,by simp[f,i,x0]⟩
 have key:=Hb f (l:=List.range N.length) (n:=(a.nodes.length+2) * (b.nodes.length+2) * (c.nodes.length+2)) List.nodup_range (λk i=>?_) (λk i U W e=>?_)
 .simpa using key
 .obtain⟨x,y,z,o,q,s,t,u,v,E,w,J⟩:=H k (by simpa using i);have r1:=u.range;have r2:=v.range;have r3:=E.range;rw[J];have h1:x.toNat+1<=a.nodes.length+2:=by omega
  have h2:y.toNat+1<=b.nodes.length+2:=by omega
  have h3:z.toNat+1<=c.nodes.length+2:=by omega
  generalize x.toNat=X at *;generalize y.toNat=Y at *;generalize z.toNat=Z at *;generalize a.nodes.length+2=A at *;generalize b.nodes.length+2=B at *;generalize c.nodes.length+2=C at *;have K:X * B+Y+1<=A * B:=by
   have:=wT B h1;rw[nc]at this;omega
  have:=wT C K;rw[nc]at this;omega
 .obtain⟨x,y,z,o,q,s,t,u,v,E,w,J⟩:=H k (by simpa using i);obtain⟨L,M,z',s0',s1',s2',t',F,G,P,j,Q⟩:=H U (by simpa using W);have r1:=u.range;have r2:=v.range;have r3:=E.range;have r1':=F.range;have r2':=G.range;have r3':=P.range;rw[J,Q]at e;have ez:z.toNat=z'.toNat:=by
   have:=i6 (·% (c.nodes.length+2)) e;simp[R1 _ (c.nodes.length+2)]at this;rwa [qr (by omega),qr (by omega)]at this
  rw[ez]at e;have S:x.toNat * (b.nodes.length+2)+y.toNat=L.toNat * (b.nodes.length+2)+M.toNat:=Nat.eq_of_mul_eq_mul_right (m:=c.nodes.length+2) (by omega) (by omega);have R:y.toNat=M.toNat:=by
   have:=i6 (·% (b.nodes.length+2)) S;simp[R1 _ (b.nodes.length+2)]at this;rwa [qr (by omega),qr (by omega)]at this
  rw[R]at S;have T:x.toNat=L.toNat:=Nat.eq_of_mul_eq_mul_right (m:=b.nodes.length+2) (by omega) (by omega);have T:x=L:=by omega
  have R:y=M:=by omega
  subst T;subst R;have e0:=u.uniq F;have K:=v.uniq G;subst e0;subst K;have et:t=t':=DT.unique w.HD j.HD λc=>by rw[w.Ca,j.Ca]
  subst et;have:=w.R6.inj h.km.nodup j.R6;omega
open Go.Proofs Tryz DT
def V3(x y z:Int):V:=.agg [.d (.int .i64 x),.d (.int .i64 y),.d (.int .i64 z)]
attribute [simp] V3
def jE(x y z:Int):List V:=[V3 x y z,.ptr 0 1 0 0,.ptr 1 1 0 0,.ptr 2 1 0 0,.ptr 3 1 0 0,.ptr 4 1 0 0]
theorem Qy{f:FuncId}{g:Bool->Bool->Bool}(k:Ul f g)(a b c:AN){x y z:Int}{N:List Ap}{kn:List (Ap×Int)}{memo:List (aZ×Int)}
  (h:x<2) (i:y<2) (j:z<2):
  AG prog 258 (jE x y z) (Ml f a b c N kn memo) (.d (AF (if g (x==1) (y==1)then 1 else 0))) (Ml f a b c N kn memo):=by
 unfold jE;refine zC func258 97 rfl λwf m=>?_;unfold Ml;apply yW;simp;refine xS (yW ?_);simp[h,i,j];apply AR;simp;refine xS (yS ?_);apply yJ;simp;refine xF (Vi k (x==1) (y==1) (z==1)) [9] rfl ?_;simp;apply yJ;simp;cases o:g (x==1) (y==1)with
 |true=>
  apply AR;simp;apply yW;simp;apply Af;refine⟨_,a8 10 (by simp) (by simp) (by simp) (by simp),?_⟩;simp[Au,clean]
 |false=>
  apply AR;simp;apply xK;apply yW;simp;apply Af;refine⟨_,a8 10 (by simp) (by simp) (by simp) (by simp),?_⟩;simp[Au,clean]
theorem ZS{f:FuncId}(a b c:AN){x y z r:Int}{N:List Ap}{kn:List (Ap×Int)}{memo:List (aZ×Int)}
  (hn:¬(x<2/\y<2/\z<2)) (g:look memo (x,y,z)=some r):
  AG prog 258 (jE x y z) (Ml f a b c N kn memo) (.d (AF r)) (Ml f a b c N kn memo):=by
 unfold jE;refine zC func258 97 rfl λwf h=>?_;unfold Ml;apply yW;simp;refine xS (yS ?_);apply yJ;simp;apply AR;simp;refine⟨λh1 i j=>absurd ⟨h1,i,j⟩ hn,λ_=>?_⟩
 .apply xK;refine xS (yW ?_);simp;apply yW;simp[g];apply AR;simp;apply yW;simp;apply Af;refine⟨_,a8 10 (by simp) (by simp) (by simp) (by simp),?_⟩;simp[Au,clean]
def oD(i j l:Int):Int:=if l<(if j<i then j else i)then l else(if j<i then j else i)
theorem iL{f:FuncId}(a b c:AN){x y z:Int}{N q j:List Ap}{kn k g:List (Ap×Int)}{memo s m2:List (aZ×Int)}{r1 r2 v:Int}
  (hn:¬(x<2/\y<2/\z<2)) (t:look memo (x,y,z)=none)
  (u:x<2+a.nodes.length) (w:y<2+b.nodes.length) (A:z<2+c.nodes.length) (C:oD (a.level x) (b.level y) (c.level z)=v) (h:v<64) (m:j.length<2 ^ 30)
  (c1:AG prog 258 (jE (a.HZ x v) (b.HZ y v) (c.HZ z v)) (Ml f a b c N kn memo) (.d (AF r1)) (Ml f a b c q k s))
  (B:AG prog 258 (jE (a.Hm x v) (b.Hm y v) (c.Hm z v)) (Ml f a b c q k s) (.d (AF r2)) (Ml f a b c j g m2)):
  AG prog 258 (jE x y z) (Ml f a b c N kn memo) (.d (AF (Nm j g v r1 r2).2.2)) (Ml f a b c (Nm j g v r1 r2).1 (Nm j g v r1 r2).2.1 (C9 m2 (x,y,z) (Nm j g v r1 r2).2.2)):=by
 unfold jE at c1 B⊢;refine zC func258 97 rfl λwf E=>?_;unfold Ml;apply yW;simp;refine xS (yS ?_);apply yJ;simp;apply AR;simp;refine⟨λh1 F G=>absurd ⟨h1,F,G⟩ hn,λ_=>?_⟩
 .apply xK;refine xS (yW ?_);simp;apply yW;simp[t];apply AR;simp;apply xK;refine yD [0,2,4,6,8,10,12,14,16,18,20,22,24,26,28,30,32] (by kernel_rfl) ?_;simp;apply yA 2;simp;apply yA 0;simp;refine go (Ih a x u) rfl (by simp[xN]) ?_;simp;apply yA 0;simp;refine go (Ih b y w) rfl (by simp[xN]) ?_;simp;apply yA 0;simp;refine go (Ih c z A) rfl (by simp[xN]) ?_;simp;apply yA 0;simp;(repeat apply xS);apply yV;simp;have o:(if c.level z<(if b.level y<a.level x then b.level y else a.level x)then c.level z else(if b.level y<a.level x then b.level y else a.level x))=v:=C;simp[o];refine xS (yW ?_);simp;apply Bx;refine DV 3 (λi tm S=>tm 1=.ptr 0 1 0 0/\tm 2=.ptr 1 1 0 0/\tm 3=.ptr 2 1 0 0/\tm 4=.ptr 3 1 0 0/\tm 5=.ptr 4 1 0 0/\tm 6=.ptr 10 1 0 0/\tm 10=.d (.int .i64 v)/\tm 11=.ptr 11 1 0 0/\tm 12=.ptr 12 1 0 0/\tm 64=.d (.int .i64 i)/\S=Ml f a b c N kn memo++[.row true 3 [V3 x y z],.row true 3 [V3 (if 0<i then a.HZ x v else 0) (if 1<i then b.HZ y v else 0) (if 2<i then c.HZ z v else 0)],.row true 3 [V3 (if 0<i then a.Hm x v else 0) (if 1<i then b.Hm y v else 0) (if 2<i then c.Hm z v else 0)]]) (i0:=0) (by omega) (by simp[Ml]) ?_;rintro i tm S hi ⟨t1,t2,t3,t4,t5,t6,t10,t11,t12,t64,rfl⟩;unfold Ml;rcases(by omega:i=0\/i=1\/i=2\/i=3)with rfl|rfl|rfl|rfl
  .apply yW;simp[t64];apply xC;simp;apply xK;apply xB;apply yW;simp[t64];refine yE [0,2,4,6,8,10,12,14,16,18,20,22,24,26,29,30,33] (by kernel_rfl) ?_;simp;apply yA 2;simp[t3,t6,t10];refine go (O5 a x v u h) rfl (by simp[xN]) ?_;simp;apply yA 2;simp[t11];apply xX 12285 (by kernel_rfl);simp;apply yA 2;simp[t12];apply xX 7 (by kernel_rfl);simp;apply xM;apply yV;simp[t64];refine⟨_,_,am,?_⟩;simp[t1,t2,t3,t4,t5,t6,t10,t11,t12,IntKind.wrap,IntKind.bits,IntKind.signed]
  .apply yW;simp[t64];apply xC;simp;apply xK;apply xB;apply yW;simp[t64];refine yE [0,2,4,6,8,10,12,14,16,18,20,22,24,26,29,30,33] (by kernel_rfl) ?_;simp;apply yA 2;simp[t3,t6,t10];refine go (O5 b y v w h) rfl (by simp[xN]) ?_;simp;apply yA 2;simp[t11];apply xX 12285 (by kernel_rfl);simp;apply yA 2;simp[t12];apply xX 7 (by kernel_rfl);simp;apply xM;apply yV;simp[t64];refine⟨_,_,am,?_⟩;simp[t1,t2,t3,t4,t5,t6,t10,t11,t12,IntKind.wrap,IntKind.bits,IntKind.signed]
  .apply yW;simp[t64];apply xC;simp;apply xK;apply xB;apply yW;simp[t64];refine yE [0,2,4,6,8,10,12,14,16,18,20,22,24,26,29,30,33] (by kernel_rfl) ?_;simp;apply yA 2;simp[t3,t6,t10];refine go (O5 c z v A h) rfl (by simp[xN]) ?_;simp;apply yA 2;simp[t11];apply xX 12285 (by kernel_rfl);simp;apply yA 2;simp[t12];apply xX 7 (by kernel_rfl);simp;apply xM;apply yV;simp[t64];refine⟨_,_,am,?_⟩;simp[t1,t2,t3,t4,t5,t6,t10,t11,t12,IntKind.wrap,IntKind.bits,IntKind.signed]
  .apply yW;simp[t64];apply xC;simp;apply C7;apply yS;apply yJ;simp[t4,t11];refine xY (c1) _ rfl rfl ?_;simp[Ml];apply yJ;simp;refine yD [0,2,4,6,8,11,13,14] (by kernel_rfl) ?_;simp;apply yA 2;simp[t4,t5,t10,t12];refine xL 3 _ (B) (by kernel_rfl) rfl rfl ?_;simp[Ml];refine ru (xT [1,1,1]) (Z6 j g v r1 r2 m) [5,7,8] (by kernel_rfl) rfl (by simp[iU];try rfl) ?_;simp[iU];apply yA 2;simp;apply yW;simp[t2,t6];apply yW;simp;apply Af;refine⟨_,a8 10 (by simp) (by simp) (by simp) (by simp),?_⟩;simp[Au,clean]
theorem mQ(i j l:Int):oD i j l=min i (min j l):=by unfold oD;split<;>split<;>omega
theorem j6{f:FuncId}{g:Bool->Bool->Bool}(hf:Ul f g)(a b c:AN)(hbox:(a.nodes.length+2) * (b.nodes.length+2) * (c.nodes.length+2)<2 ^ 30):
  ∀(m:Nat) (i j o:DT) (x y z:Int) (N:List Ap) (kn:List (Ap×Int)) (memo:List (aZ×Int)),i.size+j.size+o.size<=m->Bl a.nodes i x->Bl b.nodes j y->Bl c.nodes o z->i.Good->j.Good->o.Good->CI g a b c N kn memo->∃W T u r t,CI g a b c W T u/\(∃M,W=N++M)/\Te g i j o W r t/\AG prog 258 (jE x y z) (Ml f a b c N kn memo) (.d (AF r)) (Ml f a b c W T u):=by
 intro m;induction m with
 |zero=>
  intro i j o x y z N kn memo hm h0 h1 w E F G Q;obtain⟨C,rfl⟩:=Dr (t:=i) (by omega);obtain⟨s,rfl⟩:=Dr (t:=j) (by omega);obtain⟨X,rfl⟩:=Dr (t:=o) (by omega);have hx:=h0.FB.2 ⟨C,rfl⟩;have hy:=h1.FB.2 ⟨s,rfl⟩;have H:=w.FB.2 ⟨X,rfl⟩;have S:(x==1)=C:=by simp[Bl]at h0;subst h0;cases C<;>rfl
  have P:(y==1)=s:=by simp[Bl]at h1;subst h1;cases s<;>rfl
  have hb:=Qy hf a b c (N:=N) (kn:=kn) (memo:=memo) hx hy H;rw[S,P]at hb;exact⟨N,kn,memo,_,.leaf (g C s),Q,⟨[],by simp⟩,⟨by simp[Bl],trivial,λc=>rfl,by simp[DT.level]⟩,hb⟩
 |succ m ih=>
  intro i j o x y z N kn memo hm h0 h1 w E F G Q;by_cases H:i.size=0/\j.size=0/\o.size=0
  .obtain⟨C,rfl⟩:=Dr H.1;obtain⟨s,rfl⟩:=Dr H.2.1;obtain⟨X,rfl⟩:=Dr H.2.2;have hx:=h0.FB.2 ⟨C,rfl⟩;have hy:=h1.FB.2 ⟨s,rfl⟩;have H:=w.FB.2 ⟨X,rfl⟩;have S:(x==1)=C:=by simp[Bl]at h0;subst h0;cases C<;>rfl
   have P:(y==1)=s:=by simp[Bl]at h1;subst h1;cases s<;>rfl
   have hb:=Qy hf a b c (N:=N) (kn:=kn) (memo:=memo) hx hy H;rw[S,P]at hb;exact⟨N,kn,memo,_,.leaf (g C s),Q,⟨[],by simp⟩,⟨by simp[Bl],trivial,λc=>rfl,by simp[DT.level]⟩,hb⟩
  .have hn:¬(x<2/\y<2/\z<2):=λ⟨a1,a2,a3⟩=>by
    obtain⟨C,rfl⟩:=h0.FB.1 a1;obtain⟨s,rfl⟩:=h1.FB.1 a2;obtain⟨X,rfl⟩:=w.FB.1 a3;exact H ⟨rfl,rfl,rfl⟩
   cases hl:look memo (x,y,z)with
   |some r=>
    obtain⟨t,U⟩:=Q.memo x y z r hl i j o h0 h1 w E F G;exact⟨N,kn,memo,r,t,Q,⟨[],by simp⟩,U,ZS a b c hn hl⟩
   |none=>
    obtain⟨v,hv⟩:∃v,v=min i.level (min j.level o.level):=⟨_,rfl⟩;have hl0:=PM E;have yc:=PM F;have wZ:=PM G;have A:∀t:DT,t.Good->0<=t.level:=λt U=>by
     by_cases e:t.size=0
     .obtain⟨b,rfl⟩:=Dr e;simp[DT.level]
     .exact(FK U e).1
    have h:v<=63:=by
     by_cases S:i.size=0
     .by_cases P:j.size=0
      .have:=FK G (λY=>H ⟨S,P,Y⟩);omega
      .have:=FK F P;omega
     .have:=FK E S;omega
    have hv0:0<=v:=by have:=A i E;have:=A j F;have:=A o G;omega
    have d0:=Lm i v;have d1:=Lm j v;have d2:=Lm o v;have Z:=MF i v;have u1:=MF j v;have u2:=MF o v;have q:i.level=v\/j.level=v\/o.level=v:=by omega
    have hdl:(i.lo v).size+(j.lo v).size+(o.lo v).size<=m:=by
     rcases q with e|e|e
     .have:=Hj e (by omega);omega
     .have:=Hj e (by omega);omega
     .have:=Hj e (by omega);omega
    have hdh:(i.hi v).size+(j.hi v).size+(o.hi v).size<=m:=by
     rcases q with e|e|e
     .have:=Ha e (by omega);omega
     .have:=Ha e (by omega);omega
     .have:=Ha e (by omega);omega
    obtain⟨N1,kn1,m1,r1,t1,hI1,⟨M1,P⟩,J,c1⟩:=ih (i.lo v) (j.lo v) (o.lo v) _ _ _ N kn memo hdl (h0.HZ (by omega)) (h1.HZ (by omega)) (w.HZ (v:=v) (by omega)) (Mj E v) (Mj F v) (Mj G v) Q;obtain⟨N2,kn2,m2,r2,t2,K,⟨M2,Y⟩,L,c2⟩:=ih (i.hi v) (j.hi v) (o.hi v) _ _ _ N1 kn1 m1 hdh (h0.Hm (by omega)) (h1.Hm (by omega)) (w.Hm (v:=v) (by omega)) (Lx E v) (Lx F v) (Lx G v) hI1;have hN2:N2.length<2 ^ 30:=by have:=K.len;omega
    have k1:v<t1.level:=by
     have:=J.tz;have:=PD E (v:=v) (by omega) h;have:=PD F (v:=v) (by omega) h;have:=PD G (v:=v) (by omega) h;omega
    have k2:v<t2.level:=by
     have:=L.tz;have:=PE E (v:=v) (by omega) h;have:=PE F (v:=v) (by omega) h;have:=PE G (v:=v) (by omega) h;omega
    have hb:=eV K.toBK hv0 h J.HD L.HD k1 k2 (Y▸J.R6.mono M2) L.R6;have hc:=iL (f:=f) a b c hn hl h0.lt h1.lt w.lt (by rw[mQ,h0.level,h1.level,w.level,<-hv]) (by omega) hN2 c1 c2;generalize Nm N2 kn2 v r1 r2=R at hb hc;obtain⟨N3,kn3,r3⟩:=R;simp only at hb hc;obtain⟨s,⟨M3,e3⟩,b3,b4,b5⟩:=hb;have B:Te g i j o N3 r3 (DT.mk v t1 t2):=by
     refine⟨b3,b4,λcc=>?_,?_⟩
     .rw[n6,J.Ca,L.Ca,Qw (t:=i) v,Qw (t:=j) v];cases cc v<;>rfl
     .rw[<-hv];exact ie k1
    refine⟨N3,kn3,_,r3,_,⟨s,λx' y' z' r' w9 Z u1 u2 q0 q1 q2 w0 w1 w2=>?_,λk hk=>?_⟩,⟨M1++M2++M3,by rw[e3,Y,P];simp⟩,B,hc⟩
    .rw[FR]at w9;split at w9
     .next e=>
      cases w9;simp at e;obtain⟨rfl,rfl,rfl⟩:=e;rw[q0.uniq h0,q1.uniq h1,q2.uniq w];exact⟨_,B⟩
     .obtain⟨t,U⟩:=K.memo x' y' z' r' w9 Z u1 u2 q0 q1 q2 w0 w1 w2;exact⟨t,e3▸U.mono M3⟩
    .by_cases xk:k<N2.length
     .obtain⟨x',y',z',Z,u1,u2,t,q0,q1,q2,q3⟩:=K.src k xk;exact⟨x',y',z',Z,u1,u2,t,q0,q1,q2,e3▸q3.mono M3⟩
     .have:=b5 k (by omega) hk;subst this;exact⟨x,y,z,i,j,o,_,h0,h1,w,B⟩
theorem Tl(N:List Ap)(kn:List (Ap×Int))(g:N.Nodup)(h:N.length<=2 ^ 30)(t:DT)(n:Int)(i:Bl N t n):
  AG prog 155 [.ptr 0 1 0 0,.d (AF n)] (iU N kn) (.d (AB (Cq t))) [.row true 2 [.agg [.d (AY N),.any]],.BY (N.map Aa),.map (Bg Aa (λx=>.d (.int .i64 x)) kn)]:=by
 refine AG.pre (λn=>(c9 1 (xs:=N.map Aa) rfl (by simp)).trans (AJ.NJ 0 (sz:=2) (els:=[.agg [.row 1 N.length,.map 2]]) [.agg [.d (AY N),.any]] (by simp[iU]) (by simp[iU]))) ?_;simp[iU,List.set];exact(P5 N g h true t n i).Pd _ rfl (by simp) (by simp) (by simp) (by simp)
def Valid(d:AN):Prop:=∃t:DT,t.Good/\d=Cq t
theorem Od{f:FuncId}{g:Bool->Bool->Bool}(v:Ul f g)(i j:DT)(w:i.Good)(A:j.Good)
  (m:((Cq i).nodes.length+2) * ((Cq j).nodes.length+2) * 2<2 ^ 30):
  ∃t:DT,t.Good/\(∀c,t.Ca c=g (i.Ca c) (j.Ca c))/\AG prog 235 [.agg [.d (AY (Cq i).nodes),.d (AF (Cq i).root),.d (AY (Cq j).nodes),.d (AF (Cq j).root),.full [],.d (AF 0)],.fn (.func 236) [] [.ptr 0 1 0 0]]
    [.row true 1 [.fn (.func f) [] []]] (.d (AB (Cq t))) [.row true 1 [.fn (.func f) [] []]]:=by
 have r2:Bl (⟨[],0⟩:AN).nodes (.leaf false) 0:=by simp[Bl]
 obtain⟨N,kn,memo,r,t,s,-,o,u⟩:=j6 v (Cq i) (Cq j) ⟨[],0⟩ (by simpa using m) _ i j (.leaf false) (Cq i).root (Cq j).root 0 [] [] [] (br _) (GO i) (GO j) r2 w A trivial
  ⟨BK.nil,λx y z r h=>by simp at h,λk B=>absurd B (by simp)⟩
 refine⟨t,o.HD,o.Ca,?_⟩;unfold jE at u;have q:N.length<=2 ^ 30:=by have:=s.len;simp at this;omega
 refine zD func235 25 rfl λwf C=>?_;apply yW;simp;apply yS;apply yJ;simp;refine xF (Qg) [] rfl ?_;simp;apply yJ;simp;apply yW;simp;apply yW;simp;apply yW;simp;refine ed (AJ.NJ 1 (sz:=6) [.d (.agg [AY (Cq i).nodes,AF (Cq i).root,AY (Cq j).nodes,AF (Cq j).root,.sl [],AF 0])] rfl (by simp)) ?_;simp;(repeat apply xS);refine yE [0,2,4,6,8,10,12,14,16,18,20,22,25,27,29] (by kernel_rfl) ?_;simp;apply yA 2;simp;refine ru (xT [1,0,0,0,0,0,0,0,0,0,1,0]) (u) [2,9,1,10,7,6,8,5,4,0] (by kernel_rfl) rfl (by simp[Ml];try rfl) ?_;simp[Ml];refine ru (xT [0,0,0,0,0,0,0,0,0,1]) (Tl N kn s.km.nodup q t r o.R6) [6,5,4] (by kernel_rfl) rfl (by simp[iU];try rfl) ?_;simp;apply xX 511 (by kernel_rfl);simp;apply xM;apply Af;refine⟨_,_,_,am,by simp,by simp,a8 1 (by simp) (by simp) (by simp) (by simp)⟩
def Lv(L:List DT)(k:Nat)(t:DT):Prop:=(∃b,t=.leaf b)\/∃j,j<k/\L[j]?=some t
def Ord(L:List DT):Prop:=∀(k:Nat) v l h,L[k]?=some (.node v l h)->Lv L k l/\Lv L k h
theorem Lv.mono{L:List DT}{k:Nat}{t:DT}(h:Lv L k t)(i:k<=L.length)(M:List DT):Lv (L++M) k t:=by
 rcases h with h|⟨j,h1,g⟩
 .exact .inl h
 .exact .inr ⟨j,h1,by rw[ej (by omega)];exact g⟩
theorem GY.uY{L:List DT}{t:DT}(h:GY L t):Lv L L.length t:=by
 rcases h with h|h
 .exact .inl h
 .obtain⟨j,hj,e⟩:=jp.1 h;exact .inr ⟨j,hj,by rw[ci hj,e]⟩
theorem Ord.nil:Ord []:=λk v l h e=>by simp at e
theorem ff(t:DT):∀L,Ord L->Ord (emit t L):=by
 induction t with
 |leaf b=>intro L h;exact h
 |node v l h j m=>
  intro L o;unfold emit;split
  .exact o
  .have h1:=m _ (j L o);intro k w a b g;by_cases q:k<(emit h (emit l L)).length
   .rw[ej q]at g;have:=h1 k w a b g;exact⟨this.1.mono (by omega) _,this.2.mono (by omega) _⟩
   .have i:=(df.1 g).1;simp at i;have s:k=(emit h (emit l L)).length:=by omega
    subst s;simp[DT.node.injEq]at g;obtain⟨rfl,rfl,rfl⟩:=g;exact⟨(NT h (H0 l L)).uY.mono (br _) _,(H0 h _).uY.mono (br _) _⟩
theorem ZM(t:DT):t.Good->∀L,(∀x∈L,x.Good)->∀x∈emit t L,x.Good:=by
 induction t with
 |leaf b=>intro _ L h;exact h
 |node v l h i j=>
  intro k L m;unfold emit;split
  .exact m
  .intro x g;rcases dl.1 g with g|g
   .exact j k.2.2.2.2.2.2 _ (i k.2.2.2.2.2.1 L m) x g
   .simp at g;subst g;exact k
theorem WQ(t:DT):∀L:List DT,L.Nodup->(emit t L).Nodup:=by
 induction t with
 |leaf b=>intro L h;exact h
 |node v l h g i=>
  intro L j;unfold emit;split
  .exact j
  .next hi=>
   rw[rt];refine⟨i _ (g L j),by simp,?_⟩;intro a ha b hb e;simp at hb;subst e;subst hb;rcases Lw _ _ _ ha with ha|ha
   .rcases Lw _ _ _ ha with ha|ha
    .exact hi ha
    .simp[DT.size]at ha;omega
   .simp[DT.size]at ha;omega
theorem Zg(t:DT):∀L,(∀x∈L,∃v l h,x=DT.node v l h)->∀x∈emit t L,∃v l h,x=DT.node v l h:=by
 induction t with
 |leaf b=>intro L h;exact h
 |node v l h i j=>
  intro L k;unfold emit;split
  .exact k
  .intro x g;rcases dl.1 g with g|g
   .exact j _ (i L k) x g
   .simp at g;exact⟨v,l,h,g⟩
def NB(d:AN)(k:Nat)(b:Ap):Prop:=
 0<=b.var/\b.var<=63/\0<=b.low/\0<=b.high/\b.low<=k+1/\b.high<=k+1/\b.low≠b.high/\b.var<d.level b.low/\b.var<d.level b.high
theorem Xu{L:List DT}{k:Nat}{t:DT}(g:L.Nodup)(h:Lv L k t):num L t<=k+1:=by
 cases t with
 |leaf b=>simp[num];cases b<;>simp<;>omega
 |node v l r=>
  rcases h with⟨b,hb⟩|⟨j,h1,i⟩
  .exact absurd hb (by simp)
  .obtain⟨hj,e⟩:=df.1 i;have:L.idxOf (DT.node v l r)=j:=by
    have:=g.idxOf_getElem j hj;rwa [e]at this
   simp[num,this];omega
theorem Lv.GY{L:List DT}{k:Nat}{t:DT}(h:Lv L k t):GY L t:=by
 rcases h with h|⟨j,_,g⟩
 .exact .inl h
 .exact .inr (lw g)
theorem fG{t:DT}(C:t.Good):(Cq t).nodes.Nodup/\(∀k b,(Cq t).nodes[k]?=some b->NB (Cq t) k b)/\0<=(Cq t).root/\(Cq t).root<=(Cq t).nodes.length+1:=by
 have o:=J7 t [] IE.nil;have E:=ff t [] Ord.nil;have F:=ZM t C [] (λx h=>absurd h (by simp));have q:=WQ t [] acU;have hn:=Zg t [] (λx h=>absurd h (by simp));have G:=NM (H0 t []);have i:(Cq t).nodes=(emit t []).map (aJ (emit t [])):=rfl;have u:(Cq t).root=num (emit t []) t:=rfl;rw[u];have g:∀s,GY (emit t []) s->Bl (Cq t).nodes s (num (emit t []) s):=λs H=>by rw[i];exact RH o H
 refine⟨?_,λk b z=>?_,G.1,by rw[i,li];omega⟩
 .rw[i];refine ac8.2 (q.imp_of_mem λ{x y} j A J e=>J ?_);obtain⟨v,l,h,rfl⟩:=hn x j;obtain⟨Q,K,L,rfl⟩:=hn y A;simp[aJ,Ap.mk.injEq]at e;obtain⟨rfl,M,N⟩:=e;have c1:=o _ _ _ j;have B:=o _ _ _ A;have:=(g l c1.1).uniq (M▸g K B.1);have:=(g h c1.2).uniq (N▸g L B.2);subst_vars;rfl
 .rw[i,xi,wL]at z;obtain⟨x,j,rfl⟩:=z;have w:=lw j;obtain⟨v,l,h,rfl⟩:=hn x w;have c1:=o _ _ _ w;have o1:=E _ _ _ _ j;have m:=F _ w;have r1:=NM c1.1;have r2:=NM c1.2;refine⟨m.1,m.2.1,r1.1,r2.1,Xu q o1.1,Xu q o1.2,λe=>m.2.2.1 ((g l c1.1).uniq ?_),?_,?_⟩
  .have P:num (emit t []) l=num (emit t []) h:=e;rw[P];exact g h c1.2
  .simp[aJ];rw[(g l c1.1).level];exact m.2.2.2.1
  .simp[aJ];rw[(g h c1.2).level];exact m.2.2.2.2.1
theorem Qn{d:AN}(i:d.nodes.Nodup)(m:∀k b,d.nodes[k]?=some b->NB d k b):Py d.nodes:=by
 refine⟨i,λk=>?_⟩;induction k using Nat.strongRecOn with
 |_ k o=>
  intro j;obtain⟨f1,f2,f3,f4,f5,f6,f7,f8,f9⟩:=m k _ (ci j);have get:∀n:Int,0<=n->n<=k+1->∃s,s.Good/\Bl d.nodes s n:=λn h0 h1=>by
   by_cases q:n=0
   .subst q;exact⟨.leaf false,trivial,by simp[Bl]⟩
   by_cases u:n=1
   .subst u;exact⟨.leaf true,trivial,by simp[Bl]⟩
   have:=o (n - 2).toNat (by omega) (by omega);rwa [show(((n - 2).toNat:Int)+2)=n by omega]at this
  obtain⟨s,v,g⟩:=get _ f3 f5;obtain⟨t,w,h⟩:=get _ f4 f6;refine⟨.node d.nodes[k].var s t,⟨f1,f2,λe=>f7 ?_,?_,?_,v,w⟩,⟨k,rfl,_,_,ci j,g,h⟩⟩
  .subst e;exact g.inj i h
  .rw[<-g.level];exact f8
  .rw[<-h.level];exact f9
open Classical in
noncomputable def Hn(d:AN):Int:=if d.nodes.length>4096 then 2 else if Valid d then 0 else 20
theorem Pu{t:DT}(h:Hn (Cq t)=0):(Cq t).nodes.length<=4096:=by
 unfold Hn at h;split at h
 .simp at h
 .omega
theorem NS{d:AN}(h:Hn d=0):Valid d:=by
 unfold Hn at h;split at h
 .simp at h
 .split at h
  .assumption
  .simp at h
theorem PO{d:AN}(h:Valid d):Py d.nodes/\(∀k b,d.nodes[k]?=some b->NB d k b)/\0<=d.root/\d.root<=d.nodes.length+1:=by
 obtain⟨t,i,rfl⟩:=h;obtain⟨h1,g,j,m⟩:=fG i;exact⟨Qn h1 g,g,j,m⟩
theorem Zf{α:Type}[DecidableEq α](l:List α)(b:α):(look (l.map λb=>(b,true)) b).getD false=true↔b∈l:=by
 induction l with
 |nil=>simp
 |cons x l g=>
  rw[eP,Cx];by_cases h:x=b
  .subst h;simp
  .have i:¬b=x:=λe=>h e.symm;simp[h,g,i,false_or]
theorem QG{α:Type}[DecidableEq α]{l:List α}{b:α}(h:b∉l):look (l.map λb=>(b,true)) b=none:=by
 rw[RW];simp;exact h
abbrev l5:=@List.map_take
theorem aB{α:Type}[DecidableEq α]{l:List α}{i:Nat}(hi:i<l.length)(h:l[i]∉l.take i):
  C9 ((l.map λb=>(b,true)).take i) l[i] true=(l.map λb=>(b,true)).take (i+1):=by
 rw[L3 _ (by rw[<-l5];exact QG h)];rw[<-l5,<-l5 (i:=i+1),pe hi,su];rfl
theorem TP(d:AN):Pure prog 78 [AB d] (AF (Hn d)):=by
 refine eJ func78 (by kernel_rfl) rfl (by simp) λwf=>?_;simp[Bs,Di,DZ]at wf;rw[ntmps78];refine xW λK m=>?_;simp;apply m;refine xS (xW λK m=>?_);simp;apply m;refine AR ?_;simp;refine⟨λh=>?_,λh=>?_⟩
 .refine xW λK m=>?_;simp;apply m;refine Af ⟨_,_,am,?_⟩;(try simp);have:d.nodes.length>4096:=by omega
  simp[Hn,this]
 .have C:¬d.nodes.length>4096:=by omega
  have o:∀p:Prop,(Valid d↔p)->(p->Hn d=0)/\(¬p->Hn d=20):=λp J=>⟨λq=>by simp only[Hn,ao C];rw[ap (J.2 q)],λq=>by simp only[Hn,ao C];rw[ao (λs=>q (J.1 s))]⟩;refine xK ?_;refine xW λK m=>?_;simp;apply m;refine xS (xW λK m=>?_);simp;apply m;refine Bx ?_;refine DV d.nodes.length (λi tm S=>tm 1=.ptr 0 1 0 0/\tm 3=.map 1/\tm 13=.d (AY d.nodes)/\tm 14=.d (.int .i64 d.nodes.length)/\tm 15=.d (.int .i64 i)/\S=[.row true 2 [.d (AB d)],.map (Bg Aa (λx=>.d (.bool x)) ((d.nodes.map λb=>(b,true)).take i))]/\(d.nodes.take i).Nodup/\∀k b,k<i->d.nodes[k]?=some b->NB d k b) (cq _) (by simp) ?_;rintro i tm S hi ⟨t1,t3,t13,t14,t15,rfl,A,L⟩;refine xW λK m=>?_;simp[t14,t15];apply m;refine xC ?_;simp;refine⟨λw=>?_,λvw=>?_⟩
  .have hb:d.nodes[i]?=some d.nodes[i]:=ci w;refine xK ?_;refine xB ?_;(repeat refine xS ?_);refine xV λK m=>?_;simp[t13,t15,w];refine m _ _ ?_;(try simp only[xQ,reduceIte]);have B:IntKind.i64.wrap ((i:Int)+1)=i+1:=wrap_i64 (by omega) (by omega);refine xS (xW λK m=>?_);simp[t3,B];apply m;have wI:i<(d.nodes.map λb=>(b,true)).length:=by simpa using w
   have M:(look ((d.nodes.map λb=>(b,true)).take i) ⟨d.nodes[i].var,d.nodes[i].low,d.nodes[i].high⟩).getD false=true↔d.nodes[i]∈d.nodes.take i:=by
    rw[<-l5];exact Zf _ _
   have N:¬NB d i d.nodes[i]\/d.nodes[i]∈d.nodes.take i->Hn d=20:=λq=>(o False ⟨λs=>by
    obtain⟨h1,X,_⟩:=PO s;rcases q with q|q
    .exact q (X i _ hb)
    .obtain⟨j,hj,e⟩:=jp.1 q;rw[List.getElem_take]at e;have xe:j<i:=by simp at hj;omega
     have:=(List.getElem_inj h1.nodup).1 e;omega,False.elim⟩).2 id
   refine AR ?_;simp;refine⟨λz=>?_,λc1 Y Z c4 c5 c6 c7 P=>?_⟩
   .refine xW λK m=>?_;simp;apply m;refine Af ⟨_,_,am,?_⟩;(try simp);refine(N ?_).symm;rcases z with z|z
    .left;rintro⟨f1,f2,f3,f4,f5,f6,f7,f8,f9⟩;omega
    .right;exact M.1 z
   .refine CT ?_;have n1:d.nodes[i].low<2+d.nodes.length:=by omega
    have n2:d.nodes[i].high<2+d.nodes.length:=by omega
    refine xS ?_;refine xD [0,2,4,6,8,10,12,14,16,18,20,22,24,26,28,30] (by kernel_rfl) λK m=>?_;simp;refine xA 0 ?_;simp[t1];refine go (Ih d _ n1) rfl (by simp[xN]) ?_;simp;(repeat(refine Hz ?_ ?_;(·simp);simp));(repeat((refine Hz ?_ ?_);(focus(simp[t1];done));simp[t1]));refine Ag.EU (g:=!decide (d.level d.nodes[i].low<=d.nodes[i].var)) (ds:=[AB d,AF d.nodes[i].high]) rfl rfl (by simp<;>rfl) (λ_=>Ih d _ n2) (by simp[AB]) ?_;simp;refine xA 0 ?_;simp;refine xM (m _ _ ?_);(try simp only[xQ,reduceIte]);have Q:d.nodes[i]∉d.nodes.take i:=λhm=>by rw[M.2 hm]at P;cases P
    refine AR ?_;simp;refine⟨λwx=>?_,λE R=>?_⟩
    .refine xW λK m=>?_;simp;apply m;refine Af ⟨_,_,am,?_⟩;(try simp);refine(N (.inl ?_)).symm;rintro⟨f1,f2,f3,f4,f5,f6,f7,f8,f9⟩;omega
    .have wY:C9 ((d.nodes.map λb=>(b,true)).take i) ⟨d.nodes[i].var,d.nodes[i].low,d.nodes[i].high⟩ true=(d.nodes.map λb=>(b,true)).take (i+1):=aB w Q;refine xK ?_;refine xV λK m=>?_;simp[t3,wY];apply m;refine xV λK m=>?_;simp[t15];apply m;refine⟨w,_,_,ip 2 (by simp) (by simp) (by simp),?_⟩;simp[clean,t1,t3,t13,t14];refine⟨B,?_,λk b F v=>?_⟩
     .rw[pe w,rt];refine⟨A,by simp,λa ha b T G=>?_⟩;simp only[cR]at T;subst G;subst T;exact Q ha
     .by_cases ek:k=i
      .subst ek;rw[hb]at v;cases v;exact⟨c1,Y,Z,c4,c5,c6,c7,E,R⟩
      .exact L k b (by omega) v
  .have H:i=d.nodes.length:=by omega
   subst H;rw[ne]at A;have hf:∀k b,d.nodes[k]?=some b->NB d k b:=λk b F=>L k b (df.1 F).1 F;have hB:=Qn A hf;have B:IntKind.i64.wrap ((d.nodes.length:Int)+1)=d.nodes.length+1:=wrap_i64 (by omega) (by omega);refine C7 ?_;refine xS (xW λK m=>?_);simp[t1,B];apply m;refine AR ?_;simp;refine⟨λz=>?_,λE R=>?_⟩
   .refine xW λK m=>?_;simp;apply m;refine Af ⟨_,_,am,?_⟩;(try simp);exact((o False ⟨λs=>by obtain⟨_,_,h3,C⟩:=PO s;omega,False.elim⟩).2 id).symm
   .obtain⟨t,gt,U⟩:=hB.get (n:=d.root) E (by omega);refine xK ?_;refine FX λK m=>?_;refine xJ ?_;simp[t1];refine sv (AJ.NJ 2 (sz:=2) [.agg [.d (AY d.nodes),.any]] rfl (by simp)) ?_;simp;refine xF (P5 d.nodes A (by omega) true t d.root U) [2] rfl ?_;simp;refine xJ ?_;simp;refine B6 (m _ _ ?_);refine xS (FX λK m=>?_);refine xJ ?_;simp[t1];refine B9 (MM (Cq t) d) rfl (by simp[xN]) ?_;simp;refine xJ ?_;simp;refine B6 (m _ _ ?_);(try simp only[xQ,reduceIte]);refine AR ?_;simp;refine⟨λvh=>?_,λhe=>?_⟩
    .refine xW λK m=>?_;simp;apply m;refine Af ⟨_,_,am,?_⟩;(try simp);refine((o False ⟨λs=>?_,False.elim⟩).2 id).symm;obtain⟨u,gu,W⟩:=s;have:t=u:=U.uniq (by rw[W];exact GO u);subst this;exact vh W.symm
    .refine xK ?_;refine xW λK m=>?_;simp;apply m;refine Af ⟨_,_,am,?_⟩;(try simp);exact((o True ⟨λ_=>trivial,λ_=>⟨t,gt,he.symm⟩⟩).1 trivial).symm
end Go.Koi
