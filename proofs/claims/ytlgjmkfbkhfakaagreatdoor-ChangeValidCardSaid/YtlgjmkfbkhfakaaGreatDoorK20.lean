/- Part 21 of the proof that the law ChangeValid returns true for every input. -/
import Derived.Test.YtlgjmkfbkhfakaaGreatDoorK19
import Derived.WideLaws
set_option maxHeartbeats 64000000
set_option maxRecDepth 100000
namespace Go.Koi
open Go.Proofs Tryz DT
theorem ME{a:Act}{t:Nat}{v:Value}(h:t<a.tmps.size):(a.put (some t) v).eval (.tmp t)=v:=by
 simp[Act.put,Act.eval,Array.getD_eq_getD_getElem?,h]
theorem Mo{a:Act}{t:Option Nat}{v:Value}:(a.put t v).tmps.size=a.tmps.size:=by cases t<;>simp[Act.put]
theorem MY{a:Act}{t:Option Nat}{v:Value}:(a.put t v).defers=a.defers:=by cases t<;>rfl
theorem Vp:Uh prog 108:=by
 refine⟨by kernel_rfl,fun cap w=>?_⟩;refine callsD_of_wpS func108 rfl fun c₀ cs hm=>?_;rw[ntmps108];have tV:recoverD (c₀::cs)=none:=by simp[recoverD,hm]
 refine wpS_seq (wpS_region ?_);rw[show List.range _=[0,1]from rfl];have hb:∀ats ty cs args,builtin .recover ats ty cs args=pure .recover:=fun _ _ _ _=>rfl;simp[wpOpsS,Region.wanted,execOp,resolve,tV,Exit.thenS,Oper.upon,invoke,hb];generalize ha:({tmps:=cap++Array.replicate (17 - cap.size) undef,defers:=[]}:Act)=a;have gp:17≤a.tmps.size:=by rw[←ha];simp;omega
 have sA:a.defers=[]:=by rw[←ha]
 rw[ME (by omega)];generalize jP:(a.put (some 4) Value.nilIface).put (some 1) Value.nilIface=a1;have wQ:17≤a1.tmps.size:=by rw[←jP,Mo,Mo];exact gp
 have tW:a1.defers=[]:=by rw[←jP,MY,MY,sA]
 have h1:a1.eval (.tmp 1)=.nilIface:=by rw[←jP,ME (by rw[Mo];omega)]
 refine wpS_seq (wpS_region ?_);rw[show List.range _=[0,1]from rfl];have dI:=run_neq_nil_nil (P:=prog) (w:=w) 20 (by kernel_rfl);have h5:(a1.put (some 5) Value.nilIface).eval (.tmp 5)=.nilIface:=ME (by omega);have hc:∀v,(a1.put (some 5) Value.nilIface).eval (.const v)=v:=fun v=>rfl;simp[wpOpsS,Region.wanted,execOp,Exit.thenS,Oper.upon,h1,h5,hc,dI,eqGuard];refine wpS_cond (t:=false) (ME (by rw[Mo];omega)) ?_;simp;refine wpS_of_wp (wp_skip ?_);refine⟨by rw[MY,MY,tW],.returning,?_,_,Ec (vs:=[]) rfl,⟨_,rfl⟩,rfl,rfl⟩;rw[←hm]
def cg:Token:=⟨.empty,0,.empty,[],.empty,⟨[],0⟩⟩
structure bj(g:AF):Prop where
 dG:g.conds.length≤12
 fam:Valid g.fam∧D9 g.conds.length (tr g.fam)
 tok:∀t∈g.Ak,Valid t.cond∧D9 g.conds.length (tr t.cond)
 prod:∀p∈g.AD,Valid p.cond∧D9 g.conds.length (tr p.cond)
 sym:∀p∈g.AD,∀s∈p.right,s.token=true→0≤s.index∧s.index<g.Ak.length
 fp:g.AD.length≤65536
 fits:Fits g
noncomputable def H5(g:AF)(t:DT)(s:Symbol):DT:=if s.token then HT t (tr (g.Ak.getD s.index.toNat cg).cond)else t
noncomputable def pT(g:AF)(p:AT)(l:List Symbol):DT:=l.foldl (H5 g) (HT (tr g.fam) (tr p.cond))
noncomputable def Rl(g:AF):List DT:=g.AD.map fun p=>pT g p p.right
theorem NM{n:Nat}(hn:n≤12){a b:AN}{s t:DT}(ha:B2 s=a)(hb:B2 t=b)(hs:D9 n s)(ht:D9 n t):Du and a b=(B2 (HT s t),0)∧D9 n (HT s t):=by
 obtain⟨h1,_,h3⟩:=EP Fe hn hs ht;exact⟨by rw[←ha,←hb];exact h3,h1⟩
theorem V1{g:AF}(h:bj g){p:AT}(hp:p∈g.AD){t:DT}(ht:D9 g.conds.length t){s:Symbol}(hs:s∈p.right):D9 g.conds.length (H5 g t s):=by
 unfold H5;split
 ·next hk=>
  obtain⟨h0,h1⟩:=h.sym p hp s hs hk;have cx:s.index.toNat<g.Ak.length:=by omega
  have e:g.Ak.getD s.index.toNat cg=g.Ak[s.index.toNat]:=by simp[List.getD,cx]
  rw[e];exact(EP Fe h.dG ht (h.tok _ (List.getElem_mem cx)).2).1
 ·exact ht
theorem ZD{g:AF}(h:bj g){p:AT}(hp:p∈g.AD):∀l:List Symbol,(∀s∈l,s∈p.right)→D9 g.conds.length (pT g p l):=by
 intro l;have key:∀(l:List Symbol) (t:DT),D9 g.conds.length t→(∀s∈l,s∈p.right)→D9 g.conds.length (l.foldl (H5 g) t):=by
  intro l;induction l with
  |nil=>intro t ht _;exact ht
  |cons s l ih=>intro t ht hl;exact ih _ (V1 h hp ht (hl s (by simp))) fun x hx=>hl x (by simp[hx])
 exact key l _ (EP Fe h.dG h.fam.2 (h.prod p hp).2).1
theorem Yb(g:AF)(p:AT){l:List Symbol}{i:Nat}(hi:i<l.length):pT g p (l.take (i+1))=H5 g (pT g p (l.take i)) l[i]:=by
 unfold pT;rw[List.take_succ_eq_append_getElem hi,List.foldl_append];rfl
theorem ZZ{g:AF}(h:bj g):∀t∈Rl g,D9 g.conds.length t:=fun t ht=>by
 obtain⟨p,hp,rfl⟩:=List.mem_map.1 ht;exact ZD h hp _ fun _ hs=>hs
noncomputable def XZ(g:AF)(i:Nat):List DT:=(Rl g).take i
@[simp] theorem dv(g:AF):XZ g 0=[]:=rfl
theorem Vg(g:AF){i:Nat}(hi:i<g.AD.length):XZ g (i+1)=XZ g i++[pT g g.AD[i] g.AD[i].right]:=by
 have h:i<(Rl g).length:=by simpa[Rl]using hi
 unfold XZ;rw[List.take_succ_eq_append_getElem h];simp[Rl]
theorem Qs{g:AF}{i:Nat}(hi:i≤g.AD.length):(XZ g i).length=i:=by simp[XZ,Rl];omega
theorem Xo(g:AF):XZ g g.AD.length=Rl g:=by unfold XZ;exact List.take_of_length_le (by simp[Rl])
def ACv(g:AF):Prop:=ADs g.conds.length g (Rl g)
def gO(g:AF)(e:Int)(ch:Bool)(v:V)(S':Sg):Prop:=v=.d (AG e)∧∃c':Bool,(c'=true↔ch=true∨(e=0∧ACv g))∧S'=[.row true 1 [.d (.bool c')]]
noncomputable def W9(g:AF)(ch:Bool)(i:Nat):Sg:=
 [.row true 1 [.d (.bool ch)],.row true 9 [.d (AB g)],.row true 1 [.d (.int .i64 0)],.row (i !=0) 2 ((XZ g i).map fun t=>.d (AA (B2 t))),.row true 10 [.agg ((AAL (AB g)).map V.d++[.row 3 i])]]
theorem Pd(g:AF)(e:Int)(rJ:Pure prog 107 [AB g] (AG e))(ig:e=0→bj g)(ch:Bool):
  At prog 30 [.d (AB g),.fn (.func 31) [] [.ptr 0 1 0 0]] [.row true 1 [.d (.bool ch)]] (gO g e ch):=by
 refine At.X8 func30 (by kernel_rfl) rfl (by simp) Vp fun wf wfs=>?_;rw[ntmps30];refine xV fun K hK=>?_;simp;apply hK;refine Az fun K hK=>?_;refine xJ ?_;simp;refine Bp (rJ) rfl (by simp[xN]) ?_;simp;refine xJ ?_;simp;refine Aj (hK _ _ ?_);refine xW fun K hK=>?_;simp;apply hK;refine AU ?_;simp;refine⟨fun dI=>?_,fun he=>?_⟩
 ·refine xW fun K hK=>?_;simp;apply hK;refine Ag ?_;(try simp only[xQ,reduceIte]);refine⟨_,_,AJ.refl,?_,_,_,⟨rfl,ch,by simp[show e≠0 from by simpa using dI],rfl⟩,.inl ⟨.int .i64 e,_,?_,rfl,AJ.AY 1 (by simp) (by simp) (by simp) (by simp)⟩⟩
  ·simp
  ·simp
 ·have hG:=ig he;refine CC ?_;refine⟨_,⟨_,_,17,[.ptr 2 1 0 0],_,rfl,rfl,rfl,by simp,by simp,by simp,rfl,by simp,rfl,rfl,rfl⟩,?_⟩;refine Az fun K hK=>?_;refine xO ?_;simp;refine xO ?_;simp;refine AS.ghost (AJ.Tb 19 9 2 (xs:=[]) rfl rfl) ?_;simp;refine xJ ?_;simp;refine Aj (hK _ _ ?_);refine xS (xW fun K hK=>?_);simp;apply hK;refine Bw ?_;refine DC g.AD.length (fun i tm S=>tm 1=.fn (.func 31) [] [.ptr 0 1 0 0]∧tm 2=.ptr 1 1 0 0∧tm 4=.ptr 2 1 0 0∧tm 6=.ptr 4 1 0 0∧tm 22=.d (Bb g.AD)∧tm 23=.d (.int .i64 g.AD.length)∧tm 24=.d (.int .i64 i)∧S=W9 g ch i) (i0:=0) (Nat.zero_le _) (by simp[W9]) ?_;rintro i tm S hi ⟨t1,t2,t4,t6,t22,t23,t24,rfl⟩;unfold W9;refine xW fun K hK=>?_;simp[t23,t24];apply hK;refine xC ?_;simp;refine⟨fun cx=>?_,fun hO=>?_⟩
  ·have sM:=List.getElem_mem cx;have sN:=(hG.prod _ sM);obtain⟨jW,iG⟩:=NM hG.dG (Fl hG.fam.1) (Fl sN.1) hG.fam.2 sN.2;have tX:=Vg g cx;have tY:=ZD hG sM;have tZ:=hG.sym _ sM;have ob:g.AD[i].right.length≤maxLen:=Nat.le_trans (OJ hG.fits sM) (by decide);generalize hp:g.AD[i]=p at *;refine xK ?_;refine xB ?_;refine xW fun K hK=>?_;simp[t22,t24,cx,hp];apply hK;refine Az fun K hK=>?_;refine xJ ?_;simp[t2];refine Bp (I2 g.fam p.cond) rfl (by simp[xN]) ?_;simp[jW];refine xJ ?_;simp;refine Bp (E4 (B2 (HT (tr g.fam) (tr p.cond)))) rfl (by simp[xN]) ?_;simp;refine xJ ?_;simp;refine Aj (hK _ _ ?_);refine xS (xW fun K hK=>?_);simp;apply hK;refine Bw ?_;refine DC p.right.length (fun j tm' S=>tm' 1=.fn (.func 31) [] [.ptr 0 1 0 0]∧tm' 2=.ptr 1 1 0 0∧tm' 4=.ptr 2 1 0 0∧tm' 6=.ptr 4 1 0 0∧tm' 22=.d (Bb g.AD)∧tm' 23=.d (.int .i64 g.AD.length)∧tm' 24=.d (.int .i64 i)∧tm' 8=.ptr 5 1 0 0∧tm' 9=.ptr 6 1 0 0∧tm' 37=.d (As p.right)∧tm' 38=.d (.int .i64 p.right.length)∧tm' 39=.d (.int .i64 j)∧S=W9 g ch i++[.row true 13 [.d (AH p)],.row true 2 [.d (AA (B2 (pT g p (p.right.take j))))]]) (i0:=0) (Nat.zero_le _) (by simp[W9,t1,t2,t4,t6,t22,t23,t24,AH,pT]) ?_;rintro j tm' S hj ⟨s1,s2,s4,s6,s22,s23,s24,s8,s9,s37,s38,s39,rfl⟩;unfold W9;refine xW fun K hK=>?_;simp[s38,s39];apply hK;refine xC ?_;simp;refine⟨fun ik=>?_,fun pY=>?_⟩
   ·have g9:=Yb g p ik;have hPok:=tY (p.right.take j) (fun s hs=>List.mem_of_mem_take hs);have kK:=tZ _ (List.getElem_mem ik);rw[g9];generalize hP:pT g p (p.right.take j)=A at *;generalize hy:p.right[j]=y at *;refine xK ?_;refine xB ?_;refine xW fun K hK=>?_;simp[s37,s39,ik,hy];apply hK;refine xW fun K hK=>?_;simp;apply hK;refine AU ?_;simp;refine⟨fun ht=>?_,fun ht=>?_⟩
    ·obtain⟨y0,y1⟩:=kK ht;obtain⟨k,hk⟩:∃k:Nat,y.index=k:=⟨y.index.toNat,by omega⟩;have iX:k<g.Ak.length:=by omega
     have sO:=hG.tok _ (List.getElem_mem iX);obtain⟨nO,qJ⟩:=NM hG.dG (rfl:B2 A=B2 A) (Fl sO.1) hPok sO.2;have gn:H5 g A y=HT A (tr g.Ak[k].cond):=by
      unfold H5;rw[if_pos ht,hk];simp[List.getD,iX]
     rw[gn];generalize hB:HT A (tr g.Ak[k].cond)=B at *;refine xE [0,2,4,6,8,10,12,14,16,18,20,22,25] (by kernel_rfl) fun K hK=>?_;simp;refine xA 1 ?_;simp[s9,s2,hk,iX];refine Bj (I2 (B2 A) g.Ak[k].cond) rfl (by simp[xN]) ?_;simp[nO];refine xA 1 ?_;simp;refine Bj (E4 (B2 B)) rfl (by simp[xN]) ?_;simp;refine xX 4095 (by kernel_rfl) ?_;simp[s9];refine xM (hK _ _ ?_);refine xV fun K hK=>?_;simp[s39];apply hK;refine⟨ik,_,_,AJ.drop 7 (by simp) (by simp) (by simp),?_⟩;simp[clean,s1,s2,s4,s6,s22,s23,s24,s8,s9,s37,s38,AQ ik ob]
    ·refine CC ?_;refine xV fun K hK=>?_;simp[s39];apply hK;have gn:H5 g A y=A:=by unfold H5;rw[if_neg];simpa using ht
     rw[gn];refine⟨ik,_,_,AJ.drop 7 (by simp) (by simp) (by simp),?_⟩;simp[clean,s1,s2,s4,s6,s22,s23,s24,s8,s9,s37,s38,AQ ik ob]
   ·have iV:j=p.right.length:=by omega
    subst iV;rw[List.take_length];generalize hA:pT g p p.right=A at *;have wR:i<65536:=Nat.lt_of_lt_of_le cx hG.fp;have iY:=Qs (g:=g) (i:=i) (by omega);refine Cu ?_;refine xE [0,2,4,6,8,10,12,15,16,18,21] (by kernel_rfl) fun K hK=>?_;simp;have ua:i+1≤1073741824:=by omega
    refine xA 1 ?_;simp[s6,s9,maxLen];refine xX 5 (by kernel_rfl) ?_;simp[AR,s6,s9,iY,ua,maxLen];refine xA 1 ?_;simp;refine xX 125 (by kernel_rfl) ?_;simp[AR,s6];refine xM (hK _ _ ?_);refine xV fun K hK=>?_;simp[s24];apply hK;refine⟨cx,_,_,AJ.drop 5 (by simp) (by simp) (by simp),?_⟩;simp[clean,s1,s2,s4,s6,s22,s23,AQ cx (Nat.le_trans hG.fp (by decide)),tX]
  ·have iD:i=g.AD.length:=by omega
   subst iD;have iY:=Qs (g:=g) (i:=g.AD.length) (Nat.le_refl _);rw[Xo]at iY⊢;have kZ:=ZZ hG;refine Cu ?_;refine AW.ghost (AJ.B6 3 (xs:=(Rl g).map fun t=>AA (B2 t)) rfl (Bz _ _ _)) ?_;refine AW.ghost (AJ.I4 4 [.d (C6 g (Rl g))] rfl ?_) ?_
   ·simp[C6,iY]
   simp;refine AW.ghost (AJ.Cy [0,1,2,4] (S0:=[.row true 1 [.d (.bool ch)],.row true 9 [.d (AB g)],.row true 1 [.d (.int .i64 0)],Em g (Rl g)]) ?_ ?_ ?_) ?_
   ·simp[Em]
   ·simp
   ·rfl
   generalize p9:pick _ _=tmq;have u1:tmq 1=.fn (.func 31) [] [.ptr 0 1 0 0]:=by rw[←p9];simp[pick,t1];try decide
   have u4:tmq 4=.ptr 2 1 0 0:=by rw[←p9];simp[pick,t4];try decide
   have u6:tmq 6=.ptr 3 1 0 0:=by rw[←p9];simp[pick,t6];try decide
   unfold Em;refine Az fun K hK=>?_;refine xJ ?_;simp[u1,u6];refine AS.Cf (P1 hG.dG g (Rl g) (by simp[Rl]) kZ hG.fam.2 hG.fam.1 hG.fits ch) [3,0] rfl ?_ ?_ ?_
   ·simp[Em]
   ·rintro v S0' ⟨rfl,c',_,rfl⟩;simp
   rintro v S0' ⟨rfl,c',nN,rfl⟩;simp[Em];refine Aj (hK _ _ ?_);refine xW fun K hK=>?_;simp[u4];apply hK;refine Ag ?_;(try simp only[xQ,reduceIte]);subst he;refine⟨_,_,AJ.refl,?_,_,_,⟨rfl,c',by simpa[ACv]using nN,rfl⟩,.inl ⟨.int .i64 0,_,?_,rfl,AJ.AY 1 (by simp) (by simp) (by simp) (by simp)⟩⟩
   ·simp[u4]
   ·simp[u4]
open Classical in
noncomputable def fcE(g:AF)(e:Int):Int:=if e≠0 then e else if ACv g then 60 else 0
def fW(g:AF)(e:Int)(v:V)(S':Sg):Prop:=S'=[]∧v=.d (AG (fcE g e))
theorem SP(g:AF)(e:Int)(rJ:Pure prog 107 [AB g] (AG e))(ig:e=0→bj g):At prog 8 [.d (AB g)] [] (fW g e):=by
 refine At.AI func8 (by kernel_rfl) rfl (by simp) fun wf wfs=>?_;rw[ntmps8];refine xW fun K hK=>?_;simp;apply hK;refine xW fun K hK=>?_;simp;apply hK;(repeat refine xS ?_);refine BX fun K hK=>?_;refine xJ ?_;simp;refine AS.Cf (Pd g e rJ ig false) [1] rfl ?_ ?_ ?_
 ·simp
 ·rintro v S0' ⟨rfl,c',_,rfl⟩;simp
 rintro v S0' ⟨rfl,c',nN,rfl⟩;simp;refine xJ ?_;simp;refine Aj (hK _ _ ?_);(try simp only[xQ,reduceIte]);cases c' with
 |true=>
  obtain⟨he,tT⟩:e=0∧ACv g:=by simpa using nN
  subst he;have m6:fcE g 0=60:=by simp[fcE,tT]
  refine xS (xW fun K hK=>?_);simp;apply hK;refine AU ?_;simp;refine xW fun K hK=>?_;simp;apply hK;refine Ag ?_;(try simp only[xQ,reduceIte]);refine⟨_,_,AJ.refl,by simp,_,_,⟨rfl,congrArg (fun x=>V.d (AG x)) m6.symm⟩,.inl ⟨.int .i64 60,_,by simp,rfl,AJ.AY 0 rfl (by simp) (by simp) (by simp)⟩⟩
 |false=>
  have m6:fcE g e=e:=by
   have:¬(e=0∧ACv g):=by simpa using nN
   unfold fcE;by_cases h:e=0
   ·rw[if_neg (by simp[h]),if_neg (fun hc=>this ⟨h,hc⟩),h]
   ·rw[if_pos h]
  refine xS (xW fun K hK=>?_);simp;apply hK;refine AU ?_;simp;refine xK ?_;refine xW fun K hK=>?_;simp;apply hK;refine Ag ?_;(try simp only[xQ,reduceIte]);refine⟨_,_,AJ.refl,by simp,_,_,⟨rfl,congrArg (fun x=>V.d (AG x)) m6.symm⟩,.inl ⟨.int .i64 e,_,by simp,rfl,AJ.AY 0 rfl (by simp) (by simp) (by simp)⟩⟩
open Go.Proofs DT
def ABy(g:AF)(N:Int→Bool)(r:Int→Nat):Prop:=
 (∀p∈g.AD,EC p.right=false→(∀s∈p.right,N s.index=true)→N p.left=true)∧∀p∈g.AD,∀j (hj:j<p.right.length),p.right[j].token=false→EC (DQ p.right j)=false→(∀s∈DQ p.right j,N s.index=true)→r p.left<r p.right[j].index
def ACH(N:Int→Bool)(m:List (Int×DT)):Prop:=∀x,EN m x≠.leaf false→N x=true
theorem AB9{N:Int→Bool}{m:List (Int×DT)}(hN:ACH N m):∀(l:List Symbol) {t:DT},Fp m t l≠.leaf false→∀s∈l,s.token=false→N s.index=true
 |[],_,_=>fun s hs=>by simp at hs
 |a::l,t,h=>by
  have e:Fp m t (a::l)=Fp m (stepT m t a) l:=rfl;rw[e]at h;intro s hs ht;rcases List.mem_cons.1 hs with rfl|hs
  ·refine Classical.byContradiction fun hn=>h ?_;have h0:EN m s.index=.leaf false:=Classical.byContradiction fun dI=>hn (hN _ dI);have:stepT m t s=.leaf false:=by
    unfold stepT;split
    ·rw[h0];exact aE t
    ·next h2=>simp only[ht,true_and,ne_eq,Decidable.not_not]at h2;exact h2
   rw[this];exact WT m l
  ·exact AB9 hN l h s hs ht
theorem ACB{l:List Symbol}(h:EC l=false):∀s∈l,s.token=false:=fun s hs=>by
 have:=List.any_eq_false.1 h s hs;simpa using this
theorem ADA{g:AF}{N:Int→Bool}{r:Int→Nat}(hA:ABy g N r){s:List (Int×DT)×Bool}(hs:ACH N s.1){p:AT×DT}(hp:p.1∈g.AD):ACH N (EM true s p).1:=by
 unfold EM;split
 ·exact hs
 ·next hn=>
  have iz:EC p.1.right=false:=by simpa using hn
  unfold Gw;split
  ·exact hs
  ·next hd=>
   split
   ·exact hs
   ·intro x hx;simp only[Qx]at hx;split at hx
    ·next e=>
     subst e;exact hA.1 _ hp iz fun s' hs'=>AB9 hs _ hd s' hs' (ACB iz s' hs')
    ·exact hs x hx
theorem ACE{g:AF}{N:Int→Bool}{r:Int→Nat}(hA:ABy g N r):∀(l:List (AT×DT)) {s:List (Int×DT)×Bool},(∀p∈l,p.1∈g.AD)→ACH N s.1→ACH N (Cm true l s).1
 |[],_,_,h=>h
 |p::l,s,hl,h=>ACE hA l (s:=EM true s p) (fun q hq=>hl q (by simp[hq])) (ADA hA h (hl p (by simp)))
theorem ACd{g:AF}{N:Int→Bool}{r:Int→Nat}(hA:ABy g N r){l:List (AT×DT)}(hl:∀p∈l,p.1∈g.AD):∀(f:Nat) {m:List (Int×DT)},ACH N m→ACH N (ACZ true l f m)
 |0,_,h=>h
 |f+1,m,h=>by
  have h1:=ACE hA l (s:=(m,false)) hl h;unfold ACZ;split
  ·exact ACd hA hl f h1
  ·exact h1
theorem AEA{g:AF}{N:Int→Bool}{r:Int→Nat}(hA:ABy g N r)(n:Nat)(ps:List DT):ACH N (fM n true g ps):=
 ACd hA (fun _ hp=>(List.of_mem_zip hp).1) _ fun x hx=>absurd (ACN x) hx
theorem ABj.lt{g:AF}{N:Int→Bool}{r:Int→Nat}(hA:ABy g N r){n:Nat}{ps:List DT}{i j:Nat}{c:Int→Bool}{a b:Int}(h:ABj g ps (fM n true g ps) i j c a b):r a<r b:=by
 obtain⟨i',j',_,h1,h2,rfl,h4,rfl,h6⟩:=h;unfold Zs at h6;split at h6
 ·simp[DT.sem]at h6
 ·next hn=>
  have iz:=by simpa using hn
  exact hA.2 _ (List.getElem_mem h1) j' h2 h4 iz fun s hs=>AB9 (AEA hA n ps) _ (fun e=>by rw[e]at h6;simp[DT.sem]at h6) s hs (ACB iz s hs)
theorem ABy.none{g:AF}{N:Int→Bool}{r:Int→Nat}(hA:ABy g N r):¬ACv g:=by
 rintro⟨j,_,c,_,hr⟩;have:∀y,Rch (ABj g (Rl g) (fM g.conds.length true g (Rl g)) g.AD.length 0 c) (j:Int) y→r j<r y:=fun y hy=>by
  induction hy with
  |one h=>exact ABj.lt hA h
  |more _ _ h ih=>exact Nat.lt_trans ih (ABj.lt hA h)
 exact absurd (this _ hr) (Nat.lt_irrefl _)
theorem EB.AFT{g:AF}(h:EB g):ABy g (fun _=>false) (fun _=>0):=by
 refine⟨fun p hp _ hs=>?_,fun p hp j hj ht _ hs=>?_⟩
 ·cases hr:p.right with
  |nil=>exact absurd hr (h p hp).1
  |cons s l=>exact absurd (hs s (by simp[hr])) (by simp)
 ·have hlen:(DQ p.right j).length=p.right.length - 1:=by simp[DQ];omega
  cases hr:DQ p.right j with
  |nil=>
   rw[hr]at hlen;simp at hlen;have e1:p.right.length=1:=by omega
   obtain⟨s,kJ⟩:=List.length_eq_one_iff.1 e1;have gn:=(h p hp).2 s kJ;have mV:j=0:=by omega
   subst mV;have e:p.right[0]=s:=by simp[kJ]
   rw[e,gn]at ht;cases ht
  |cons s l=>exact absurd (hs s (by rw[hr];simp)) (by simp)
open Go.Proofs Tryz DT
@[simp] theorem eD(a:Array UInt8):ByteArray.size ⟨a⟩=a.size:=rfl
theorem Hb(s:ByteArray):s=⟨#[]⟩↔s.size=0:=by
 obtain⟨a⟩:=s;simp
def Lp(p:AT):Bool:=decide (16<p.right.length)||decide (16<p.layout.length)
theorem Q5(p:AT):Pure prog 181 [AH p] (.bool (Lp p)):=by
 refine Pure.AI func181 (by kernel_rfl) rfl (by simp) fun wf=>?_;rw[ntmps181];refine xW fun K hK=>?_;simp;apply hK;refine xW fun K hK=>?_;simp[AH];apply hK;refine Ag ⟨_,_,AJ.refl,?_⟩;(try simp);simp[Lp];rw[Bool.eq_iff_iff];simp;split<;>omega
def Dg(g:AF):Bool:=decide (64<g.conds.length)||decide (256<g.Ak.length)||decide (4096<g.AM.length)||decide (2000<g.BC.length)||decide (2000<g.AD.length)||decide (2000<g.levels.length)||g.AD.any Lp
theorem Um(g:AF):Pure prog 153 [AB g] (.bool (Dg g)):=by
 refine Pure.AI func153 (by kernel_rfl) rfl (by simp) fun wf=>?_;rw[ntmps153];refine xW fun K hK=>?_;simp;apply hK;refine xS (xW fun K hK=>?_);simp[AB];apply hK;refine AU ?_;simp;refine⟨fun h=>?_,fun h=>?_⟩
 ·refine xW fun K hK=>?_;simp;apply hK;refine Ag ⟨_,_,AJ.refl,?_⟩;(try simp);have:Dg g=true:=by unfold Dg;simp only[Bool.or_eq_true,decide_eq_true_eq];left;omega
  simp[this]
 ·intro h' h'';refine xK ?_;refine xS (xW fun K hK=>?_);simp;apply hK;refine AU ?_;simp;refine⟨fun h2=>?_,fun h2=>?_⟩
  ·refine xW fun K hK=>?_;simp;apply hK;refine Ag ⟨_,_,AJ.refl,?_⟩;(try simp);have:Dg g=true:=by unfold Dg;simp only[Bool.or_eq_true,decide_eq_true_eq];left;split at h2<;>split at h2<;>omega
   simp[this]
  ·refine xK ?_;(repeat refine xS ?_);refine BX fun K hK=>?_;refine xJ ?_;simp;refine AS.Oa (Ie g.AD Lp 181 [] [] fun x _=>(Q5 x).call (by simp[asD,AAn])) rfl (by simp;try rfl) ?_;simp;refine xJ ?_;simp;refine Aj (hK _ _ ?_);(try simp only[xQ,reduceIte]);refine Ag ⟨_,_,AJ.refl,?_⟩;(try simp);have h3:¬(64<g.conds.length)∧¬(256<g.Ak.length)∧¬(4096<g.AM.length)∧¬(2000<g.BC.length)∧¬(2000<g.AD.length)∧¬(2000<g.levels.length):=by
    split at h2<;>split at h2<;>omega
   obtain⟨q1,q2,q3,q4,q5,q6⟩:=h3;simp[Dg,q1,q2,q3,q4,q5,q6]
def NW(c:Nat):Bool:=decide (97≤c∧c≤122)||decide (65≤c∧c≤90)||decide (c=95)
def Ms(s:ByteArray)(i:Nat):Bool:=NW (s.get! i).toNat||(decide (i≠0)&&decide (48≤(s.get! i).toNat∧(s.get! i).toNat≤57))
def isIdent(s:ByteArray):Bool:=decide (s.size≠0)&&(List.range s.size).all (Ms s)
theorem LK{s:ByteArray}{i:Nat}(hi:i<s.size)(h:Ms s i=false):isIdent s=false:=by
 unfold isIdent;rw[Bool.and_eq_false_iff];right;rw[List.all_eq_false];exact⟨i,by simpa using hi,by simp[h]⟩
theorem Oh{s:ByteArray}(h:∀i,i<s.size→Ms s i=true):isIdent s=decide (s.size≠0):=by
 unfold isIdent;have:(List.range s.size).all (Ms s)=true:=by rw[List.all_eq_true];intro i hi;exact h i (by simpa using hi)
 rw[this,Bool.and_true]
theorem Ef(s:ByteArray):Pure prog 183 [.str s] (.bool (isIdent s)):=by
 refine Pure.AI func183 (by kernel_rfl) rfl (by simp) fun wf=>?_;have a1:s.size≤maxLen:=by simpa[AAY,WFD]using wf
 rw[ntmps183];refine xW fun K hK=>?_;simp;apply hK;refine xS (xW fun K hK=>?_);simp;apply hK;refine Bw ?_;refine DC s.size (fun i tm S=>tm 0=.d (.str s)∧tm 7=.d (.int .i64 s.size)∧tm 8=.d (.int .i64 i)∧(∀k,k<i→Ms s k=true)∧S=[]) (i0:=0) (Nat.zero_le _) (by simp) ?_;rintro i tm S hi ⟨t0,t7,t8,gg,rfl⟩;refine xW fun K hK=>?_;simp[t7,t8];apply hK;refine xC ?_;simp;refine⟨fun cx=>?_,fun hO=>?_⟩
 ·have h0:(0:Int)≤(i:Int):=by omega
  refine xK ?_;refine xB ?_;refine xW fun K hK=>?_;simp[t8];apply hK;(repeat refine xS ?_);refine xV fun K hK=>?_;simp[t0,cx];refine hK _ _ ?_;(try simp only[xQ,reduceIte]);generalize hc:(s.get! i).toNat=c;(repeat refine xS ?_);refine BX fun K hK=>?_;(repeat((refine B7 ?_ ?_);(focus(simp;try(first|omega|(simp +contextual;done)|grind);done));simp));refine Aj (hK _ _ ?_);(try simp only[xQ,reduceIte]);(repeat refine xS ?_);refine BX fun K hK=>?_;(repeat((refine B7 ?_ ?_);(focus(simp;try(first|omega|(simp +contextual;done)|grind);done));simp));refine Aj (hK _ _ ?_);(try simp only[xQ,reduceIte]);(repeat refine xS ?_);refine AW.BD (t:=!Ms s i) ?_ (fun hb=>?_) (fun hb=>?_)
  ·simp;rw[Bool.eq_iff_iff];simp[Ms,NW,hc];omega
  ·have iC:Ms s i=false:=by simpa using hb
   refine xW fun K hK=>?_;simp;apply hK;refine Ag ⟨_,_,AJ.refl,?_⟩;(try simp);rw[LK cx iC]
  ·have iC:Ms s i=true:=by simpa using hb
   refine CC ?_;refine xV fun K hK=>?_;simp[t8];apply hK;refine⟨cx,_,_,AJ.refl,?_⟩;simp[t0,t7,AQ cx a1];intro k hk;by_cases e:k=i
   ·subst e;exact iC
   ·exact gg k (by omega)
 ·refine Cu ?_;refine xW fun K hK=>?_;simp[t0];apply hK;refine Ag ⟨_,_,AJ.refl,?_⟩;(try simp);rw[Oh fun k hk=>gg k (by omega)];rw[Bool.eq_iff_iff];simp[Hb]
def Dn(L:List ByteArray):O:=.map (BO D.str (fun x=>.d (.bool x)) (L.map fun s=>(s,true)))
theorem QA(a b:ByteArray):deq (.str a) (.str b)=decide (a=b):=by rw[Bool.eq_iff_iff];simp[deq]
section
variable {β:Type} {ev:β→V}
@[simp] theorem bX(l:List (ByteArray×β))(k:ByteArray):A4 (BO D.str ev l) (.str k)=(look l k).map ev:=D1 QA l k
@[simp] theorem bQ(l:List (ByteArray×Bool))(k:ByteArray)(x:Bool):DU (BO D.str (fun x=>.d (.bool x)) l) (.str k) (.d (.bool x))=BO D.str (fun x=>.d (.bool x)) (CU l k x):=C9 (ev:=fun x=>V.d (.bool x)) QA l k x
@[simp] theorem XK(l:List (ByteArray×β)):AAR (.one .str) (BO D.str ev l)=True:=eq_true (Dx (by intro a;simp[AAV,AAX]) l)
end
def FV(L:List ByteArray)(s:ByteArray):Bool:=L.any fun x=>decide (x=s)
@[simp] theorem cn{α β:Type}(ρ:Nat→Nat)(ek:α→D)(g:β→D)(l:List (α×β)):(BO ek (fun x=>V.d (g x)) l).map (fun p=>(p.1,AAO ρ p.2))=BO ek (fun x=>V.d (g x)) l:=by
 unfold BO;rw[List.map_map];rfl
def K8(l:List ByteArray)(i:Nat):List ByteArray:=⟨#[]⟩::l.take i
theorem Iq(l:List ByteArray):K8 l 0=[⟨#[]⟩]:=rfl
theorem H7{l:List ByteArray}{i:Nat}(hi:i<l.length):K8 l (i+1)=K8 l i++[l[i]]:=by
 unfold K8;rw[List.take_succ_eq_append_getElem hi];rfl
def QW(L:List ByteArray):Sg:=[Dn L,.row true 1 [.map 0]]
theorem H8:AE prog 182 [] [] (.fn (.func 211) [] [.ptr 1 1 0 0]) (QW [⟨#[]⟩]):=by
 refine AE.AI func182 (by kernel_rfl) rfl (by simp) fun wf _=>?_;rw[ntmps182];refine xW fun K hK=>?_;simp;apply hK;refine xW fun K hK=>?_;simp;apply hK;refine xW fun K hK=>?_;simp;apply hK;refine Ag ?_;(try simp only[xQ,reduceIte]);refine⟨_,AJ.JK (S':=QW [⟨#[]⟩]) rfl,?_⟩;simp[Am]
theorem ADe(L:List ByteArray)(s:ByteArray):(look (L.map fun s=>(s,true)) s)=if FV L s then some true else none:=by
 induction L with
 |nil=>rfl
 |cons x L ih=>
  rw[List.map_cons,CQ,ih];by_cases h:x=s
  ·simp[FV,h]
  ·have h':decide (x=s)=false:=decide_eq_false h;unfold FV;rw[List.any_cons,h',Bool.false_or];simp only[h,if_false]
theorem HN(L:List ByteArray)(s:ByteArray):AE prog 211 [.d (.str s),.ptr 1 1 0 0] (QW L) (.d (.bool (!FV L s))) (QW (if FV L s then L else L++[s])):=by
 have kq:=ADe L s;refine AE.AI func211 (by kernel_rfl) rfl (by simp) fun wf _=>?_;rw[ntmps211];unfold QW Dn;cases hs:FV L s with
 |true=>
  rw[hs]at kq;simp only[if_true]at kq;refine xW fun K hK=>?_;simp;apply hK;refine xS (xW fun K hK=>?_);simp[kq];apply hK;refine AU ?_;simp;refine xW fun K hK=>?_;simp;apply hK;refine Ag ?_;(try simp only[xQ,reduceIte]);refine⟨_,AJ.refl,?_⟩;simp[Am]
 |false=>
  rw[hs]at kq;have iT:CU (L.map fun s=>(s,true)) s true=(L++[s]).map fun s=>(s,true):=by rw[IT _ (by simpa using kq)];simp
  refine xW fun K hK=>?_;simp;apply hK;refine xS (xW fun K hK=>?_);simp[kq];apply hK;refine AU ?_;simp;refine xK ?_;refine xW fun K hK=>?_;simp[iT];apply hK;refine xW fun K hK=>?_;simp;apply hK;refine Ag ?_;(try simp only[xQ,reduceIte]);refine⟨_,AJ.refl,?_⟩;simp[Am]
theorem UG(x:Ah)(n:Int):AE prog 213 [.d (AX x),.ptr 0 1 0 0] [.row true 1 [.d (.int .i64 n)]] (.d (.bool (decide (n≤x.var)))) [.row true 1 [.d (.int .i64 n)]]:=by
 refine AE.AI func213 (by kernel_rfl) rfl (by simp) fun wf _=>?_;rw[ntmps213];refine xW fun K hK=>?_;simp;apply hK;refine xW fun K hK=>?_;simp[AX];apply hK;refine Ag ?_;(try simp only[xQ,reduceIte]);refine⟨_,AJ.AY 1 (by simp) (by simp) (by simp) (by simp),?_⟩;simp[Am,clean]
noncomputable def DS(d:AN)(n:Int):Bool:=decide (HW d=0)&&!d.nodes.any fun x=>decide (n≤x.var)
theorem IJ(d:AN)(n:Int):Pure prog 184 [AA d,AG n] (.bool (DS d n)):=by
 refine Pure.AI func184 (by kernel_rfl) rfl (by simp) fun wf=>?_;rw[ntmps184];refine xW fun K hK=>?_;simp;apply hK;refine xS (Az fun K hK=>?_);refine xJ ?_;simp;refine Bp (Ks d) rfl (by simp[xN]) ?_;simp;refine xJ ?_;simp;refine Aj (hK _ _ ?_);(try simp only[xQ,reduceIte]);refine AU ?_;simp;refine⟨fun h=>?_,fun h=>?_⟩
 ·refine xW fun K hK=>?_;simp;apply hK;refine Ag ⟨_,_,AJ.refl,?_⟩;(try simp);simp[DS,h]
 ·refine xK ?_;(repeat refine xS ?_);refine BX fun K hK=>?_;refine xJ ?_;simp[AA];refine xF (HV d.nodes (fun x=>decide (n≤x.var)) 213 [.ptr 0 1 0 0] [.row true 1 [.d (.int .i64 n)]] fun x _=>UG x n) [1] rfl ?_;simp;refine xJ ?_;simp;refine Aj (hK _ _ ?_);(try simp only[xQ,reduceIte]);refine Ag ⟨_,_,AJ.refl,?_⟩;(try simp);simp[DS,h]
theorem AAQ.below{N:List Ah}{n:Nat}(hN:∀b∈N,b.var<n):∀{t:DT} {k:Int},AAQ N t k→t.Below n:=by
 intro t;induction t with
 |leaf b=>intro _ _;trivial
 |node v l h ihl ihh=>
  intro k hr;obtain⟨j,_,lo,hi,h1,h2,h3⟩:=hr;exact⟨by simpa using hN _ (List.mem_of_getElem? h1),ihl h2,ihh h3⟩
theorem Kk{d:AN}{n:Nat}(h:DS d n=true):Valid d∧D9 n (tr d):=by
 unfold DS at h;simp only[Bool.and_eq_true,decide_eq_true_eq,Bool.not_eq_true',List.any_eq_false,Int.not_le]at h;have hv:=JA h.1;refine⟨hv,MP d,?_⟩;have hr:=FD (tr d);rw[Fl hv]at hr;exact hr.below fun b hb=>by simpa using h.2 b hb
def AAl:List ByteArray→List ByteArray→Bool
 |_,[]=>true
 |L,s::l=>!FV L s&&AAl (L++[s]) l
def IY(g:AF):Bool:=AAl [⟨#[]⟩] g.BC&&decide (0≤g.start)&&decide (g.start<g.BC.length)
theorem E3:∀{l L:List ByteArray} {i:Nat} (hi:i<l.length),(∀k (h:k<i),FV (L++l.take k) (l[k]'(by omega))=false)→FV (L++l.take i) l[i]=true→AAl L l=false
 |s::l,L,0,hi,_,h=>by simp at h;simp[AAl,h]
 |s::l,L,i+1,hi,h0,h=>by
  have:AAl (L++[s]) l=false:=E3 (i:=i) (by simpa using hi) (fun k hk=>by simpa using h0 (k+1) (by omega)) (by simpa using h);simp[AAl,this]
theorem EZ:∀{l L:List ByteArray},(∀k (h:k<l.length),FV (L++l.take k) l[k]=false)→AAl L l=true
 |[],_,_=>rfl
 |s::l,L,h=>by
  have h1:FV L s=false:=by have:=h 0 (by simp);rw[List.take_zero,List.append_nil]at this;exact this
  have h2:AAl (L++[s]) l=true:=EZ fun k hk=>by
   have:=h (k+1) (by simpa using hk);rw[List.take_succ_cons]at this;rw[List.append_assoc];exact this
  simp[AAl,h1,h2]
theorem Oe(g:AF):Pure prog 156 [AB g] (AG (if IY g then 0 else 50)):=by
 refine Pure.AI func156 (by kernel_rfl) rfl (by simp) fun wf=>?_;have a1:g.BC.length≤maxLen:=by simp[AAY,WFD,AB]at wf;exact wf.2.2.2.2.1.1
 rw[ntmps156];refine xW fun K hK=>?_;simp;apply hK;refine Az fun K hK=>?_;refine xJ ?_;simp;refine xF (H8) [] rfl ?_;simp;refine xJ ?_;simp;refine Aj (hK _ _ ?_);refine xS (xW fun K hK=>?_);simp[AB];apply hK;refine Bw ?_;refine DC g.BC.length (fun i tm S=>tm 1=.ptr 0 1 0 0∧tm 3=.fn (.func 211) [] [.ptr 2 1 0 0]∧tm 8=.d (CW g.BC)∧tm 9=.d (.int .i64 g.BC.length)∧tm 10=.d (.int .i64 i)∧(∀k (h:k<i) (h':k<g.BC.length),FV (K8 g.BC k) g.BC[k]=false)∧S=[.row true 9 [.d (AB g)],Dn (K8 g.BC i),.row true 1 [.map 1]]) (i0:=0) (Nat.zero_le _) (by simp[QW,Dn,AB,Iq]) ?_;rintro i tm S hi ⟨t1,t3,t8,t9,t10,gg,rfl⟩;refine xW fun K hK=>?_;simp[t9,t10];apply hK;refine xC ?_;simp;refine⟨fun cx=>?_,fun hO=>?_⟩
 ·have jC:=HN (K8 g.BC i) g.BC[i];have ka:=H7 cx;have iq:=fun h=>E3 (L:=[⟨#[]⟩]) (l:=g.BC) cx (fun k hk=>gg k hk (by omega)) h;generalize hh:FV (K8 g.BC i) g.BC[i]=hb at *;unfold Dn;refine xK ?_;refine xB ?_;refine xW fun K hK=>?_;simp[t8,t10,cx];apply hK;refine Az fun K hK=>?_;refine xJ ?_;simp[t3];refine xF (jC) [1,2] rfl ?_;simp[QW,Dn];refine xJ ?_;simp;refine Aj (hK _ _ ?_);(repeat refine xS ?_);refine AW.BD (t:=hb) ?_ (fun hb=>?_) (fun hb=>?_)
  ·simp
  ·subst hb;refine xW fun K hK=>?_;simp;apply hK;refine Ag ⟨_,_,AJ.refl,?_⟩;(try simp);have:=iq hh;simp[IY,this]
  ·subst hb;simp;refine CC ?_;refine xV fun K hK=>?_;simp[t10];apply hK;refine⟨cx,_,_,AJ.refl,?_⟩;simp[t1,t3,t8,t9,AQ cx a1,ka];intro k hk jN;by_cases e:k=i
   ·subst e;exact hh
   ·exact gg k (by omega) jN
 ·have iD:i=g.BC.length:=by omega
  subst iD;have lW:=EZ (L:=[⟨#[]⟩]) (l:=g.BC) fun k hk=>gg k hk hk;unfold Dn;refine Cu ?_;(repeat refine xS ?_);refine BX fun K hK=>?_;(repeat((refine B7 ?_ ?_);(focus(simp[t1,AB];try(first|omega|(simp +contextual[t1,AB];done)|grind);done));simp[t1,AB]));refine Aj (hK _ _ ?_);(try simp only[xQ,reduceIte]);(repeat refine xS ?_);refine AW.BD (t:=!(decide (0≤g.start)&&decide (g.start<g.BC.length))) ?_ (fun hb=>?_) (fun hb=>?_)
  ·simp;rw[Bool.eq_iff_iff];simp
  ·refine xW fun K hK=>?_;simp;apply hK;refine Ag ⟨_,_,AJ.refl,?_⟩;(try simp);simp at hb;simp[IY,lW];omega
  ·refine xK ?_;refine xW fun K hK=>?_;simp;apply hK;refine Ag ⟨_,_,AJ.refl,?_⟩;(try simp);simp at hb;simp[IY,lW,hb]
noncomputable def Dz(s:ByteArray):Bool:=isIdent s&&!decide (s=⟨#[116,114,117,101]⟩)&&!decide (s=⟨#[102,97,108,115,101]⟩)
noncomputable def FY(g:AF):Bool:=g.conds.all Dz&&AAl [⟨#[]⟩] g.conds&&DS g.fam g.conds.length&&!decide (g.fam.root=0)
theorem Oc(g:AF):Pure prog 154 [AB g] (AG (if FY g then 0 else 54)):=by
 refine Pure.AI func154 (by kernel_rfl) rfl (by simp) fun wf=>?_;have a1:g.conds.length≤maxLen:=by simp[AAY,WFD,AB]at wf;exact wf.1.1
 rw[ntmps154];refine xW fun K hK=>?_;simp;apply hK;refine Az fun K hK=>?_;refine xJ ?_;simp;refine xF (H8) [] rfl ?_;simp;refine xJ ?_;simp;refine Aj (hK _ _ ?_);refine xS (xW fun K hK=>?_);simp[AB];apply hK;refine Bw ?_;refine DC g.conds.length (fun i tm S=>tm 1=.ptr 0 1 0 0∧tm 3=.fn (.func 211) [] [.ptr 2 1 0 0]∧tm 8=.d (CW g.conds)∧tm 9=.d (.int .i64 g.conds.length)∧tm 10=.d (.int .i64 i)∧(∀k (h:k<i) (h':k<g.conds.length),Dz g.conds[k]=true∧FV (K8 g.conds k) g.conds[k]=false)∧S=[.row true 9 [.d (AB g)],Dn (K8 g.conds i),.row true 1 [.map 1]]) (i0:=0) (Nat.zero_le _) (by simp[QW,Dn,AB,Iq]) ?_;rintro i tm S hi ⟨t1,t3,t8,t9,t10,gg,rfl⟩;refine xW fun K hK=>?_;simp[t9,t10];apply hK;refine xC ?_;simp;refine⟨fun cx=>?_,fun hO=>?_⟩
 ·have jC:=HN (K8 g.conds i) g.conds[i];have ka:=H7 cx;have iq:=fun h=>E3 (L:=[⟨#[]⟩]) (l:=g.conds) cx (fun k hk=>(gg k hk (by omega)).2) h;have jq:Dz g.conds[i]=false→FY g=false:=fun h=>by
   have:g.conds.all Dz=false:=by
    rw[List.all_eq_false];exact⟨_,List.getElem_mem cx,by simp[h]⟩
   simp[FY,this]
  generalize hh:FV (K8 g.conds i) g.conds[i]=hb at *;unfold Dn;refine xK ?_;refine xB ?_;(repeat refine xS ?_);refine xV fun K hK=>?_;simp[t8,t10,cx];refine hK _ _ ?_;(try simp only[xQ,reduceIte]);by_cases e2:g.conds[i]=⟨#[116,114,117,101]⟩<;>by_cases e3:g.conds[i]=⟨#[102,97,108,115,101]⟩<;>cases e1:isIdent g.conds[i]
  ·
   refine Az fun K hK=>?_;refine xJ ?_;simp;refine Bp (Ef g.conds[i]) rfl (by simp[xN]) ?_;simp;refine xJ ?_;simp[e2,maxLen,t3];((refine Dp rfl (by simp;try rfl) ?_);simp);refine xJ ?_;simp;refine Aj (hK _ _ ?_);refine AU ?_;simp;refine xW fun K hK=>?_;simp;apply hK;refine Ag ⟨_,_,AJ.refl,?_⟩;(try simp);simp[jq (by simp[Dz,e2])]
  ·
   refine Az fun K hK=>?_;refine xJ ?_;simp;refine Bp (Ef g.conds[i]) rfl (by simp[xN]) ?_;simp;refine xJ ?_;simp[e2,maxLen,t3];((refine Dp rfl (by simp;try rfl) ?_);simp);refine xJ ?_;simp;refine Aj (hK _ _ ?_);refine AU ?_;simp;refine xW fun K hK=>?_;simp;apply hK;refine Ag ⟨_,_,AJ.refl,?_⟩;(try simp);simp[jq (by simp[Dz,e2])]
  ·
   refine Az fun K hK=>?_;refine xJ ?_;simp;refine Bp (Ef g.conds[i]) rfl (by simp[xN]) ?_;simp;refine xJ ?_;simp[e2,maxLen,t3];((refine Dp rfl (by simp;try rfl) ?_);simp);refine xJ ?_;simp;refine Aj (hK _ _ ?_);refine AU ?_;simp;refine xW fun K hK=>?_;simp;apply hK;refine Ag ⟨_,_,AJ.refl,?_⟩;(try simp);simp[jq (by simp[Dz,e2])]
  ·
   refine Az fun K hK=>?_;refine xJ ?_;simp;refine Bp (Ef g.conds[i]) rfl (by simp[xN]) ?_;simp;refine xJ ?_;simp[e2,maxLen,t3];((refine Dp rfl (by simp;try rfl) ?_);simp);refine xJ ?_;simp;refine Aj (hK _ _ ?_);refine AU ?_;simp;refine xW fun K hK=>?_;simp;apply hK;refine Ag ⟨_,_,AJ.refl,?_⟩;(try simp);simp[jq (by simp[Dz,e2])]
  ·
   refine Az fun K hK=>?_;refine xJ ?_;simp;refine Bp (Ef g.conds[i]) rfl (by simp[xN]) ?_;simp;refine xJ ?_;simp[e3,maxLen,t3];((refine Dp rfl (by simp;try rfl) ?_);simp);refine xJ ?_;simp;refine Aj (hK _ _ ?_);refine AU ?_;simp;refine xW fun K hK=>?_;simp;apply hK;refine Ag ⟨_,_,AJ.refl,?_⟩;(try simp);simp[jq (by simp[Dz,e3])]
  ·
   refine Az fun K hK=>?_;refine xJ ?_;simp;refine Bp (Ef g.conds[i]) rfl (by simp[xN]) ?_;simp;refine xJ ?_;simp[e3,maxLen,t3];((refine Dp rfl (by simp;try rfl) ?_);simp);refine xJ ?_;simp;refine Aj (hK _ _ ?_);refine AU ?_;simp;refine xW fun K hK=>?_;simp;apply hK;refine Ag ⟨_,_,AJ.refl,?_⟩;(try simp);simp[jq (by simp[Dz,e3])]
  ·
   refine Az fun K hK=>?_;refine xJ ?_;simp;refine Bp (Ef g.conds[i]) rfl (by simp[xN]) ?_;simp;refine xJ ?_;simp[e1,e2,e3,maxLen,t3];((refine Dp rfl (by simp;try rfl) ?_);simp);refine xJ ?_;simp;refine Aj (hK _ _ ?_);refine AU ?_;simp;refine xW fun K hK=>?_;simp;apply hK;refine Ag ⟨_,_,AJ.refl,?_⟩;(try simp);simp[jq (by simp[Dz,e1,e2,e3])]
  ·refine Az fun K hK=>?_;refine xJ ?_;simp;refine Bp (Ef g.conds[i]) rfl (by simp[xN]) ?_;simp;refine xJ ?_;simp[e1,e2,e3,maxLen,t3];refine AS.KR (jC) [1,2] rfl rfl (by simp[QW,Dn];try rfl) ?_;simp[QW,Dn];refine xJ ?_;simp;refine Aj (hK _ _ ?_);(repeat refine xS ?_);refine AW.BD (t:=hb) ?_ (fun hb=>?_) (fun hb=>?_)
   ·simp
   ·subst hb;refine xW fun K hK=>?_;simp;apply hK;refine Ag ⟨_,_,AJ.refl,?_⟩;(try simp);have:=iq hh;simp[FY,this]
   ·subst hb;simp;refine CC ?_;refine xV fun K hK=>?_;simp[t10];apply hK;refine⟨cx,_,_,AJ.refl,?_⟩;simp[t1,t3,t8,t9,AQ cx a1,ka];intro k hk jN;by_cases e:k=i
    ·subst e;exact⟨by simp[Dz,e1,e2,e3],hh⟩
    ·exact gg k (by omega) jN
 ·have iD:i=g.conds.length:=by omega
  subst iD;have lW:=EZ (L:=[⟨#[]⟩]) (l:=g.conds) fun k hk=>(gg k hk hk).2;have mM:g.conds.all Dz=true:=by
   rw[List.all_eq_true];intro x hx;obtain⟨k,hk,rfl⟩:=List.mem_iff_getElem.1 hx;exact(gg k hk hk).1
  unfold Dn;refine Cu ?_;refine xS (Az fun K hK=>?_);(repeat((refine B7 ?_ ?_);(focus(simp[t1,AB];try(first|omega|(simp +contextual[t1,AB];done)|grind);done));simp[t1,AB]));refine Bp (IJ g.fam g.conds.length) rfl (by simp[AA]) ?_;simp;(repeat((refine B7 ?_ ?_);(focus(simp[t1];try(first|omega|(simp +contextual[t1,AB];done)|grind);done));simp[t1]));refine Aj (hK _ _ ?_);(try simp only[xQ,reduceIte]);(repeat refine xS ?_);refine AW.BD (t:=!DS g.fam g.conds.length||g.fam.root==0) ?_ (fun hb=>?_) (fun hb=>?_)
  ·simp
  ·refine xW fun K hK=>?_;simp;apply hK;refine Ag ⟨_,_,AJ.refl,?_⟩;(try simp);simp at hb;simp[FY,lW,mM];grind
  ·simp at hb;refine xK ?_;refine xW fun K hK=>?_;simp;apply hK;refine Ag ⟨_,_,AJ.refl,?_⟩;(try simp);simp[FY,lW,mM,hb]
end Go.Koi
