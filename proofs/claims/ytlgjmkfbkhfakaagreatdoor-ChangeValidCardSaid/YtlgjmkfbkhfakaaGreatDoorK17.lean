/- Part 18 of the proof that the law ChangeValid returns true for every input. -/
import Derived.Test.YtlgjmkfbkhfakaaGreatDoorK16
set_option maxHeartbeats 64000000
set_option maxRecDepth 100000
namespace Go.Koi
open Go.Proofs Tryz DT
theorem Rg{α:Type}[DecidableEq α](l:List α)(b:α):(look (l.map fun b=>(b,true)) b).getD false=true↔b∈l:=by
 induction l with
 |nil=>simp
 |cons x l ih=>
  rw[List.map_cons,CQ];by_cases h:x=b
  ·subst h;simp
  ·have h':¬b=x:=fun e=>h e.symm;simp only[h,if_false,ih,List.mem_cons,h',false_or]
theorem Kc{α:Type}[DecidableEq α]{l:List α}{b:α}(h:b∉l):look (l.map fun b=>(b,true)) b=none:=by
 rw[L4];simp;exact h
theorem Rk{α:Type}[DecidableEq α]{l:List α}{i:Nat}(hi:i<l.length)(h:l[i]∉l.take i):
  CU ((l.map fun b=>(b,true)).take i) l[i] true=(l.map fun b=>(b,true)).take (i+1):=by
 rw[IT _ (by rw[←List.map_take];exact Kc h)];rw[←List.map_take,←List.map_take (i:=i+1),List.take_succ_eq_append_getElem hi,List.map_append];rfl
theorem Ks(d:AN):Pure prog 75 [AA d] (AG (HW d)):=by
 refine Pure.AI func75 (by kernel_rfl) rfl (by simp) fun wf=>?_;simp[AAY,DM,WFD]at wf;rw[ntmps75];refine xW fun K hK=>?_;simp;apply hK;refine xS (xW fun K hK=>?_);simp;apply hK;refine AU ?_;simp;refine⟨fun h=>?_,fun h=>?_⟩
 ·refine xW fun K hK=>?_;simp;apply hK;refine Ag ⟨_,_,AJ.refl,?_⟩;(try simp);have:d.nodes.length>4096:=by omega
  simp[HW,this]
 ·have h4:¬d.nodes.length>4096:=by omega
  have oC:∀p:Prop,(Valid d↔p)→(p→HW d=0)∧(¬p→HW d=20):=fun p hp=>⟨fun hh=>by simp only[HW,if_neg h4];rw[if_pos (hp.2 hh)],fun hh=>by simp only[HW,if_neg h4];rw[if_neg (fun hv=>hh (hp.1 hv))]⟩;refine xK ?_;refine xW fun K hK=>?_;simp;apply hK;refine xS (xW fun K hK=>?_);simp;apply hK;refine Bw ?_;refine DC d.nodes.length (fun i tm S=>tm 1=.ptr 0 1 0 0∧tm 3=.map 1∧tm 13=.d (AV d.nodes)∧tm 14=.d (.int .i64 d.nodes.length)∧tm 15=.d (.int .i64 i)∧S=[.row true 2 [.d (AA d)],.map (BO AX (fun x=>.d (.bool x)) ((d.nodes.map fun b=>(b,true)).take i))]∧(d.nodes.take i).Nodup∧∀k b,k<i→d.nodes[k]?=some b→JD d k b) (Nat.zero_le _) (by simp) ?_;rintro i tm S hi ⟨t1,t3,t13,t14,t15,rfl,ju,j1⟩;refine xW fun K hK=>?_;simp[t14,t15];apply hK;refine xC ?_;simp;refine⟨fun cx=>?_,fun hO=>?_⟩
  ·have hb:d.nodes[i]?=some d.nodes[i]:=List.getElem?_eq_getElem cx;refine xK ?_;refine xB ?_;(repeat refine xS ?_);refine xV fun K hK=>?_;simp[t13,t15,cx];refine hK _ _ ?_;(try simp only[xQ,reduceIte]);have hw:IntKind.i64.wrap ((i:Int)+1)=i+1:=wrap_i64 (by omega) (by omega);refine xS (xW fun K hK=>?_);simp[t3,hw];apply hK;have jk:i<(d.nodes.map fun b=>(b,true)).length:=by simpa using cx
   have jV:(look ((d.nodes.map fun b=>(b,true)).take i) ⟨d.nodes[i].var,d.nodes[i].low,d.nodes[i].high⟩).getD false=true↔d.nodes[i]∈d.nodes.take i:=by
    rw[←List.map_take];exact Rg _ _
   have iq:¬JD d i d.nodes[i]∨d.nodes[i]∈d.nodes.take i→HW d=20:=fun hh=>(oC False ⟨fun hv=>by
    obtain⟨h1,h2,_⟩:=Kh hv;rcases hh with hh|hh
    ·exact hh (h2 i _ hb)
    ·obtain⟨j,hj,e⟩:=List.mem_iff_getElem.1 hh;rw[List.getElem_take]at e;have jL:j<i:=by simp at hj;omega
     have:=(List.getElem_inj h1.nodup).1 e;omega,False.elim⟩).2 id
   refine AU ?_;simp;refine⟨fun jW=>?_,fun c1 c2 c3 c4 c5 c6 c7 c8=>?_⟩
   ·refine xW fun K hK=>?_;simp;apply hK;refine Ag ⟨_,_,AJ.refl,?_⟩;(try simp);refine(iq ?_).symm;rcases jW with jW|jW
    ·left;rintro⟨f1,f2,f3,f4,f5,f6,f7,f8,f9⟩;omega
    ·right;exact jV.1 jW
   ·refine CC ?_;have n1:d.nodes[i].low<2+d.nodes.length:=by omega
    have n2:d.nodes[i].high<2+d.nodes.length:=by omega
    refine xS ?_;refine xD [0,2,4,6,8,10,12,14,16,18,20,22,24,26,28,30] (by kernel_rfl) fun K hK=>?_;simp;refine xA 0 ?_;simp[t1];refine Ae.CA (Fv d _ n1) rfl (by simp[xN]) ?_;simp;(repeat(refine Ga ?_ ?_;(·simp);simp));(repeat((refine Ga ?_ ?_);(focus(simp[t1];done));simp[t1]));refine Ae.CE (g:=!decide (d.level d.nodes[i].low≤d.nodes[i].var)) (ds:=[AA d,AG d.nodes[i].high]) rfl rfl (by simp<;>rfl) (fun _=>Fv d _ n2) (by simp[AA]) ?_;simp;refine xA 0 ?_;simp;refine xM (hK _ _ ?_);(try simp only[xQ,reduceIte]);have kj:d.nodes[i]∉d.nodes.take i:=fun hm=>by rw[jV.2 hm]at c8;cases c8
    refine AU ?_;simp;refine⟨fun iG=>?_,fun e1 e2=>?_⟩
    ·refine xW fun K hK=>?_;simp;apply hK;refine Ag ⟨_,_,AJ.refl,?_⟩;(try simp);refine(iq (.inl ?_)).symm;rintro⟨f1,f2,f3,f4,f5,f6,f7,f8,f9⟩;omega
    ·have iT:CU ((d.nodes.map fun b=>(b,true)).take i) ⟨d.nodes[i].var,d.nodes[i].low,d.nodes[i].high⟩ true=(d.nodes.map fun b=>(b,true)).take (i+1):=Rk cx kj;refine xK ?_;refine xV fun K hK=>?_;simp[t3,iT];apply hK;refine xV fun K hK=>?_;simp[t15];apply hK;refine⟨cx,_,_,AJ.drop 2 (by simp) (by simp) (by simp),?_⟩;simp[clean,t1,t3,t13,t14];refine⟨hw,?_,fun k b hk hkb=>?_⟩
     ·rw[List.take_succ_eq_append_getElem cx,List.nodup_append];refine⟨ju,by simp,fun a ha b iC eab=>?_⟩;simp only[List.mem_singleton]at iC;subst eab;subst iC;exact kj ha
     ·by_cases ek:k=i
      ·subst ek;rw[hb]at hkb;cases hkb;exact⟨c1,c2,c3,c4,c5,c6,c7,e1,e2⟩
      ·exact j1 k b (by omega) hkb
  ·have rB:i=d.nodes.length:=by omega
   subst rB;rw[List.take_length]at ju;have hf:∀k b,d.nodes[k]?=some b→JD d k b:=fun k b hk=>j1 k b (List.getElem?_eq_some_iff.1 hk).1 hk;have hB:=Lc ju hf;have hw:IntKind.i64.wrap ((d.nodes.length:Int)+1)=d.nodes.length+1:=wrap_i64 (by omega) (by omega);refine Cu ?_;refine xS (xW fun K hK=>?_);simp[t1,hw];apply hK;refine AU ?_;simp;refine⟨fun jW=>?_,fun e1 e2=>?_⟩
   ·refine xW fun K hK=>?_;simp;apply hK;refine Ag ⟨_,_,AJ.refl,?_⟩;(try simp);exact((oC False ⟨fun hv=>by obtain⟨_,_,h3,h4⟩:=Kh hv;omega,False.elim⟩).2 id).symm
   ·obtain⟨t,gt,rt⟩:=hB.get (n:=d.root) e1 (by omega);refine xK ?_;refine Az fun K hK=>?_;refine xJ ?_;simp[t1];refine AS.ghost (AJ.I4 2 (sz:=2) [.agg [.d (AV d.nodes),.any]] rfl (by simp)) ?_;simp;refine xF (Jx d.nodes ju (by omega) true t d.root rt) [2] rfl ?_;simp;refine xJ ?_;simp;refine Aj (hK _ _ ?_);refine xS (Az fun K hK=>?_);refine xJ ?_;simp[t1];refine Bp (E0 (B2 t) d) rfl (by simp[xN]) ?_;simp;refine xJ ?_;simp;refine Aj (hK _ _ ?_);(try simp only[xQ,reduceIte]);refine AU ?_;simp;refine⟨fun dI=>?_,fun he=>?_⟩
    ·refine xW fun K hK=>?_;simp;apply hK;refine Ag ⟨_,_,AJ.refl,?_⟩;(try simp);refine((oC False ⟨fun hv=>?_,False.elim⟩).2 id).symm;obtain⟨u,gu,eu⟩:=hv;have:t=u:=rt.uniq (by rw[eu];exact FD u);subst this;exact dI eu.symm
    ·refine xK ?_;refine xW fun K hK=>?_;simp;apply hK;refine Ag ⟨_,_,AJ.refl,?_⟩;(try simp);exact((oC True ⟨fun _=>trivial,fun _=>⟨t,gt,he.symm⟩⟩).1 trivial).symm
open Go.Proofs Tryz DT
noncomputable def ABU:List AN→Int
 |[]=>0
 |d::ds=>if HW d≠0 then HW d else ABU ds
theorem LV:∀{ds:List AN},(∀k (h:k<ds.length),HW ds[k]=0)→ABU ds=0
 |[],_=>rfl
 |d::ds,h=>by
  have h0:=h 0 (by simp);simp only[List.getElem_cons_zero]at h0;simp only[ABU,h0,ne_eq,not_true,if_false];exact LV fun k hk=>by have:=h (k+1) (by simp;omega);simpa using this
theorem Od:∀{ds:List AN} {i:Nat} (hi:i<ds.length),(∀k (h:k<i),HW (ds[k]'(by omega))=0)→HW ds[i]≠0→ABU ds=HW ds[i]
 |d::ds,0,_,_,hn=>by
  simp only[List.getElem_cons_zero]at hn⊢;simp[ABU,hn]
 |d::ds,i+1,hi,h,hn=>by
  have h0:=h 0 (by omega);simp only[List.getElem_cons_zero]at h0;simp only[List.getElem_cons_succ]at hn⊢;simp only[ABU,h0,ne_eq,not_true,if_false];exact Od (by simpa using hi) (fun k hk=>by have:=h (k+1) (by omega);simpa using this) hn
theorem WH(ds:List AN):Pure prog 37 [.sl (ds.map AA)] (AG (ABU ds)):=by
 refine Pure.AI func37 (by kernel_rfl) rfl (by simp) fun wf=>?_;have a1:ds.length≤maxLen:=by have:=wf.1;simp only[WFD]at this;simpa using this.1
 rw[ntmps37];refine xW fun K hK=>?_;simp;apply hK;refine xS (xW fun K hK=>?_);simp;apply hK;refine Bw ?_;refine DC ds.length (fun i tm S=>tm 6=.d (.sl (ds.map AA))∧tm 7=.d (.int .i64 ds.length)∧tm 8=.d (.int .i64 i)∧S=[]∧∀k (h:k<i) (h':k<ds.length),HW ds[k]=0) (Nat.zero_le _) (by simp) ?_;rintro i tm S hi ⟨t6,t7,t8,rfl,hq⟩;refine xW fun K hK=>?_;simp[t7,t8];apply hK;refine xC ?_;simp;refine⟨fun cx=>?_,fun hO=>?_⟩
 ·refine xK ?_;refine xB ?_;refine xW fun K hK=>?_;simp[t6,t8,cx];apply hK;refine Az fun K hK=>?_;refine xJ ?_;simp;refine Bp (Ks ds[i]) rfl (by simp[xN]) ?_;simp;refine xJ ?_;simp;refine Aj (hK _ _ ?_);refine xW fun K hK=>?_;simp;apply hK;refine AU ?_;simp;refine⟨fun dI=>?_,fun he=>?_⟩
  ·refine xW fun K hK=>?_;simp;apply hK;refine Ag ⟨_,_,AJ.refl,?_⟩;(try simp);exact(Od cx (fun k hk=>hq k hk (by omega)) dI).symm
  ·refine CC ?_;refine xV fun K hK=>?_;simp[t8];apply hK;refine⟨cx,_,_,AJ.drop 0 (by simp) (by simp) (by simp),?_⟩;simp[clean,t6,t7,AQ cx a1];intro k hk jN;by_cases e:k=i
   ·subst e;exact he
   ·exact hq k (by omega) jN
 ·refine Cu ?_;refine xW fun K hK=>?_;simp;apply hK;refine Ag ⟨_,_,AJ.refl,?_⟩;(try simp);exact(LV fun k hk=>hq k (by omega) hk).symm
open Classical in
noncomputable def eL(f:(Int→Bool)→Bool):DT:=if h:∃t:DT,t.Good∧∀c,t.sem c=f c then h.choose else .leaf false
theorem JN{f:(Int→Bool)→Bool}{t:DT}(ht:t.Good)(hs:∀c,t.sem c=f c):eL f=t:=by
 have h:∃t:DT,t.Good∧∀c,t.sem c=f c:=⟨t,ht,hs⟩;unfold eL;rw[dif_pos h];exact DT.unique h.choose_spec.1 ht fun c=>by rw[h.choose_spec.2,hs]
open Classical in
noncomputable def tr(d:AN):DT:=if h:Valid d then h.choose else .leaf false
theorem MP(d:AN):(tr d).Good:=by
 unfold tr;split
 ·next h=>exact h.choose_spec.1
 ·trivial
theorem Fl{d:AN}(h:Valid d):B2 (tr d)=d:=by
 unfold tr;rw[dif_pos h];exact h.choose_spec.2.symm
theorem Ou{t:DT}(h:t.Good):tr (B2 t)=t:=Jt (Fl ⟨t,h,rfl⟩)
noncomputable def Yv(g:Bool→Bool→Bool)(a b:AN):AN:=B2 (eL fun c=>g ((tr a).sem c) ((tr b).sem c))
noncomputable def Du(g:Bool→Bool→Bool)(a b:AN):AN×Int:=
 if ABU [a,b]≠0 then(⟨[],0⟩,ABU [a,b])else if(Yv g a b).nodes.length>4096 then(⟨[],0⟩,2)else(Yv g a b,0)
theorem JJ{f:FuncId}{g:Bool→Bool→Bool}(hf:Mr f g)(a b:AN):
  AE prog 160 [.d (AA a),.d (AA b),.fn (.func f) [] []] [] (.d (.Bd [AA (Du g a b).1,AG (Du g a b).2])) []:=by
 refine AE.B9 func160 (by kernel_rfl) rfl (by simp) fun wf wfs=>?_;rw[ntmps160];refine xW fun K hK=>?_;simp;apply hK;refine xS (Az fun K hK=>?_);refine xJ ?_;simp[maxLen];refine Bp (WH [a,b]) rfl (by simp[xN]) ?_;simp;refine xJ ?_;simp;refine Aj (hK _ _ ?_);(try simp only[xQ,reduceIte]);refine xW fun K hK=>?_;simp;apply hK;refine AU ?_;simp;refine⟨fun dI=>?_,fun he=>?_⟩
 ·refine xW fun K hK=>?_;simp;apply hK;refine Ag ?_;(try simp only[xQ,reduceIte]);refine⟨_,_,_,AJ.refl,by simp,by simp[Du,dI];rfl,AJ.AY 0 (by simp) (by simp) (by simp) (by simp)⟩
 ·have ha:HW a=0:=by
   simp only[ABU]at he;split at he
   ·assumption
   ·next h=>simpa using h
  have hb:HW b=0:=by
   simp only[ABU,ha,ne_eq,not_true,if_false]at he;split at he
   ·assumption
   ·next h=>simpa using h
  have va:=JA ha;have vb:=JA hb;have la:(B2 (tr a)).nodes.length≤4096:=Ky (by rw[Fl va];exact ha);have lb:(B2 (tr b)).nodes.length≤4096:=Ky (by rw[Fl vb];exact hb);have kY:((B2 (tr a)).nodes.length+2) * ((B2 (tr b)).nodes.length+2) * 2<2 ^ 30:=by
   have h1:=Nat.mul_le_mul (show(B2 (tr a)).nodes.length+2≤4098 by omega) (show(B2 (tr b)).nodes.length+2≤4098 by omega);omega
  obtain⟨t,tg,ts,hc⟩:=KD hf (tr a) (tr b) (MP a) (MP b) kY;have g7:Yv g a b=B2 t:=by unfold Yv;rw[JN tg ts]
  rw[Fl va,Fl vb]at hc;refine xK ?_;(repeat refine xS ?_);refine BX fun K hK=>?_;refine xJ ?_;simp;refine xF (hc) [2] rfl ?_;simp;refine xJ ?_;simp;refine Bp (Pk (B2 t)) rfl (by simp[xN]) ?_;simp;refine xJ ?_;simp;refine Aj (hK _ _ ?_);(try simp only[xQ,reduceIte]);refine Ag ?_;(try simp only[xQ,reduceIte]);refine⟨_,_,_,AJ.refl,by simp,?_,AJ.AY 0 (by simp) (by simp) (by simp) (by simp)⟩;simp only[Du,he,ne_eq,not_true,if_false,g7];by_cases h4:(B2 t).nodes.length>4096
  ·simp[h4,AA]
  ·have oD:¬4096<(B2 t).nodes.length:=by omega
   simp[oD,AA]
theorem I2(a b:AN):Pure prog 110 [AA a,AA b] (.Bd [AA (Du and a b).1,AG (Du and a b).2]):=by
 refine AE.B9 func110 (by kernel_rfl) rfl (by simp) fun wf wfs=>?_;rw[ntmps110];refine xW fun K hK=>?_;simp;apply hK;(repeat refine xS ?_);refine BX fun K hK=>?_;refine xJ ?_;simp;refine AS.Oa (JJ Fe a b) rfl (by simp;try rfl) ?_;simp;refine xJ ?_;simp;refine Aj (hK _ _ ?_);(try simp only[xQ,reduceIte]);refine Ag ?_;(try simp only[xQ,reduceIte]);refine⟨_,_,_,AJ.refl,by simp,by simp,AJ.AY 0 (by simp) (by simp) (by simp) (by simp)⟩
theorem QH(a b:AN):Pure prog 114 [AA a,AA b] (.Bd [AA (Du or a b).1,AG (Du or a b).2]):=by
 refine AE.B9 func114 (by kernel_rfl) rfl (by simp) fun wf wfs=>?_;rw[ntmps114];refine xW fun K hK=>?_;simp;apply hK;(repeat refine xS ?_);refine BX fun K hK=>?_;refine xJ ?_;simp;refine AS.Oa (JJ Hu a b) rfl (by simp;try rfl) ?_;simp;refine xJ ?_;simp;refine Aj (hK _ _ ?_);(try simp only[xQ,reduceIte]);refine Ag ?_;(try simp only[xQ,reduceIte]);refine⟨_,_,_,AJ.refl,by simp,by simp,AJ.AY 0 (by simp) (by simp) (by simp) (by simp)⟩
open Go.Proofs DT
def DT.Below(n:Nat):DT→Prop
 |.leaf _=>True
 |.node v l h=>v<n∧l.Below n∧h.Below n
structure D9(n:Nat)(t:DT):Prop where
 GM:t.Good
 below:t.Below n
theorem D9.leaf(n:Nat)(b:Bool):D9 n (.leaf b):=⟨trivial,trivial⟩
theorem P0{n:Nat}:∀{t:DT},t.Good→t.Below n→∀k:Nat,(k:Int)≤t.level→k≤n→t.size+1≤2 ^ (n - k):=by
 intro t;induction t with
 |leaf b=>intro _ _ k _ _;simp only[DT.size];exact Nat.one_le_two_pow
 |node v l h ihl ihh=>
  intro hg hb k hk ko;simp only[DT.level]at hk;have vy:=hg.1;have nK:=hb.1;have e1:=ihl hg.2.2.2.2.2.1 hb.2.1 (v.toNat+1) (by have:=hg.2.2.2.1;omega) (by omega);have e2:=ihh hg.2.2.2.2.2.2 hb.2.2 (v.toNat+1) (by have:=hg.2.2.2.2.1;omega) (by omega);have e3:n - k=(n - (v.toNat+1))+(v.toNat+1 - k):=by omega
  have e4:2 ^ (n - (v.toNat+1)) * 2≤2 ^ (n - k):=by
   rw[e3,Nat.pow_add];refine Nat.mul_le_mul_left _ ?_;have:2 ^ 1≤2 ^ (v.toNat+1 - k):=Nat.pow_le_pow_right (by omega) (by omega);simpa using this
  simp only[DT.size];omega
theorem D9.size{n:Nat}{t:DT}(h:D9 n t)(hn:n≤12):t.size≤4095:=by
 have hl:(0:Int)≤t.level:=by
  by_cases e:t.size=0
  ·obtain⟨b,rfl⟩:=Cs e;simp[DT.level]
  ·exact(D4 h.GM e).1
 have:=P0 h.GM h.below 0 (by simpa using hl) (by omega);have h2:2 ^ (n - 0)≤2 ^ 12:=Nat.pow_le_pow_right (by omega) (by omega);have h3:2 ^ 12=4096:=rfl;omega
theorem Nn(t:DT):∀L:List DT,(emit t L).length≤L.length+t.size:=by
 induction t with
 |leaf b=>intro L;simp[emit]
 |node v l h ihl ihh=>
  intro L;unfold emit;split
  ·simp
  ·have h1:=ihl L;have h2:=ihh (emit l L);simp only[List.length_append,List.length_cons,List.length_nil,DT.size];omega
theorem Pv(t:DT):(B2 t).nodes.length≤t.size:=by
 have:=Nn t [];simp only[B2,Za,List.length_map];simpa using this
theorem D9.len{n:Nat}{t:DT}(h:D9 n t)(hn:n≤12):(B2 t).nodes.length≤4095:=Nat.le_trans (Pv t) (h.size hn)
theorem D9.HW{n:Nat}{t:DT}(h:D9 n t)(hn:n≤12):Koi.HW (B2 t)=0:=by
 have:=h.len hn;unfold Koi.HW;rw[if_neg (by omega),if_pos ⟨t,h.GM,rfl⟩]
theorem Ub{n:Nat}:∀{t:DT},t.Good→(∀c (v:Int) b,(n:Int)≤v→t.sem (DT.EJ c v b)=t.sem c)→t.Below n:=by
 intro t;induction t with
 |leaf b=>intro _ _;trivial
 |node v l h ihl ihh=>
  intro hg hi;have lK:∀c,l.sem c=(DT.node v l h).sem (DT.EJ c v false):=fun c=>by
   have:=Pc hg (v:=v) (Int.le_refl _) c;simpa[DT.lo]using this
  have kP:∀c,h.sem c=(DT.node v l h).sem (DT.EJ c v true):=fun c=>by
   have:=Ov hg (v:=v) (Int.le_refl _) c;simpa[DT.hi]using this
  have hv:v<n:=by
   by_cases nK:v<n
   ·exact nK
   ·exact absurd (DT.unique hg.2.2.2.2.2.1 hg.2.2.2.2.2.2 fun c=>by rw[lK,kP,hi _ _ _ (by omega),hi _ _ _ (by omega)]) hg.2.2.1
  have comm:∀(c:Int→Bool) (w:Int) (x y:Bool),w≠v→DT.EJ (DT.EJ c w x) v y=DT.EJ (DT.EJ c v y) w x:=fun c w x y hw=>by
   funext k;simp only[DT.EJ];by_cases e1:k=v
   ·subst e1;rw[if_pos rfl,if_neg (fun e=>hw e.symm),if_pos rfl]
   ·rw[if_neg e1];by_cases e2:k=w
    ·rw[if_pos e2,if_pos e2]
    ·rw[if_neg e2,if_neg e2,if_neg e1]
  refine⟨hv,ihl hg.2.2.2.2.2.1 fun c w b hw=>?_,ihh hg.2.2.2.2.2.2 fun c w b hw=>?_⟩
  ·rw[lK,lK,comm _ _ _ _ (by omega),hi _ _ _ hw]
  ·rw[kP,kP,comm _ _ _ _ (by omega),hi _ _ _ hw]
theorem D9.indep{n:Nat}{t:DT}(h:D9 n t)(c:Int→Bool)(v:Int)(b:Bool)(hv:(n:Int)≤v):t.sem (DT.EJ c v b)=t.sem c:=by
 obtain⟨hg,hb⟩:=h;induction t with
 |leaf b=>rfl
 |node w l r ihl ihr=>
  have hw:DT.EJ c v b w=c w:=by have:=hb.1;simp only[DT.EJ];rw[if_neg (by omega)]
  simp only[DT.sem,hw];rw[ihl hg.2.2.2.2.2.1 hb.2.1,ihr hg.2.2.2.2.2.2 hb.2.2]
noncomputable def Oz(g:Bool→Bool→Bool)(s t:DT):DT:=eL fun c=>g (s.sem c) (t.sem c)
theorem EP{f:FuncId}{g:Bool→Bool→Bool}(hf:Mr f g){n:Nat}{s t:DT}(hn:n≤12)(hs:D9 n s)(ht:D9 n t):
  D9 n (Oz g s t)∧(∀c,(Oz g s t).sem c=g (s.sem c) (t.sem c))∧Du g (B2 s) (B2 t)=(B2 (Oz g s t),0):=by
 have ls:=hs.len hn;have lt:=ht.len hn;have kY:((B2 s).nodes.length+2) * ((B2 t).nodes.length+2) * 2<2 ^ 30:=by
  have h1:=Nat.mul_le_mul (show(B2 s).nodes.length+2≤4098 by omega) (show(B2 t).nodes.length+2≤4098 by omega);omega
 obtain⟨u,gu,su,_⟩:=KD hf s t hs.GM ht.GM kY;have e:Oz g s t=u:=JN gu su;have hu:D9 n u:=⟨gu,Ub gu fun c v b hv=>by rw[su,su,hs.indep c v b hv,ht.indep c v b hv]⟩;refine⟨e▸hu,by rw[e];exact su,?_⟩;have hc:ABU [B2 s,B2 t]=0:=by simp[ABU,hs.HW hn,ht.HW hn]
 have g7:Yv g (B2 s) (B2 t)=B2 u:=by
  unfold Yv;rw[Ou hs.GM,Ou ht.GM];exact congrArg B2 e
 have hl:=hu.len hn;simp only[Du,hc,ne_eq,not_true,if_false,g7,e];rw[if_neg (by omega)]
noncomputable def HT:=Oz and
noncomputable def Wf:=Oz or
theorem Jw{t:DT}(hg:t.Good):(B2 t).root=0↔t=.leaf false:=by
 constructor
 ·intro h;have:=FD t;rw[h]at this;exact this.zero
 ·rintro rfl;rfl
open Go.Proofs Tryz DT
theorem E4(d:AN):Pure prog 109 [AA d,AG 0] (AA d):=by
 refine AE.B9 func109 (by kernel_rfl) rfl (by simp) fun wf wfs=>?_;rw[ntmps109];refine xW fun K hK=>?_;simp;apply hK;refine xS (xW fun K hK=>?_);simp;apply hK;refine AU ?_;simp;refine xK ?_;refine xW fun K hK=>?_;simp;apply hK;refine Ag ?_;(try simp only[xQ,reduceIte]);refine⟨_,_,_,AJ.refl,by simp,by simp,AJ.AY 0 (by simp) (by simp) (by simp) (by simp)⟩
def vT(t:DT):V:=.d (AA (B2 t))
def mI(m:List (Int×DT)):O:=.map (BO (D.int .i64) vT m)
noncomputable def EN{α:Type}[DecidableEq α](m:List (α×DT))(k:α):DT:=(look m k).getD (.leaf false)
def F2{α:Type}(n:Nat)(m:List (α×DT)):Prop:=∀p∈m,D9 n p.2
theorem F2.at{α:Type}[DecidableEq α]{n:Nat}{m:List (α×DT)}(h:F2 n m)(k:α):D9 n (EN m k):=by
 unfold EN;cases hl:look m k with
 |none=>exact D9.leaf n false
 |some t=>exact h _ (F3 hl)
@[simp] theorem dc{α:Type}[DecidableEq α]{ek:α→D}{k:Nat}(l:List (α×DT)):(BO ek vT l).all (fun e=>AAB k e.2)=true:=PD (fun _=>rfl) l
@[simp] theorem fJ{α:Type}(ρ:Nat→Nat)(ek:α→D)(l:List (α×DT)):(BO ek vT l).map (fun p=>(p.1,AAO ρ p.2))=BO ek vT l:=by
 unfold BO;rw[List.map_map];rfl
@[simp] theorem eJ(l:List (Int×DT))(k:Int)(t:DT):DU (BO (D.int .i64) vT l) (.int .i64 k) (.d (AA (B2 t)))=BO (D.int .i64) vT (CU l k t):=C9 (ev:=vT) (by intro a b;rw[Bool.eq_iff_iff];simp[deq]) l k t
theorem QI(m:List (Int×DT))(k:Int):AE prog 117 [.map 0,.d (AG k)] [mI m] (.d (AA (B2 (EN m k)))) [mI m]:=by
 refine AE.B9 func117 (by kernel_rfl) rfl (by simp) fun wf wfs=>?_;rw[ntmps117];unfold mI;(repeat refine xS ?_);refine xV fun K hK=>?_;simp;refine hK _ _ ?_;(try simp only[xQ,reduceIte]);cases hl:look m k with
 |some t=>
  have e:EN m k=t:=by simp[EN,hl]
  rw[e];refine xS (xW fun K hK=>?_);simp[hl,vT];apply hK;refine xW fun K hK=>?_;simp;apply hK;refine AU ?_;simp;refine xW fun K hK=>?_;simp;apply hK;refine Ag ?_;(try simp only[xQ,reduceIte]);refine⟨_,_,_,AJ.refl,by simp,by simp,AJ.AY 1 (by simp) (by simp) (by simp) (by simp)⟩
 |none=>
  have e:EN m k=.leaf false:=by simp[EN,hl]
  rw[e];refine xS (xW fun K hK=>?_);simp[hl];apply hK;refine xW fun K hK=>?_;simp;apply hK;refine AU ?_;simp;refine xK ?_;(repeat refine xS ?_);refine BX fun K hK=>?_;refine xJ ?_;simp;refine Bp (Fb false) rfl (by simp) ?_;simp;refine xJ ?_;simp;refine Aj (hK _ _ ?_);(try simp only[xQ,reduceIte]);refine Ag ?_;(try simp only[xQ,reduceIte]);refine⟨_,_,_,AJ.refl,by simp,by simp[Ed,AA],AJ.AY 1 (by simp) (by simp) (by simp) (by simp)⟩
noncomputable def stepT(m:List (Int×DT))(t:DT)(s:Symbol):DT:=if s.token=false∧t≠.leaf false then HT t (EN m s.index)else t
noncomputable def Fp(m:List (Int×DT))(t:DT)(l:List Symbol):DT:=l.foldl (stepT m) t
theorem WG{n:Nat}{m:List (Int×DT)}{t:DT}(hn:n≤12)(hm:F2 n m)(ht:D9 n t)(s:Symbol):D9 n (stepT m t s):=by
 unfold stepT;split
 ·exact(EP Fe hn ht (hm.at _)).1
 ·exact ht
theorem HK{n:Nat}{m:List (Int×DT)}(hn:n≤12)(hm:F2 n m)(l:List Symbol):∀{t:DT},D9 n t→D9 n (Fp m t l):=by
 induction l with
 |nil=>intro t h;exact h
 |cons s l ih=>intro t h;exact ih (WG hn hm h s)
theorem R8(m:List (Int×DT))(t:DT)(l:List Symbol){i:Nat}(hi:i<l.length):Fp m t (l.take (i+1))=stepT m (Fp m t (l.take i)) l[i]:=by
 unfold Fp;rw[List.take_succ_eq_append_getElem hi,List.foldl_append];rfl
theorem Tz{n:Nat}(hn:n≤12)(m:List (Int×DT))(hm:F2 n m)(t:DT)(ht:D9 n t)(l:List Symbol):
  AE prog 112 [.d (AA (B2 t)),.d (As l),.map 0] [mI m] (.d (AA (B2 (Fp m t l)))) [mI m]:=by
 refine AE.B9 func112 (by kernel_rfl) rfl (by simp) fun wf wfs=>?_;have a1:l.length≤maxLen:=by have:=wf.2.1;simp only[WFV]at this;simpa using this.1
 rw[ntmps112];unfold mI;refine xW fun K hK=>?_;simp;apply hK;refine xS (xW fun K hK=>?_);simp;apply hK;refine Bw ?_;refine DC l.length (fun i tm S=>tm 2=.map 0∧tm 3=.ptr 1 1 0 0∧tm 6=.ptr 2 1 0 0∧tm 9=.d (As l)∧tm 10=.d (.int .i64 l.length)∧tm 11=.d (.int .i64 i)∧S=[mI m,.row true 2 [.d (AA (B2 (Fp m t (l.take i))))],.row true 2 [.agg [.full [],.d (.int .i64 0)]]]) (i0:=0) (Nat.zero_le _) (by simp[mI,Fp]) ?_;rintro i tm S hi ⟨t2,t3,t6,t9,t10,t11,rfl⟩;unfold mI;refine xW fun K hK=>?_;simp[t10,t11];apply hK;refine xC ?_;simp;refine⟨fun cx=>?_,fun hO=>?_⟩
 ·have hT:=HK hn hm (l.take i) ht;generalize hX:Fp m t (l.take i)=X at *;have jg:=Jw hT.GM;have gn:Fp m t (l.take (i+1))=stepT m X l[i]:=by rw[R8 m t l cx,hX]
  rw[gn];refine xK ?_;refine xB ?_;refine xW fun K hK=>?_;simp[t9,t11,cx];apply hK;refine xW fun K hK=>?_;simp[t3];apply hK;refine AU ?_;simp;refine⟨fun h1 h2=>?_,fun h=>?_⟩
  ·have iK:stepT m X l[i]=HT X (EN m l[i].index):=by
    unfold stepT;rw[if_pos ⟨h1,fun e=>h2 (jg.2 e)⟩]
   obtain⟨o1,o2,o3⟩:=EP Fe hn hT (hm.at l[i].index);rw[iK];refine xE [0,2,4,6,8,10,12,14,16,19] (by kernel_rfl) fun K hK=>?_;simp;refine xA 0 ?_;simp[t2,t3];refine Ae.ar _ (QI m l[i].index) rfl rfl (by simp[mI];try rfl) ?_;simp;refine xA 0 ?_;simp;refine Ae.CA (I2 (B2 X) (B2 (EN m l[i].index))) rfl (by simp[xN]) ?_;simp[o3];refine xA 0 ?_;simp;refine Ae.CA (E4 (B2 (Oz and X (EN m l[i].index)))) rfl (by simp[xN]) ?_;simp;refine xX 511 (by kernel_rfl) ?_;simp[t3];refine xM (hK _ _ ?_);refine xV fun K hK=>?_;simp[t11];apply hK;refine⟨cx,_,_,AJ.drop 3 (by simp) (by simp) (by simp),?_⟩;simp[clean,t2,t3,t6,t9,t10,AQ cx a1,HT]
  ·have iK:stepT m X l[i]=X:=by
    unfold stepT;rw[if_neg (fun hh=>hh.2 (jg.1 (h hh.1)))]
   rw[iK];refine CC ?_;refine xV fun K hK=>?_;simp[t11];apply hK;refine⟨cx,_,_,AJ.drop 3 (by simp) (by simp) (by simp),?_⟩;simp[clean,t2,t3,t6,t9,t10,AQ cx a1]
 ·have iD:i=l.length:=by omega
  subst iD;rw[List.take_length];refine Cu ?_;refine xW fun K hK=>?_;simp[t3,t6];apply hK;refine Ag ?_;(try simp only[xQ,reduceIte]);refine⟨_,_,_,AJ.refl,by simp[t6],by simp[t6],AJ.AY 1 (by simp) (by simp) (by simp) (by simp)⟩
open Go.Proofs Tryz DT
attribute [simp] mI
open Classical in
noncomputable def Gw(m:List (Int×DT))(ch:Bool)(k:Int)(d:DT):List (Int×DT)×Bool:=
 if d=.leaf false then(m,ch)else if EN m k=Wf (EN m k) d then(m,ch)else(CU m k (Wf (EN m k) d),true)
def cU(m:List (Int×DT))(ch:Bool):Sg:=[.row true 1 [.map 2],.row true 1 [.d (.bool ch)],mI m]
theorem F2.put{n:Nat}{m:List (Int×DT)}(h:F2 n m)(k:Int){t:DT}(ht:D9 n t):F2 n (CU m k t):=by
 intro p hp;unfold CU at hp;split at hp
 ·obtain⟨q,hq,rfl⟩:=List.mem_map.1 hp;split
  ·exact ht
  ·exact h q hq
 ·rcases List.mem_append.1 hp with hp|hp
  ·exact h p hp
  ·simp only[List.mem_singleton]at hp;subst hp;exact ht
theorem X9{n:Nat}(hn:n≤12){m:List (Int×DT)}(hm:F2 n m)(ch:Bool)(k:Int){d:DT}(hd:D9 n d):F2 n (Gw m ch k d).1:=by
 unfold Gw;split
 ·exact hm
 ·split
  ·exact hm
  ·exact hm.put k (EP Hu hn (hm.at k) hd).1
theorem au{n:Nat}(hn:n≤12)(m:List (Int×DT))(hm:F2 n m)(ch:Bool)(k:Int)(d:DT)(hd:D9 n d):
  AE prog 197 [.d (AG k),.d (AA (B2 d)),.ptr 0 1 0 0,.ptr 1 1 0 0] (cU m ch) (.Bd []) (cU (Gw m ch k d).1 (Gw m ch k d).2):=by
 have jg:=Jw hd.GM;obtain⟨o1,o2,o3⟩:=EP Hu hn (hm.at k) hd;refine AE.AI func197 (by kernel_rfl) rfl (by simp) fun wf wfs=>?_;rw[ntmps197];unfold cU mI;refine xW fun K hK=>?_;simp;apply hK;refine xS (xW fun K hK=>?_);simp;apply hK;refine AU ?_;simp;refine⟨fun h=>?_,fun h=>?_⟩
 ·have e:Gw m ch k d=(m,ch):=by unfold Gw;rw[if_pos (jg.1 h)]
  rw[e];refine Ag ?_;(try simp only[]);refine⟨_,AJ.AY 3 (by simp) (by simp) (by simp) (by simp),?_⟩;simp[Am]
 ·have vz:¬d=.leaf false:=fun e=>h (jg.2 e);refine xK ?_;refine Az fun K hK=>?_;refine xJ ?_;simp;refine xF (QI m k) [2] rfl ?_;simp[mI];refine xJ ?_;simp;refine Aj (hK _ _ ?_);refine Az fun K hK=>?_;refine xJ ?_;simp;refine Bp (QH (B2 (EN m k)) (B2 d)) rfl (by simp[xN]) ?_;simp[o3];refine xJ ?_;simp;refine Bp (E4 (B2 (Oz or (EN m k) d))) rfl (by simp[xN]) ?_;simp;refine xJ ?_;simp;refine Aj (hK _ _ ?_);refine Az fun K hK=>?_;refine xJ ?_;simp;refine Bp (E0 (B2 (EN m k)) (B2 (Oz or (EN m k) d))) rfl (by simp[xN]) ?_;simp;refine xJ ?_;simp;refine Aj (hK _ _ ?_);refine AU ?_;simp;refine⟨fun dI=>?_,fun he=>?_⟩
  ·have e:Gw m ch k d=(CU m k (Wf (EN m k) d),true):=by
    unfold Gw;rw[if_neg vz,if_neg (fun e:EN m k=Wf (EN m k) d=>dI (congrArg B2 e))]
   rw[e];refine xW fun K hK=>?_;simp;apply hK;refine xV fun K hK=>?_;simp;apply hK;refine⟨_,AJ.AY 3 (by simp;rfl) (by simp) (by simp) (by simp),?_⟩;simp[Am]
  ·have e:Gw m ch k d=(m,ch):=by
    unfold Gw;rw[if_neg vz,if_pos (show EN m k=Wf (EN m k) d from Jt he)]
   rw[e];refine CC ?_;refine⟨_,AJ.AY 3 (by simp) (by simp) (by simp) (by simp),?_⟩;simp[Am]
def C6(g:AF)(ps:List DT):D:=.agg (AAL (AB g)++[.sl (ps.map fun t=>AA (B2 t))])
def EC(l:List Symbol):Bool:=l.any (·.token)
noncomputable def EM(empty:Bool)(s:List (Int×DT)×Bool)(p:AT×DT):List (Int×DT)×Bool:=
 if empty&&EC p.1.right then s else Gw s.1 s.2 p.1.left (Fp s.1 p.2 p.1.right)
noncomputable def Cm(empty:Bool)(l:List (AT×DT))(s:List (Int×DT)×Bool):List (Int×DT)×Bool:=l.foldl (EM empty) s
def eM{α:Type}(n:Nat)(l:List (α×DT)):Prop:=∀p∈l,D9 n p.2
theorem NS{n:Nat}(hn:n≤12)(empty:Bool){s:List (Int×DT)×Bool}(hs:F2 n s.1){p:AT×DT}(hp:D9 n p.2):F2 n (EM empty s p).1:=by
 unfold EM;split
 ·exact hs
 ·exact X9 hn hs _ _ (HK hn hs _ hp)
theorem HS{n:Nat}(hn:n≤12)(empty:Bool):∀(l:List (AT×DT)) {s:List (Int×DT)×Bool},F2 n s.1→eM n l→F2 n (Cm empty l s).1
 |[],_,hs,_=>hs
 |p::l,_,hs,hl=>HS hn empty l (NS hn empty hs (hl p (by simp))) fun q hq=>hl q (by simp[hq])
theorem ON(empty:Bool)(l:List (AT×DT))(s:List (Int×DT)×Bool){i:Nat}(hi:i<l.length):Cm empty (l.take (i+1)) s=EM empty (Cm empty (l.take i) s) l[i]:=by
 unfold Cm;rw[List.take_succ_eq_append_getElem hi,List.foldl_append];rfl
def SB(g:AF)(ps:List DT)(empty:Bool)(m:List (Int×DT))(ch:Bool):Sg:=
 [.row true 1 [.ptr 6 1 0 0],.row true 1 [.d (.bool empty)],.row true 1 [.map 5],.row true 1 [.map 5],.row true 1 [.d (.bool ch)],mI m,.row true 10 [.d (C6 g ps)]]
def addFn:V:=.fn (.func 197) [] [.ptr 3 1 0 0,.ptr 4 1 0 0]
theorem Uw{n:Nat}(hn:n≤12)(g:AF)(ps:List DT)(hlen:ps.length=g.AD.length)(kZ:∀t∈ps,D9 n t)(empty:Bool)(m:List (Int×DT))(hm:F2 n m)(ch:Bool):
  AE prog 163 [addFn,.ptr 0 1 0 0,.ptr 1 1 0 0,.ptr 2 1 0 0] (SB g ps empty m ch) (.Bd [])
   (SB g ps empty (Cm empty (g.AD.zip ps) (m,ch)).1 (Cm empty (g.AD.zip ps) (m,ch)).2):=by
 unfold addFn;have hL:eM n (g.AD.zip ps):=fun p hp=>kZ _ (List.of_mem_zip hp).2;refine AE.AI func163 (by kernel_rfl) rfl (by simp) fun wf wfs=>?_;simp[SB,mI,ACL,WFO,ABP,WFV,C6,WFD,AAY]at wfs;obtain⟨_,_,_,_,_,_,_,_,⟨a1,a2⟩,_⟩:=wfs;have a3:∀p∈g.AD,p.right.length≤maxLen:=fun p hp=>by
  rw[DM]at a2;have:=a2 p hp;simp[AH,WFD,AAY]at this;exact this.2.2.1.1
 rw[ntmps163];unfold SB mI;refine AW.scope ?_;refine xS ?_;refine AW.label ?_;simp only[AAE];refine Az fun K hK=>?_;refine xJ ?_;simp[C6];refine Aj (hK _ _ ?_);refine Bw ?_;refine DC g.AD.length (fun i tm S=>tm 0=.fn (.func 197) [] [.ptr 3 1 0 0,.ptr 4 1 0 0]∧tm 1=.ptr 0 1 0 0∧tm 2=.ptr 1 1 0 0∧tm 3=.ptr 2 1 0 0∧tm 13=.d (Bb g.AD)∧tm 14=.d (.int .i64 g.AD.length)∧tm 15=.d (.int .i64 i)∧S=SB g ps empty (Cm empty ((g.AD.zip ps).take i) (m,ch)).1 (Cm empty ((g.AD.zip ps).take i) (m,ch)).2) (i0:=0) (Nat.zero_le _) (by simp[SB,mI,C6,Cm]) ?_;rintro i tm S hi ⟨t0,t1,t2,t3,t13,t14,t15,rfl⟩;generalize hR:Cm empty ((g.AD.zip ps).take i) (m,ch)=R;refine xW fun K hK=>?_;simp[t14,t15];apply hK;refine xC ?_;simp;refine⟨fun cx=>?_,fun hO=>?_⟩
 ·have iD:i<(g.AD.zip ps).length:=by simp;omega
  have kD:i<ps.length:=by omega
  have hRok:F2 n R.1:=by rw[←hR];exact HS hn empty _ hm fun p hp=>hL p (List.mem_of_mem_take hp)
  have iK:Cm empty ((g.AD.zip ps).take (i+1)) (m,ch)=EM empty R (g.AD[i],ps[i]):=by
   rw[ON empty _ _ iD,hR];simp
  have ob:=a3 g.AD[i] (List.getElem_mem cx);rw[iK];generalize hp:g.AD[i]=p at *;refine xK ?_;refine xB ?_;refine xW fun K hK=>?_;simp[t13,t15,cx,hp];apply hK;refine xS (xW fun K hK=>?_);simp;apply hK;refine Bw ?_;refine DC p.right.length (fun j tm' S=>tm' 0=.fn (.func 197) [] [.ptr 3 1 0 0,.ptr 4 1 0 0]∧tm' 1=.ptr 0 1 0 0∧tm' 2=.ptr 1 1 0 0∧tm' 3=.ptr 2 1 0 0∧tm' 13=.d (Bb g.AD)∧tm' 14=.d (.int .i64 g.AD.length)∧tm' 15=.d (.int .i64 i)∧tm' 5=.d (.int .i64 i)∧tm' 6=.ptr 7 1 0 0∧tm' 21=.d (As p.right)∧tm' 22=.d (.int .i64 p.right.length)∧tm' 23=.d (.int .i64 j)∧S=SB g ps empty R.1 R.2++[.row true 13 [.d (AH p)]]∧∀k (h:k<j) (h':k<p.right.length),¬(p.right[k].token=true∧empty=true)) (i0:=0) (Nat.zero_le _) (by simp[SB,mI,C6,AH,t0,t1,t2,t3,t13,t14,t15]) ?_;rintro j tm' S hj ⟨s0,s1,s2,s3,s13,s14,s15,s5,s6,s21,s22,s23,rfl,gy⟩;refine xW fun K hK=>?_;simp[s22,s23];apply hK;refine xC ?_;simp;refine⟨fun ik=>?_,fun pY=>?_⟩
  ·refine xK ?_;refine xB ?_;unfold SB;refine xW fun K hK=>?_;simp[s21,s23,ik];apply hK;(repeat refine xS ?_);refine xV fun K hK=>?_;simp[s2];refine hK _ _ ?_;(try simp only[xQ,reduceIte]);by_cases iq:p.right[j].token=true∧empty=true
   ·have gn:EM empty R (p,ps[i])=R:=by
     unfold EM;rw[if_pos];simp only[Bool.and_eq_true,EC,List.any_eq_true];exact⟨iq.2,_,List.getElem_mem ik,iq.1⟩
    rw[gn];refine AU ?_;simp[iq.1,iq.2];refine Cu ?_;refine xV fun K hK=>?_;simp[s15];apply hK;refine⟨cx,_,_,AJ.drop 7 (by simp) (by simp) (by simp),?_⟩;simp[clean,s0,s1,s2,s3,s13,s14,AQ cx a1]
   ·refine AU ?_;simp;refine⟨fun h1 h2=>absurd ⟨h1,h2⟩ iq,fun _=>?_⟩;refine CC ?_;refine xV fun K hK=>?_;simp[s23];apply hK;refine⟨ik,_,_,AJ.drop 8 (by simp) (by simp) (by simp),?_⟩;simp[clean,s0,s1,s2,s3,s13,s14,s15,s5,s6,s21,s22,AQ ik ob];intro k hk jN;by_cases e:k=j
    ·subst e;intro h1;cases he:empty with
     |false=>rfl
     |true=>exact absurd ⟨h1,he⟩ iq
    ·intro h1;cases he:empty with
     |false=>rfl
     |true=>exact absurd ⟨h1,he⟩ (gy k (by omega) jN)
  ·have gn:EM empty R (p,ps[i])=Gw R.1 R.2 p.left (Fp R.1 ps[i] p.right):=by
    unfold EM;rw[if_neg];simp only[Bool.and_eq_true,EC,List.any_eq_true];rintro⟨he,x,hx,n7⟩;obtain⟨k,hk,rfl⟩:=List.mem_iff_getElem.1 hx;exact gy k (by omega) hk ⟨n7,he⟩
   have gg:=HK hn hRok p.right (kZ _ (List.getElem_mem kD));rw[gn];unfold SB mI;refine Cu ?_;refine xE [0,2,4,6,8,10,12,14,16,18,20,22,24,26,29] (by kernel_rfl) fun K hK=>?_;simp;refine xA 2 ?_;simp[s0,s1,s3,s5,s6,C6,kD];refine Ae.Ul (Tz hn R.1 hRok ps[i] (kZ _ (List.getElem_mem kD)) p.right) [5] rfl (by simp[mI];try rfl) ?_;simp;refine Ae.Ds (xT [1,0,0,0,0,0,0,0,0,0,0,1,0,1]) (au hn R.1 hRok R.2 p.left _ gg) [3,4,5] (by kernel_rfl) rfl (by simp[cU,mI];try rfl) ?_;simp[cU,mI];refine xM (hK _ _ ?_);refine xV fun K hK=>?_;simp[s15];apply hK;refine⟨cx,_,_,AJ.drop 7 (by simp) (by simp) (by simp),?_⟩;simp[clean,s0,s1,s2,s3,s13,s14,AQ cx a1,C6]
 ·have iD:i=g.AD.length:=by omega
  subst iD;have g9:(g.AD.zip ps).take g.AD.length=g.AD.zip ps:=List.take_of_length_le (by simp;omega);rw[g9]at hR;refine Cu ?_;refine⟨fun l h=>(by cases h),_,AJ.JK (by rw[hR];rfl),?_⟩;simp[Am]
end Go.Koi
