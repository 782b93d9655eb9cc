/-
  Part 19 of the proof that the law ChangeRenames of the package koinelaw31 returns true for every input.
-/
import Derived.Test.YtknmpedpidhhbaaGreatDoorK17
set_option maxHeartbeats 64000000
set_option maxRecDepth 100000
namespace Go.Koi
open Go.Proofs Tryz DT
noncomputable def ABi:List AN→Int
 |[]=>0
 |d::ds=>if HW d≠0 then HW d else ABi ds
theorem LV:∀{ds:List AN},(∀k (h:k<ds.length),HW ds[k]=0)→ABi ds=0
 |[],_=>rfl
 |d::ds,h=>by
  have h0:=h 0 (by simp);simp only[List.getElem_cons_zero]at h0;simp only[ABi,h0,ne_eq,not_true,if_false];exact LV fun k hk=>by have:=h (k+1) (by simp;omega);simpa using this
theorem Od:∀{ds:List AN} {i:Nat} (hi:i<ds.length),(∀k (h:k<i),HW (ds[k]'(by omega))=0)→HW ds[i]≠0→ABi ds=HW ds[i]
 |d::ds,0,_,_,hn=>by
  simp only[List.getElem_cons_zero]at hn⊢;simp[ABi,hn]
 |d::ds,i+1,hi,h,hn=>by
  have h0:=h 0 (by omega);simp only[List.getElem_cons_zero]at h0;simp only[List.getElem_cons_succ]at hn⊢;simp only[ABi,h0,ne_eq,not_true,if_false];exact Od (by simpa using hi) (fun k hk=>by have:=h (k+1) (by omega);simpa using this) hn
theorem WH(ds:List AN):Pure prog 194 [.sl (ds.map AA)] (AG (ABi ds)):=by
 refine Pure.AI func194 (by kernel_rfl) rfl (by simp) fun wf=>?_;have a1:ds.length≤maxLen:=by have:=wf.1;simp only[WFD]at this;simpa using this.1
 rw[ntmps194];refine xW fun K hK=>?_;simp;apply hK;refine xS (xW fun K hK=>?_);simp;apply hK;refine Bw ?_;refine DC ds.length (fun i tm S=>tm 6=.d (.sl (ds.map AA))∧tm 7=.d (.int .i64 ds.length)∧tm 8=.d (.int .i64 i)∧S=[]∧∀k (h:k<i) (h':k<ds.length),HW ds[k]=0) (Nat.zero_le _) (by simp) ?_;rintro i tm S hi ⟨t6,t7,t8,rfl,hq⟩;refine xW fun K hK=>?_;simp[t7,t8];apply hK;refine xC ?_;simp;refine⟨fun hlt=>?_,fun hge=>?_⟩
 ·refine xK ?_;refine xB ?_;refine xW fun K hK=>?_;simp[t6,t8,hlt];apply hK;refine Az fun K hK=>?_;refine xJ ?_;simp;refine Bp (Ks ds[i]) rfl (by simp[xN]) ?_;simp;refine xJ ?_;simp;refine Aj (hK _ _ ?_);refine xW fun K hK=>?_;simp;apply hK;refine AU ?_;simp;refine⟨fun hne=>?_,fun he=>?_⟩
  ·refine xW fun K hK=>?_;simp;apply hK;refine Ag ⟨_,_,AJ.refl,?_⟩;(try simp);exact(Od hlt (fun k hk=>hq k hk (by omega)) hne).symm
  ·refine CC ?_;refine xV fun K hK=>?_;simp[t8];apply hK;refine⟨hlt,_,_,AJ.drop 0 (by simp) (by simp) (by simp),?_⟩;simp[clean,t6,t7,AQ hlt a1];intro k hk hk';by_cases e:k=i
   ·subst e;exact he
   ·exact hq k (by omega) hk'
 ·refine Cu ?_;refine xW fun K hK=>?_;simp;apply hK;refine Ag ⟨_,_,AJ.refl,?_⟩;(try simp);exact(LV fun k hk=>hq k (by omega) hk).symm
open Classical in
noncomputable def eL(f:(Int→Bool)→Bool):DT:=if h:∃t:DT,t.Good∧∀c,t.sem c=f c then h.choose else .leaf false
theorem JN{f:(Int→Bool)→Bool}{t:DT}(ht:t.Good)(hs:∀c,t.sem c=f c):eL f=t:=by
 have h:∃t:DT,t.Good∧∀c,t.sem c=f c:=⟨t,ht,hs⟩;unfold eL;rw[dif_pos h];exact DT.unique h.choose_spec.1 ht fun c=>by rw[h.choose_spec.2,hs]
open Classical in
noncomputable def tr(d:AN):DT:=if h:Valid d then h.choose else .leaf false
theorem MP(d:AN):(tr d).Good:=by
 unfold tr;split
 ·next h=>exact h.choose_spec.1
 ·trivial
theorem Fl{d:AN}(h:Valid d):B2 (tr d)=d:=by
 unfold tr;rw[dif_pos h];exact h.choose_spec.2.symm
theorem Ou{t:DT}(h:t.Good):tr (B2 t)=t:=Jt (Fl ⟨t,h,rfl⟩)
noncomputable def Yv(g:Bool→Bool→Bool)(a b:AN):AN:=B2 (eL fun c=>g ((tr a).sem c) ((tr b).sem c))
noncomputable def Du(g:Bool→Bool→Bool)(a b:AN):AN×Int:=
 if ABi [a,b]≠0 then(⟨[],0⟩,ABi [a,b])else if(Yv g a b).nodes.length>4096 then(⟨[],0⟩,2)else(Yv g a b,0)
theorem JJ{f:FuncId}{g:Bool→Bool→Bool}(hf:Mr f g)(a b:AN):
  AE prog 160 [.d (AA a),.d (AA b),.fn (.func f) [] []] [] (.d (.Bd [AA (Du g a b).1,AG (Du g a b).2])) []:=by
 refine AE.B9 func160 (by kernel_rfl) rfl (by simp) fun wf wfs=>?_;rw[ntmps160];refine xW fun K hK=>?_;simp;apply hK;refine xS (Az fun K hK=>?_);refine xJ ?_;simp[maxLen];refine Bp (WH [a,b]) rfl (by simp[xN]) ?_;simp;refine xJ ?_;simp;refine Aj (hK _ _ ?_);(try simp only[xQ,reduceIte]);refine xW fun K hK=>?_;simp;apply hK;refine AU ?_;simp;refine⟨fun hne=>?_,fun he=>?_⟩
 ·refine xW fun K hK=>?_;simp;apply hK;refine Ag ?_;(try simp only[xQ,reduceIte]);refine⟨_,_,_,AJ.refl,by simp,by simp[Du,hne];rfl,AJ.AY 0 (by simp) (by simp) (by simp) (by simp)⟩
 ·have ha:HW a=0:=by
   simp only[ABi]at he;split at he
   ·assumption
   ·next h=>simpa using h
  have hb:HW b=0:=by
   simp only[ABi,ha,ne_eq,not_true,if_false]at he;split at he
   ·assumption
   ·next h=>simpa using h
  have va:=JA ha;have vb:=JA hb;have la:(B2 (tr a)).nodes.length≤4096:=Ky (by rw[Fl va];exact ha);have lb:(B2 (tr b)).nodes.length≤4096:=Ky (by rw[Fl vb];exact hb);have hbox:((B2 (tr a)).nodes.length+2) * ((B2 (tr b)).nodes.length+2) * 2<2 ^ 30:=by
   have h1:=Nat.mul_le_mul (show(B2 (tr a)).nodes.length+2≤4098 by omega) (show(B2 (tr b)).nodes.length+2≤4098 by omega);omega
  obtain⟨t,tg,ts,hc⟩:=KD hf (tr a) (tr b) (MP a) (MP b) hbox;have hop:Yv g a b=B2 t:=by unfold Yv;rw[JN tg ts]
  rw[Fl va,Fl vb]at hc;refine xK ?_;(repeat refine xS ?_);refine BX fun K hK=>?_;refine xJ ?_;simp;refine xF (hc) [2] rfl ?_;simp;refine xJ ?_;simp;refine Bp (Pk (B2 t)) rfl (by simp[xN]) ?_;simp;refine xJ ?_;simp;refine Aj (hK _ _ ?_);(try simp only[xQ,reduceIte]);refine Ag ?_;(try simp only[xQ,reduceIte]);refine⟨_,_,_,AJ.refl,by simp,?_,AJ.AY 0 (by simp) (by simp) (by simp) (by simp)⟩;simp only[Du,he,ne_eq,not_true,if_false,hop];by_cases h4:(B2 t).nodes.length>4096
  ·simp[h4,AA]
  ·have h4':¬4096<(B2 t).nodes.length:=by omega
   simp[h4',AA]
theorem I2(a b:AN):Pure prog 121 [AA a,AA b] (.Bd [AA (Du and a b).1,AG (Du and a b).2]):=by
 refine AE.B9 func121 (by kernel_rfl) rfl (by simp) fun wf wfs=>?_;rw[ntmps121];refine xW fun K hK=>?_;simp;apply hK;(repeat refine xS ?_);refine BX fun K hK=>?_;refine xJ ?_;simp;refine AS.Oa (JJ Fe a b) rfl (by simp;try rfl) ?_;simp;refine xJ ?_;simp;refine Aj (hK _ _ ?_);(try simp only[xQ,reduceIte]);refine Ag ?_;(try simp only[xQ,reduceIte]);refine⟨_,_,_,AJ.refl,by simp,by simp,AJ.AY 0 (by simp) (by simp) (by simp) (by simp)⟩
theorem QH(a b:AN):Pure prog 125 [AA a,AA b] (.Bd [AA (Du or a b).1,AG (Du or a b).2]):=by
 refine AE.B9 func125 (by kernel_rfl) rfl (by simp) fun wf wfs=>?_;rw[ntmps125];refine xW fun K hK=>?_;simp;apply hK;(repeat refine xS ?_);refine BX fun K hK=>?_;refine xJ ?_;simp;refine AS.Oa (JJ Hu a b) rfl (by simp;try rfl) ?_;simp;refine xJ ?_;simp;refine Aj (hK _ _ ?_);(try simp only[xQ,reduceIte]);refine Ag ?_;(try simp only[xQ,reduceIte]);refine⟨_,_,_,AJ.refl,by simp,by simp,AJ.AY 0 (by simp) (by simp) (by simp) (by simp)⟩
open Go.Proofs DT
def DT.Below(n:Nat):DT→Prop
 |.leaf _=>True
 |.node v l h=>v<n∧l.Below n∧h.Below n
structure D9(n:Nat)(t:DT):Prop where
 GM:t.Good
 below:t.Below n
theorem D9.leaf(n:Nat)(b:Bool):D9 n (.leaf b):=⟨trivial,trivial⟩
theorem P0{n:Nat}:∀{t:DT},t.Good→t.Below n→∀k:Nat,(k:Int)≤t.level→k≤n→t.size+1≤2 ^ (n - k):=by
 intro t;induction t with
 |leaf b=>intro _ _ k _ _;simp only[DT.size];exact Nat.one_le_two_pow
 |node v l h ihl ihh=>
  intro hg hb k hk hkn;simp only[DT.level]at hk;have hv0:=hg.1;have hvn:=hb.1;have e1:=ihl hg.2.2.2.2.2.1 hb.2.1 (v.toNat+1) (by have:=hg.2.2.2.1;omega) (by omega);have e2:=ihh hg.2.2.2.2.2.2 hb.2.2 (v.toNat+1) (by have:=hg.2.2.2.2.1;omega) (by omega);have e3:n - k=(n - (v.toNat+1))+(v.toNat+1 - k):=by omega
  have e4:2 ^ (n - (v.toNat+1)) * 2≤2 ^ (n - k):=by
   rw[e3,Nat.pow_add];refine Nat.mul_le_mul_left _ ?_;have:2 ^ 1≤2 ^ (v.toNat+1 - k):=Nat.pow_le_pow_right (by omega) (by omega);simpa using this
  simp only[DT.size];omega
theorem D9.size{n:Nat}{t:DT}(h:D9 n t)(hn:n≤12):t.size≤4095:=by
 have hl:(0:Int)≤t.level:=by
  by_cases e:t.size=0
  ·obtain⟨b,rfl⟩:=Cs e;simp[DT.level]
  ·exact(D4 h.GM e).1
 have:=P0 h.GM h.below 0 (by simpa using hl) (by omega);have h2:2 ^ (n - 0)≤2 ^ 12:=Nat.pow_le_pow_right (by omega) (by omega);have h3:2 ^ 12=4096:=rfl;omega
theorem Nn(t:DT):∀L:List DT,(emit t L).length≤L.length+t.size:=by
 induction t with
 |leaf b=>intro L;simp[emit]
 |node v l h ihl ihh=>
  intro L;unfold emit;split
  ·simp
  ·have h1:=ihl L;have h2:=ihh (emit l L);simp only[List.length_append,List.length_cons,List.length_nil,DT.size];omega
theorem Pv(t:DT):(B2 t).nodes.length≤t.size:=by
 have:=Nn t [];simp only[B2,Za,List.length_map];simpa using this
theorem D9.len{n:Nat}{t:DT}(h:D9 n t)(hn:n≤12):(B2 t).nodes.length≤4095:=Nat.le_trans (Pv t) (h.size hn)
theorem D9.HW{n:Nat}{t:DT}(h:D9 n t)(hn:n≤12):Koi.HW (B2 t)=0:=by
 have:=h.len hn;unfold Koi.HW;rw[if_neg (by omega),if_pos ⟨t,h.GM,rfl⟩]
theorem Ub{n:Nat}:∀{t:DT},t.Good→(∀c (v:Int) b,(n:Int)≤v→t.sem (DT.EJ c v b)=t.sem c)→t.Below n:=by
 intro t;induction t with
 |leaf b=>intro _ _;trivial
 |node v l h ihl ihh=>
  intro hg hi;have hlo:∀c,l.sem c=(DT.node v l h).sem (DT.EJ c v false):=fun c=>by
   have:=Pc hg (v:=v) (Int.le_refl _) c;simpa[DT.lo]using this
  have hhi:∀c,h.sem c=(DT.node v l h).sem (DT.EJ c v true):=fun c=>by
   have:=Ov hg (v:=v) (Int.le_refl _) c;simpa[DT.hi]using this
  have hv:v<n:=by
   by_cases hvn:v<n
   ·exact hvn
   ·exact absurd (DT.unique hg.2.2.2.2.2.1 hg.2.2.2.2.2.2 fun c=>by rw[hlo,hhi,hi _ _ _ (by omega),hi _ _ _ (by omega)]) hg.2.2.1
  have comm:∀(c:Int→Bool) (w:Int) (x y:Bool),w≠v→DT.EJ (DT.EJ c w x) v y=DT.EJ (DT.EJ c v y) w x:=fun c w x y hw=>by
   funext k;simp only[DT.EJ];by_cases e1:k=v
   ·subst e1;rw[if_pos rfl,if_neg (fun e=>hw e.symm),if_pos rfl]
   ·rw[if_neg e1];by_cases e2:k=w
    ·rw[if_pos e2,if_pos e2]
    ·rw[if_neg e2,if_neg e2,if_neg e1]
  refine⟨hv,ihl hg.2.2.2.2.2.1 fun c w b hw=>?_,ihh hg.2.2.2.2.2.2 fun c w b hw=>?_⟩
  ·rw[hlo,hlo,comm _ _ _ _ (by omega),hi _ _ _ hw]
  ·rw[hhi,hhi,comm _ _ _ _ (by omega),hi _ _ _ hw]
theorem D9.indep{n:Nat}{t:DT}(h:D9 n t)(c:Int→Bool)(v:Int)(b:Bool)(hv:(n:Int)≤v):t.sem (DT.EJ c v b)=t.sem c:=by
 obtain⟨hg,hb⟩:=h;induction t with
 |leaf b=>rfl
 |node w l r ihl ihr=>
  have hw:DT.EJ c v b w=c w:=by have:=hb.1;simp only[DT.EJ];rw[if_neg (by omega)]
  simp only[DT.sem,hw];rw[ihl hg.2.2.2.2.2.1 hb.2.1,ihr hg.2.2.2.2.2.2 hb.2.2]
noncomputable def Oz(g:Bool→Bool→Bool)(s t:DT):DT:=eL fun c=>g (s.sem c) (t.sem c)
theorem EP{f:FuncId}{g:Bool→Bool→Bool}(hf:Mr f g){n:Nat}{s t:DT}(hn:n≤12)(hs:D9 n s)(ht:D9 n t):
  D9 n (Oz g s t)∧(∀c,(Oz g s t).sem c=g (s.sem c) (t.sem c))∧Du g (B2 s) (B2 t)=(B2 (Oz g s t),0):=by
 have ls:=hs.len hn;have lt:=ht.len hn;have hbox:((B2 s).nodes.length+2) * ((B2 t).nodes.length+2) * 2<2 ^ 30:=by
  have h1:=Nat.mul_le_mul (show(B2 s).nodes.length+2≤4098 by omega) (show(B2 t).nodes.length+2≤4098 by omega);omega
 obtain⟨u,gu,su,_⟩:=KD hf s t hs.GM ht.GM hbox;have e:Oz g s t=u:=JN gu su;have hu:D9 n u:=⟨gu,Ub gu fun c v b hv=>by rw[su,su,hs.indep c v b hv,ht.indep c v b hv]⟩;refine⟨e▸hu,by rw[e];exact su,?_⟩;have hc:ABi [B2 s,B2 t]=0:=by simp[ABi,hs.HW hn,ht.HW hn]
 have hop:Yv g (B2 s) (B2 t)=B2 u:=by
  unfold Yv;rw[Ou hs.GM,Ou ht.GM];exact congrArg B2 e
 have hl:=hu.len hn;simp only[Du,hc,ne_eq,not_true,if_false,hop,e];rw[if_neg (by omega)]
noncomputable def HT:=Oz and
noncomputable def Wf:=Oz or
theorem Jw{t:DT}(hg:t.Good):(B2 t).root=0↔t=.leaf false:=by
 constructor
 ·intro h;have:=FD t;rw[h]at this;exact this.zero
 ·rintro rfl;rfl
open Go.Proofs Tryz DT
theorem E4(d:AN):Pure prog 120 [AA d,AG 0] (AA d):=by
 refine AE.B9 func120 (by kernel_rfl) rfl (by simp) fun wf wfs=>?_;rw[ntmps120];refine xW fun K hK=>?_;simp;apply hK;refine xS (xW fun K hK=>?_);simp;apply hK;refine AU ?_;simp;refine xK ?_;refine xW fun K hK=>?_;simp;apply hK;refine Ag ?_;(try simp only[xQ,reduceIte]);refine⟨_,_,_,AJ.refl,by simp,by simp,AJ.AY 0 (by simp) (by simp) (by simp) (by simp)⟩
def vT(t:DT):V:=.d (AA (B2 t))
def mI(m:List (Int×DT)):O:=.map (BO (D.int .i64) vT m)
noncomputable def EN{α:Type}[DecidableEq α](m:List (α×DT))(k:α):DT:=(look m k).getD (.leaf false)
def F2{α:Type}(n:Nat)(m:List (α×DT)):Prop:=∀p∈m,D9 n p.2
theorem F2.at{α:Type}[DecidableEq α]{n:Nat}{m:List (α×DT)}(h:F2 n m)(k:α):D9 n (EN m k):=by
 unfold EN;cases hl:look m k with
 |none=>exact D9.leaf n false
 |some t=>exact h _ (F3 hl)
@[simp] theorem dc{α:Type}[DecidableEq α]{ek:α→D}{k:Nat}(l:List (α×DT)):(BO ek vT l).all (fun e=>AAB k e.2)=true:=PD (fun _=>rfl) l
@[simp] theorem fJ{α:Type}(ρ:Nat→Nat)(ek:α→D)(l:List (α×DT)):(BO ek vT l).map (fun p=>(p.1,AAI ρ p.2))=BO ek vT l:=by
 unfold BO;rw[List.map_map];rfl
@[simp] theorem eJ(l:List (Int×DT))(k:Int)(t:DT):DU (BO (D.int .i64) vT l) (.int .i64 k) (.d (AA (B2 t)))=BO (D.int .i64) vT (CU l k t):=C9 (ev:=vT) (by intro a b;rw[Bool.eq_iff_iff];simp[deq]) l k t
theorem QI(m:List (Int×DT))(k:Int):AE prog 128 [.map 0,.d (AG k)] [mI m] (.d (AA (B2 (EN m k)))) [mI m]:=by
 refine AE.B9 func128 (by kernel_rfl) rfl (by simp) fun wf wfs=>?_;rw[ntmps128];unfold mI;(repeat refine xS ?_);refine xV fun K hK=>?_;simp;refine hK _ _ ?_;(try simp only[xQ,reduceIte]);cases hl:look m k with
 |some t=>
  have e:EN m k=t:=by simp[EN,hl]
  rw[e];refine xS (xW fun K hK=>?_);simp[hl,vT];apply hK;refine xW fun K hK=>?_;simp;apply hK;refine AU ?_;simp;refine xW fun K hK=>?_;simp;apply hK;refine Ag ?_;(try simp only[xQ,reduceIte]);refine⟨_,_,_,AJ.refl,by simp,by simp,AJ.AY 1 (by simp) (by simp) (by simp) (by simp)⟩
 |none=>
  have e:EN m k=.leaf false:=by simp[EN,hl]
  rw[e];refine xS (xW fun K hK=>?_);simp[hl];apply hK;refine xW fun K hK=>?_;simp;apply hK;refine AU ?_;simp;refine xK ?_;(repeat refine xS ?_);refine BX fun K hK=>?_;refine xJ ?_;simp;refine Bp (Fb false) rfl (by simp) ?_;simp;refine xJ ?_;simp;refine Aj (hK _ _ ?_);(try simp only[xQ,reduceIte]);refine Ag ?_;(try simp only[xQ,reduceIte]);refine⟨_,_,_,AJ.refl,by simp,by simp[Ed,AA],AJ.AY 1 (by simp) (by simp) (by simp) (by simp)⟩
noncomputable def stepT(m:List (Int×DT))(t:DT)(s:Symbol):DT:=if s.token=false∧t≠.leaf false then HT t (EN m s.index)else t
noncomputable def Fp(m:List (Int×DT))(t:DT)(l:List Symbol):DT:=l.foldl (stepT m) t
theorem WG{n:Nat}{m:List (Int×DT)}{t:DT}(hn:n≤12)(hm:F2 n m)(ht:D9 n t)(s:Symbol):D9 n (stepT m t s):=by
 unfold stepT;split
 ·exact(EP Fe hn ht (hm.at _)).1
 ·exact ht
theorem HK{n:Nat}{m:List (Int×DT)}(hn:n≤12)(hm:F2 n m)(l:List Symbol):∀{t:DT},D9 n t→D9 n (Fp m t l):=by
 induction l with
 |nil=>intro t h;exact h
 |cons s l ih=>intro t h;exact ih (WG hn hm h s)
theorem R8(m:List (Int×DT))(t:DT)(l:List Symbol){i:Nat}(hi:i<l.length):Fp m t (l.take (i+1))=stepT m (Fp m t (l.take i)) l[i]:=by
 unfold Fp;rw[List.take_succ_eq_append_getElem hi,List.foldl_append];rfl
theorem Tz{n:Nat}(hn:n≤12)(m:List (Int×DT))(hm:F2 n m)(t:DT)(ht:D9 n t)(l:List Symbol):
  AE prog 123 [.d (AA (B2 t)),.d (As l),.map 0] [mI m] (.d (AA (B2 (Fp m t l)))) [mI m]:=by
 refine AE.B9 func123 (by kernel_rfl) rfl (by simp) fun wf wfs=>?_;have a1:l.length≤maxLen:=by have:=wf.2.1;simp only[WFV]at this;simpa using this.1
 rw[ntmps123];unfold mI;refine xW fun K hK=>?_;simp;apply hK;refine xS (xW fun K hK=>?_);simp;apply hK;refine Bw ?_;refine DC l.length (fun i tm S=>tm 2=.map 0∧tm 3=.ptr 1 1 0 0∧tm 6=.ptr 2 1 0 0∧tm 9=.d (As l)∧tm 10=.d (.int .i64 l.length)∧tm 11=.d (.int .i64 i)∧S=[mI m,.row true 2 [.d (AA (B2 (Fp m t (l.take i))))],.row true 2 [.agg [.full [],.d (.int .i64 0)]]]) (i0:=0) (Nat.zero_le _) (by simp[mI,Fp]) ?_;rintro i tm S hi ⟨t2,t3,t6,t9,t10,t11,rfl⟩;unfold mI;refine xW fun K hK=>?_;simp[t10,t11];apply hK;refine xC ?_;simp;refine⟨fun hlt=>?_,fun hge=>?_⟩
 ·have hT:=HK hn hm (l.take i) ht;generalize hX:Fp m t (l.take i)=X at *;have hroot:=Jw hT.GM;have hst:Fp m t (l.take (i+1))=stepT m X l[i]:=by rw[R8 m t l hlt,hX]
  rw[hst];refine xK ?_;refine xB ?_;refine xW fun K hK=>?_;simp[t9,t11,hlt];apply hK;refine xW fun K hK=>?_;simp[t3];apply hK;refine AU ?_;simp;refine⟨fun h1 h2=>?_,fun h=>?_⟩
  ·have hstep:stepT m X l[i]=HT X (EN m l[i].index):=by
    unfold stepT;rw[if_pos ⟨h1,fun e=>h2 (hroot.2 e)⟩]
   obtain⟨o1,o2,o3⟩:=EP Fe hn hT (hm.at l[i].index);rw[hstep];refine xE [0,2,4,6,8,10,12,14,16,19] (by kernel_rfl) fun K hK=>?_;simp;refine xA 0 ?_;simp[t2,t3];refine Ae.ar _ (QI m l[i].index) rfl rfl (by simp[mI];try rfl) ?_;simp;refine xA 0 ?_;simp;refine Ae.CA (I2 (B2 X) (B2 (EN m l[i].index))) rfl (by simp[xN]) ?_;simp[o3];refine xA 0 ?_;simp;refine Ae.CA (E4 (B2 (Oz and X (EN m l[i].index)))) rfl (by simp[xN]) ?_;simp;refine xX 511 (by kernel_rfl) ?_;simp[t3];refine xM (hK _ _ ?_);refine xV fun K hK=>?_;simp[t11];apply hK;refine⟨hlt,_,_,AJ.drop 3 (by simp) (by simp) (by simp),?_⟩;simp[clean,t2,t3,t6,t9,t10,AQ hlt a1,HT]
  ·have hstep:stepT m X l[i]=X:=by
    unfold stepT;rw[if_neg (fun hh=>hh.2 (hroot.1 (h hh.1)))]
   rw[hstep];refine CC ?_;refine xV fun K hK=>?_;simp[t11];apply hK;refine⟨hlt,_,_,AJ.drop 3 (by simp) (by simp) (by simp),?_⟩;simp[clean,t2,t3,t6,t9,t10,AQ hlt a1]
 ·have hil:i=l.length:=by omega
  subst hil;rw[List.take_length];refine Cu ?_;refine xW fun K hK=>?_;simp[t3,t6];apply hK;refine Ag ?_;(try simp only[xQ,reduceIte]);refine⟨_,_,_,AJ.refl,by simp[t6],by simp[t6],AJ.AY 1 (by simp) (by simp) (by simp) (by simp)⟩
open Go.Proofs Tryz DT
attribute [simp] mI
open Classical in
noncomputable def Gw(m:List (Int×DT))(ch:Bool)(k:Int)(d:DT):List (Int×DT)×Bool:=
 if d=.leaf false then(m,ch)else if EN m k=Wf (EN m k) d then(m,ch)else(CU m k (Wf (EN m k) d),true)
def cU(m:List (Int×DT))(ch:Bool):Sg:=[.row true 1 [.map 2],.row true 1 [.d (.bool ch)],mI m]
theorem F2.put{n:Nat}{m:List (Int×DT)}(h:F2 n m)(k:Int){t:DT}(ht:D9 n t):F2 n (CU m k t):=by
 intro p hp;unfold CU at hp;split at hp
 ·obtain⟨q,hq,rfl⟩:=List.mem_map.1 hp;split
  ·exact ht
  ·exact h q hq
 ·rcases List.mem_append.1 hp with hp|hp
  ·exact h p hp
  ·simp only[List.mem_singleton]at hp;subst hp;exact ht
theorem X9{n:Nat}(hn:n≤12){m:List (Int×DT)}(hm:F2 n m)(ch:Bool)(k:Int){d:DT}(hd:D9 n d):F2 n (Gw m ch k d).1:=by
 unfold Gw;split
 ·exact hm
 ·split
  ·exact hm
  ·exact hm.put k (EP Hu hn (hm.at k) hd).1
theorem au{n:Nat}(hn:n≤12)(m:List (Int×DT))(hm:F2 n m)(ch:Bool)(k:Int)(d:DT)(hd:D9 n d):
  AE prog 198 [.d (AG k),.d (AA (B2 d)),.ptr 0 1 0 0,.ptr 1 1 0 0] (cU m ch) (.Bd []) (cU (Gw m ch k d).1 (Gw m ch k d).2):=by
 have hroot:=Jw hd.GM;obtain⟨o1,o2,o3⟩:=EP Hu hn (hm.at k) hd;refine AE.AI func198 (by kernel_rfl) rfl (by simp) fun wf wfs=>?_;rw[ntmps198];unfold cU mI;refine xW fun K hK=>?_;simp;apply hK;refine xS (xW fun K hK=>?_);simp;apply hK;refine AU ?_;simp;refine⟨fun h=>?_,fun h=>?_⟩
 ·have e:Gw m ch k d=(m,ch):=by unfold Gw;rw[if_pos (hroot.1 h)]
  rw[e];refine Ag ?_;(try simp only[]);refine⟨_,AJ.AY 3 (by simp) (by simp) (by simp) (by simp),?_⟩;simp[Am]
 ·have hd0:¬d=.leaf false:=fun e=>h (hroot.2 e);refine xK ?_;refine Az fun K hK=>?_;refine xJ ?_;simp;refine xF (QI m k) [2] rfl ?_;simp[mI];refine xJ ?_;simp;refine Aj (hK _ _ ?_);refine Az fun K hK=>?_;refine xJ ?_;simp;refine Bp (QH (B2 (EN m k)) (B2 d)) rfl (by simp[xN]) ?_;simp[o3];refine xJ ?_;simp;refine Bp (E4 (B2 (Oz or (EN m k) d))) rfl (by simp[xN]) ?_;simp;refine xJ ?_;simp;refine Aj (hK _ _ ?_);refine Az fun K hK=>?_;refine xJ ?_;simp;refine Bp (E0 (B2 (EN m k)) (B2 (Oz or (EN m k) d))) rfl (by simp[xN]) ?_;simp;refine xJ ?_;simp;refine Aj (hK _ _ ?_);refine AU ?_;simp;refine⟨fun hne=>?_,fun he=>?_⟩
  ·have e:Gw m ch k d=(CU m k (Wf (EN m k) d),true):=by
    unfold Gw;rw[if_neg hd0,if_neg (fun e:EN m k=Wf (EN m k) d=>hne (congrArg B2 e))]
   rw[e];refine xW fun K hK=>?_;simp;apply hK;refine xV fun K hK=>?_;simp;apply hK;refine⟨_,AJ.AY 3 (by simp;rfl) (by simp) (by simp) (by simp),?_⟩;simp[Am]
  ·have e:Gw m ch k d=(m,ch):=by
    unfold Gw;rw[if_neg hd0,if_pos (show EN m k=Wf (EN m k) d from Jt he)]
   rw[e];refine CC ?_;refine⟨_,AJ.AY 3 (by simp) (by simp) (by simp) (by simp),?_⟩;simp[Am]
def C6(g:AF)(ps:List DT):D:=.agg (AAL (AB g)++[.sl (ps.map fun t=>AA (B2 t))])
def EC(l:List Symbol):Bool:=l.any (·.token)
noncomputable def EM(empty:Bool)(s:List (Int×DT)×Bool)(p:AT×DT):List (Int×DT)×Bool:=
 if empty&&EC p.1.right then s else Gw s.1 s.2 p.1.left (Fp s.1 p.2 p.1.right)
noncomputable def Cm(empty:Bool)(l:List (AT×DT))(s:List (Int×DT)×Bool):List (Int×DT)×Bool:=l.foldl (EM empty) s
def eM{α:Type}(n:Nat)(l:List (α×DT)):Prop:=∀p∈l,D9 n p.2
theorem NS{n:Nat}(hn:n≤12)(empty:Bool){s:List (Int×DT)×Bool}(hs:F2 n s.1){p:AT×DT}(hp:D9 n p.2):F2 n (EM empty s p).1:=by
 unfold EM;split
 ·exact hs
 ·exact X9 hn hs _ _ (HK hn hs _ hp)
theorem HS{n:Nat}(hn:n≤12)(empty:Bool):∀(l:List (AT×DT)) {s:List (Int×DT)×Bool},F2 n s.1→eM n l→F2 n (Cm empty l s).1
 |[],_,hs,_=>hs
 |p::l,_,hs,hl=>HS hn empty l (NS hn empty hs (hl p (by simp))) fun q hq=>hl q (by simp[hq])
theorem ON(empty:Bool)(l:List (AT×DT))(s:List (Int×DT)×Bool){i:Nat}(hi:i<l.length):Cm empty (l.take (i+1)) s=EM empty (Cm empty (l.take i) s) l[i]:=by
 unfold Cm;rw[List.take_succ_eq_append_getElem hi,List.foldl_append];rfl
def SB(g:AF)(ps:List DT)(empty:Bool)(m:List (Int×DT))(ch:Bool):Sg:=
 [.row true 1 [.ptr 6 1 0 0],.row true 1 [.d (.bool empty)],.row true 1 [.map 5],.row true 1 [.map 5],.row true 1 [.d (.bool ch)],mI m,.row true 10 [.d (C6 g ps)]]
def addFn:V:=.fn (.func 198) [] [.ptr 3 1 0 0,.ptr 4 1 0 0]
theorem Uw{n:Nat}(hn:n≤12)(g:AF)(ps:List DT)(hlen:ps.length=g.AD.length)(hps:∀t∈ps,D9 n t)(empty:Bool)(m:List (Int×DT))(hm:F2 n m)(ch:Bool):
  AE prog 163 [addFn,.ptr 0 1 0 0,.ptr 1 1 0 0,.ptr 2 1 0 0] (SB g ps empty m ch) (.Bd [])
   (SB g ps empty (Cm empty (g.AD.zip ps) (m,ch)).1 (Cm empty (g.AD.zip ps) (m,ch)).2):=by
 unfold addFn;have hL:eM n (g.AD.zip ps):=fun p hp=>hps _ (List.of_mem_zip hp).2;refine AE.AI func163 (by kernel_rfl) rfl (by simp) fun wf wfs=>?_;simp[SB,mI,AB4,WFO,ABH,WFV,C6,WFD,AAY]at wfs;obtain⟨_,_,_,_,_,_,_,_,⟨a1,a2⟩,_⟩:=wfs;have a3:∀p∈g.AD,p.right.length≤maxLen:=fun p hp=>by
  rw[DM]at a2;have:=a2 p hp;simp[AH,WFD,AAY]at this;exact this.2.2.1.1
 rw[ntmps163];unfold SB mI;refine AW.scope ?_;refine xS ?_;refine AW.label ?_;simp only[AAo];refine Az fun K hK=>?_;refine xJ ?_;simp[C6];refine Aj (hK _ _ ?_);refine Bw ?_;refine DC g.AD.length (fun i tm S=>tm 0=.fn (.func 198) [] [.ptr 3 1 0 0,.ptr 4 1 0 0]∧tm 1=.ptr 0 1 0 0∧tm 2=.ptr 1 1 0 0∧tm 3=.ptr 2 1 0 0∧tm 13=.d (Bb g.AD)∧tm 14=.d (.int .i64 g.AD.length)∧tm 15=.d (.int .i64 i)∧S=SB g ps empty (Cm empty ((g.AD.zip ps).take i) (m,ch)).1 (Cm empty ((g.AD.zip ps).take i) (m,ch)).2) (i0:=0) (Nat.zero_le _) (by simp[SB,mI,C6,Cm]) ?_;rintro i tm S hi ⟨t0,t1,t2,t3,t13,t14,t15,rfl⟩;generalize hR:Cm empty ((g.AD.zip ps).take i) (m,ch)=R;refine xW fun K hK=>?_;simp[t14,t15];apply hK;refine xC ?_;simp;refine⟨fun hlt=>?_,fun hge=>?_⟩
 ·have hil:i<(g.AD.zip ps).length:=by simp;omega
  have hips:i<ps.length:=by omega
  have hRok:F2 n R.1:=by rw[←hR];exact HS hn empty _ hm fun p hp=>hL p (List.mem_of_mem_take hp)
  have hstep:Cm empty ((g.AD.zip ps).take (i+1)) (m,ch)=EM empty R (g.AD[i],ps[i]):=by
   rw[ON empty _ _ hil,hR];simp
  have hp3:=a3 g.AD[i] (List.getElem_mem hlt);rw[hstep];generalize hp:g.AD[i]=p at *;refine xK ?_;refine xB ?_;refine xW fun K hK=>?_;simp[t13,t15,hlt,hp];apply hK;refine xS (xW fun K hK=>?_);simp;apply hK;refine Bw ?_;refine DC p.right.length (fun j tm' S=>tm' 0=.fn (.func 198) [] [.ptr 3 1 0 0,.ptr 4 1 0 0]∧tm' 1=.ptr 0 1 0 0∧tm' 2=.ptr 1 1 0 0∧tm' 3=.ptr 2 1 0 0∧tm' 13=.d (Bb g.AD)∧tm' 14=.d (.int .i64 g.AD.length)∧tm' 15=.d (.int .i64 i)∧tm' 5=.d (.int .i64 i)∧tm' 6=.ptr 7 1 0 0∧tm' 21=.d (As p.right)∧tm' 22=.d (.int .i64 p.right.length)∧tm' 23=.d (.int .i64 j)∧S=SB g ps empty R.1 R.2++[.row true 13 [.d (AH p)]]∧∀k (h:k<j) (h':k<p.right.length),¬(p.right[k].token=true∧empty=true)) (i0:=0) (Nat.zero_le _) (by simp[SB,mI,C6,AH,t0,t1,t2,t3,t13,t14,t15]) ?_;rintro j tm' S hj ⟨s0,s1,s2,s3,s13,s14,s15,s5,s6,s21,s22,s23,rfl,hno⟩;refine xW fun K hK=>?_;simp[s22,s23];apply hK;refine xC ?_;simp;refine⟨fun hlt2=>?_,fun hge2=>?_⟩
  ·refine xK ?_;refine xB ?_;unfold SB;refine xW fun K hK=>?_;simp[s21,s23,hlt2];apply hK;(repeat refine xS ?_);refine xV fun K hK=>?_;simp[s2];refine hK _ _ ?_;(try simp only[xQ,reduceIte]);by_cases hbad:p.right[j].token=true∧empty=true
   ·have hst:EM empty R (p,ps[i])=R:=by
     unfold EM;rw[if_pos];simp only[Bool.and_eq_true,EC,List.any_eq_true];exact⟨hbad.2,_,List.getElem_mem hlt2,hbad.1⟩
    rw[hst];refine AU ?_;simp[hbad.1,hbad.2];refine Cu ?_;refine xV fun K hK=>?_;simp[s15];apply hK;refine⟨hlt,_,_,AJ.drop 7 (by simp) (by simp) (by simp),?_⟩;simp[clean,s0,s1,s2,s3,s13,s14,AQ hlt a1]
   ·refine AU ?_;simp;refine⟨fun h1 h2=>absurd ⟨h1,h2⟩ hbad,fun _=>?_⟩;refine CC ?_;refine xV fun K hK=>?_;simp[s23];apply hK;refine⟨hlt2,_,_,AJ.drop 8 (by simp) (by simp) (by simp),?_⟩;simp[clean,s0,s1,s2,s3,s13,s14,s15,s5,s6,s21,s22,AQ hlt2 hp3];intro k hk hk';by_cases e:k=j
    ·subst e;intro h1;cases he:empty with
     |false=>rfl
     |true=>exact absurd ⟨h1,he⟩ hbad
    ·intro h1;cases he:empty with
     |false=>rfl
     |true=>exact absurd ⟨h1,he⟩ (hno k (by omega) hk')
  ·have hst:EM empty R (p,ps[i])=Gw R.1 R.2 p.left (Fp R.1 ps[i] p.right):=by
    unfold EM;rw[if_neg];simp only[Bool.and_eq_true,EC,List.any_eq_true];rintro⟨he,x,hx,hxt⟩;obtain⟨k,hk,rfl⟩:=List.mem_iff_getElem.1 hx;exact hno k (by omega) hk ⟨hxt,he⟩
   have hall:=HK hn hRok p.right (hps _ (List.getElem_mem hips));rw[hst];unfold SB mI;refine Cu ?_;refine xE [0,2,4,6,8,10,12,14,16,18,20,22,24,26,29] (by kernel_rfl) fun K hK=>?_;simp;refine xA 2 ?_;simp[s0,s1,s3,s5,s6,C6,hips];refine Ae.Ul (Tz hn R.1 hRok ps[i] (hps _ (List.getElem_mem hips)) p.right) [5] rfl (by simp[mI];try rfl) ?_;simp;refine Ae.Ds (xT [1,0,0,0,0,0,0,0,0,0,0,1,0,1]) (au hn R.1 hRok R.2 p.left _ hall) [3,4,5] (by kernel_rfl) rfl (by simp[cU,mI];try rfl) ?_;simp[cU,mI];refine xM (hK _ _ ?_);refine xV fun K hK=>?_;simp[s15];apply hK;refine⟨hlt,_,_,AJ.drop 7 (by simp) (by simp) (by simp),?_⟩;simp[clean,s0,s1,s2,s3,s13,s14,AQ hlt a1,C6]
 ·have hil:i=g.AD.length:=by omega
  subst hil;have htk:(g.AD.zip ps).take g.AD.length=g.AD.zip ps:=List.take_of_length_le (by simp;omega);rw[htk]at hR;refine Cu ?_;refine⟨fun l h=>(by cases h),_,AJ.JK (by rw[hR];rfl),?_⟩;simp[Am]
open Go.Proofs Tryz DT
def ACb:Nat→List (Int→Bool)
 |0=>[fun _=>false]
 |n+1=>ACb n++(ACb n).map fun c=>DT.EJ c n true
theorem OC(c:Int→Bool):∀n:Nat,∃c'∈ACb n,∀v:Int,0≤v→v<n→c' v=c v
 |0=>⟨fun _=>false,by simp[ACb],fun v h0 h1=>absurd h1 (by omega)⟩
 |n+1=>by
  obtain⟨c',hc,h⟩:=OC c n;by_cases e:c n=true
  ·refine⟨DT.EJ c' n true,List.mem_append_right _ (List.mem_map.2 ⟨c',hc,rfl⟩),fun v h0 h1=>?_⟩;simp only[DT.EJ];by_cases ev:v=n
   ·subst ev;rw[if_pos rfl,e]
   ·rw[if_neg ev];exact h v h0 (by omega)
  ·have hz:∀(k:Nat),∀x∈ACb k,∀v:Int,(k:Int)≤v→x v=false:=by
    intro k;induction k with
    |zero=>intro x hx v _;simp[ACb]at hx;subst hx;rfl
    |succ k ih=>
     intro x hx v hv;rcases List.mem_append.1 hx with hx|hx
     ·exact ih x hx v (by omega)
     ·obtain⟨y,hy,rfl⟩:=List.mem_map.1 hx;simp only[DT.EJ];rw[if_neg (by omega)];exact ih y hy v (by omega)
   refine⟨c',List.mem_append_left _ hc,fun v h0 h1=>?_⟩;by_cases ev:v=n
   ·subst ev;rw[hz n c' hc n (Int.le_refl _)];cases hh:c n with
    |false=>rfl
    |true=>exact absurd hh e
   ·exact h v h0 (by omega)
theorem LY{n:Nat}{t:DT}(h:D9 n t){c c':Int→Bool}(hc:∀v:Int,0≤v→v<n→c' v=c v):t.sem c'=t.sem c:=by
 obtain⟨hg,hb⟩:=h;induction t with
 |leaf b=>rfl
 |node w l r ihl ihr=>
  simp only[DT.sem];rw[hc w hg.1 hb.1,ihl hg.2.2.2.2.2.1 hb.2.1,ihr hg.2.2.2.2.2.2 hb.2.2]
theorem Lg{α:Type}{p q:α→Bool}:∀{l:List α},(∀x∈l,p x=true→q x=true)→(∃x∈l,q x=true∧p x=false)→l.countP p<l.countP q
 |[],_,h=>by obtain⟨x,hx,_⟩:=h;simp at hx
 |x::l,h1,h2=>by
  have hle:l.countP p≤l.countP q:=List.countP_mono_left fun y hy hp=>h1 y (by simp[hy]) hp;rw[List.countP_cons,List.countP_cons];obtain⟨y,hy,hq,hp⟩:=h2;rcases List.mem_cons.1 hy with rfl|hy
  ·simp only[hq,hp,if_true];simp;omega
  ·have:=Lg (fun z hz=>h1 z (by simp[hz])) ⟨y,hy,hq,hp⟩;have hx:=h1 x (by simp);by_cases e:p x=true
   ·simp only[e,hx e,if_true];omega
   ·rw[if_neg e];split<;>omega
def outs(n:Nat)(t:DT):Nat:=(ACb n).countP fun c=>!t.sem c
theorem Xe{n:Nat}{s t:DT}(hs:D9 n s)(ht:D9 n t)(h:∀c,s.sem c=true→t.sem c=true)(hne:s≠t):outs n t<outs n s:=by
 refine Lg (fun c _ hc=>?_) ?_
 ·simp only[Bool.not_eq_true']at hc⊢;cases e:s.sem c with
  |false=>rfl
  |true=>rw[h c e]at hc;cases hc
 ·have:¬∀c,s.sem c=t.sem c:=fun hh=>hne (DT.unique hs.GM ht.GM hh);obtain⟨c,hc⟩:=Classical.not_forall.1 this;obtain⟨c',hm,ha⟩:=OC c n;refine⟨c',hm,?_⟩;rw[LY hs ha,LY ht ha];cases e1:s.sem c with
  |true=>exact absurd (e1.trans (h c e1).symm) hc
  |false=>cases e2:t.sem c with
   |true=>simp
   |false=>exact absurd (e1.trans e2.symm) hc
theorem XS{n:Nat}{s t:DT}(h:∀c,s.sem c=true→t.sem c=true):outs n t≤outs n s:=
 List.countP_mono_left fun c _ hc=>by
  simp only[Bool.not_eq_true']at hc⊢;cases e:s.sem c with
  |false=>rfl
  |true=>rw[h c e]at hc;cases hc
noncomputable def mu{α:Type}[DecidableEq α](n:Nat)(ks:List α)(m:List (α×DT)):Nat:=(ks.map fun k=>outs n (EN m k)).sum
theorem Qx{α:Type}[DecidableEq α](m:List (α×DT))(k:α)(t:DT)(j:α):EN (CU m k t) j=if j=k then t else EN m j:=by
 unfold EN;rw[E9];split<;>rfl
theorem VQ{α:Type}{f g:α→Nat}:∀{l:List α},(∀x∈l,f x≤g x)→(l.map f).sum≤(l.map g).sum
 |[],_=>Nat.le_refl _
 |x::l,h=>by
  have h1:=h x (by simp);have h2:=VQ (l:=l) fun y hy=>h y (by simp[hy]);simp only[List.map_cons,List.sum_cons];omega
theorem V0{α:Type}{f g:α→Nat}:∀{l:List α},(∀x∈l,f x≤g x)→(∃x∈l,f x<g x)→(l.map f).sum<(l.map g).sum
 |[],_,h=>by obtain⟨x,hx,_⟩:=h;simp at hx
 |x::l,h,h'=>by
  have h1:=h x (by simp);have h2:=VQ (l:=l) fun y hy=>h y (by simp[hy]);simp only[List.map_cons,List.sum_cons];obtain⟨y,hy,hlt⟩:=h';rcases List.mem_cons.1 hy with rfl|hy
  ·omega
  ·have:=V0 (l:=l) (fun y hy=>h y (by simp[hy])) ⟨y,hy,hlt⟩;omega
theorem ADE{α:Type}[DecidableEq α]{n:Nat}{ks:List α}{m:List (α×DT)}{k:α}{t:DT}(hk:k∈ks)(hm:D9 n (EN m k))(ht:D9 n t)(h:∀c,(EN m k).sem c=true→t.sem c=true)(hne:EN m k≠t):
  mu n ks (CU m k t)<mu n ks m:=by
 refine V0 (fun j _=>?_) ⟨k,hk,?_⟩
 ·rw[Qx];split
  ·next e=>subst e;exact XS h
  ·exact Nat.le_refl _
 ·rw[Qx,if_pos rfl];exact Xe hm ht h hne
theorem XL{n:Nat}(hn:n≤12){ks:List Int}{m:List (Int×DT)}(hm:F2 n m)(ch:Bool){k:Int}(hk:k∈ks){d:DT}(hd:D9 n d):
  Gw m ch k d=(m,ch)∨((Gw m ch k d).2=true∧mu n ks (Gw m ch k d).1<mu n ks m):=by
 obtain⟨o1,o2,_⟩:=EP Hu hn (hm.at k) hd;unfold Gw;split
 ·exact .inl rfl
 ·split
  ·exact .inl rfl
  ·next hne=>exact .inr ⟨rfl,ADE hk (hm.at k) o1 (fun c hc=>by show(Oz or (EN m k) d).sem c=true;rw[o2,hc];rfl) hne⟩
theorem Li{n:Nat}(hn:n≤12)(empty:Bool){ks:List Int}:∀(l:List (AT×DT)) (s:List (Int×DT)×Bool),F2 n s.1→eM n l→(∀p∈l,p.1.left∈ks)→mu n ks (Cm empty l s).1≤mu n ks s.1∧((Cm empty l s).2=true→s.2=true∨mu n ks (Cm empty l s).1<mu n ks s.1)
 |[],s,_,_,_=>⟨Nat.le_refl _,fun h=>.inl h⟩
 |p::l,s,hs,hl,hk=>by
  have hp:=hl p (by simp);obtain⟨i1,i2⟩:=Li hn empty l (EM empty s p) (NS hn empty hs hp) (fun q hq=>hl q (by simp[hq])) (fun q hq=>hk q (by simp[hq]));have e:Cm empty (p::l) s=Cm empty l (EM empty s p):=rfl;rw[e];have hst:EM empty s p=s∨((EM empty s p).2=true∧mu n ks (EM empty s p).1<mu n ks s.1):=by
   unfold EM;split
   ·exact .inl rfl
   ·exact XL hn hs s.2 (hk p (by simp)) (HK hn hs _ hp)
  rcases hst with hst|⟨h1,h2⟩
  ·rw[hst]at i1 i2⊢;exact⟨i1,i2⟩
  ·exact⟨by omega,fun _=>.inr (by omega)⟩
noncomputable def ACJ(empty:Bool)(l:List (AT×DT)):Nat→List (Int×DT)→List (Int×DT)
 |0,m=>m
 |f+1,m=>if(Cm empty l (m,false)).2 then ACJ empty l f (Cm empty l (m,false)).1 else(Cm empty l (m,false)).1
def Vj(g:AF)(ps:List DT)(empty:Bool)(m:List (Int×DT)):Sg:=
 [.row true 1 [.ptr 4 1 0 0],.row true 1 [.d (.bool empty)],.row true 1 [.map 3],mI m,.row true 10 [.d (C6 g ps)]]
theorem VC{n:Nat}(hn:n≤12)(g:AF)(ps:List DT)(hlen:ps.length=g.AD.length)(hps:∀t∈ps,D9 n t)(empty:Bool)(m:List (Int×DT))(hm:F2 n m):
  ∃m',F2 n m'∧m'=ACJ empty (g.AD.zip ps) (mu n (g.AD.map (·.left)) m+1) m∧AE prog 162 [.map 3,.fn (.func 163) [] [.ptr 0 1 0 0,.ptr 1 1 0 0,.ptr 2 1 0 0]] (Vj g ps empty m) (.Bd []) (Vj g ps empty m'):=by
 have hL:eM n (g.AD.zip ps):=fun p hp=>hps _ (List.of_mem_zip hp).2;have hKs:∀p∈g.AD.zip ps,p.1.left∈g.AD.map (·.left):=fun p hp=>List.mem_map.2 ⟨p.1,(List.of_mem_zip hp).1,rfl⟩;obtain⟨F,hF⟩:∃F,F=ACJ empty (g.AD.zip ps) (mu n (g.AD.map (·.left)) m+1) m:=⟨_,rfl⟩;have hfix:∀(f:Nat) m,F2 n m→F2 n (ACJ empty (g.AD.zip ps) f m):=by
  intro f;induction f with
  |zero=>intro m h;exact h
  |succ f ih=>
   intro m h;have:=HS hn empty (g.AD.zip ps) (s:=(m,false)) h hL;simp only[ACJ];split
   ·exact ih _ this
   ·exact this
 refine⟨F,hF▸hfix _ _ hm,hF,?_⟩;refine AE.AI func162 (by kernel_rfl) rfl (by simp) fun wf wfs=>?_;rw[ntmps162];unfold Vj;refine xW fun K hK=>?_;simp;apply hK;refine xW fun K hK=>?_;simp;apply hK;refine Bw ?_;refine AW.loop (fun k tm S=>tm 1=.fn (.func 163) [] [.ptr 0 1 0 0,.ptr 1 1 0 0,.ptr 2 1 0 0]∧tm 2=.ptr 5 1 0 0∧tm 4=.ptr 6 1 0 0∧∃m' ch,F2 n m'∧S=Vj g ps empty m'++[.row true 1 [.map 3],.row true 1 [.d (.bool ch)]]∧((ch=true∧mu n (g.AD.map (·.left)) m'<k∧ACJ empty (g.AD.zip ps) k m'=F)∨(ch=false∧m'=F))) ⟨mu n (g.AD.map (·.left)) m+1,_,_,AJ.refl,by simp,by simp,by simp,m,true,hm,rfl,.inl ⟨rfl,Nat.lt_succ_self _,hF.symm⟩⟩ ?_;rintro k tm S ⟨t1,t2,t4,m',ch,hm',rfl,hcase⟩;rcases hcase with⟨rfl,hk,hf⟩|⟨rfl,rfl⟩
 ·obtain⟨k,rfl⟩:∃k',k=k'+1:=⟨k - 1,by omega⟩;obtain⟨q1,q2⟩:=Li hn empty (ks:=g.AD.map (·.left)) (g.AD.zip ps) (m',false) hm' hL hKs;have q3:=HS hn empty (g.AD.zip ps) (s:=(m',false)) hm' hL;have hc:=Uw hn g ps hlen hps empty m' hm' false;simp only[ACJ]at hf;generalize Cm empty (g.AD.zip ps) (m',false)=R at q1 q2 q3 hc hf;unfold Vj;refine xS (xW fun K hK=>?_);simp[t4];apply hK;refine AU ?_;simp;refine xK ?_;refine xB ?_;refine xW fun K hK=>?_;simp[t4];apply hK;refine BX fun K hK=>?_;refine xJ ?_;simp[t1,t2,t4];refine xF (hc) [0,1,2,5,6,3,4] rfl ?_;simp[SB,addFn];refine xJ ?_;simp;refine Aj (hK _ _ ?_);refine xW fun K hK=>?_;simp[t4];apply hK;refine xV fun K hK=>?_;simp;apply hK;refine⟨if R.2 then k else 0,?_,_,_,AJ.Cy [0,1,2,3,4,5,7] (S0:=Vj g ps empty R.1++[.row true 1 [.map 3],.row true 1 [.d (.bool R.2)]]) ?_ ?_ ?_,?_⟩
  ·split<;>omega
  ·simp[Vj]
  ·simp
  ·rfl
  ·simp[pick,t1,t2];refine⟨⟨by decide,by decide⟩,by decide,by decide,R.1,q3,?_⟩;cases hR2:R.2 with
   |false=>exact .inl ⟨by simp[Vj],by simpa[hR2]using hf⟩
   |true=>
    have hq:mu n (g.AD.map (·.left)) R.1<mu n (g.AD.map (·.left)) m':=by
     rcases q2 hR2 with h|h
     ·cases h
     ·exact h
    exact .inr ⟨by simp[Vj],by simp;omega,by simpa[hR2]using hf⟩
 ·unfold Vj;refine xS (xW fun K hK=>?_);simp[t4];apply hK;refine AU ?_;simp;refine Cu ?_;refine⟨_,AJ.AY 5 (by simp) (by simp) (by simp) (by simp),?_⟩;simp[Am]
def Em(g:AF)(ps:List DT):O:=.row true 10 [.d (C6 g ps)]
noncomputable def fM(n:Nat)(empty:Bool)(g:AF)(ps:List DT):List (Int×DT):=ACJ empty (g.AD.zip ps) (mu n (g.AD.map (·.left)) []+1) []
theorem Mw{n:Nat}(hn:n≤12)(g:AF)(ps:List DT)(hlen:ps.length=g.AD.length)(hps:∀t∈ps,D9 n t)(empty:Bool):
  ∃m,F2 n m∧m=fM n empty g ps∧AE prog 122 [.ptr 0 1 0 0,.d (.bool empty)] [Em g ps] (.map 1) [Em g ps,mI m]:=by
 obtain⟨m,hm,he,hc⟩:=VC hn g ps hlen hps empty [] (fun p hp=>absurd hp (by simp));refine⟨m,hm,he,?_⟩;refine AE.AI func122 (by kernel_rfl) rfl (by simp) fun wf wfs=>?_;rw[ntmps122];unfold Em;refine xW fun K hK=>?_;simp;apply hK;refine xW fun K hK=>?_;simp;apply hK;refine Az fun K hK=>?_;refine xJ ?_;simp;refine xF (hc) [1,2,4,3,0] rfl ?_;simp[Vj];refine xJ ?_;simp;refine Aj (hK _ _ ?_);refine xW fun K hK=>?_;simp;apply hK;refine Ag ?_;(try simp only[xQ,reduceIte]);refine⟨_,AJ.Cy [0,3] ?_ ?_ ?_,?_⟩
 ·simp
 ·simp
 ·rfl
 ·simp[Am,pick];try decide
end Go.Koi
