/-
  Part 20 of the proof that the law ChangeRenames of the package koinelaw31 returns true for every input.
-/
import Derived.Test.YtknmpedpidhhbaaGreatDoorK18
set_option maxHeartbeats 64000000
set_option maxRecDepth 100000
namespace Go.Koi
open Go.Proofs Tryz DT
abbrev Pr:=Int×Int
def GN(t:Pr):D:=.agg [.int .i64 t.1,.int .i64 t.2]
theorem ZI(a b:Pr):deq (GN a) (GN b)=decide (a=b):=by
 obtain⟨a1,a2⟩:=a;obtain⟨b1,b2⟩:=b;rw[Bool.eq_iff_iff];simp[deq,AAk,GN]
section
variable {β:Type} {ev:β→V}
@[simp] theorem eE(l:List (Pr×β))(a b:Int):A4 (BO GN ev l) (.agg [.int .i64 a,.int .i64 b])=(look l (a,b)).map ev:=D1 ZI l (a,b)
@[simp] theorem fA(l:List (Pr×DT))(a b:Int)(t:DT):DU (BO GN vT l) (.agg [.int .i64 a,.int .i64 b]) (.d (AA (B2 t)))=BO GN vT (CU l (a,b) t):=C9 (ev:=vT) ZI l (a,b) t
@[simp] theorem bC(l:List (Pr×β)):AAH (.cells [.int .i64,.int .i64]) (BO GN ev l)=True:=eq_true (Dx (by intro a;simp[AAK,AAU,AAP,GN]) l)
end
def m2(m:List (Pr×DT)):O:=.map (BO GN vT m)
attribute [simp] m2
theorem Zp(m:List (Pr×DT))(a b:Int):AE prog 126 [.map 0,.agg [.d (.int .i64 a),.d (.int .i64 b)]] [m2 m] (.d (AA (B2 (EN m (a,b))))) [m2 m]:=by
 refine AE.B9 func126 (by kernel_rfl) rfl (by simp) fun wf wfs=>?_;rw[ntmps126];unfold m2;(repeat refine xS ?_);refine xV fun K hK=>?_;simp;refine hK _ _ ?_;(try simp only[xQ,reduceIte]);cases hl:look m (a,b)with
 |some t=>
  have e:EN m (a,b)=t:=by simp[EN,hl]
  rw[e];refine xS (xW fun K hK=>?_);simp[hl,vT];apply hK;refine xW fun K hK=>?_;simp;apply hK;refine AU ?_;simp;refine xW fun K hK=>?_;simp;apply hK;refine Ag ?_;(try simp only[xQ,reduceIte]);refine⟨_,_,_,AJ.refl,by simp,by simp,AJ.AY 1 (by simp) (by simp) (by simp) (by simp)⟩
 |none=>
  have e:EN m (a,b)=.leaf false:=by simp[EN,hl]
  rw[e];refine xS (xW fun K hK=>?_);simp[hl];apply hK;refine xW fun K hK=>?_;simp;apply hK;refine AU ?_;simp;refine xK ?_;(repeat refine xS ?_);refine BX fun K hK=>?_;refine xJ ?_;simp;refine Bp (Fb false) rfl (by simp) ?_;simp;refine xJ ?_;simp;refine Aj (hK _ _ ?_);(try simp only[xQ,reduceIte]);refine Ag ?_;(try simp only[xQ,reduceIte]);refine⟨_,_,_,AJ.refl,by simp,by simp[Ed,AA],AJ.AY 1 (by simp) (by simp) (by simp) (by simp)⟩
theorem OZ:∀{xs:List V},ABH xs↔∀x∈xs,WFV x
 |[]=>by simp[ABH]
 |x::xs=>by simp[ABH,OZ (xs:=xs)]
open Classical in
noncomputable def Eu(st:List (Pr×DT))(fr:Int)(d:DT)(s:List (Int×DT)×List Int)(m:Int):List (Int×DT)×List Int:=
 if EN s.1 m=Wf (EN s.1 m) (HT d (EN st (fr,m)))then s else(CU s.1 m (Wf (EN s.1 m) (HT d (EN st (fr,m)))),s.2++[m])
noncomputable def visitM(st:List (Pr×DT))(fr:Int)(d:DT)(l:List Int)(s:List (Int×DT)×List Int):List (Int×DT)×List Int:=l.foldl (Eu st fr d) s
theorem OV(st:List (Pr×DT))(fr:Int)(d:DT)(l:List Int)(s:List (Int×DT)×List Int){i:Nat}(hi:i<l.length):visitM st fr d (l.take (i+1)) s=Eu st fr d (visitM st fr d (l.take i) s) l[i]:=by
 unfold visitM;rw[List.take_succ_eq_append_getElem hi,List.foldl_append];rfl
theorem RL(st:List (Pr×DT))(fr:Int)(d:DT)(s:List (Int×DT)×List Int)(m:Int):s.2.length≤(Eu st fr d s m).2.length:=by
 unfold Eu;split
 ·exact Nat.le_refl _
 ·simp
theorem Hr(st:List (Pr×DT))(fr:Int)(d:DT):∀(l:List Int) (s:List (Int×DT)×List Int),s.2.length≤(visitM st fr d l s).2.length
 |[],_=>Nat.le_refl _
 |m::l,s=>Nat.le_trans (RL st fr d s m) (Hr st fr d l _)
theorem VD{n:Nat}(hn:n≤12){st:List (Pr×DT)}(hst:F2 n st){fr:Int}{d:DT}(hd:D9 n d){s:List (Int×DT)×List Int}(hs:F2 n s.1){m:Int}{ks:List Int}(hm:m∈ks):
  F2 n (Eu st fr d s m).1∧(Eu st fr d s m).2.length+mu n ks (Eu st fr d s m).1≤s.2.length+mu n ks s.1∧(Eu st fr d s m).2.length+2 * mu n ks (Eu st fr d s m).1≤s.2.length+2 * mu n ks s.1:=by
 obtain⟨a1,a2,_⟩:=EP Fe hn hd (hst.at (fr,m));obtain⟨o1,o2,_⟩:=EP Hu hn (hs.at m) a1;unfold Eu;split
 ·exact⟨hs,Nat.le_refl _,Nat.le_refl _⟩
 ·next hne=>
  have h1:=ADE (ks:=ks) hm (hs.at m) o1 (fun c hc=>by rw[o2,hc];rfl) hne;refine⟨hs.put m o1,?_,?_⟩
  ·simp only[List.length_append,List.length_cons,List.length_nil];have:mu n ks (CU s.1 m (Wf (EN s.1 m) (HT d (EN st (fr,m)))))<mu n ks s.1:=h1;omega
  ·simp only[List.length_append,List.length_cons,List.length_nil];have:mu n ks (CU s.1 m (Wf (EN s.1 m) (HT d (EN st (fr,m)))))<mu n ks s.1:=h1;omega
theorem HH{n:Nat}(hn:n≤12){st:List (Pr×DT)}(hst:F2 n st){fr:Int}{d:DT}(hd:D9 n d){ks:List Int}:∀(l:List Int) {s:List (Int×DT)×List Int},(∀m∈l,m∈ks)→F2 n s.1→F2 n (visitM st fr d l s).1∧(visitM st fr d l s).2.length+mu n ks (visitM st fr d l s).1≤s.2.length+mu n ks s.1∧(visitM st fr d l s).2.length+2 * mu n ks (visitM st fr d l s).1≤s.2.length+2 * mu n ks s.1
 |[],_,_,hs=>⟨hs,Nat.le_refl _,Nat.le_refl _⟩
 |m::l,s,hl,hs=>by
  obtain⟨h1,h2,h3⟩:=VD hn hst (fr:=fr) hd hs (hl m (by simp));obtain⟨i1,i2,i3⟩:=HH hn hst (fr:=fr) hd (ks:=ks) l (fun x hx=>hl x (by simp[hx])) h1;have e:visitM st fr d (m::l) s=visitM st fr d l (Eu st fr d s m):=rfl;rw[e];exact⟨i1,by omega,by omega⟩
def vI(l:List Int):V:=.d (.sl (l.map (D.int .i64)))
def Sp(nx:List (Int×List Int))(st:List (Pr×DT))(rch:List (Int×DT))(wq:Bool)(q:List Int):Sg:=
 [.row true 1 [.map 4],.row true 1 [.map 5],.row true 1 [.map 6],.row true 1 [.row 7 q.length],.map (BO (D.int .i64) vI nx),mI rch,m2 st,.row wq 1 (q.map fun x=>.d (.int .i64 x))]
@[simp] theorem Vd{α:Type}{ek:α→D}{k:Nat}(l:List (α×List Int)):(BO ek vI l).all (fun e=>AAB k e.2)=true:=by
 rw[List.all_eq_true];intro p hp;simp only[BO,List.mem_map]at hp;obtain⟨q,_,rfl⟩:=hp;rfl
@[simp] theorem fR{α:Type}(ρ:Nat→Nat)(ek:α→D)(l:List (α×List Int)):(BO ek vI l).map (fun p=>(p.1,AAI ρ p.2))=BO ek vI l:=by
 unfold BO;rw[List.map_map];rfl
theorem Lm{n:Nat}(hn:n≤12)(nx:List (Int×List Int))(st:List (Pr×DT))(hst:F2 n st)(rch:List (Int×DT))(hr:F2 n rch)(wq:Bool)(q:List Int)(fr:Int)(d:DT)(hd:D9 n d)
  (ks:List Int) (hks:∀m∈(look nx fr).getD [],m∈ks) (hq:q.length+mu n ks rch≤2 ^ 29):
  ∃wq',((visitM st fr d ((look nx fr).getD []) (rch,q)).2.length=q.length∨wq'=true)∧(wq=true→wq'=true)∧AE prog 127 [.d (AG fr),.d (AA (B2 d)),.ptr 0 1 0 0,.ptr 1 1 0 0,.ptr 2 1 0 0,.ptr 3 1 0 0] (Sp nx st rch wq q) (.Bd [])
   (Sp nx st (visitM st fr d ((look nx fr).getD []) (rch,q)).1 wq' (visitM st fr d ((look nx fr).getD []) (rch,q)).2):=by
 cases hl:look nx fr with
 |none=>
  refine⟨wq,.inl rfl,id,?_⟩;have e:visitM st fr d ((none:Option (List Int)).getD []) (rch,q)=(rch,q):=rfl;rw[e];refine AE.AI func127 (by kernel_rfl) rfl (by simp) fun wf wfs=>?_;rw[ntmps127];unfold Sp mI m2;refine xW fun K hK=>?_;simp;apply hK;refine xW fun K hK=>?_;simp[hl];apply hK;refine Bw ?_;refine DC 0 (fun i tm S=>tm 15=.d (.int .i64 0)∧tm 16=.d (.int .i64 0)∧i=0∧S=Sp nx st rch wq q++[.row true 2 [.d (AA (B2 d))]]) (i0:=0) (Nat.le_refl _) (by simp[Sp]) ?_;rintro i tm S hi ⟨t15,t16,rfl,rfl⟩;unfold Sp mI m2;refine xW fun K hK=>?_;simp[t15,t16];apply hK;refine xC ?_;simp;refine Cu ?_;refine⟨_,AJ.AY 8 (by simp) (by simp) (by simp) (by simp),?_⟩;simp[Am]
 |some l=>
  rw[hl]at hks;simp only[Option.getD_some]at hks⊢;refine⟨wq||decide (q.length<(visitM st fr d l (rch,q)).2.length),?_,fun h=>by simp[h],?_⟩
  ·rcases Nat.lt_or_ge q.length (visitM st fr d l (rch,q)).2.length with h|h
   ·right;simp[h]
   ·left;have:=Hr st fr d l (rch,q);simp only at this;omega
  refine AE.AI func127 (by kernel_rfl) rfl (by simp) fun wf wfs=>?_;rw[ntmps127];have a1:l.length≤maxLen:=by
   have h:=wfs.2.2.2.2.1;simp only[WFO]at h;have h2:=(OZ.1 h.2) (vI l) (by simp only[BO,List.mem_map];exact⟨(.int .i64 fr,vI l),⟨(fr,l),F3 hl,rfl⟩,rfl⟩);simpa[vI,WFV,WFD]using h2.1
  unfold Sp mI m2;refine xW fun K hK=>?_;simp;apply hK;refine xW fun K hK=>?_;simp[hl,vI];apply hK;refine Bw ?_;refine DC l.length (fun i tm S=>tm 0=.d (.int .i64 fr)∧tm 3=.ptr 1 1 0 0∧tm 4=.ptr 2 1 0 0∧tm 5=.ptr 3 1 0 0∧tm 7=.ptr 8 1 0 0∧tm 14=.d (.sl (l.map (D.int .i64)))∧tm 15=.d (.int .i64 l.length)∧tm 16=.d (.int .i64 i)∧S=Sp nx st (visitM st fr d (l.take i) (rch,q)).1 (wq||decide (q.length<(visitM st fr d (l.take i) (rch,q)).2.length)) (visitM st fr d (l.take i) (rch,q)).2++[.row true 2 [.d (AA (B2 d))]]) (i0:=0) (Nat.zero_le _) (by simp[Sp,visitM]) ?_;rintro i tm S hi ⟨t0,t3,t4,t5,t7,t14,t15,t16,rfl⟩;generalize hR:visitM st fr d (l.take i) (rch,q)=R;obtain⟨k1,k2,k3⟩:=HH hn hst (fr:=fr) hd (ks:=ks) (l.take i) (s:=(rch,q)) (fun m hm=>hks m (List.mem_of_mem_take hm)) hr;rw[hR]at k1 k2 k3;simp only at k2 k3;have k4:q.length≤R.2.length:=by rw[←hR];exact Hr st fr d (l.take i) (rch,q)
  unfold Sp mI m2;refine xW fun K hK=>?_;simp[t15,t16];apply hK;refine xC ?_;simp;refine⟨fun hlt=>?_,fun hge=>?_⟩
  ·have hstep:visitM st fr d (l.take (i+1)) (rch,q)=Eu st fr d R l[i]:=by rw[OV _ _ _ _ _ hlt,hR]
   obtain⟨X,hX⟩:∃X,X=Oz and d (EN st (fr,l[i])):=⟨_,rfl⟩;obtain⟨A,hA⟩:∃A,A=EN R.1 l[i]:=⟨_,rfl⟩;obtain⟨Y,hY⟩:∃Y,Y=Oz or A X:=⟨_,rfl⟩;obtain⟨a1',a2',a3'⟩:=EP Fe hn hd (hst.at (fr,l[i]));rw[←hX]at a1' a3';obtain⟨o1,o2,o3⟩:=EP Hu hn (k1.at l[i]) a1';rw[←hA,←hY]at o3;have hstep':Eu st fr d R l[i]=if A=Y then R else(CU R.1 l[i] Y,R.2++[l[i]]):=by
    unfold Eu;rw[hY,hA,hX];rfl
   have hql:R.2.length≤1073741823:=by omega
   rw[hstep,hstep'];have hat:=QI R.1 l[i];rw[←hA]at hat;refine xK ?_;refine xB ?_;refine xW fun K hK=>?_;simp[t14,t16,hlt];apply hK;(repeat refine xS ?_);refine BX fun K hK=>?_;refine xJ ?_;simp[t3];refine xF (hat) [5] rfl ?_;simp[mI];refine xJ ?_;simp;refine Aj (hK _ _ ?_);(try simp only[xQ,reduceIte]);cases hst2:look st (fr,l[i])with
   |none=>
    have e1:EN st (fr,l[i])=.leaf false:=by simp[EN,hst2]
    have a3'':Du and (B2 d) ⟨[],0⟩=(B2 X,0):=by rw[←a3',e1];rfl
    refine xD [0,2,4,6,8,10,12,14,16,18,20,22,24,26,28,31,33] (by kernel_rfl) fun K hK=>?_;simp;refine xA 1 ?_;simp[t7,t4,t0,hst2];refine Bj (I2 (B2 d) (B2 (EN st (fr,l[i])))) rfl (by simp[e1,Ed,xN]) ?_;simp[e1,a3'',Ed];refine xA 1 ?_;simp;refine Bj (E4 (B2 X)) rfl (by simp[xN]) ?_;simp;refine xA 1 ?_;simp;refine Bj (QH (B2 A) (B2 X)) rfl (by simp[xN]) ?_;simp[o3];refine xA 1 ?_;simp;refine Bj (E4 (B2 Y)) rfl (by simp[xN]) ?_;simp;refine xX 0 (by kernel_rfl) ?_;simp[AR,Al,t7,t4,t0,hst2];refine xX 32767 (by kernel_rfl) ?_;simp;refine xM (hK _ _ ?_);refine Az fun K hK=>?_;refine xJ ?_;simp;refine Bp (E0 (B2 A) (B2 Y)) rfl (by simp[xN]) ?_;simp;refine xJ ?_;simp;refine Aj (hK _ _ ?_);refine AU ?_;simp;refine⟨fun hne=>?_,fun he=>?_⟩
    ·have hne':¬A=Y:=fun e=>hne (congrArg B2 e);rw[if_neg hne'];refine xW fun K hK=>?_;simp[t3];apply hK;refine xV fun K hK=>?_;simp[t5,maxLen,hql];apply hK;refine xV fun K hK=>?_;simp[t16];apply hK;refine⟨hlt,_,_,AJ.drop 9 (by simp) (by simp) (by simp),?_⟩;simp[clean,t0,t3,t4,t5,t7,t14,t15,AQ hlt a1];exact Or.inr (by omega)
    ·have he':A=Y:=Jt he;rw[if_pos he'];refine CC ?_;refine xV fun K hK=>?_;simp[t16];apply hK;refine⟨hlt,_,_,AJ.drop 9 (by simp) (by simp) (by simp),?_⟩;simp[clean,t0,t3,t4,t5,t7,t14,t15,AQ hlt a1]
   |some u=>
    have e1:EN st (fr,l[i])=u:=by simp[EN,hst2]
    rw[e1]at a3';refine xD [0,2,4,6,8,10,12,14,16,18,20,22,24,26,28,31,33] (by kernel_rfl) fun K hK=>?_;simp;refine xA 1 ?_;simp[t7,t4,t0,hst2,vT];refine Bj (I2 (B2 d) (B2 u)) rfl (by simp[xN]) ?_;simp[a3'];refine xA 1 ?_;simp;refine Bj (E4 (B2 X)) rfl (by simp[xN]) ?_;simp;refine xA 1 ?_;simp;refine Bj (QH (B2 A) (B2 X)) rfl (by simp[xN]) ?_;simp[o3];refine xA 1 ?_;simp;refine Bj (E4 (B2 Y)) rfl (by simp[xN]) ?_;simp;refine xX 0 (by kernel_rfl) ?_;simp[AR,Al,t7,t4,t0,hst2,vT];refine xX 32767 (by kernel_rfl) ?_;simp;refine xM (hK _ _ ?_);refine Az fun K hK=>?_;refine xJ ?_;simp;refine Bp (E0 (B2 A) (B2 Y)) rfl (by simp[xN]) ?_;simp;refine xJ ?_;simp;refine Aj (hK _ _ ?_);refine AU ?_;simp;refine⟨fun hne=>?_,fun he=>?_⟩
    ·have hne':¬A=Y:=fun e=>hne (congrArg B2 e);rw[if_neg hne'];refine xW fun K hK=>?_;simp[t3];apply hK;refine xV fun K hK=>?_;simp[t5,maxLen,hql];apply hK;refine xV fun K hK=>?_;simp[t16];apply hK;refine⟨hlt,_,_,AJ.drop 9 (by simp) (by simp) (by simp),?_⟩;simp[clean,t0,t3,t4,t5,t7,t14,t15,AQ hlt a1];exact Or.inr (by omega)
    ·have he':A=Y:=Jt he;rw[if_pos he'];refine CC ?_;refine xV fun K hK=>?_;simp[t16];apply hK;refine⟨hlt,_,_,AJ.drop 9 (by simp) (by simp) (by simp),?_⟩;simp[clean,t0,t3,t4,t5,t7,t14,t15,AQ hlt a1]
  ·have hil:i=l.length:=by omega
   subst hil;rw[List.take_length]at hR;rw[hR];refine Cu ?_;refine⟨_,AJ.AY 8 (by simp) (by simp) (by simp) (by simp),?_⟩;simp[Am]
open Go.Proofs DT
inductive Rch(st:Int→Int→Prop)(i:Int):Int→Prop
 |one {y:Int}:st i y→Rch st i y
 |more {x y:Int}:Rch st i x→x≠i→st x y→Rch st i y
theorem Rch.mono{st st':Int→Int→Prop}{i:Int}(h:∀a b,st a b→st' a b):∀{y:Int},Rch st i y→Rch st' i y:=by
 intro y hy;induction hy with
 |one h1=>exact .one (h _ _ h1)
 |more _ hne h2 ih=>exact .more ih hne (h _ _ h2)
theorem ADX{t:DT}(hg:t.Good)(h:t≠.leaf false):∃c,t.sem c=true:=by
 by_cases hc:∃c,t.sem c=true
 ·exact hc
 ·refine absurd (DT.unique hg (t:=.leaf false) trivial fun c=>?_) h;have:¬t.sem c=true:=fun h=>hc ⟨c,h⟩;simpa[sem]using this
def sOf(st:List (Pr×DT))(c:Int→Bool)(a b:Int):Prop:=(EN st (a,b)).sem c=true
theorem ADg{st:List (Pr×DT)}{c:Int→Bool}{a b:Int}(h:sOf st c a b):(a,b)∈st.map (·.1):=by
 unfold sOf EN at h;cases hl:look st (a,b)with
 |none=>rw[hl]at h;simp[sem]at h
 |some t=>exact List.mem_map.2 ⟨_,F3 hl,rfl⟩
structure ADd(st:List (Pr×DT))(fr:Int)(d:DT)(l:List Int)(s s':List (Int×DT)×List Int):Prop where
 mono:∀y c,(EN s.1 y).sem c=true→(EN s'.1 y).sem c=true
 add:∀y∈l,∀c,d.sem c=true→sOf st c fr y→(EN s'.1 y).sem c=true
 sound:∀y c,(EN s'.1 y).sem c=true→(EN s.1 y).sem c=true∨d.sem c=true∧sOf st c fr y
 DG:∀z∈s.2,z∈s'.2
 queue:∀z,EN s'.1 z≠EN s.1 z→z∈s'.2
theorem AC6{n:Nat}(hn:n≤12){st:List (Pr×DT)}(hst:F2 n st){fr:Int}{d:DT}(hd:D9 n d){s:List (Int×DT)×List Int}(hs:F2 n s.1)(m:Int):ADd st fr d [m] s (Eu st fr d s m):=by
 obtain⟨a1,a2,-⟩:=EP Fe hn hd (hst.at (fr,m));obtain⟨o1,o2,-⟩:=EP Hu hn (hs.at m) a1;unfold Eu;split
 ·next he=>
  refine⟨fun _ _ h=>h,fun y hy c h1 h2=>?_,fun _ _ h=>.inl h,fun _ h=>h,fun z h=>absurd rfl h⟩;simp only[List.mem_singleton]at hy;subst hy;rw[he];show(Oz or _ (Oz and _ _)).sem c=true
  rw[o2,a2,h1,show(EN st (fr,y)).sem c=true from h2];simp
 ·next he=>
  have hat:∀y,EN (CU s.1 m (Wf (EN s.1 m) (HT d (EN st (fr,m))))) y=if y=m then Wf (EN s.1 m) (HT d (EN st (fr,m)))else EN s.1 y:=fun y=>Qx _ _ _ _;have hor:∀c,(Wf (EN s.1 m) (HT d (EN st (fr,m)))).sem c=((EN s.1 m).sem c||(d.sem c&&(EN st (fr,m)).sem c)):=fun c=>by
   show(Oz or _ (Oz and _ _)).sem c=_
   rw[o2,a2]
  refine⟨fun y c h=>?_,fun y hy c h1 h2=>?_,fun y c h=>?_,fun z h=>List.mem_append_left _ h,fun z h=>?_⟩
  ·simp only[hat];split
   ·next e=>subst e;rw[hor,h];rfl
   ·exact h
  ·simp only[List.mem_singleton]at hy;subst hy;simp only[hat,if_true];rw[hor,h1,show(EN st (fr,y)).sem c=true from h2];simp
  ·simp only[hat]at h;split at h
   ·next e=>
    subst e;rw[hor]at h;simp only[Bool.or_eq_true,Bool.and_eq_true]at h;exact h
   ·exact .inl h
  ·simp only[hat]at h;by_cases e:z=m
   ·subst e;exact List.mem_append_right _ (by simp)
   ·rw[if_neg e]at h;exact absurd rfl h
theorem ABh{n:Nat}(hn:n≤12){st:List (Pr×DT)}(hst:F2 n st){fr:Int}{d:DT}(hd:D9 n d){ks:List Int}:∀(l:List Int) {s:List (Int×DT)×List Int},(∀m∈l,m∈ks)→F2 n s.1→ADd st fr d l s (visitM st fr d l s)
 |[],_,_,_=>⟨fun _ _ h=>h,fun _ h=>absurd h (by simp),fun _ _ h=>.inl h,fun _ h=>h,fun _ h=>absurd rfl h⟩
 |m::l,s,hl,hs=>by
  have e:visitM st fr d (m::l) s=visitM st fr d l (Eu st fr d s m):=rfl;have h1:=AC6 hn hst (fr:=fr) hd hs m;have hs1:=(HH hn hst (fr:=fr) hd (ks:=ks) [m] (s:=s) (fun x hx=>hl x (by simp at hx;simp[hx])) hs).1;have h2:=ABh hn hst (fr:=fr) hd (ks:=ks) l (s:=Eu st fr d s m) (fun x hx=>hl x (by simp[hx])) hs1;rw[e];refine⟨fun y c h=>h2.mono y c (h1.mono y c h),fun y hy c a b=>?_,fun y c h=>?_,fun z h=>h2.DG z (h1.DG z h),fun z h=>?_⟩
  ·rcases List.mem_cons.1 hy with rfl|hy
   ·exact h2.mono _ c (h1.add _ (by simp) c a b)
   ·exact h2.add y hy c a b
  ·rcases h2.sound y c h with h|h
   ·exact h1.sound y c h
   ·exact .inr h
  ·by_cases e1:EN (Eu st fr d s m).1 z=EN s.1 z
   ·exact h2.queue z (by rw[e1];exact h)
   ·exact h2.DG z (h1.queue z e1)
structure RI(st:List (Pr×DT))(fam:DT)(i:Int)(rch:List (Int×DT))(q:List Int):Prop where
 sound:∀y c,(EN rch y).sem c=true→fam.sem c=true∧Rch (sOf st c) i y
 first:∀y c,fam.sem c=true→sOf st c i y→(EN rch y).sem c=true
 closed:∀x,x≠i→x∉q→∀y c,(EN rch x).sem c=true→sOf st c x y→(EN rch y).sem c=true
theorem AB8(y:Int):EN ([]:List (Int×DT)) y=.leaf false:=rfl
theorem RI.start{st:List (Pr×DT)}{fam:DT}{i:Int}{l:List Int}{s':List (Int×DT)×List Int}(hl:∀y c,sOf st c i y→y∈l)(h:ADd st i fam l ([],[]) s'):RI st fam i s'.1 s'.2:=by
 refine⟨fun y c hy=>?_,fun y c hf hs=>h.add y (hl y c hs) c hf hs,fun x hx hq y c h1 _=>?_⟩
 ·rcases h.sound y c hy with h1|h1
  ·simp only[AB8,sem]at h1;cases h1
  ·exact⟨h1.1,.one h1.2⟩
 ·have:EN s'.1 x=EN [] x:=Classical.byContradiction fun hne=>hq (h.queue x hne);rw[this,AB8]at h1;simp[sem]at h1
theorem RI.visit{st:List (Pr×DT)}{fam:DT}{i x:Int}{q l:List Int}{rch:List (Int×DT)}{s':List (Int×DT)×List Int}(R:RI st fam i rch (x::q))(hx:x≠i)(hl:∀y c,sOf st c x y→y∈l)
  (h:ADd st x (EN rch x) l (rch,q) s'):RI st fam i s'.1 s'.2:=by
 refine⟨fun y c hy=>?_,fun y c hf hs=>h.mono y c (R.first y c hf hs),fun z hz hq y c h1 h2=>?_⟩
 ·rcases h.sound y c hy with h1|h1
  ·exact R.sound y c h1
  ·have:=R.sound x c h1.1;exact⟨this.1,.more this.2 hx h1.2⟩
 ·have hzq:z∉q:=fun hm=>hq (h.DG z hm);have he:EN s'.1 z=EN rch z:=Classical.byContradiction fun hne=>hq (h.queue z hne);rw[he]at h1;by_cases e:z=x
  ·subst e;exact h.add y (hl y c h2) c h1 h2
  ·exact h.mono y c (R.closed z hz (by simp[e,hzq]) y c h1 h2)
theorem RI.pass{st:List (Pr×DT)}{fam:DT}{i:Int}{q:List Int}{rch:List (Int×DT)}(R:RI st fam i rch (i::q)):RI st fam i rch q:=
 ⟨R.sound,R.first,fun z hz hq=>R.closed z hz (by simp[hz,hq])⟩
theorem RI.done{st:List (Pr×DT)}{fam:DT}{i:Int}{rch:List (Int×DT)}(R:RI st fam i rch [])(y:Int)(c:Int→Bool):(EN rch y).sem c=true↔fam.sem c=true∧Rch (sOf st c) i y:=by
 refine⟨R.sound y c,?_⟩;rintro⟨hf,hr⟩;induction hr with
 |one h1=>exact R.first _ c hf h1
 |more _ hne h2 ih=>exact R.closed _ hne (by simp) _ c ih h2
def ADR(st:List (Pr×DT))(fam:DT)(k:Int)(c:Int→Bool):Prop:=fam.sem c=true∧Rch (sOf st c) k k
structure AB7(st:List (Pr×DT))(fam:DT)(i:Nat)(out:List (Int×DT)):Prop where
 sound:∀k c,(EN out k).sem c=true→∃j:Nat,j<i∧k=j∧ADR st fam k c
 full:∀j:Nat,j<i→∀c,ADR st fam j c→(EN out j).sem c=true
theorem AB7.nil{st:List (Pr×DT)}{fam:DT}:AB7 st fam 0 []:=⟨fun k c h=>(by simp only[AB8,sem]at h;cases h),fun j h=>absurd h (by omega)⟩
theorem AB7.skip{st:List (Pr×DT)}{fam:DT}{i:Nat}{out:List (Int×DT)}(h:AB7 st fam i out)(hno:∀c y,¬sOf st c i y):AB7 st fam (i+1) out:=by
 refine⟨fun k c hk=>?_,fun j hj c hc=>?_⟩
 ·obtain⟨j,h1,h2⟩:=h.sound k c hk;exact⟨j,by omega,h2⟩
 ·by_cases e:j=i
  ·subst e;have:∀y,Rch (sOf st c) (j:Int) y→False:=fun y hy=>by
    induction hy with
    |one h1=>exact hno c _ h1
    |more _ _ _ ih=>exact ih
   exact(this _ hc.2).elim
  ·exact h.full j (by omega) c hc
theorem AB7.put{st:List (Pr×DT)}{fam:DT}{i:Nat}{out rch:List (Int×DT)}(h:AB7 st fam i out)(R:RI st fam i rch []):AB7 st fam (i+1) (CU out i (EN rch i)):=by
 refine⟨fun k c hk=>?_,fun j hj c hc=>?_⟩
 ·rw[Qx]at hk;split at hk
  ·next e=>subst e;exact⟨i,by omega,rfl,(R.done _ c).1 hk⟩
  ·obtain⟨j,h1,h2⟩:=h.sound k c hk;exact⟨j,by omega,h2⟩
 ·rw[Qx];split
  ·next e=>exact(R.done _ c).2 (by rw[←e];exact hc)
  ·next e=>
   have:j≠i:=fun e2=>e (by rw[e2]);exact h.full j (by omega) c hc
theorem AB7.found{n:Nat}{st:List (Pr×DT)}{fam:DT}{i:Nat}{out:List (Int×DT)}(h:AB7 st fam i out)(hk:Keyed out)(ho:F2 n out):(∃q∈out,q.2≠.leaf false)↔∃j:Nat,j<i∧∃c,ADR st fam j c:=by
 constructor
 ·rintro⟨q,hq,hne⟩;obtain⟨c,hc⟩:=ADX (ho q hq).GM hne;have hl:EN out q.1=q.2:=by unfold EN;rw[hk.look (k:=q.1) (x:=q.2) hq];rfl
  obtain⟨j,h1,h2,h3⟩:=h.sound q.1 c (by rw[hl];exact hc);exact⟨j,h1,c,by rw[←h2];exact h3⟩
 ·rintro⟨j,h1,c,hc⟩;have h2:=h.full j h1 c hc;unfold EN at h2;cases hl:look out (j:Int)with
  |none=>rw[hl]at h2;simp[sem]at h2
  |some t=>exact⟨_,F3 hl,fun e=>by simp only at e;rw[hl,e]at h2;simp[sem]at h2⟩
end Go.Koi
