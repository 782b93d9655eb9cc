/-
  Part 20 of the proof that the law ChangeCommutes of the package koinelaw31 returns true for every input.
-/
import Derived.Test.YtdhbnplflgihpaaGreatDoorK18
set_option maxHeartbeats 64000000
set_option maxRecDepth 100000
namespace Go.Koi
open Go.Proofs Tryz DT
abbrev Pr:=Int×Int
def GN(t:Pr):D:=.agg [.int .i64 t.1,.int .i64 t.2]
theorem ZI(a b:Pr):deq (GN a) (GN b)=decide (a=b):=by
 obtain⟨a1,a2⟩:=a;obtain⟨b1,b2⟩:=b;rw[Bool.eq_iff_iff];simp[deq,deqs,GN]
section
variable {β:Type} {ev:β→V}
@[simp] theorem eE(l:List (Pr×β))(a b:Int):A4 (BO GN ev l) (.agg [.int .i64 a,.int .i64 b])=(look l (a,b)).map ev:=D1 ZI l (a,b)
@[simp] theorem fA(l:List (Pr×DT))(a b:Int)(t:DT):DU (BO GN vT l) (.agg [.int .i64 a,.int .i64 b]) (.d (AA (B2 t)))=BO GN vT (CU l (a,b) t):=C9 (ev:=vT) ZI l (a,b) t
@[simp] theorem bC(l:List (Pr×β)):goodKeys (.cells [.int .i64,.int .i64]) (BO GN ev l)=True:=eq_true (Dx (by intro a;simp[goodK,goodCs,goodC,GN]) l)
end
def m2(m:List (Pr×DT)):O:=.map (BO GN vT m)
attribute [simp] m2
theorem Zp(m:List (Pr×DT))(a b:Int):AE prog 136 [.map 0,.agg [.d (.int .i64 a),.d (.int .i64 b)]] [m2 m] (.d (AA (B2 (EN m (a,b))))) [m2 m]:=by
 refine AE.B9 func136 (by kernel_rfl) rfl (by simp) fun wf wfs=>?_;rw[ntmps136];unfold m2;(repeat refine xS ?_);refine xV fun K hK=>?_;simp;refine hK _ _ ?_;(try simp only[xQ,reduceIte]);cases hl:look m (a,b)with
 |some t=>
  have e:EN m (a,b)=t:=by simp[EN,hl]
  rw[e];refine xS (xW fun K hK=>?_);simp[hl,vT];apply hK;refine xW fun K hK=>?_;simp;apply hK;refine AU ?_;simp;refine xW fun K hK=>?_;simp;apply hK;refine Ag ?_;(try simp only[xQ,reduceIte]);refine⟨_,_,_,AJ.refl,by simp,by simp,AJ.AY 1 (by simp) (by simp) (by simp) (by simp)⟩
 |none=>
  have e:EN m (a,b)=.leaf false:=by simp[EN,hl]
  rw[e];refine xS (xW fun K hK=>?_);simp[hl];apply hK;refine xW fun K hK=>?_;simp;apply hK;refine AU ?_;simp;refine xK ?_;(repeat refine xS ?_);refine BX fun K hK=>?_;refine xJ ?_;simp;refine Bp (Fb false) rfl (by simp) ?_;simp;refine xJ ?_;simp;refine Aj (hK _ _ ?_);(try simp only[xQ,reduceIte]);refine Ag ?_;(try simp only[xQ,reduceIte]);refine⟨_,_,_,AJ.refl,by simp,by simp[Ed,AA],AJ.AY 1 (by simp) (by simp) (by simp) (by simp)⟩
theorem OZ:∀{xs:List V},WFVs xs↔∀x∈xs,WFV x
 |[]=>by simp[WFVs]
 |x::xs=>by simp[WFVs,OZ (xs:=xs)]
open Classical in
noncomputable def Eu(st:List (Pr×DT))(fr:Int)(d:DT)(s:List (Int×DT)×List Int)(m:Int):List (Int×DT)×List Int:=
 if EN s.1 m=Wf (EN s.1 m) (HT d (EN st (fr,m)))then s else(CU s.1 m (Wf (EN s.1 m) (HT d (EN st (fr,m)))),s.2++[m])
noncomputable def visitM(st:List (Pr×DT))(fr:Int)(d:DT)(l:List Int)(s:List (Int×DT)×List Int):List (Int×DT)×List Int:=l.foldl (Eu st fr d) s
theorem OV(st:List (Pr×DT))(fr:Int)(d:DT)(l:List Int)(s:List (Int×DT)×List Int){i:Nat}(hi:i<l.length):visitM st fr d (l.take (i+1)) s=Eu st fr d (visitM st fr d (l.take i) s) l[i]:=by
 unfold visitM;rw[List.take_succ_eq_append_getElem hi,List.foldl_append];rfl
theorem RL(st:List (Pr×DT))(fr:Int)(d:DT)(s:List (Int×DT)×List Int)(m:Int):s.2.length≤(Eu st fr d s m).2.length:=by
 unfold Eu;split
 ·exact Nat.le_refl _
 ·simp
theorem Hr(st:List (Pr×DT))(fr:Int)(d:DT):∀(l:List Int) (s:List (Int×DT)×List Int),s.2.length≤(visitM st fr d l s).2.length
 |[],_=>Nat.le_refl _
 |m::l,s=>Nat.le_trans (RL st fr d s m) (Hr st fr d l _)
theorem VD{n:Nat}(hn:n≤12){st:List (Pr×DT)}(hst:F2 n st){fr:Int}{d:DT}(hd:D9 n d){s:List (Int×DT)×List Int}(hs:F2 n s.1){m:Int}{ks:List Int}(hm:m∈ks):
  F2 n (Eu st fr d s m).1∧(Eu st fr d s m).2.length+mu n ks (Eu st fr d s m).1≤s.2.length+mu n ks s.1∧(Eu st fr d s m).2.length+2 * mu n ks (Eu st fr d s m).1≤s.2.length+2 * mu n ks s.1:=by
 obtain⟨a1,a2,_⟩:=EP Fe hn hd (hst.at (fr,m));obtain⟨o1,o2,_⟩:=EP Hu hn (hs.at m) a1;unfold Eu;split
 ·exact⟨hs,Nat.le_refl _,Nat.le_refl _⟩
 ·next hne=>
  have h1:=VG (ks:=ks) hm (hs.at m) o1 (fun c hc=>by rw[o2,hc];rfl) hne;refine⟨hs.put m o1,?_,?_⟩
  ·simp only[List.length_append,List.length_cons,List.length_nil];have:mu n ks (CU s.1 m (Wf (EN s.1 m) (HT d (EN st (fr,m)))))<mu n ks s.1:=h1;omega
  ·simp only[List.length_append,List.length_cons,List.length_nil];have:mu n ks (CU s.1 m (Wf (EN s.1 m) (HT d (EN st (fr,m)))))<mu n ks s.1:=h1;omega
theorem HH{n:Nat}(hn:n≤12){st:List (Pr×DT)}(hst:F2 n st){fr:Int}{d:DT}(hd:D9 n d){ks:List Int}:∀(l:List Int) {s:List (Int×DT)×List Int},(∀m∈l,m∈ks)→F2 n s.1→F2 n (visitM st fr d l s).1∧(visitM st fr d l s).2.length+mu n ks (visitM st fr d l s).1≤s.2.length+mu n ks s.1∧(visitM st fr d l s).2.length+2 * mu n ks (visitM st fr d l s).1≤s.2.length+2 * mu n ks s.1
 |[],_,_,hs=>⟨hs,Nat.le_refl _,Nat.le_refl _⟩
 |m::l,s,hl,hs=>by
  obtain⟨h1,h2,h3⟩:=VD hn hst (fr:=fr) hd hs (hl m (by simp));obtain⟨i1,i2,i3⟩:=HH hn hst (fr:=fr) hd (ks:=ks) l (fun x hx=>hl x (by simp[hx])) h1;have e:visitM st fr d (m::l) s=visitM st fr d l (Eu st fr d s m):=rfl;rw[e];exact⟨i1,by omega,by omega⟩
def vI(l:List Int):V:=.d (.sl (l.map (D.int .i64)))
def Sp(nx:List (Int×List Int))(st:List (Pr×DT))(rch:List (Int×DT))(wq:Bool)(q:List Int):Sg:=
 [.row true 1 [.map 4],.row true 1 [.map 5],.row true 1 [.map 6],.row true 1 [.row 7 q.length],.map (BO (D.int .i64) vI nx),mI rch,m2 st,.row wq 1 (q.map fun x=>.d (.int .i64 x))]
@[simp] theorem Vd{α:Type}{ek:α→D}{k:Nat}(l:List (α×List Int)):(BO ek vI l).all (fun e=>belowV k e.2)=true:=by
 rw[List.all_eq_true];intro p hp;simp only[BO,List.mem_map]at hp;obtain⟨q,_,rfl⟩:=hp;rfl
@[simp] theorem fR{α:Type}(ρ:Nat→Nat)(ek:α→D)(l:List (α×List Int)):(BO ek vI l).map (fun p=>(p.1,renV ρ p.2))=BO ek vI l:=by
 unfold BO;rw[List.map_map];rfl
theorem Lm{n:Nat}(hn:n≤12)(nx:List (Int×List Int))(st:List (Pr×DT))(hst:F2 n st)(rch:List (Int×DT))(hr:F2 n rch)(wq:Bool)(q:List Int)(fr:Int)(d:DT)(hd:D9 n d)
  (ks:List Int) (hks:∀m∈(look nx fr).getD [],m∈ks) (hq:q.length+mu n ks rch≤2 ^ 29):
  ∃wq',((visitM st fr d ((look nx fr).getD []) (rch,q)).2.length=q.length∨wq'=true)∧(wq=true→wq'=true)∧AE prog 137 [.d (AG fr),.d (AA (B2 d)),.ptr 0 1 0 0,.ptr 1 1 0 0,.ptr 2 1 0 0,.ptr 3 1 0 0] (Sp nx st rch wq q) (.Bd [])
   (Sp nx st (visitM st fr d ((look nx fr).getD []) (rch,q)).1 wq' (visitM st fr d ((look nx fr).getD []) (rch,q)).2):=by
 cases hl:look nx fr with
 |none=>
  refine⟨wq,.inl rfl,id,?_⟩;have e:visitM st fr d ((none:Option (List Int)).getD []) (rch,q)=(rch,q):=rfl;rw[e];refine AE.AI func137 (by kernel_rfl) rfl (by simp) fun wf wfs=>?_;rw[ntmps137];unfold Sp mI m2;refine xW fun K hK=>?_;simp;apply hK;refine xW fun K hK=>?_;simp[hl];apply hK;refine Bw ?_;refine DC 0 (fun i tm S=>tm 15=.d (.int .i64 0)∧tm 16=.d (.int .i64 0)∧i=0∧S=Sp nx st rch wq q++[.row true 2 [.d (AA (B2 d))]]) (i0:=0) (Nat.le_refl _) (by simp[Sp]) ?_;rintro i tm S hi ⟨t15,t16,rfl,rfl⟩;unfold Sp mI m2;refine xW fun K hK=>?_;simp[t15,t16];apply hK;refine xC ?_;simp;refine Cu ?_;refine⟨_,AJ.AY 8 (by simp) (by simp) (by simp) (by simp),?_⟩;simp[Am]
 |some l=>
  rw[hl]at hks;simp only[Option.getD_some]at hks⊢;refine⟨wq||decide (q.length<(visitM st fr d l (rch,q)).2.length),?_,fun h=>by simp[h],?_⟩
  ·rcases Nat.lt_or_ge q.length (visitM st fr d l (rch,q)).2.length with h|h
   ·right;simp[h]
   ·left;have:=Hr st fr d l (rch,q);simp only at this;omega
  refine AE.AI func137 (by kernel_rfl) rfl (by simp) fun wf wfs=>?_;rw[ntmps137];have a1:l.length≤maxLen:=by
   have h:=wfs.2.2.2.2.1;simp only[WFO]at h;have h2:=(OZ.1 h.2) (vI l) (by simp only[BO,List.mem_map];exact⟨(.int .i64 fr,vI l),⟨(fr,l),F3 hl,rfl⟩,rfl⟩);simpa[vI,WFV,WFD]using h2.1
  unfold Sp mI m2;refine xW fun K hK=>?_;simp;apply hK;refine xW fun K hK=>?_;simp[hl,vI];apply hK;refine Bw ?_;refine DC l.length (fun i tm S=>tm 0=.d (.int .i64 fr)∧tm 3=.ptr 1 1 0 0∧tm 4=.ptr 2 1 0 0∧tm 5=.ptr 3 1 0 0∧tm 7=.ptr 8 1 0 0∧tm 14=.d (.sl (l.map (D.int .i64)))∧tm 15=.d (.int .i64 l.length)∧tm 16=.d (.int .i64 i)∧S=Sp nx st (visitM st fr d (l.take i) (rch,q)).1 (wq||decide (q.length<(visitM st fr d (l.take i) (rch,q)).2.length)) (visitM st fr d (l.take i) (rch,q)).2++[.row true 2 [.d (AA (B2 d))]]) (i0:=0) (Nat.zero_le _) (by simp[Sp,visitM]) ?_;rintro i tm S hi ⟨t0,t3,t4,t5,t7,t14,t15,t16,rfl⟩;generalize hR:visitM st fr d (l.take i) (rch,q)=R;obtain⟨k1,k2,k3⟩:=HH hn hst (fr:=fr) hd (ks:=ks) (l.take i) (s:=(rch,q)) (fun m hm=>hks m (List.mem_of_mem_take hm)) hr;rw[hR]at k1 k2 k3;simp only at k2 k3;have k4:q.length≤R.2.length:=by rw[←hR];exact Hr st fr d (l.take i) (rch,q)
  unfold Sp mI m2;refine xW fun K hK=>?_;simp[t15,t16];apply hK;refine xC ?_;simp;refine⟨fun hlt=>?_,fun hge=>?_⟩
  ·have hstep:visitM st fr d (l.take (i+1)) (rch,q)=Eu st fr d R l[i]:=by rw[OV _ _ _ _ _ hlt,hR]
   obtain⟨X,hX⟩:∃X,X=Oz and d (EN st (fr,l[i])):=⟨_,rfl⟩;obtain⟨A,hA⟩:∃A,A=EN R.1 l[i]:=⟨_,rfl⟩;obtain⟨Y,hY⟩:∃Y,Y=Oz or A X:=⟨_,rfl⟩;obtain⟨a1',a2',a3'⟩:=EP Fe hn hd (hst.at (fr,l[i]));rw[←hX]at a1' a3';obtain⟨o1,o2,o3⟩:=EP Hu hn (k1.at l[i]) a1';rw[←hA,←hY]at o3;have hstep':Eu st fr d R l[i]=if A=Y then R else(CU R.1 l[i] Y,R.2++[l[i]]):=by
    unfold Eu;rw[hY,hA,hX];rfl
   have hql:R.2.length≤1073741823:=by omega
   rw[hstep,hstep'];have hat:=QI R.1 l[i];rw[←hA]at hat;refine xK ?_;refine xB ?_;refine xW fun K hK=>?_;simp[t14,t16,hlt];apply hK;(repeat refine xS ?_);refine BX fun K hK=>?_;refine xJ ?_;simp[t3];refine xF (hat) [5] rfl ?_;simp[mI];refine xJ ?_;simp;refine Aj (hK _ _ ?_);(try simp only[xQ,reduceIte]);cases hst2:look st (fr,l[i])with
   |none=>
    have e1:EN st (fr,l[i])=.leaf false:=by simp[EN,hst2]
    have a3'':Du and (B2 d) ⟨[],0⟩=(B2 X,0):=by rw[←a3',e1];rfl
    refine xD [0,2,4,6,8,10,12,14,16,18,20,22,24,26,28,31,33] (by kernel_rfl) fun K hK=>?_;simp;refine xA 1 ?_;simp[t7,t4,t0,hst2];refine Bj (I2 (B2 d) (B2 (EN st (fr,l[i])))) rfl (by simp[e1,Ed,xN]) ?_;simp[e1,a3'',Ed];refine xA 1 ?_;simp;refine Bj (E4 (B2 X)) rfl (by simp[xN]) ?_;simp;refine xA 1 ?_;simp;refine Bj (QH (B2 A) (B2 X)) rfl (by simp[xN]) ?_;simp[o3];refine xA 1 ?_;simp;refine Bj (E4 (B2 Y)) rfl (by simp[xN]) ?_;simp;refine xX 0 (by kernel_rfl) ?_;simp[AR,Al,t7,t4,t0,hst2];refine xX 32767 (by kernel_rfl) ?_;simp;refine xM (hK _ _ ?_);refine Az fun K hK=>?_;refine xJ ?_;simp;refine Bp (E0 (B2 A) (B2 Y)) rfl (by simp[xN]) ?_;simp;refine xJ ?_;simp;refine Aj (hK _ _ ?_);refine AU ?_;simp;refine⟨fun hne=>?_,fun he=>?_⟩
    ·have hne':¬A=Y:=fun e=>hne (congrArg B2 e);rw[if_neg hne'];refine xW fun K hK=>?_;simp[t3];apply hK;refine xV fun K hK=>?_;simp[t5,maxLen,hql];apply hK;refine xV fun K hK=>?_;simp[t16];apply hK;refine⟨hlt,_,_,AJ.drop 9 (by simp) (by simp) (by simp),?_⟩;simp[clean,t0,t3,t4,t5,t7,t14,t15,AQ hlt a1];exact Or.inr (by omega)
    ·have he':A=Y:=Jt he;rw[if_pos he'];refine CC ?_;refine xV fun K hK=>?_;simp[t16];apply hK;refine⟨hlt,_,_,AJ.drop 9 (by simp) (by simp) (by simp),?_⟩;simp[clean,t0,t3,t4,t5,t7,t14,t15,AQ hlt a1]
   |some u=>
    have e1:EN st (fr,l[i])=u:=by simp[EN,hst2]
    rw[e1]at a3';refine xD [0,2,4,6,8,10,12,14,16,18,20,22,24,26,28,31,33] (by kernel_rfl) fun K hK=>?_;simp;refine xA 1 ?_;simp[t7,t4,t0,hst2,vT];refine Bj (I2 (B2 d) (B2 u)) rfl (by simp[xN]) ?_;simp[a3'];refine xA 1 ?_;simp;refine Bj (E4 (B2 X)) rfl (by simp[xN]) ?_;simp;refine xA 1 ?_;simp;refine Bj (QH (B2 A) (B2 X)) rfl (by simp[xN]) ?_;simp[o3];refine xA 1 ?_;simp;refine Bj (E4 (B2 Y)) rfl (by simp[xN]) ?_;simp;refine xX 0 (by kernel_rfl) ?_;simp[AR,Al,t7,t4,t0,hst2,vT];refine xX 32767 (by kernel_rfl) ?_;simp;refine xM (hK _ _ ?_);refine Az fun K hK=>?_;refine xJ ?_;simp;refine Bp (E0 (B2 A) (B2 Y)) rfl (by simp[xN]) ?_;simp;refine xJ ?_;simp;refine Aj (hK _ _ ?_);refine AU ?_;simp;refine⟨fun hne=>?_,fun he=>?_⟩
    ·have hne':¬A=Y:=fun e=>hne (congrArg B2 e);rw[if_neg hne'];refine xW fun K hK=>?_;simp[t3];apply hK;refine xV fun K hK=>?_;simp[t5,maxLen,hql];apply hK;refine xV fun K hK=>?_;simp[t16];apply hK;refine⟨hlt,_,_,AJ.drop 9 (by simp) (by simp) (by simp),?_⟩;simp[clean,t0,t3,t4,t5,t7,t14,t15,AQ hlt a1];exact Or.inr (by omega)
    ·have he':A=Y:=Jt he;rw[if_pos he'];refine CC ?_;refine xV fun K hK=>?_;simp[t16];apply hK;refine⟨hlt,_,_,AJ.drop 9 (by simp) (by simp) (by simp),?_⟩;simp[clean,t0,t3,t4,t5,t7,t14,t15,AQ hlt a1]
  ·have hil:i=l.length:=by omega
   subst hil;rw[List.take_length]at hR;rw[hR];refine Cu ?_;refine⟨_,AJ.AY 8 (by simp) (by simp) (by simp) (by simp),?_⟩;simp[Am]
end Go.Koi
