/- Part 13 of the proof that the law ChangeValid returns true for every input. -/
import Derived.Test.YtlgjmkfbkhfakaaGreatDoorK11
set_option maxHeartbeats 64000000
set_option maxRecDepth 100000
namespace Go.Koi
section
variable {P:Program} {n b:Nat} {o:Oper} {tm tm':Tm} {S S0 S0' S':Sg} {v:V} {ops:Array Oper} {K:Tm→Sg→Prop}
open Classical in
theorem At.frame{f:FuncId}{args:List V}{RR:V→Sg→Prop}(h:At P f args S0 RR)(ρ:Nat→Nat)(F:Sg→Sg)(M0:MA ρ S S0 S0 (F S0))(hM:∀v S0',RR v S0'→MA ρ S S0 S0' (F S0')∧S0.length≤S0'.length)(hb:∀x∈args,AAB S0.length x=true):
  At P f (args.map (AAO ρ)) S (fun v' S'=>∃v S0',RR v S0'∧v'=AAO (CN ρ S0.length S.length) v∧S'=F S0'):=by
 refine⟨h.1,fun G w cargs R gp gi=>?_⟩;let G0:Gh:={I:=G.I,BZ:=fun i=>G.BZ (ρ i),cap:=fun i=>G.cap (ρ i),BB:=fun i=>G.BB (ρ i)};have facts:∀i,i<S0.length→lenOf S (ρ i)=lenOf S0 i∧AAf S (ρ i)=AAf S0 i∧AAN S (ρ i)=AAN S0 i:=fun i hi=>by
  obtain⟨o,h1,h2⟩:=M0.F8 i hi;exact FA ρ o h1 h2
 have E:QO ρ G0 S0 G S:=⟨fun _=>Iff.rfl,fun i hi=>by obtain⟨o,_,h2⟩:=M0.F8 i hi;exact AZ h2,fun i hi=>(facts i hi).1,fun i hi=>(facts i hi).2.1,fun i hi=>(facts i hi).2.2,fun _ _=>rfl,fun _ _=>rfl,fun _ _=>rfl⟩;have own0:∀k,Eo G0 S0 k→Eo G S k:=by
  rintro k ⟨i,o,h1,h2,h3⟩;have hi:=AZ h1;obtain⟨o',g1,g2⟩:=M0.F8 i hi;rw[h1]at g1;cases g1;exact⟨ρ i,_,g2,by rw[Bx (ρ:=ρ) (G0:=G0) (G:=G) (i:=i) (j:=ρ i) o rfl];exact h2,h3⟩
 have R0:Rel P G0 S0 w:=by
  refine⟨R.Es,fun i o ho=>?_,fun i j x y hx hy ox oy he=>?_,fun k hk=>R.nI k (own0 k hk),R.G5,fun k hk=>R.FW k (own0 k hk)⟩
  ·have hi:=AZ ho;obtain⟨o',g1,g2⟩:=M0.F8 i hi;rw[ho]at g1;cases g1;exact(R.CT _ _ g2).Ia E hi (M0.below i o ho)
  ·obtain⟨x',g1,g2⟩:=M0.F8 i (AZ hx);obtain⟨y',g3,g4⟩:=M0.F8 j (AZ hy);rw[hx]at g1;cases g1;rw[hy]at g3;cases g3;exact M0.inj i j (AZ hx) (AZ hy) (R.inj (ρ i) (ρ j) _ _ g2 g4 (by rw[Bx (ρ:=ρ) (G0:=G0) (G:=G) (i:=i) (j:=ρ i) x rfl];exact ox) (by rw[Bx (ρ:=ρ) (G0:=G0) (G:=G) (i:=j) (j:=ρ j) y rfl];exact oy) he)
 refine(h.2 G0 w cargs R0 (by simpa using gp) (fun i hi gj=>(gi i (by simpa using hi) gj).Ia E (by simp) (hb _ (List.getElem_mem hi)))).mono ?_;rintro e w' ⟨cv,G0',v,S0',hRR,he,iO,R0',T0,L0⟩;obtain⟨M,hle⟩:=hM _ _ hRR;generalize hS':F S0'=S' at M;let ρ':=CN ρ S0.length S.length;have hρ:∀i,i<S0.length→ρ' i=ρ i:=fun i hi=>by simp[ρ',CN,hi]
 have hρ2:∀i,S0.length≤i→ρ' i=S.length+(i - S0.length):=fun i hi=>by simp[ρ',CN,Nat.not_lt.2 hi]
 have nb:∀i j,i<S0'.length→j<S0'.length→ρ' i=ρ' j→i=j:=fun i j hi hj hij=>by
  by_cases a1:i<S0.length<;>by_cases a2:j<S0.length
  ·rw[hρ i a1,hρ j a2]at hij;exact M.inj i j a1 a2 hij
  ·rw[hρ i a1,hρ2 j (by omega)]at hij;have:=E.lt i a1;omega
  ·rw[hρ2 i (by omega),hρ j a2]at hij;have:=E.lt j a2;omega
  ·rw[hρ2 i (by omega),hρ2 j (by omega)]at hij;omega
 let back (r:Nat):Option Nat:=if h:∃i,i<S0'.length∧ρ' i=r then some h.choose else none;have kS:∀i,i<S0'.length→back (ρ' i)=some i:=fun i hi=>by
  have hex:∃j,j<S0'.length∧ρ' j=ρ' i:=⟨i,hi,rfl⟩;have:=hex.choose_spec;simp only[back,hex,dif_pos];rw[nb _ _ this.1 hi this.2]
 have nf:∀r,(∀i,i<S0'.length→ρ' i≠r)→back r=none:=fun r hr=>by
  have:¬∃i,i<S0'.length∧ρ' i=r:=fun⟨i,h1,h2⟩=>hr i h1 h2;simp only[back,this,dif_neg,not_false_eq_true]
 let G':Gh:={I:=G0'.I,BZ:=fun r=>match back r with|some i=>G0'.BZ i|none=>G.BZ r,cap:=fun r=>match back r with|some i=>G0'.cap i|none=>G.cap r,BB:=fun r=>match back r with|some i=>G0'.BB i|none=>G.BB r};have gB:∀i,i<S0'.length→G'.BZ (ρ' i)=G0'.BZ i∧G'.cap (ρ' i)=G0'.cap i∧G'.BB (ρ' i)=G0'.BB i:=fun i hi=>by simp only[G',kS i hi,and_self]
 have gN:∀r,(∀i,i<S0'.length→ρ' i≠r)→G'.BZ r=G.BZ r∧G'.cap r=G.cap r∧G'.BB r=G.BB r:=fun r hr=>by simp only[G',nf r hr,and_self]
 have get':∀i,i<S0'.length→∃o,S0'[i]?=some o∧S'[ρ' i]?=some (AAj ρ' o):=fun i hi=>⟨S0'[i],List.getElem?_eq_getElem hi,M.new i _ (List.getElem?_eq_getElem hi)⟩;have facts':∀i,i<S0'.length→lenOf S' (ρ' i)=lenOf S0' i∧AAf S' (ρ' i)=AAf S0' i∧AAN S' (ρ' i)=AAN S0' i:=fun i hi=>by
  obtain⟨o,h1,h2⟩:=get' i hi;exact FA ρ' o h1 h2
 have E':QO ρ' G0' S0' G' S':=⟨fun _=>Iff.rfl,fun i hi=>by obtain⟨o,_,h2⟩:=get' i hi;exact AZ h2,fun i hi=>(facts' i hi).1,fun i hi=>(facts' i hi).2.1,fun i hi=>(facts' i hi).2.2,fun i hi=>(gB i hi).1.symm,fun i hi=>(gB i hi).2.1.symm,fun i hi=>(gB i hi).2.2.symm⟩;have cases':∀r x,S'[r]?=some x→(∃i,∃_:i<S0'.length,ρ' i=r∧∃o,S0'[i]?=some o∧x=AAj ρ' o)∨(r<S.length∧(∀i,i<S0'.length→ρ' i≠r)∧S[r]?=some x):=fun r x hx=>by
  by_cases hex:∃i,i<S0'.length∧ρ' i=r
  ·obtain⟨i,hi,rfl⟩:=hex;obtain⟨o,g1,g2⟩:=get' i hi;rw[g2]at hx;cases hx;exact .inl ⟨i,hi,rfl,o,g1,rfl⟩
  ·have gy:∀i,i<S0'.length→ρ' i≠r:=fun i hi e=>hex ⟨i,hi,e⟩;have iH:r<S.length:=by
    have h1:=AZ hx;rw[M.len]at h1;rcases Nat.lt_or_ge r S.length with h2|h2
    ·exact h2
    ·exact absurd (hρ2 (S0.length+(r - S.length)) (by omega)) (by have:=gy (S0.length+(r - S.length)) (by omega);intro e;apply this;rw[e];omega)
   exact .inr ⟨iH,gy,by rw[←M.rest r iH (fun i hi e=>gy i (by omega) (by rw[hρ i hi];exact e))];exact hx⟩
 have ownC:∀k,Eo G' S' k→Eo G0' S0' k∨∃r x,(∀i,i<S0'.length→ρ' i≠r)∧S[r]?=some x∧AAJ G r x=true∧k=G.BZ r:=by
  rintro k ⟨r,x,h1,h2,h3⟩;rcases cases' r x h1 with⟨i,hi,rfl,o,g1,rfl⟩|⟨iH,gy,hS⟩
  ·left;exact⟨i,o,g1,by rw[Bx o (G0:=G0') (i:=i) (gB i hi).2.2.symm]at h2;exact h2,by rw[h3,(gB i hi).1]⟩
  ·right;have hv:=gN r gy;refine⟨r,x,gy,hS,?_,by rw[h3,hv.1]⟩;cases x<;>simp[AAJ]at h2⊢;rw[hv.2.2]at h2;exact h2
 have notIm:∀r x,(∀i,i<S0'.length→ρ' i≠r)→S[r]?=some x→AAJ G r x=true→¬Eo G0 S0 (G.BZ r):=by
  rintro r x gy hx ho ⟨i,o,h1,h2,h3⟩;have hi:=AZ h1;obtain⟨o',g1,g2⟩:=M.F8 i hi;rw[h1]at g1;cases g1;have:=R.inj r (ρ i) _ _ hx g2 ho (by rw[Bx (ρ:=ρ) (G0:=G0) (G:=G) (i:=i) (j:=ρ i) o rfl];exact h2) h3;exact gy i (by omega) (by rw[hρ i hi];exact this.symm)
 have L:A9 G S w G' S' w':=by
  refine⟨fun k hk=>L0.I k hk,fun k hk=>L0.DG k hk,by rw[M.len];omega,fun r hr n' iz=>?_,fun r hr hm=>?_⟩
  ·by_cases hex:∃i,i<S0.length∧ρ i=r
   ·obtain⟨i,hi,rfl⟩:=hex;have gj:i<S0'.length:=by omega
    rw[←hρ i hi]at iz⊢;rw[(facts' i gj).1]at iz;obtain⟨n0,a1,a2,a3⟩:=L0.row i hi n' iz;refine⟨n0,by rw[hρ i hi,(facts i hi).1];exact a1,a2,fun e=>?_⟩;obtain⟨b1,b2,b3,b4⟩:=a3 e;obtain⟨c1,c2,c3⟩:=gB i gj;rw[c1,c2,c3,(facts' i gj).2.1,hρ i hi,(facts i hi).2.1];exact⟨b1,b2,b3,b4⟩
   ·have gy:∀i,i<S0'.length→ρ' i≠r:=fun i hi e=>by
     by_cases a:i<S0.length
     ·exact hex ⟨i,a,by rw[←hρ i a];exact e⟩
     ·rw[hρ2 i (by omega)]at e;omega
    have iy:=M.rest r hr fun i hi e=>hex ⟨i,hi,e⟩;obtain⟨c1,c2,c3⟩:=gN r gy;refine⟨n',by simpa only[lenOf,iy]using iz,Nat.le_refl _,fun _=>⟨c1,c2,c3,.inl (by simp only[AAf,iy])⟩⟩
  ·by_cases hex:∃i,i<S0.length∧ρ i=r
   ·obtain⟨i,hi,rfl⟩:=hex;have gj:i<S0'.length:=by omega
    rw[←hρ i hi]at hm⊢;rw[(facts' i gj).2.2]at hm;obtain⟨a1,a2⟩:=L0.map i hi hm;exact⟨by rw[hρ i hi,(facts i hi).2.2];exact a1,by rw[(gB i gj).1,a2,hρ i hi]⟩
   ·have gy:∀i,i<S0'.length→ρ' i≠r:=fun i hi e=>by
     by_cases a:i<S0.length
     ·exact hex ⟨i,a,by rw[←hρ i a];exact e⟩
     ·rw[hρ2 i (by omega)]at e;omega
    have iy:=M.rest r hr fun i hi e=>hex ⟨i,hi,e⟩;exact⟨by simpa only[AAN,iy]using hm,(gN r gy).1⟩
 have T:Tr G S w G' S' w':=by
  refine⟨T0.size,fun k hk=>T0.I k hk,fun k hk hn=>T0.DG k hk fun ho=>hn (own0 k ho),fun k hk=>?_,fun k hk=>?_,T0.os,T0.out⟩
  ·rcases ownC k hk with h1|⟨r,x,_,h2,h3,h4⟩
   ·exact(T0.own k h1).imp (own0 k) id
   ·exact .inl ⟨r,x,h2,h3,h4⟩
  ·rcases T0.im k hk with h1|h1|h1
   ·exact .inl h1
   ·exact .inr (.inl (own0 k h1))
   ·exact .inr (.inr h1)
 refine⟨cv,G',_,S',⟨v,S0',hRR,rfl,hS'.symm⟩,he,iO.Xu E',⟨R.Es.later L,fun r x hx=>?_,fun r1 r2 x1 x2 h1 h2 o1 o2 heq=>?_,fun k hk=>?_,fun k hk=>R0'.G5 k hk,fun k hk=>?_⟩,T,L⟩
 ·rcases cases' r x hx with⟨i,hi,rfl,o,g1,rfl⟩|⟨iH,gy,hS⟩
  ·exact(R0'.CT i o g1).Xu E' hi
  ·obtain⟨c1,c2,c3⟩:=gN r gy;exact(R.CT r x hS).later L (fun hw=>T0.DG _ (R.FW _ ⟨r,x,hS,hw,rfl⟩) (notIm r x gy hS hw)) c1 c2 c3
 ·have side:∀r x,S'[r]?=some x→AAJ G' r x=true→(∃i,∃_:i<S0'.length,ρ' i=r∧∃o,S0'[i]?=some o∧AAJ G0' i o=true∧G'.BZ r=G0'.BZ i)∨((∀i,i<S0'.length→ρ' i≠r)∧S[r]?=some x∧AAJ G r x=true∧G'.BZ r=G.BZ r):=fun r x hx ho=>by
   rcases cases' r x hx with⟨i,hi,rfl,o,g1,rfl⟩|⟨iH,gy,hS⟩
   ·exact .inl ⟨i,hi,rfl,o,g1,by rw[Bx o (G0:=G0') (i:=i) (gB i hi).2.2.symm]at ho;exact ho,(gB i hi).1⟩
   ·have hv:=gN r gy;refine .inr ⟨gy,hS,?_,hv.1⟩;cases x<;>simp[AAJ]at ho⊢;rw[hv.2.2]at ho;exact ho
  have clash:∀i o r x,S0'[i]?=some o→AAJ G0' i o=true→(∀i,i<S0'.length→ρ' i≠r)→S[r]?=some x→AAJ G r x=true→G0'.BZ i≠G.BZ r:=fun i o r x g1 g2 g3 g4 g5 heq=>by
   rcases T0.own _ ⟨i,o,g1,g2,rfl⟩with h|h
   ·exact notIm r x g3 g4 g5 (by rw[←heq];exact h)
   ·have:=R.FW _ ⟨r,x,g4,g5,rfl⟩;omega
  rcases side r1 x1 h1 o1 with⟨i,hi,rfl,o,g1,g2,g3⟩|⟨g1,g2,g3,g4⟩
  ·rcases side r2 x2 h2 o2 with⟨j,hj,rfl,o',k1,k2,k3⟩|⟨k1,k2,k3,k4⟩
   ·rw[g3,k3]at heq;rw[R0'.inj i j o o' g1 k1 g2 k2 heq]
   ·rw[g3,k4]at heq;exact absurd heq (clash i o r2 x2 g1 g2 k1 k2 k3)
  ·rcases side r2 x2 h2 o2 with⟨j,hj,rfl,o',k1,k2,k3⟩|⟨k1,k2,k3,k4⟩
   ·rw[g4,k3]at heq;exact absurd heq.symm (clash j o' r1 x1 k1 k2 g1 g2 g3)
   ·rw[g4,k4]at heq;exact R.inj r1 r2 x1 x2 g2 k2 g3 k3 heq
 ·rcases ownC k hk with h1|⟨r,x,h1,h2,h3,h4⟩
  ·exact R0'.nI k h1
  ·intro hI;rcases T0.im k hI with a|a|a
   ·exact R.nI k ⟨r,x,h2,h3,h4⟩ a
   ·exact notIm r x h1 h2 h3 (by rw[←h4];exact a)
   ·have:=R.FW k ⟨r,x,h2,h3,h4⟩;omega
 ·rcases ownC k hk with h1|⟨r,x,h1,h2,h3,h4⟩
  ·exact R0'.FW k h1
  ·have:=R.FW k ⟨r,x,h2,h3,h4⟩;have:=T0.size;omega
theorem At.Bq{f:FuncId}{args:List V}{RR:V→Sg→Prop}(h:At P f args S0 RR)(rs:List Nat)(hf:DZ S S0 rs)(hle:∀v S0',RR v S0'→rs.length≤S0'.length)(hb:args.all (AAB rs.length)=true):
  At P f (args.map (AAO (nameOf rs))) S (fun v' S'=>∃v S0',RR v S0'∧v'=AAO (CN (nameOf rs) rs.length S.length) v∧S'=CF S S0' rs):=by
 obtain⟨ju,ia,ow⟩:=hf;have hlen:rs.length=S0.length:=by have:=congrArg List.length ia;simpa using this
 have gz:∀i (h:i<rs.length) (h':i<S0.length),S[rs[i]]?=some (AAj (nameOf rs) S0[i]):=fun i h1 h2=>by
  have:=congrArg (·[i]?) ia;simpa[h1,h2]using this
 have hn:∀i (h:i<rs.length),nameOf rs i=rs[i]:=fun i h=>by simp[nameOf,List.getD,h]
 have cx:∀r∈rs,r<S.length:=fun r hr=>by
  obtain⟨i,hi,rfl⟩:=List.mem_iff_getElem.1 hr;exact AZ (gz i hi (by omega))
 have M:∀S0':Sg,rs.length≤S0'.length→MA (nameOf rs) S S0 S0' (CF S S0' rs):=fun S0' hle=>by
  refine⟨fun i j hi hj e=>?_,fun i hi=>⟨S0[i],List.getElem?_eq_getElem hi,?_⟩,fun i o ho=>?_,fun i o ho=>?_,fun r hr gy=>?_,?_⟩
  ·rw[hn i (by omega),hn j (by omega)]at e;exact F0 ju (by omega) (by omega) e
  ·rw[hn i (by omega)];exact gz i (by omega) hi
  ·rw[←hlen];exact List.all_eq_true.1 ow o (List.mem_of_getElem? ho)
  ·rw[←hlen];have hi:=AZ ho;have ng:S0'[i]=o:=by rw[List.getElem?_eq_getElem hi]at ho;simpa using ho
   unfold CF;by_cases hc:i<rs.length
   ·have e1:CN (nameOf rs) rs.length S.length i=rs[i]:=by simp[CN,hc]
    rw[e1,List.getElem?_append_left (by rw[Bo];exact cx _ (List.getElem_mem hc))];rw[JL S rs _ i hc (by simp;omega) ju cx];simp[ng]
   ·have e1:CN (nameOf rs) rs.length S.length i=S.length+(i - rs.length):=by simp[CN,hc]
    rw[e1,List.getElem?_append_right (by rw[Bo];omega),Bo];have:S.length+(i - rs.length) - S.length=i - rs.length:=by omega
    rw[this];simp only[List.getElem?_map,List.getElem?_drop];have:rs.length+(i - rs.length)=i:=by omega
    rw[this,ho];rfl
  ·unfold CF;rw[List.getElem?_append_left (by rw[Bo];exact hr)];refine GK S rs _ fun hm=>?_;obtain⟨i,hi,rfl⟩:=List.mem_iff_getElem.1 hm;exact gy i (by omega) (hn i hi)
  ·unfold CF;rw[List.length_append,Bo,List.length_map,List.length_drop,hlen]
 have:=h.frame (nameOf rs) (fun T=>CF S T rs) (M S0 (by omega)) (fun v S0' hr=>⟨M S0' (hle v S0' hr),by rw[←hlen];exact hle v S0' hr⟩) (fun x hx=>by rw[←hlen];exact List.all_eq_true.1 hb x hx);rwa [←hlen]at this
theorem AS.Cf{rest:List Oper}{c:Call}{f:FuncId}{args0:List V}{RR:V→Sg→Prop}(h:At P f args0 S0 RR)(rs:List Nat)(ho:o.op=.call c)
  (hp:o.guard=none∧A6 n o.dst∧A5 tm c∧AAb tm c f args0 rs∧DZ S S0 rs∧args0.all (AAB rs.length)=true) (hle:∀v S0',RR v S0'→rs.length≤S0'.length)
  (h2:∀v S0',RR v S0'→AS P n b ops rest (put tm o.dst (AAO (CN (nameOf rs) rs.length S.length) v)) (CF S S0' rs) K):AS P n b ops (o::rest) tm S K:=by
 obtain⟨h3,h4,h5,h6,h7,h9⟩:=hp;unfold AAb at h6;split at h6
 ·rename_i f' args hc;obtain⟨rfl,rfl⟩:=h6;exact AS.J4 ho h3 h4 hc h5 (h.Bq rs h7 hle h9) fun v S' ⟨v0,S0',hr,e1,e2⟩=>by subst e1;subst e2;exact h2 v0 S0' hr
 ·exact h6.elim
end
open Go.ChangeMaps (setBlock)
section
variable {P:Program} {n b:Nat} {o:Oper} {tm tm':Tm} {S S0 S0' S':Sg} {v:V} {ops:Array Oper} {Q:Exit→Tm→Sg→Prop}
def Er(P:Program)(n b:Nat)(ops:Array Oper)(l:List Oper)(tm:Tm)(S:Sg)(r _:Nat)(K:Nat→Nat→Tm→Sg→Prop):Prop:=
 ∀j0,(∀j,l[j]?=ops[j0+j]?)→∀G w a Q,St P n G S w a tm→b≤S.length→(∀a' w' G' S' tm' k it,E1 P n b G S w a.defers a' w' G' S' tm'→Vq G' S' w' r k it #[]→w.heap.size≤it→K k it tm' S'→Q .normal a' w')→wpOps P ops Q (List.range' j0 l.length) a w
theorem Er.step{rest:List Oper}{r t:Nat}{K:Nat→Nat→Tm→Sg→Prop}(hs:∀i,ops[i]?=some o→Step P n b ops i tm S tm' S')(h:Er P n b ops rest tm' S' r t K):Er P n b ops (o::rest) tm S r t K:=fun j0 hk G w a Q st hb hq=>by
 have h0:ops[j0]?=some o:=by simpa using(hk 0).symm
 simp only[List.length_cons,List.range'_succ];rw[wpOps_cons];refine hs j0 h0 G w a _ Q st hb fun a' w' G' hc=>?_;refine h (j0+1) (fun j=>by have:=hk (j+1);simp only[List.getElem?_cons_succ]at this;rw[this];congr 1;omega) G' w' a' Q hc.st hc.late.len fun a2 w2 G2 S2 tm2 k it gx km hle hK=>?_;exact hq a2 w2 G2 S2 tm2 k it ⟨gx.st,gx.ds.trans hc.ds,hc.tr.trans gx.tr,hc.late.trans gx.late⟩ km (Nat.le_trans hc.tr.size hle) hK
theorem Er.op{rest:List Oper}{r t:Nat}{K:Nat→Nat→Tm→Sg→Prop}(h1:AAw P n ops o tm S)(h2:Er P n b ops rest (put tm o.dst (Cq P ops o tm S)) (oS P o tm S) r t K):Er P n b ops (o::rest) tm S r t K:=
 Er.step (fun _ hi=>Step.B5 hi h1) h2
theorem Er.Ds{rest:List Oper}{r t:Nat}{K:Nat→Nat→Tm→Sg→Prop}{c:Call}{f:FuncId}{args0:List V}(h:AE P f args0 S0 v S0')(rs:List Nat)(ho:o.op=.call c)
  (hp:o.guard=none∧A6 n o.dst∧A5 tm c∧AAb tm c f args0 rs∧DZ S S0 rs∧rs.length≤S0'.length∧args0.all (AAB rs.length)=true)
  (h2:Er P n b ops rest (put tm o.dst (AAO (CN (nameOf rs) rs.length S.length) v)) (CF S S0' rs) r t K):Er P n b ops (o::rest) tm S r t K:=by
 obtain⟨h3,h4,h5,h6,h7,h8,h9⟩:=hp;unfold AAb at h6;split at h6
 ·rename_i f' args hc;obtain⟨rfl,rfl⟩:=h6;exact Er.step (fun _ hi=>Step.Hd hi h4 h3 (E2 ho hc h5 (h.Bq rs h7 h8 h9))) h2
 ·exact h6.elim
theorem Er.range{r t:Nat}{es:List (D×V)}{K:Nat→Nat→Tm→Sg→Prop}{T:TypeId}{x:Operand}(ho:o.op=.range T x)
  (hp:o.guard=none∧o.dst=some t∧t<n∧need (ev tm x)∧strip (ev tm x)=.map r∧S[r]?=some (.map es)∧(ABb P T).isSome=true)
  (h:∀it,K es.length it (EJ tm t (.d (.raw (.pointer (some ⟨it,0,none⟩))))) S):Er P n b ops [o] tm S r t K:=fun j0 hk G w a Q st hb hq=>by
 obtain⟨hg,hd,tA,hx,ex,hr,hT⟩:=hp;have h0:ops[j0]?=some o:=by simpa using(hk 0).symm
 simp only[List.length_cons,List.length_nil,List.range'_succ,List.range'_zero];rw[wpOps_cons];unfold wpOp;simp only[h0,Region.wanted,hg,if_true];left;have h1:=(BH st x).strip hx;rw[ex]at h1;have ou:a.eval x=.map (some (G.BZ r)):=by cases h1 with|map _ _ _ _ h=>exact h (by simp[AAN,hr])
 have gw:=st.rel.CT r _ hr;simp only[OK]at gw;obtain⟨ents,clock,q1,q2,qk,q3⟩:=gw;obtain⟨p,hp⟩:=Option.isSome_iff_exists.1 hT;obtain⟨ti,e1,e2⟩:=F7 hp;obtain⟨d,o8,lO⟩:=Ai e1 w;have hdE:d=.map p.1 p.2:=by rw[e2]at lO;cases d<;>simp[tk]at lO⊢;exact lO
 subst hdE;have ov:=MapKept.run_getObj_map (P:=P) q1;have gl:(execOp a.eval o).run P w=.ok (.value (.pointer (some ⟨w.heap.size,0,none⟩))) (BS w (.mapIter (some (G.BZ r)) clock #[] clock)):=by
  simp[execOp,ho,Instr.range,o8,ou,ov];rfl
 unfold Oper.wp;rw[gl];simp only[Oper.upon];obtain⟨r1,r2,r3⟩:=st.rel.Tx (.mapIter (some (G.BZ r)) clock #[] clock);have st':St P n G S (BS w (.mapIter (some (G.BZ r)) clock #[] clock)) (a.put o.dst (.pointer (some ⟨w.heap.size,0,none⟩))) (put tm o.dst (.d (.raw (.pointer (some ⟨w.heap.size,0,none⟩))))):=
  st.put (by rw[hd];exact tA) (.d _ _ (.raw _)) r1 r3
 simp only[wpOps];refine hq _ _ G S _ es.length w.heap.size ⟨st',Be,r2,r3.late hb⟩ ⟨?_,fun ho=>?_,fun hi=>?_⟩ (Nat.le_refl _) (by rw[hd];exact h _)
 ·rw[C0,qk]
 ·exact Nat.lt_irrefl _ (st.rel.FW _ ho)
 ·exact Nat.lt_irrefl _ (st.rel.G5 _ hi)
theorem Er.J4{r t:Nat}{K:Nat→Nat→Tm→Sg→Prop}{rest:List Oper}{c:Call}{f:FuncId}{args:List V}{R:V→Sg→Prop}(ho:o.op=.call c)(hg:o.guard=none)(hd:A6 n o.dst)(hc:callee tm c=some (f,args))(hn:A5 tm c)
  (h:At P f args S R) (h2:∀v S',R v S'→Er P n b ops rest (put tm o.dst v) S' r t K):Er P n b ops (o::rest) tm S r t K:=fun k hk G w a Q st hb hq=>by
 have h0:ops[k]?=some o:=by simpa using(hk 0).symm
 simp only[List.length_cons,List.range'_succ];rw[wpOps_cons];unfold wpOp;simp only[h0,Region.wanted,hg,if_true];left;have key:∀(next:Act→World→Prop),(∀cv w' G' v S',R v S'→CV G' S' w' v cv→Rel P G' S' w'→Tr G S w G' S' w'→A9 G S w G' S' w'→next (a.put o.dst cv) w')→o.wp P a w next Q:=fun next kont=>by
  obtain⟨hf,h⟩:=h;unfold callee at hc;obtain⟨jC,kO⟩:=hn;cases iU:c.callee with
  |value x=>
   simp only[iU]at hc jC;have hx:=(BH st x).strip jC;split at hc
   ·rename_i k' first caps mc
    simp only[Option.some.injEq,Prod.mk.injEq]at hc;obtain⟨e1,e2⟩:=hc;subst e1;subst e2;rw[mc]at hx;generalize hX:a.eval x=X at hx;cases hx with
    |fn _ _ _ xs ys h1 h2 h3 h4=>
     unfold ACT at hf;have gi:=h G w (xs++c.args.map a.eval++ys) st.rel (by simp[h1,h2]) (fun i hi gj=>by
      by_cases e1:i<first.length
      ·rw[List.getElem_append_left (by simp;omega),List.getElem_append_left e1];rw[Array.getElem_append_left (by simp;omega),Array.getElem_append_left (by omega)];exact h3 i e1
      ·by_cases e2:i<first.length+c.args.size
       ·rw[List.getElem_append_left (by simp;omega),List.getElem_append_right (by omega)];rw[Array.getElem_append_left (by simp;omega),Array.getElem_append_right (by omega)];simp only[List.getElem_map,Array.getElem_map,Array.getElem_toList,h1];exact(BH st _).strip (Fx kO _ (by simp))
       ·simp only[List.length_append,List.length_map,Array.length_toList]at hi;rw[List.getElem_append_right (by simp;omega)];rw[Array.getElem_append_right (by simp;omega)];simp only[List.length_append,List.length_map,Array.length_toList,Array.size_append,Array.size_map,h1];exact h4 _ (by omega))
     unfold Oper.wp;have gl:(execOp a.eval o).run P w=.ok (.enter k' (xs++c.args.map a.eval++ys)) w:=by
      split at hf
      ·rename_i fn lM;simp only[Bool.and_eq_true,Bool.not_eq_true',beq_eq_false_iff_ne,ne_eq]at hf;obtain⟨b,hb⟩:=Option.isSome_iff_exists.1 hf.2;simp[execOp,ho,resolve,iU,hX,Deferred.ofValue,invoke,callFunc,lM,hf.1,hb]
      ·cases hf
     rw[gl];simp only[Oper.upon];exact gi.mono fun e w' ⟨cv,G',v,S',hr,he,g1,g2,g3,g4⟩=>by subst he;exact kont cv w' G' v S' hr g1 g2 g3 g4
   ·cases hc
  |invoke=>simp[iU]at hc
  |builtin=>simp[iU]at hc
 refine key _ fun cv w' G' v S' hr g1 g2 g3 g4=>?_;refine h2 v S' hr (k+1) (fun j=>by have:=hk (j+1);simp only[List.getElem?_cons_succ]at this;rw[this];congr 1;omega) G' w' _ Q (st.put hd g1 g2 g4) (g4.late hb).len fun a2 w2 G2 S2 tm2 k2 it gx km hle hK=>hq a2 w2 G2 S2 tm2 k2 it ⟨gx.st,gx.ds.trans Be,g3.trans gx.tr,(g4.late hb).trans gx.late⟩ km (Nat.le_trans g3.size hle) hK
theorem Er.Cf{rest:List Oper}{r t:Nat}{K:Nat→Nat→Tm→Sg→Prop}{c:Call}{f:FuncId}{args0:List V}{RR:V→Sg→Prop}(h:At P f args0 S0 RR)(rs:List Nat)(ho:o.op=.call c)
  (hp:o.guard=none∧A6 n o.dst∧A5 tm c∧AAb tm c f args0 rs∧DZ S S0 rs∧args0.all (AAB rs.length)=true) (hle:∀v S0',RR v S0'→rs.length≤S0'.length)
  (h2:∀v S0',RR v S0'→Er P n b ops rest (put tm o.dst (AAO (CN (nameOf rs) rs.length S.length) v)) (CF S S0' rs) r t K):Er P n b ops (o::rest) tm S r t K:=by
 obtain⟨h3,h4,h5,h6,h7,h9⟩:=hp;unfold AAb at h6;split at h6
 ·rename_i f' args hc;obtain⟨rfl,rfl⟩:=h6;exact Er.J4 ho h3 h4 hc h5 (h.Bq rs h7 hle h9) fun v S' ⟨v0,S0',hr,e1,e2⟩=>by subst e1;subst e2;exact h2 v0 S0' hr
 ·exact h6.elim
theorem AW.ADX{i0 id0 id1 i1 i2 tk:Nat}{nx en:Array Oper}{body:Code}(r t:Nat){onx oen:Oper}(iP:b≤r+1)
  (rp:nx.toList.head? =some onx∧onx.op=.next (.tmp t) false∧onx.guard=none∧A6 n onx.dst) (lY:en.toList.head? =some oen∧oen.op=.entry (.tmp t)∧oen.guard=none∧A6 n oen.dst)
  (ni:Er P n b ops ops.toList tm S r t fun k it tm1 S1=>∃(es:List (D×V)) (Inv:Nat→List Nat→Tm→Sg→Prop),es.length=k∧Inv it [] tm1 S1∧(∀it vis tm S,Inv it vis tm S→S[r]?=some (.map es)∧tm t=.d (.raw (.pointer (some ⟨it,0,none⟩))))∧(∀it vis tm S i (hi:i<es.length),Inv it vis tm S→i∉vis→AS P n (r+1) nx (nx.toList.drop 1) (put tm onx.dst (.Bd [.d (.bool true),.d es[i].1,es[i].2])) S fun tm1 S1=>S1=S∧tm1 tk=.d (.bool true)∧tm1 t=.d (.raw (.pointer (some ⟨it,0,none⟩)))∧AS P n (r+1) en (en.toList.drop 1) (put tm1 oen.dst (.Bd [.d es[i].1,es[i].2])) S fun tm2 S2=>
     AW P n (r+1) body (AAA id1 (AAE (fun tm3 S3=>∃tm4 S4,AJ P n (r+1) tm3 S3 tm4 S4∧Inv it (vis++[i]) tm4 S4) (AAA id0 Q))) tm2 S2)∧(∀it vis tm S,Inv it vis tm S→(∀i,i<es.length→i∈vis)→AS P n (r+1) nx (nx.toList.drop 1) (put tm onx.dst (.Bd [.d (.bool false)])) S fun tm1 S1=>tm1 tk=.d (.bool false)∧Q .normal tm1 S1)):
  AW P n b (.seq (.region i0 ops false) (.block id0 (.loop (.seq (.region i1 nx false) (.seq (.cond (.tmp tk) .skip (.exit id0)) (.block id1 (.seq (.region i2 en false) body))))))) Q tm S:=by
 intro G w a st hb;obtain⟨j6,nj,pK,nk⟩:=rp;obtain⟨j7,pL,pM,pN⟩:=lY;have mf:nx.toList=onx::nx.toList.drop 1:=by
  cases h:nx.toList with
  |nil=>rw[h]at j6;simp at j6
  |cons x xs=>rw[h]at j6;simp only[List.head?_cons,Option.some.injEq]at j6;subst j6;rfl
 have lE:en.toList=oen::en.toList.drop 1:=by
  cases h:en.toList with
  |nil=>rw[h]at j7;simp at j7
  |cons x xs=>rw[h]at j7;simp only[List.head?_cons,Option.some.injEq]at j7;subst j7;rfl
 have j8:∀j,(onx::nx.toList.drop 1)[j]?=nx[j]?:=fun j=>by rw[←mf,Array.getElem?_toList]
 have kU:∀j,(oen::en.toList.drop 1)[j]?=en[j]?:=fun j=>by rw[←lE,Array.getElem?_toList]
 refine wp_seq (wp_region ?_);have nh:=ni 0 (fun j=>by simp) G w a (Exit.then ((Code.block id0 (.loop (.seq (.region i1 nx false) (.seq (.cond (.tmp tk) .skip (.exit id0)) (.block id1 (.seq (.region i2 en false) body)))))).wp P (K7 P n b Q G S w a.defers)) (K7 P n b Q G S w a.defers)) st hb ?_
 ·rw[List.range_eq_range'];simpa using nh
 intro a1 w1 G1 S1 tm1 k it iW pO hfresh ⟨es,Inv,mJ,hI1,hInv,lP,pJ⟩;subst mJ;refine wp_block ?_;refine wp_loop (I:=fun a' w'=>∃G' S' tm' vis,E1 P n b G S w a.defers a' w' G' S' tm'∧Vq G' S' w' r es.length it vis.toArray∧Inv it vis tm' S'∧vis.Nodup∧∀i∈vis,i<es.length)
  (μ:=fun _ w'=>match w'.heap[it]? with|some (.mapIter _ _ seen _)=>es.length - seen.size|_=>0) ⟨G1,S1,tm1,[],iW,pO,hI1,List.nodup_nil,fun i h=>by simp at h⟩ ?_
 rintro a' w' ⟨G',S',tm',vis,hc,km,hI,ju,cx⟩;obtain⟨hS,ht⟩:=hInv it vis tm' S' hI;have pP:=D3 km.heap;have iH:=AZ hS;have gw:=hc.st.rel.CT r _ hS;simp only[OK]at gw;obtain⟨ents,clock,q1,q2,qk,q3⟩:=gw;have kV:∀i (h:i<ents.size),ents[i].born=i:=fun i h=>by
  obtain⟨e,e1,_,_,e4,_⟩:=q3 i (by omega);rw[Array.getElem?_eq_getElem h]at e1;cases e1;exact e4
 have gg:∀x∈ents.toList,∃i,i<es.length∧x.born=i∧ents[i]?=some x:=fun x hx=>by
  obtain⟨i,hi,rfl⟩:=List.mem_iff_getElem.1 hx;have gj:i<ents.size:=by simpa using hi
  exact⟨i,by omega,by simpa using kV i gj,by rw[Array.getElem?_eq_getElem gj];simp⟩
 have kW:a'.eval (.tmp t)=.pointer (some ⟨it,0,none⟩):=by
  have:=hc.st.tm t;rw[ht]at this;simp only[Act.eval];generalize a'.tmps.getD t undef=X at this;cases this with|d _ _ h=>cases h;rfl
 have iL:nx[0]?=some onx:=by have:=j8 0;simpa using this.symm
 have tB:en[0]?=some oen:=by have:=kU 0;simpa using this.symm
 refine wp_seq (wp_region ?_);rw[List.range_eq_range'];have gp:nx.size=(nx.toList.drop 1).length+1:=by have:=congrArg List.length mf;simpa using this
 rw[gp,List.range'_succ,wpOps_cons];unfold wpOp;simp only[iL,Region.wanted,pK,if_true];left;unfold Oper.wp;rcases run_next_at (P:=P) w' onx.type it (G'.BZ r) es.length es.length vis.toArray ents clock km.heap q1 (fun x hx=>by obtain⟨i,h1,h2,_⟩:=gg x hx;omega) (Nat.le_refl _)with⟨hz,gl⟩|⟨e,he,w2,jm,gl⟩
 ·
  have iA:(execOp a'.eval onx).run P w'=.ok (.value (.tuple #[.bool false])) w':=by
   simp only[execOp,nj,kW,Sem.run_bind,gl,Result.andThen_ok,Sem.run_pure]
  rw[iA];simp only[Oper.upon];have st2:St P n G' S' w' (a'.put onx.dst (.tuple #[.bool false])) (put tm' onx.dst (.Bd [.d (.bool false)])):=
   hc.st.put nk (.Bd _ _ rfl (fun i h=>by
    have:i=0:=by simp at h;omega
    subst this;exact .d _ _ (.bool _))) hc.st.rel (A9.refl _ _ _)
  have nn:∀i,i<es.length→i∈vis:=fun i hi=>by
   by_cases hm:i∈vis
   ·exact hm
   ·exfalso;have m0:i<ents.size:=by omega
    have:ents[i]∈(leftOf ents vis.toArray).toList:=by
     simp only[leftOf,Array.toList_filter,List.mem_filter];refine⟨by simp,?_⟩;rw[kV i m0];simpa using hm
    have h0:(leftOf ents vis.toArray).toList=[]:=by
     apply List.eq_nil_of_length_eq_zero;simpa using hz
    rw[h0]at this;simp at this
  refine pJ it vis tm' S' hI nn 1 (fun j=>by have:=j8 (j+1);simp only[List.getElem?_cons_succ]at this;rw[this];congr 1;omega) G' w' _ _ st2 (by omega) fun a3 w3 hh=>?_;obtain⟨G3,S3,tm3,np,hk,hQ⟩:=hh;refine wp_seq (wp_cond_false ?_ (wp_exit ?_))
  ·have:=np.st.tm tk;rw[hk]at this;simp only[Act.eval];generalize a3.tmps.getD tk undef=X at this;cases this with|d _ _ h=>cases h;rfl
  ·simp only[Exit.then,Exit.inBlock,if_true];exact⟨G3,S3,tm3,⟨np.st,(np.ds.trans Be).trans hc.ds,hc.tr.trans np.tr,hc.late.trans (np.late.I4 iP)⟩,hQ⟩
 ·
  obtain⟨i,hi,rq,oZ⟩:=gg e (by simp only[leftOf,Array.toList_filter,List.mem_filter]at he;exact he.1);have nq:i∉vis:=by
   simp only[leftOf,Array.toList_filter,List.mem_filter]at he;have:=he.2;rw[rq]at this;simpa using this
  have iA:(execOp a'.eval onx).run P w'=.ok (.value (.tuple #[.bool true,e.key,e.val])) (setBlock w2 it (.mapIter (some (G'.BZ r)) es.length (vis.toArray.push e.born) clock)):=by
   simp only[execOp,nj,kW,Sem.run_bind,gl,Result.andThen_ok,Sem.run_pure]
  rw[iA];simp only[Oper.upon];generalize nr:setBlock w2 it (.mapIter (some (G'.BZ r)) es.length (vis.toArray.push e.born) clock)=w3;have lQ:w2.heap=w'.heap:=by rcases jm with rfl|rfl<;>rfl
  have nt:w3.heap.size=w'.heap.size:=by rw[←nr];simp[setBlock,lQ]
  have nv:∀k,k≠it→w3.heap[k]?=w'.heap[k]?:=fun k hk=>by rw[←nr];simp only[setBlock,lQ];rw[Array.getElem?_setIfInBounds_ne (Ne.symm hk)]
  have pQ:w3.heap[it]?=some (.mapIter (some (G'.BZ r)) es.length (vis++[i]).toArray es.length):=by
   rw[←nr];simp[setBlock,lQ,pP,rq,qk]
  have kX:w3.os=w'.os∧w3.output=w'.output:=by rw[←nr];rcases jm with rfl|rfl<;>exact⟨rfl,rfl⟩
  obtain⟨r1,r3⟩:=hc.st.rel.hidden km.own km.Sk nt nv;obtain⟨e',f1,f2,f3,f4,f5⟩:=q3 i hi;rw[oZ]at f1;cases f1;have lR:E1 P n b G S w a.defers a' w3 G' S' tm':=
   ⟨⟨hc.st.size,hc.st.tm.later r3,r1⟩,hc.ds,⟨by rw[nt];exact hc.tr.size,hc.tr.I,fun k hk gy=>by rw[nv k (by omega)];exact hc.tr.DG k hk gy,hc.tr.own,hc.tr.im,kX.1.trans hc.tr.os,kX.2.trans hc.tr.out⟩,hc.late⟩
  have pR:Vq G' S' w3 r es.length it (vis++[i]).toArray:=⟨pQ,km.own,km.Sk⟩;have st2:St P n G' S' w3 (a'.put onx.dst (.tuple #[.bool true,e.key,e.val])) (put tm' onx.dst (.Bd [.d (.bool true),.d es[i].1,es[i].2])):=
   lR.st.put nk (.Bd _ _ rfl (fun j h=>by
    have h3:j<3:=by simpa using h
    match j,h3 with
    |0,_=>exact .d _ _ (.bool _)
    |1,_=>exact .W4 (f2.mono r3.I r3.DG)
    |2,_=>exact f3.later r3)) r1 (A9.refl _ _ _)
  refine lP it vis tm' S' i hi hI nq 1 (fun j=>by have:=j8 (j+1);simp only[List.getElem?_cons_succ]at this;rw[this];congr 1;omega) G' w3 _ _ st2 (by omega) fun a4 w4 hh=>?_;obtain⟨G4,S4,tm4,jM,hS4,oA,tC,pS⟩:=hh;subst hS4;have qJ:G4.BZ r=G'.BZ r:=(jM.late.map r (by omega) (by simp[AAN,hS])).2;have nw:=pR.later jM.tr qJ;refine wp_seq (wp_cond_true ?_ (wp_skip ?_))
  ·have:=jM.st.tm tk;rw[oA]at this;simp only[Act.eval];generalize a4.tmps.getD tk undef=X at this;cases this with|d _ _ h=>cases h;rfl
  simp only[Exit.then];refine wp_block (wp_seq (wp_region ?_));rw[List.range_eq_range'];have pU:en.size=(en.toList.drop 1).length+1:=by have:=congrArg List.length lE;simpa using this
  rw[pU,List.range'_succ,wpOps_cons];unfold wpOp;simp only[tB,Region.wanted,pM,if_true];left;unfold Oper.wp;have pV:a4.eval (.tmp t)=.pointer (some ⟨it,0,none⟩):=by
   have:=jM.st.tm t;rw[tC]at this;simp only[Act.eval];generalize a4.tmps.getD t undef=X at this;cases this with|d _ _ h=>cases h;rfl
  have ny:=jM.st.rel.CT r _ hS;simp only[OK]at ny;obtain⟨ents4,clock4,p1,p2,pk,p3⟩:=ny;obtain⟨e4,g1,g2,g3,g4,g5⟩:=p3 i hi;have lS:∀j (h:j<ents4.size),ents4[j].born=j:=fun j h=>by
   obtain⟨x,x1,_,_,x4,_⟩:=p3 j (by omega);rw[Array.getElem?_eq_getElem h]at x1;cases x1;exact x4
  have nz:ents4.toList.map (·.born)=List.range ents4.size:=by
   apply List.ext_getElem
   ·simp
   ·intro j h1 h2;simp only[List.getElem_map,Array.getElem_toList,List.getElem_range];exact lS j (by simpa using h1)
  have rv:=nw.heap;have nA:(vis++[i]).toArray=vis.toArray.push e4.born:=by rw[g4];simp
  rw[nA]at rv;have nB:=run_entry_at (P:=P) w4 it (G4.BZ r) es.length vis.toArray ents4 clock4 e4 (by rw[pk];exact rv) p1 (by have:=Array.mem_of_getElem? g1;simpa using this) (by rw[nz];exact List.nodup_range);have lT:(execOp a4.eval oen).run P w4=.ok (.value (.tuple #[e4.key,e4.val])) w4:=by
   simp only[execOp,pL,pV,Sem.run_bind,nB,Result.andThen_ok,Sem.run_pure]
  rw[lT];simp only[Oper.upon];have st5:St P n G4 S4 w4 (a4.put oen.dst (.tuple #[e4.key,e4.val])) (put tm4 oen.dst (.Bd [.d es[i].1,es[i].2])):=
   jM.st.put pN (.Bd _ _ rfl (fun j h=>by
    have h3:j<2:=by simpa using h
    match j,h3 with
    |0,_=>exact .W4 g2
    |1,_=>exact g3)) jM.st.rel (A9.refl _ _ _)
  refine pS 1 (fun j=>by have:=kU (j+1);simp only[List.getElem?_cons_succ]at this;rw[this];congr 1;omega) G4 w4 _ _ st5 (by omega) fun a6 w6 hh=>?_;obtain⟨G6,S6,tm6,nC,nD⟩:=hh;have nE:r+1≤S6.length:=nC.late.len;refine wp_mono (nD G6 w6 a6 nC.st nE) fun ex a7 w7 hl=>?_;obtain⟨G7,S7,tm7,mg,jE⟩:=hl;have d7:a7.defers=a.defers:=mg.ds.trans (nC.ds.trans (Be.trans (jM.ds.trans (Be.trans hc.ds))));have t7:Tr G4 S4 w4 G7 S7 w7:=nC.tr.trans mg.tr;have l7:Dt (r+1) G4 S4 G7 S7:=nC.late.trans mg.late;have full:E1 P n b G S w a.defers a7 w7 G7 S7 tm7:=⟨mg.st,d7,(lR.tr.trans jM.tr).trans t7,(hc.late.trans (jM.late.I4 iP)).trans (l7.I4 iP)⟩;have cont:(∃tm4 S4,AJ P n (r+1) tm7 S7 tm4 S4∧Inv it (vis++[i]) tm4 S4)→(∃G' S' tm' vis,E1 P n b G S w a.defers a7 w7 G' S' tm'∧Vq G' S' w7 r es.length it vis.toArray∧Inv it vis tm' S'∧vis.Nodup∧∀i∈vis,i<es.length)∧(match w7.heap[it]? with|some (.mapIter _ _ seen _)=>es.length - seen.size|_=>0)<(match w'.heap[it]? with|some (.mapIter _ _ seen _)=>es.length - seen.size|_=>0):=by
   rintro⟨tm8,S8,g8,hI8⟩;obtain⟨G8,st8,t8,l8⟩:=g8 G7 w7 a7 mg.st mg.late.len;obtain⟨hS8,_⟩:=hInv _ _ _ _ hI8;have ry:G8.BZ r=G4.BZ r:=((l7.trans l8).map r (by omega) (by simp[AAN,hS8])).2;have nF:=nw.later (t7.trans t8) ry;refine⟨⟨G8,S8,tm8,vis++[i],⟨st8,d7,full.tr.trans t8,full.late.trans (l8.I4 iP)⟩,nF,hI8,?_,?_⟩,?_⟩
   ·rw[List.nodup_append];exact⟨ju,by simp,fun x hx y hy e=>by simp only[List.mem_singleton]at hy;subst e;subst hy;exact nq hx⟩
   ·intro x hx;rcases List.mem_append.1 hx with hx|hx
    ·exact cx x hx
    ·simp only[List.mem_singleton]at hx;subst hx;exact hi
   ·rw[nF.heap,km.heap];have h1:vis.length<es.length:=by
     have h2:=FL id (l:=vis++[i]) (n:=es.length) (by
      rw[List.nodup_append];exact⟨ju,by simp,fun x hx y hy e=>by simp only[List.mem_singleton]at hy;subst e;subst hy;exact nq hx⟩) (fun x hx=>by
       rcases List.mem_append.1 hx with hx|hx
       ·exact cx x hx
       ·simp only[List.mem_singleton]at hx;subst hx;exact hi) (fun x _ y _ e=>e)
     simp at h2;omega
    simp;omega
  cases ex with
  |normal=>
   simp only[AAA,AAE]at jE;simp only[Exit.then,Exit.inBlock];exact cont jE
  |exit id'=>
   simp only[AAA]at jE;simp only[Exit.then,Exit.inBlock];by_cases e1:id'=id1
   ·simp only[e1,if_true,AAE]at jE⊢;exact cont jE
   ·simp only[e1,if_false,AAE,AAA]at jE⊢;by_cases e0:id'=id0
    ·simp only[e0,if_true]at jE⊢;exact⟨G7,S7,tm7,full,jE⟩
    ·simp only[e0,if_false]at jE⊢;exact⟨G7,S7,tm7,full,jE⟩
  |goto l=>exact⟨G7,S7,tm7,full,jE⟩
  |ret=>exact⟨G7,S7,tm7,full,jE⟩
  |panic c=>exact⟨G7,S7,tm7,full,jE⟩
  |outgrown=>exact⟨G7,S7,tm7,full,jE⟩
theorem AW.RK{i0 id0 id1 i1 i2 tk:Nat}{nx en:Array Oper}{body:Code}(r t:Nat){onx oen:Oper}(iP:b≤r+1)
  (rp:nx.toList.head? =some onx∧onx.op=.next (.tmp t) false∧onx.guard=none∧A6 n onx.dst) (lY:en.toList.head? =some oen∧oen.op=.entry (.tmp t)∧oen.guard=none∧A6 n oen.dst)
  (ni:∀K:Nat→Nat→Tm→Sg→Prop,(∀(es:List (D×V)) (Inv:Nat→List Nat→Tm→Sg→Prop) it tm1 S1,Inv it [] tm1 S1→((∀it vis tm S,Inv it vis tm S→S[r]?=some (.map es)∧tm t=.d (.raw (.pointer (some ⟨it,0,none⟩))))∧(∀it vis tm S i (hi:i<es.length),Inv it vis tm S→i∉vis→AS P n (r+1) nx (nx.toList.drop 1) (put tm onx.dst (.Bd [.d (.bool true),.d es[i].1,es[i].2])) S fun tm1 S1=>S1=S∧tm1 tk=.d (.bool true)∧tm1 t=.d (.raw (.pointer (some ⟨it,0,none⟩)))∧AS P n (r+1) en (en.toList.drop 1) (put tm1 oen.dst (.Bd [.d es[i].1,es[i].2])) S fun tm2 S2=>
     AW P n (r+1) body (AAA id1 (AAE (fun tm3 S3=>∃tm4 S4,AJ P n (r+1) tm3 S3 tm4 S4∧Inv it (vis++[i]) tm4 S4) (AAA id0 Q))) tm2 S2)∧(∀it vis tm S,Inv it vis tm S→(∀i,i<es.length→i∈vis)→AS P n (r+1) nx (nx.toList.drop 1) (put tm onx.dst (.Bd [.d (.bool false)])) S fun tm1 S1=>tm1 tk=.d (.bool false)∧Q .normal tm1 S1))→K es.length it tm1 S1)→Er P n b ops ops.toList tm S r t K):
  AW P n b (.seq (.region i0 ops false) (.block id0 (.loop (.seq (.region i1 nx false) (.seq (.cond (.tmp tk) .skip (.exit id0)) (.block id1 (.seq (.region i2 en false) body))))))) Q tm S:=
 AW.ADX r t iP rp lY (ni _ fun es Inv _ _ _ h1 h2=>⟨es,Inv,rfl,h1,h2⟩)
end
end Go.Koi
