/- Part 10 of the proof that the law ChangeValid returns true for every input. -/
import Derived.Test.YtlgjmkfbkhfakaaGreatDoorK08
set_option maxHeartbeats 64000000
set_option maxRecDepth 100000
namespace Go.Koi
section
variable {P:Program} {n b:Nat} {o:Oper} {tm tm':Tm} {S S0 S0' S':Sg} {v:V}
theorem OK.Ia{ρ:Nat→Nat}{G0 G:Gh}{w:World}(E:QO ρ G0 S0 G S){i:Nat}(hi:i<S0.length){o:O}(h:OK G S w (ρ i) (AAj ρ o))(hb:AAG S0.length o=true):OK G0 S0 w i o:=by
 have hI:∀b,G.I b→G0.I b:=fun b=>(E.I b).2;cases o with
 |row wr sz els=>
  simp only[OK,AAj,DN]at h⊢;rw[E.BB i hi,E.BZ i hi,E.cap i hi];cases hv:G.BB (ρ i)with
  |none=>
   simp only[hv]at h⊢;obtain⟨c,T,g1,g2,g3,g4,g5⟩:=h;refine⟨c,T,g1,g2,by simpa using g3,by simpa using g4,fun k hk=>?_⟩;obtain⟨u,u1,u2,u3,u4⟩:=g5 k (by simpa using hk);exact⟨u,u1.Ia E (by simp) (Ch hb k hk),u2,u3,u4⟩
  |some a=>
   simp only[hv]at h⊢;obtain⟨h1,h2,xs,h3,h4⟩:=h;refine⟨h1,by simpa using h2,xs,?_,h4.mono hI fun _ _=>rfl⟩;apply List.ext_getElem
   ·have:=congrArg List.length h3;simpa using this
   ·intro k k1 k2;have e:=congrArg (·[k]?) h3;have k3:k<xs.length:=by simpa using k2
    simp only[List.getElem?_map,List.getElem?_eq_getElem k1,List.getElem?_eq_getElem k3,Option.map_some,Option.some.injEq]at e;have:els[k]=.d xs[k]:=by
     generalize els[k]=y at e;cases y<;>simp[AAO]at e;subst e;rfl
    simpa using this
 |BJ xs=>
  simp only[OK,AAj]at h⊢;rw[E.AAP hi];exact h.mono hI fun _ _=>rfl
 |map es=>
  simp only[OK,AAj]at h⊢;rw[E.BZ i hi];obtain⟨ents,clock,g1,g2,gk,g3⟩:=h;refine⟨ents,clock,g1,by simpa using g2,by simpa using gk,fun k hk=>?_⟩;obtain⟨e,e1,e2,e3,e4,e5⟩:=g3 k (by simpa using hk);have mW:AAB S0.length es[k].2=true:=List.all_eq_true.1 hb es[k] (by simp);exact⟨e,e1,by simpa using e2.mono hI fun _ _=>rfl,e3.Ia E (by simp) mW,e4,e5⟩
 |dead=>trivial
theorem OK.Xu{ρ:Nat→Nat}{G0 G:Gh}{w:World}(E:QO ρ G0 S0 G S){i:Nat}(hi:i<S0.length){o:O}(h:OK G0 S0 w i o):OK G S w (ρ i) (AAj ρ o):=by
 have hI:∀b,G0.I b→G.I b:=fun b=>(E.I b).1;cases o with
 |row wr sz els=>
  simp only[OK,AAj,DN]at h⊢;rw[E.BB i hi,E.BZ i hi,E.cap i hi]at h;cases hv:G.BB (ρ i)with
  |none=>
   simp only[hv]at h⊢;obtain⟨c,T,g1,g2,g3,g4,g5⟩:=h;refine⟨c,T,g1,g2,by simpa using g3,by simpa using g4,fun k hk=>?_⟩;obtain⟨u,u1,u2,u3,u4⟩:=g5 k (by simpa using hk);exact⟨u,by simpa using u1.Xu E,u2,u3,u4⟩
  |some a=>
   simp only[hv]at h⊢;obtain⟨h1,h2,xs,rfl,h4⟩:=h;exact⟨h1,by simpa using h2,xs,by simp[AAO,Function.comp_def],h4.mono hI fun _ _=>rfl⟩
 |BJ xs=>
  simp only[OK,AAj]at h⊢;rw[E.AAP hi]at h;exact h.mono hI fun _ _=>rfl
 |map es=>
  simp only[OK,AAj]at h⊢;rw[E.BZ i hi]at h;obtain⟨ents,clock,g1,g2,gk,g3⟩:=h;refine⟨ents,clock,g1,by simpa using g2,by simpa using gk,fun k hk=>?_⟩;obtain⟨e,e1,e2,e3,e4,e5⟩:=g3 k (by simpa using hk);exact⟨e,e1,by simpa using e2.mono hI fun _ _=>rfl,by simpa using e3.Xu E,e4,e5⟩
 |dead=>trivial
def CN(ρ:Nat→Nat)(k m:Nat):Nat→Nat:=fun i=>if i<k then ρ i else m+(i - k)
structure MA(ρ:Nat→Nat)(S S0 S0' S':Sg):Prop where
 inj:∀i j:Nat,i<S0.length→j<S0.length→ρ i=ρ j→i=j
 F8:∀i:Nat,i<S0.length→∃o:O,S0[i]?=some o∧S[ρ i]?=some (AAj ρ o)
 below:∀(i:Nat) (o:O),S0[i]?=some o→AAG S0.length o=true
 new:∀(i:Nat) (o:O),S0'[i]?=some o→S'[CN ρ S0.length S.length i]?=some (AAj (CN ρ S0.length S.length) o)
 rest:∀r:Nat,r<S.length→(∀i:Nat,i<S0.length→ρ i≠r)→S'[r]?=S[r]?
 len:S'.length=S.length+(S0'.length - S0.length)
open Classical in
theorem AE.frame{f:FuncId}{args:List V}{v:V}(h:AE P f args S0 v S0')(ρ:Nat→Nat)(M:MA ρ S S0 S0' S')(hle:S0.length≤S0'.length)(hb:∀x∈args,AAB S0.length x=true):
  AE P f (args.map (AAO ρ)) S (AAO (CN ρ S0.length S.length) v) S':=by
 refine⟨h.1,fun G w cargs R gp gi=>?_⟩;let G0:Gh:={I:=G.I,BZ:=fun i=>G.BZ (ρ i),cap:=fun i=>G.cap (ρ i),BB:=fun i=>G.BB (ρ i)};have facts:∀i,i<S0.length→lenOf S (ρ i)=lenOf S0 i∧AAf S (ρ i)=AAf S0 i∧AAN S (ρ i)=AAN S0 i:=fun i hi=>by
  obtain⟨o,h1,h2⟩:=M.F8 i hi;exact FA ρ o h1 h2
 have E:QO ρ G0 S0 G S:=⟨fun _=>Iff.rfl,fun i hi=>by obtain⟨o,_,h2⟩:=M.F8 i hi;exact AZ h2,fun i hi=>(facts i hi).1,fun i hi=>(facts i hi).2.1,fun i hi=>(facts i hi).2.2,fun _ _=>rfl,fun _ _=>rfl,fun _ _=>rfl⟩;have own0:∀k,Eo G0 S0 k→Eo G S k:=by
  rintro k ⟨i,o,h1,h2,h3⟩;have hi:=AZ h1;obtain⟨o',g1,g2⟩:=M.F8 i hi;rw[h1]at g1;cases g1;exact⟨ρ i,_,g2,by rw[Bx (ρ:=ρ) (G0:=G0) (G:=G) (i:=i) (j:=ρ i) o rfl];exact h2,h3⟩
 have R0:Rel P G0 S0 w:=by
  refine⟨R.Es,fun i o ho=>?_,fun i j x y hx hy ox oy he=>?_,fun k hk=>R.nI k (own0 k hk),R.G5,fun k hk=>R.FW k (own0 k hk)⟩
  ·have hi:=AZ ho;obtain⟨o',g1,g2⟩:=M.F8 i hi;rw[ho]at g1;cases g1;exact(R.CT _ _ g2).Ia E hi (M.below i o ho)
  ·obtain⟨x',g1,g2⟩:=M.F8 i (AZ hx);obtain⟨y',g3,g4⟩:=M.F8 j (AZ hy);rw[hx]at g1;cases g1;rw[hy]at g3;cases g3;exact M.inj i j (AZ hx) (AZ hy) (R.inj (ρ i) (ρ j) _ _ g2 g4 (by rw[Bx (ρ:=ρ) (G0:=G0) (G:=G) (i:=i) (j:=ρ i) x rfl];exact ox) (by rw[Bx (ρ:=ρ) (G0:=G0) (G:=G) (i:=j) (j:=ρ j) y rfl];exact oy) he)
 refine(h.2 G0 w cargs R0 (by simpa using gp) (fun i hi gj=>(gi i (by simpa using hi) gj).Ia E (by simp) (hb _ (List.getElem_mem hi)))).mono ?_;rintro e w' ⟨cv,G0',he,iO,R0',T0,L0⟩;let ρ':=CN ρ S0.length S.length;have hρ:∀i,i<S0.length→ρ' i=ρ i:=fun i hi=>by simp[ρ',CN,hi]
 have hρ2:∀i,S0.length≤i→ρ' i=S.length+(i - S0.length):=fun i hi=>by simp[ρ',CN,Nat.not_lt.2 hi]
 have nb:∀i j,i<S0'.length→j<S0'.length→ρ' i=ρ' j→i=j:=fun i j hi hj hij=>by
  by_cases a1:i<S0.length<;>by_cases a2:j<S0.length
  ·rw[hρ i a1,hρ j a2]at hij;exact M.inj i j a1 a2 hij
  ·rw[hρ i a1,hρ2 j (by omega)]at hij;have:=E.lt i a1;omega
  ·rw[hρ2 i (by omega),hρ j a2]at hij;have:=E.lt j a2;omega
  ·rw[hρ2 i (by omega),hρ2 j (by omega)]at hij;omega
 let back (r:Nat):Option Nat:=if h:∃i,i<S0'.length∧ρ' i=r then some h.choose else none;have kS:∀i,i<S0'.length→back (ρ' i)=some i:=fun i hi=>by
  have hex:∃j,j<S0'.length∧ρ' j=ρ' i:=⟨i,hi,rfl⟩;have:=hex.choose_spec;simp only[back,hex,dif_pos];rw[nb _ _ this.1 hi this.2]
 have nf:∀r,(∀i,i<S0'.length→ρ' i≠r)→back r=none:=fun r hr=>by
  have:¬∃i,i<S0'.length∧ρ' i=r:=fun⟨i,h1,h2⟩=>hr i h1 h2;simp only[back,this,dif_neg,not_false_eq_true]
 let G':Gh:={I:=G0'.I,BZ:=fun r=>match back r with|some i=>G0'.BZ i|none=>G.BZ r,cap:=fun r=>match back r with|some i=>G0'.cap i|none=>G.cap r,BB:=fun r=>match back r with|some i=>G0'.BB i|none=>G.BB r};have gB:∀i,i<S0'.length→G'.BZ (ρ' i)=G0'.BZ i∧G'.cap (ρ' i)=G0'.cap i∧G'.BB (ρ' i)=G0'.BB i:=fun i hi=>by simp only[G',kS i hi,and_self]
 have gN:∀r,(∀i,i<S0'.length→ρ' i≠r)→G'.BZ r=G.BZ r∧G'.cap r=G.cap r∧G'.BB r=G.BB r:=fun r hr=>by simp only[G',nf r hr,and_self]
 have get':∀i,i<S0'.length→∃o,S0'[i]?=some o∧S'[ρ' i]?=some (AAj ρ' o):=fun i hi=>⟨S0'[i],List.getElem?_eq_getElem hi,M.new i _ (List.getElem?_eq_getElem hi)⟩;have facts':∀i,i<S0'.length→lenOf S' (ρ' i)=lenOf S0' i∧AAf S' (ρ' i)=AAf S0' i∧AAN S' (ρ' i)=AAN S0' i:=fun i hi=>by
  obtain⟨o,h1,h2⟩:=get' i hi;exact FA ρ' o h1 h2
 have E':QO ρ' G0' S0' G' S':=⟨fun _=>Iff.rfl,fun i hi=>by obtain⟨o,_,h2⟩:=get' i hi;exact AZ h2,fun i hi=>(facts' i hi).1,fun i hi=>(facts' i hi).2.1,fun i hi=>(facts' i hi).2.2,fun i hi=>(gB i hi).1.symm,fun i hi=>(gB i hi).2.1.symm,fun i hi=>(gB i hi).2.2.symm⟩;have cases':∀r x,S'[r]?=some x→(∃i,∃_:i<S0'.length,ρ' i=r∧∃o,S0'[i]?=some o∧x=AAj ρ' o)∨(r<S.length∧(∀i,i<S0'.length→ρ' i≠r)∧S[r]?=some x):=fun r x hx=>by
  by_cases hex:∃i,i<S0'.length∧ρ' i=r
  ·obtain⟨i,hi,rfl⟩:=hex;obtain⟨o,g1,g2⟩:=get' i hi;rw[g2]at hx;cases hx;exact .inl ⟨i,hi,rfl,o,g1,rfl⟩
  ·have gy:∀i,i<S0'.length→ρ' i≠r:=fun i hi e=>hex ⟨i,hi,e⟩;have iH:r<S.length:=by
    have h1:=AZ hx;rw[M.len]at h1;rcases Nat.lt_or_ge r S.length with h2|h2
    ·exact h2
    ·exact absurd (hρ2 (S0.length+(r - S.length)) (by omega)) (by have:=gy (S0.length+(r - S.length)) (by omega);intro e;apply this;rw[e];omega)
   exact .inr ⟨iH,gy,by rw[←M.rest r iH (fun i hi e=>gy i (by omega) (by rw[hρ i hi];exact e))];exact hx⟩
 have ownC:∀k,Eo G' S' k→Eo G0' S0' k∨∃r x,(∀i,i<S0'.length→ρ' i≠r)∧S[r]?=some x∧AAJ G r x=true∧k=G.BZ r:=by
  rintro k ⟨r,x,h1,h2,h3⟩;rcases cases' r x h1 with⟨i,hi,rfl,o,g1,rfl⟩|⟨iH,gy,hS⟩
  ·left;exact⟨i,o,g1,by rw[Bx o (G0:=G0') (i:=i) (gB i hi).2.2.symm]at h2;exact h2,by rw[h3,(gB i hi).1]⟩
  ·right;have hv:=gN r gy;refine⟨r,x,gy,hS,?_,by rw[h3,hv.1]⟩;cases x<;>simp[AAJ]at h2⊢;rw[hv.2.2]at h2;exact h2
 have notIm:∀r x,(∀i,i<S0'.length→ρ' i≠r)→S[r]?=some x→AAJ G r x=true→¬Eo G0 S0 (G.BZ r):=by
  rintro r x gy hx ho ⟨i,o,h1,h2,h3⟩;have hi:=AZ h1;obtain⟨o',g1,g2⟩:=M.F8 i hi;rw[h1]at g1;cases g1;have:=R.inj r (ρ i) _ _ hx g2 ho (by rw[Bx (ρ:=ρ) (G0:=G0) (G:=G) (i:=i) (j:=ρ i) o rfl];exact h2) h3;exact gy i (by omega) (by rw[hρ i hi];exact this.symm)
 have L:A9 G S w G' S' w':=by
  refine⟨fun k hk=>L0.I k hk,fun k hk=>L0.DG k hk,by rw[M.len];omega,fun r hr n' iz=>?_,fun r hr hm=>?_⟩
  ·by_cases hex:∃i,i<S0.length∧ρ i=r
   ·obtain⟨i,hi,rfl⟩:=hex;have gj:i<S0'.length:=by omega
    rw[←hρ i hi]at iz⊢;rw[(facts' i gj).1]at iz;obtain⟨n0,a1,a2,a3⟩:=L0.row i hi n' iz;refine⟨n0,by rw[hρ i hi,(facts i hi).1];exact a1,a2,fun e=>?_⟩;obtain⟨b1,b2,b3,b4⟩:=a3 e;obtain⟨c1,c2,c3⟩:=gB i gj;rw[c1,c2,c3,(facts' i gj).2.1,hρ i hi,(facts i hi).2.1];exact⟨b1,b2,b3,b4⟩
   ·have gy:∀i,i<S0'.length→ρ' i≠r:=fun i hi e=>by
     by_cases a:i<S0.length
     ·exact hex ⟨i,a,by rw[←hρ i a];exact e⟩
     ·rw[hρ2 i (by omega)]at e;omega
    have iy:=M.rest r hr fun i hi e=>hex ⟨i,hi,e⟩;obtain⟨c1,c2,c3⟩:=gN r gy;refine⟨n',by simpa only[lenOf,iy]using iz,Nat.le_refl _,fun _=>⟨c1,c2,c3,.inl (by simp only[AAf,iy])⟩⟩
  ·by_cases hex:∃i,i<S0.length∧ρ i=r
   ·obtain⟨i,hi,rfl⟩:=hex;have gj:i<S0'.length:=by omega
    rw[←hρ i hi]at hm⊢;rw[(facts' i gj).2.2]at hm;obtain⟨a1,a2⟩:=L0.map i hi hm;exact⟨by rw[hρ i hi,(facts i hi).2.2];exact a1,by rw[(gB i gj).1,a2,hρ i hi]⟩
   ·have gy:∀i,i<S0'.length→ρ' i≠r:=fun i hi e=>by
     by_cases a:i<S0.length
     ·exact hex ⟨i,a,by rw[←hρ i a];exact e⟩
     ·rw[hρ2 i (by omega)]at e;omega
    have iy:=M.rest r hr fun i hi e=>hex ⟨i,hi,e⟩;exact⟨by simpa only[AAN,iy]using hm,(gN r gy).1⟩
 have T:Tr G S w G' S' w':=by
  refine⟨T0.size,fun k hk=>T0.I k hk,fun k hk hn=>T0.DG k hk fun ho=>hn (own0 k ho),fun k hk=>?_,fun k hk=>?_,T0.os,T0.out⟩
  ·rcases ownC k hk with h1|⟨r,x,_,h2,h3,h4⟩
   ·exact(T0.own k h1).imp (own0 k) id
   ·exact .inl ⟨r,x,h2,h3,h4⟩
  ·rcases T0.im k hk with h1|h1|h1
   ·exact .inl h1
   ·exact .inr (.inl (own0 k h1))
   ·exact .inr (.inr h1)
 refine⟨cv,G',he,iO.Xu E',⟨R.Es.later L,fun r x hx=>?_,fun r1 r2 x1 x2 h1 h2 o1 o2 heq=>?_,fun k hk=>?_,fun k hk=>R0'.G5 k hk,fun k hk=>?_⟩,T,L⟩
 ·rcases cases' r x hx with⟨i,hi,rfl,o,g1,rfl⟩|⟨iH,gy,hS⟩
  ·exact(R0'.CT i o g1).Xu E' hi
  ·obtain⟨c1,c2,c3⟩:=gN r gy;exact(R.CT r x hS).later L (fun hw=>T0.DG _ (R.FW _ ⟨r,x,hS,hw,rfl⟩) (notIm r x gy hS hw)) c1 c2 c3
 ·have side:∀r x,S'[r]?=some x→AAJ G' r x=true→(∃i,∃_:i<S0'.length,ρ' i=r∧∃o,S0'[i]?=some o∧AAJ G0' i o=true∧G'.BZ r=G0'.BZ i)∨((∀i,i<S0'.length→ρ' i≠r)∧S[r]?=some x∧AAJ G r x=true∧G'.BZ r=G.BZ r):=fun r x hx ho=>by
   rcases cases' r x hx with⟨i,hi,rfl,o,g1,rfl⟩|⟨iH,gy,hS⟩
   ·exact .inl ⟨i,hi,rfl,o,g1,by rw[Bx o (G0:=G0') (i:=i) (gB i hi).2.2.symm]at ho;exact ho,(gB i hi).1⟩
   ·have hv:=gN r gy;refine .inr ⟨gy,hS,?_,hv.1⟩;cases x<;>simp[AAJ]at ho⊢;rw[hv.2.2]at ho;exact ho
  have clash:∀i o r x,S0'[i]?=some o→AAJ G0' i o=true→(∀i,i<S0'.length→ρ' i≠r)→S[r]?=some x→AAJ G r x=true→G0'.BZ i≠G.BZ r:=fun i o r x g1 g2 g3 g4 g5 heq=>by
   rcases T0.own _ ⟨i,o,g1,g2,rfl⟩with h|h
   ·exact notIm r x g3 g4 g5 (by rw[←heq];exact h)
   ·have:=R.FW _ ⟨r,x,g4,g5,rfl⟩;omega
  rcases side r1 x1 h1 o1 with⟨i,hi,rfl,o,g1,g2,g3⟩|⟨g1,g2,g3,g4⟩
  ·rcases side r2 x2 h2 o2 with⟨j,hj,rfl,o',k1,k2,k3⟩|⟨k1,k2,k3,k4⟩
   ·rw[g3,k3]at heq;rw[R0'.inj i j o o' g1 k1 g2 k2 heq]
   ·rw[g3,k4]at heq;exact absurd heq (clash i o r2 x2 g1 g2 k1 k2 k3)
  ·rcases side r2 x2 h2 o2 with⟨j,hj,rfl,o',k1,k2,k3⟩|⟨k1,k2,k3,k4⟩
   ·rw[g4,k3]at heq;exact absurd heq.symm (clash j o' r1 x1 k1 k2 g1 g2 g3)
   ·rw[g4,k4]at heq;exact R.inj r1 r2 x1 x2 g2 k2 g3 k3 heq
 ·rcases ownC k hk with h1|⟨r,x,h1,h2,h3,h4⟩
  ·exact R0'.nI k h1
  ·intro hI;rcases T0.im k hI with a|a|a
   ·exact R.nI k ⟨r,x,h2,h3,h4⟩ a
   ·exact notIm r x h1 h2 h3 (by rw[←h4];exact a)
   ·have:=R.FW k ⟨r,x,h2,h3,h4⟩;omega
 ·rcases ownC k hk with h1|⟨r,x,h1,h2,h3,h4⟩
  ·exact R0'.FW k h1
  ·have:=R.FW k ⟨r,x,h2,h3,h4⟩;have:=T0.size;omega
end
section
variable {P:Program} {n b:Nat} {o:Oper} {tm tm':Tm} {S S0 S0' S':Sg} {v:V} {ops:Array Oper} {K:Tm→Sg→Prop}
def ABN(S:Sg):List Nat→List O→Sg
 |r::rs,o::os=>(ABN S rs os).set r o
 |_,_=>S
theorem Bo(S:Sg):∀(rs:List Nat) (os:List O),(ABN S rs os).length=S.length
 |[],_=>rfl
 |_::_,[]=>rfl
 |r::rs,o::os=>by simp[ABN,Bo S rs os]
theorem GK(S:Sg){r:Nat}:∀(rs:List Nat) (os:List O),r∉rs→(ABN S rs os)[r]?=S[r]?
 |[],_,_=>rfl
 |_::_,[],_=>rfl
 |q::rs,o::os,h=>by
  simp only[List.mem_cons,not_or]at h;simp only[ABN];rw[List.getElem?_set_ne (Ne.symm h.1),GK S rs os h.2]
theorem JL(S:Sg):∀(rs:List Nat) (os:List O) (i:Nat) (h:i<rs.length) (h':i<os.length),rs.Nodup→(∀r∈rs,r<S.length)→(ABN S rs os)[rs[i]]?=some os[i]
 |q::rs,o::os,0,_,_,_,cx=>by
  simp only[ABN,List.getElem_cons_zero];rw[List.getElem?_set_self (by rw[Bo];exact cx q (by simp))]
 |q::rs,o::os,i+1,h,h',ju,cx=>by
  simp only[ABN,List.getElem_cons_succ];have hq:q∉rs:=(List.nodup_cons.1 ju).1;have hi:i<rs.length:=by simpa using h
  have dI:q≠rs[i]:=fun e=>hq (e▸List.getElem_mem hi);rw[List.getElem?_set_ne dI];exact JL S rs os i hi (by simpa using h') (List.nodup_cons.1 ju).2 fun r hr=>cx r (by simp[hr])
theorem F0{rs:List Nat}(h:rs.Nodup){i j:Nat}(hi:i<rs.length)(hj:j<rs.length)(e:rs[i]=rs[j]):i=j:=by
 have hp:=List.pairwise_iff_getElem.1 h;rcases Nat.lt_trichotomy i j with h1|h1|h1
 ·exact absurd e (hp i j hi hj h1)
 ·exact h1
 ·exact absurd e.symm (hp j i hj hi h1)
def nameOf(rs:List Nat):Nat→Nat:=fun i=>rs.getD i 0
def CF(S S0':Sg)(rs:List Nat):Sg:=
 ABN S rs ((S0'.take rs.length).map (AAj (CN (nameOf rs) rs.length S.length)))++(S0'.drop rs.length).map (AAj (CN (nameOf rs) rs.length S.length))
def DZ(S S0:Sg)(rs:List Nat):Prop:=rs.Nodup∧rs.map (fun r=>S[r]?)=S0.map (fun o=>some (AAj (nameOf rs) o))∧S0.all (AAG rs.length)=true
theorem AE.Bq{f:FuncId}{args:List V}(h:AE P f args S0 v S0')(rs:List Nat)(hf:DZ S S0 rs)(hle:rs.length≤S0'.length)(hb:args.all (AAB rs.length)=true):
  AE P f (args.map (AAO (nameOf rs))) S (AAO (CN (nameOf rs) rs.length S.length) v) (CF S S0' rs):=by
 obtain⟨ju,ia,ow⟩:=hf;have hlen:rs.length=S0.length:=by have:=congrArg List.length ia;simpa using this
 have gz:∀i (h:i<rs.length) (h':i<S0.length),S[rs[i]]?=some (AAj (nameOf rs) S0[i]):=fun i h1 h2=>by
  have:=congrArg (·[i]?) ia;simpa[h1,h2]using this
 have hn:∀i (h:i<rs.length),nameOf rs i=rs[i]:=fun i h=>by simp[nameOf,List.getD,h]
 have cx:∀r∈rs,r<S.length:=fun r hr=>by
  obtain⟨i,hi,rfl⟩:=List.mem_iff_getElem.1 hr;exact AZ (gz i hi (by omega))
 have M:MA (nameOf rs) S S0 S0' (CF S S0' rs):=by
  refine⟨fun i j hi hj e=>?_,fun i hi=>⟨S0[i],List.getElem?_eq_getElem hi,?_⟩,fun i o ho=>?_,fun i o ho=>?_,fun r hr gy=>?_,?_⟩
  ·rw[hn i (by omega),hn j (by omega)]at e;exact F0 ju (by omega) (by omega) e
  ·rw[hn i (by omega)];exact gz i (by omega) hi
  ·rw[←hlen];exact List.all_eq_true.1 ow o (List.mem_of_getElem? ho)
  ·rw[←hlen];have hi:=AZ ho;have ng:S0'[i]=o:=by rw[List.getElem?_eq_getElem hi]at ho;simpa using ho
   unfold CF;by_cases hc:i<rs.length
   ·have e1:CN (nameOf rs) rs.length S.length i=rs[i]:=by simp[CN,hc,hn i hc]
    rw[e1,List.getElem?_append_left (by rw[Bo];exact cx _ (List.getElem_mem hc))];rw[JL S rs _ i hc (by simp;omega) ju cx];simp[ng]
   ·have e1:CN (nameOf rs) rs.length S.length i=S.length+(i - rs.length):=by simp[CN,hc]
    rw[e1,List.getElem?_append_right (by rw[Bo];omega),Bo];have:S.length+(i - rs.length) - S.length=i - rs.length:=by omega
    rw[this];simp only[List.getElem?_map,List.getElem?_drop];have:rs.length+(i - rs.length)=i:=by omega
    rw[this,ho];rfl
  ·unfold CF;rw[List.getElem?_append_left (by rw[Bo];exact hr)];refine GK S rs _ fun hm=>?_;obtain⟨i,hi,rfl⟩:=List.mem_iff_getElem.1 hm;exact gy i (by omega) (hn i hi)
  ·unfold CF;rw[List.length_append,Bo,List.length_map,List.length_drop,hlen]
 have:=h.frame (nameOf rs) M (by omega) (fun x hx=>by rw[←hlen];exact List.all_eq_true.1 hb x hx);rwa [←hlen]at this
def AAb(tm:Tm)(c:Call)(f:FuncId)(args0:List V)(rs:List Nat):Prop:=
 match callee tm c with
 |some (f',args)=>f'=f∧args=args0.map (AAO (nameOf rs))
 |none=>False
theorem AS.Ds{rest:List Oper}{c:Call}{f:FuncId}{args0:List V}(h:AE P f args0 S0 v S0')(rs:List Nat)(ho:o.op=.call c)
  (hp:o.guard=none∧A6 n o.dst∧A5 tm c∧AAb tm c f args0 rs∧DZ S S0 rs∧rs.length≤S0'.length∧args0.all (AAB rs.length)=true)
  (h2:AS P n b ops rest (put tm o.dst (AAO (CN (nameOf rs) rs.length S.length) v)) (CF S S0' rs) K):AS P n b ops (o::rest) tm S K:=by
 obtain⟨h3,h4,h5,h6,h7,h8,h9⟩:=hp;unfold AAb at h6;split at h6
 ·rename_i f' args hc;obtain⟨rfl,rfl⟩:=h6;exact AS.call ho h3 h4 hc h5 (h.Bq rs h7 h8 h9) h2
 ·exact h6.elim
end
attribute [simp] AAb DZ nameOf AAO AAa AAj CN CF ABN
mutual
def WFV:V→Prop
 |.d d=>WFD d
 |.full xs=>WFD (.sl xs)
 |.agg cs=>ABP cs
 |.Bd cs=>ABP cs
 |_=>True
def ABP:List V→Prop
 |[]=>True
 |x::xs=>WFV x∧ABP xs
end
theorem Fg:∀{xs:List V},(∀i (h:i<xs.length),WFV xs[i])→ABP xs
 |[],_=>trivial
 |x::xs,h=>⟨h 0 (by simp),Fg fun i hi=>h (i+1) (by simpa using hi)⟩
theorem Un(xs:List D):ABP (xs.map .d)↔AAY xs:=by
 induction xs with
 |nil=>simp[ABP,AAY]
 |cons x xs ih=>simp[ABP,AAY,WFV,ih]
theorem CV.wf{G:Gh}{S:Sg}{w:World}{x:V}{v:Value}(h:CV G S w x v):WFV x:=by
 induction h with
 |d d v h=>exact h.wf
 |full xs a h=>exact h.wf
 |agg cs vs hs h ho ih=>exact Fg ih
 |Bd cs vs hs h ih=>exact Fg ih
 |_=>trivial
def WFO:O→Prop
 |.row _ _ els=>els.length≤maxLen∧ABP els
 |.BJ xs=>WFD (.sl xs)
 |.map es=>AAY (es.map (·.1))∧ABP (es.map (·.2))
 |.dead=>True
def ACL:List O→Prop
 |[]=>True
 |o::os=>WFO o∧ACL os
theorem QF:∀{xs:List O},(∀i (h:i<xs.length),WFO xs[i])→ACL xs
 |[],_=>trivial
 |x::xs,h=>⟨h 0 (by simp),QF fun i hi=>h (i+1) (by simpa using hi)⟩
section
variable {P:Program} {n b:Nat} {tm tm':Tm} {S S':Sg} {v:V} {Q:Exit→Tm→Sg→Prop}
theorem Rel.fD{G:Gh}{w:World}(R:Rel P G S w):ACL S:=QF fun r hr=>by
 have gw:=R.CT r _ (List.getElem?_eq_getElem hr);generalize S[r]=o at gw;cases o with
 |row wr sz els=>
  simp only[OK]at gw;split at gw
  ·obtain⟨c,T,g1,g2,g3,g4,g5⟩:=gw;refine⟨g4,Fg fun i hi=>?_⟩;obtain⟨u,u1,_⟩:=g5 i hi;exact u1.wf
  ·obtain⟨_,h2,xs,rfl,hc⟩:=gw;refine⟨h2,?_⟩;rw[Un];have:=hc.wf;simp only[WFD]at this;exact this.2
 |BJ xs=>exact CD.wf gw
 |map es=>
  simp only[OK]at gw;obtain⟨ents,clock,g1,g2,_,g3⟩:=gw;refine⟨H4 fun i hi=>?_,Fg fun i hi=>?_⟩
  ·obtain⟨e,_,e2,_⟩:=g3 i (by simpa using hi);simpa using e2.wf
  ·obtain⟨e,_,_,e3,_⟩:=g3 i (by simpa using hi);simpa using e3.wf
 |dead=>trivial
def Am(S:Sg)(x v:V):Prop:=x=v∨∃d,asD S x=some d∧v=.d d
def AE8(P:Program)(n b:Nat)(rs:List ResultVar)(v:V)(S':Sg):Exit→Tm→Sg→Prop
 |.normal,tm,S|.ret,tm,S=>∃tm1,AJ P n b tm S tm1 S'∧ABi P tm1 S' rs∧Am S' (IL P tm1 S' rs) v
 |_,_,_=>False
theorem AE.AI{f:FuncId}{fn:Func}{c:Code}{args:List V}(hf:P.funcs[f]?=some fn)(iJ:(fn.name== "runtime.NumGoroutine")=false)(hb:fn.body=some c)(hn:args.length≤fn.ntmps)
  (h:ABP args→ACL S→AW P fn.ntmps S.length c (AE8 P fn.ntmps S.length fn.results.toList v S') (Dl args) S):AE P f args S v S':=by
 refine AE.intro hf iJ hb hn (AW.assume (p:=ABP args∧ACL S) (fun G w a st=>⟨Fg fun i hi=>?_,st.rel.fD⟩) fun hw=>(h hw.1 hw.2).mono fun ex tm S1 hq=>?_)
 ·have:=st.tm i;have e:Dl args i=args[i]:=by simp[Dl,List.getD,hi]
  rw[e]at this;exact this.wf
 ·have key:(∃tm1,AJ P fn.ntmps S.length tm S1 tm1 S'∧ABi P tm1 S' fn.results.toList∧Am S' (IL P tm1 S' fn.results.toList) v)→∃tm1 S2,AJ P fn.ntmps S.length tm S1 tm1 S2∧ABi P tm1 S2 fn.results.toList∧∀G w a,St P fn.ntmps G S2 w a tm1→S.length≤S2.length→∃G' v' S'',(∀cv,CV G S2 w (IL P tm1 S2 fn.results.toList) cv→CV G' S'' w v' cv)∧Rel P G' S'' w∧Tr G S2 w G' S'' w∧Dt S.length G S2 G' S''∧v'=v∧S''=S':=by
   rintro⟨tm1,g,h1,h2⟩;refine⟨tm1,S',g,h1,fun G w a st hl=>⟨G,v,S',fun cv iO=>?_,st.rel,Tr.refl _ _ _,Dt.refl hl,rfl,rfl⟩⟩;rcases h2 with h2|⟨d,h2,h3⟩
   ·rw[←h2];exact iO
   ·rw[h3];exact .W4 (iO.asD st.rel h2)
  cases ex with
  |normal=>exact key hq
  |ret=>exact key hq
  |exit=>exact hq.elim
  |goto=>exact hq.elim
  |panic=>exact hq.elim
  |outgrown=>exact hq.elim
end
attribute [simp] MM AES
mutual
theorem GR(ρ:Nat→Nat):∀(x:V),AAB 0 x=true→AAO ρ x=x
 |.row r n,h=>by simp[AAB]at h
 |.ptr r n i j,h=>by simp[AAB]at h
 |.map r,h=>by simp[AAB]at h
 |.fn f as bs,h=>by
  simp only[AAB,Bool.and_eq_true]at h;simp only[AAO];rw[Eg ρ as h.1,Eg ρ bs h.2]
 |.agg cs,h=>by simp only[AAB]at h;simp only[AAO];rw[Eg ρ cs h]
 |.Bd cs,h=>by simp only[AAB]at h;simp only[AAO];rw[Eg ρ cs h]
 |.opt g v,h=>by simp only[AAB]at h;simp only[AAO];rw[GR ρ v h]
 |.any,_=>by simp[AAO]
 |.d _,_=>by simp[AAO]
 |.full _,_=>by simp[AAO]
 |.Cc _,_=>by simp[AAO]
theorem Eg(ρ:Nat→Nat):∀(xs:List V),AAI 0 xs=true→AAa ρ xs=xs
 |[],_=>by simp[AAa]
 |x::xs,h=>by
  simp only[AAI,Bool.and_eq_true]at h;simp only[AAa];rw[GR ρ x h.1,Eg ρ xs h.2]
end
section
variable {P:Program} {n b:Nat} {o:Oper} {tm tm':Tm} {S S':Sg} {v:V} {ops:Array Oper} {K:Tm→Sg→Prop}
theorem AE.M5{f:FuncId}{args:List V}(h:AE P f args [] v [])(hv:AAB 0 v=true)(hb:args.all (AAB 0)=true):AE P f args S v S:=by
 have h1:=h.Bq (S:=S) [] ⟨List.nodup_nil,rfl,rfl⟩ (by simp) hb;have e1:args.map (AAO (nameOf []))=args:=by
  have:∀x∈args,AAO (nameOf []) x=x:=fun x hx=>GR _ x (List.all_eq_true.1 hb x hx);conv=>rhs;rw[←List.map_id args]
  exact List.map_congr_left this
 have e2:CF S [] []=S:=by simp[CF,ABN]
 rw[e1,e2,GR _ v hv]at h1;exact h1
def AA2(tm:Tm)(c:Call)(f:FuncId)(args:List V):Prop:=
 match callee tm c with
 |some (f',args')=>f'=f∧args'=args
 |none=>False
theorem D6{c:Call}{f:FuncId}{args:List V}(h:AA2 tm c f args):callee tm c=some (f,args):=by
 unfold AA2 at h;split at h
 ·rename_i f' args' hc;obtain⟨rfl,rfl⟩:=h;exact hc
 ·exact h.elim
theorem AS.Oa{rest:List Oper}{c:Call}{f:FuncId}{args:List V}(h:AE P f args [] v [])(ho:o.op=.call c)
  (hp:o.guard=none∧A6 n o.dst∧A5 tm c∧AA2 tm c f args∧args.all (AAB 0)=true∧AAB 0 v=true) (h2:AS P n b ops rest (put tm o.dst v) S K):AS P n b ops (o::rest) tm S K:=by
 obtain⟨h3,h4,h5,h6,h7,h8⟩:=hp;exact AS.call ho h3 h4 (D6 h6) h5 (h.M5 h8 h7) h2
theorem AS.Hg{rest:List Oper}{c:Call}{f:FuncId}{args:List V}{j:Nat}{want g:Bool}(ho:o.op=.call c)(hg:o.guard=some (j,want))(hv:AAd ops tm j want=some g)
  (h:g=true→AE P f args [] v []) (hp:A6 n o.dst∧(g=true→A5 tm c∧AA2 tm c f args∧args.all (AAB 0)=true∧AAB 0 v=true))
  (h2:AS P n b ops rest (put tm o.dst (FI g v)) S K):AS P n b ops (o::rest) tm S K:=by
 obtain⟨h3,h4⟩:=hp;exact AS.IU ho hg h3 hv (fun e=>by obtain⟨a1,a2,a3,a4⟩:=h4 e;exact⟨D6 a2,a1,(h e).M5 a4 a3⟩) h2
theorem Ae.Oa{B:List (Nat×(Sg→Prop))}{i:Nat}{rest:List (Nat×Bool×Oper)}{c:Call}{f:FuncId}{args:List V}(h:AE P f args [] v [])(ho:o.op=.call c)
  (hp:o.guard=none∧A6 n o.dst∧A5 tm c∧AA2 tm c f args∧args.all (AAB 0)=true∧AAB 0 v=true) (h2:Ae P n b ops ((i,fun S'=>S'=S)::B) rest (put tm o.dst v) S K):Ae P n b ops B ((i,true,o)::rest) tm S K:=by
 obtain⟨h3,h4,h5,h6,h7,h8⟩:=hp;exact Ae.quiet (fun S'=>S'=S) rfl (fun hi S' hS=>by subst hS;exact A7.call hi ho h3 h4 (D6 h6) h5 (h.M5 h8 h7)) h2
theorem AJ.BB(t sz:Nat){xs:List D}(ht:tm t=.full xs):AJ P n b tm S (EJ tm t (.row S.length xs.length)) (S++[.row false sz (xs.map .d)]):=fun G w a st hb=>by
 have h1:=st.tm t;rw[ht]at h1;generalize hX:a.tmps.getD t undef=X at h1;cases h1 with
 |full _ base hc=>
  obtain⟨r1,r2,r3⟩:=st.rel.Js sz xs base hc.len hc;refine⟨_,⟨st.size,fun k=>?_,r1⟩,r2,r3.late hb⟩;unfold EJ;by_cases e:k=t
  ·subst e;rw[if_pos rfl,hX];refine .row _ _ _ rfl (by simp) fun m' iS=>?_;have:m'=xs.length:=by simpa[lenOf]using iS.symm
   subst this;exact⟨Nat.le_refl _,fun _=>by simp[Gh.AAP,Gh.at]⟩
  ·rw[if_neg e];exact(st.tm k).later r3
end
attribute [simp] AA2
section
variable {P:Program} {n b:Nat} {o:Oper} {tm tm':Tm} {S S':Sg} {v:V} {ops:Array Oper} {K:Tm→Sg→Prop}
def ABw:Nat→List (Nat×V)→Prop
 |_,[]=>True
 |k,p::ps=>p.1=k∧ABw (k+1) ps
theorem JO:∀{ps:List (Nat×V)} {k:Nat},ABw k ps→∀i (h:i<ps.length),ps[i].1=k+i
 |p::ps,k,h,0,_=>h.1
 |p::ps,k,h,i+1,hi=>by
  have:=JO h.2 i (by simpa using hi);simp only[List.getElem_cons_succ];omega
theorem OQ{T E:TypeId}{len:Nat}{parts:Array (Nat×Operand)}{t e:TI}{z:Value}(ho:o.op=.buildSlice T len parts)(ht:ti P T=some t)(hk:t.kind=.slice E)
  (he:ti P E=some e) (hz:e.zero=some z) (hn:∀p∈parts.toList,need (ev tm p.2)) (hlen:parts.size=len)
  (hp:ABw 0 (B3 tm parts)) (hs:AA5 e.size (B3 tm parts))
  (hm:len * e.size≤2 ^ 24) (kI:len≤maxLen):Bv P n o tm S (.row S.length len) (S++[.row true e.size ((B3 tm parts).map (·.2))]):=.val fun G w a st=>by
 obtain⟨d,hd,gv⟩:=Ai ht w;have hdE:d=.slice E:=by rw[hk]at gv;cases d<;>simp[tk]at gv⊢;exact gv
 subst hdE;have kN:∀i (h:i<parts.size),CV G S w (strip (ev tm parts[i].2)) (a.eval parts[i].2):=fun i hi=>(BH st _).strip (hn _ (by simp));have gp:∀i (h:i<parts.size),(a.eval parts[i].2).cells.size=e.size∧∀x∈(a.eval parts[i].2).cells,one x=true:=fun i hi=>by
  have:=Gq _ hs i (by simpa[B3]using hi);simp only[B3,List.getElem_map,Array.getElem_toList]at this;obtain⟨c1,c2,_⟩:=(kN i hi).cells (by simpa using this.2);refine⟨by omega,fun x hx=>?_⟩;obtain⟨k,hk,rfl⟩:=Array.mem_iff_getElem.1 hx;exact c2 k hk
 let z0:Array Value:=if len * e.size=0 then #[]else z.cells;let base:Array Value:=(Array.range (len * e.size)).map (z0[·% z0.size]!);obtain⟨u',e1,e2,e3,_⟩:=Lz (size:=e.size) (len:=len) (parts.toList.map fun p=>(p.1,a.eval p.2)) 0 base (by simp[base]) (by simp[hlen]) (fun i hi=>by
  have gj:i<parts.size:=by simpa using hi
  simp only[List.getElem_map,Array.getElem_toList];have:=JO hp i (by simpa[B3]using gj);simp only[B3,List.getElem_map,Array.getElem_toList]at this;exact⟨this,(gp i gj).1⟩)
 obtain⟨r1,r2,r3⟩:=st.rel.add len (.row true e.size ((B3 tm parts).map (·.2))) (.cells u' E (0,0)) (fun L=>by
  have hv:(G.at S.length w.heap.size len none).BB S.length=none:=by simp[Gh.at]
  have mW:(G.at S.length w.heap.size len none).BZ S.length=w.heap.size:=by simp[Gh.at]
  have kB:(G.at S.length w.heap.size len none).cap S.length=(len,0):=by simp[Gh.at]
  simp only[OK,hv,mW,kB];refine⟨_,E,C0,by rw[e2];simp[base],by simp[B3,hlen],by simp[B3,hlen];exact kI,fun i hi=>?_⟩;have gj:i<parts.size:=by simpa[B3]using hi
  refine⟨a.eval parts[i].2,by simpa[B3]using(kN i gj).later L,(gp i gj).1,(gp i gj).2,fun j hj=>?_⟩;have:=e3 i (by simpa using gj) j hj;simpa using this)
 refine⟨.slice (some ⟨w.heap.size,0,none⟩) len len,_,_,?_,?_,r1,r2,r3⟩
 ·simp only[execOp,ho,Instr.buildSlice,Sem.run_bind,hd,Result.andThen_ok,BQ he];rw[if_neg (by omega)];simp only[base]at e1;by_cases h0:len * e.size=0
  ·have lX:z0=#[]:=by simp[z0,h0]
   rw[lX]at e1;simp only[if_pos h0,Sem.run_bind,Sem.run_pure,Result.andThen_ok,Array.toList_map,e1];simp[newRow,BS]
  ·have lX:z0=z.cells:=by simp[z0,h0]
   rw[lX]at e1;simp only[if_neg h0,Sem.run_bind,DF he w hz,Sem.run_pure,Result.andThen_ok,Array.toList_map,e1];simp[newRow,BS]
 ·refine .row _ _ _ rfl (by simp) fun m' iS=>?_;have:m'=len:=by simpa[lenOf,B3,hlen]using iS.symm
  subst this;exact⟨Nat.le_refl _,fun _=>by simp[Gh.AAP,Gh.at]⟩
theorem AS.Rm{rest:List Oper}(hp:o.guard=none∧A6 n o.dst)(h:Bv P n o tm S v S')(h2:AS P n b ops rest (put tm o.dst v) S' K):AS P n b ops (o::rest) tm S K:=
 AS.step (fun _ hi=>Step.Hd hi hp.2 hp.1 h) h2
def ACA(P:Program)(T:TypeId)(len:Nat)(parts:Array (Nat×Operand))(tm:Tm):Prop:=
 ABX tm parts.toList∧parts.size=len∧ABw 0 (B3 tm parts)∧len≤maxLen∧(match AAH P T with|some E=>(match Aq P E with|some s=>(Au P E).isSome=true∧AA5 s (B3 tm parts)∧len * s≤2 ^ 24|none=>False)|none=>False)
theorem Im{T:TypeId}{len:Nat}{parts:Array (Nat×Operand)}(ho:o.op=.buildSlice T len parts)(h:ACA P T len parts tm):
  Bv P n o tm S (.row S.length len) (S++[.row true (HZ P T) ((B3 tm parts).map (·.2))]):=by
 obtain⟨h1,h2,h3,h4,h5⟩:=h;split at h5
 ·rename_i E hE;split at h5
  ·rename_i s hs;obtain⟨h5,h6,h7⟩:=h5;obtain⟨t,e1,e2⟩:=BA hE;obtain⟨e,f1,f2,_⟩:=Bn hs;obtain⟨z,hz⟩:=Option.isSome_iff_exists.1 h5;obtain⟨t',u,g1,g2,g3⟩:=Dc hz;rw[f1]at g1;cases g1;simp only[HZ,hE,Option.bind_some,hs,Option.getD_some];subst f2;exact OQ ho e1 e2 f1 g2 (GI h1) h2 h3 h6 h7 h4
  ·exact h5.elim
 ·exact h5.elim
theorem AS.Gi{rest:List Oper}{T:TypeId}{len:Nat}{parts:Array (Nat×Operand)}(ho:o.op=.buildSlice T len parts)(hp:o.guard=none∧A6 n o.dst∧ACA P T len parts tm)
  (h2:AS P n b ops rest (put tm o.dst (.row S.length len)) (S++[.row true (HZ P T) ((B3 tm parts).map (·.2))]) K):AS P n b ops (o::rest) tm S K:=
 AS.Rm ⟨hp.1,hp.2.1⟩ (Im ho hp.2.2) h2
end
attribute [simp] ACA ABw
section
variable {P:Program} {n b:Nat} {o:Oper} {tm tm':Tm} {S S':Sg} {v:V} {ops:Array Oper} {K:Tm→Sg→Prop} {Q:Exit→Tm→Sg→Prop}
def At(P:Program)(f:FuncId)(args:List V)(S:Sg)(R:V→Sg→Prop):Prop:=
 ACT P f=true∧∀G w (cargs:Array Value),Rel P G S w→cargs.size=args.length→(∀i (h:i<args.length) (h':i<cargs.size),CV G S w args[i] cargs[i])→Calls P f cargs w fun e w'=>∃cv G' v S',R v S'∧e=.returned cv∧CV G' S' w' v cv∧Rel P G' S' w'∧Tr G S w G' S' w'∧A9 G S w G' S' w'
theorem AE.eS{f:FuncId}{args:List V}(h:AE P f args S v S'):At P f args S fun u T=>u=v∧T=S':=
 ⟨h.1,fun G w cargs R hs ha=>(h.2 G w cargs R hs ha).mono fun _ _ ⟨cv,G',h1,h2,h3,h4,h5⟩=>⟨cv,G',v,S',⟨rfl,rfl⟩,h1,h2,h3,h4,h5⟩⟩
theorem At.mono{f:FuncId}{args:List V}{R R':V→Sg→Prop}(h:At P f args S R)(hR:∀v S',R v S'→R' v S'):At P f args S R':=
 ⟨h.1,fun G w cargs r hs ha=>(h.2 G w cargs r hs ha).mono fun _ _ ⟨cv,G',v,S',h0,h1⟩=>⟨cv,G',v,S',hR _ _ h0,h1⟩⟩
theorem AS.J4{rest:List Oper}{c:Call}{f:FuncId}{args:List V}{R:V→Sg→Prop}(ho:o.op=.call c)(hg:o.guard=none)(hd:A6 n o.dst)(hc:callee tm c=some (f,args))(hn:A5 tm c)
  (h:At P f args S R) (h2:∀v S',R v S'→AS P n b ops rest (put tm o.dst v) S' K):AS P n b ops (o::rest) tm S K:=fun k hk G w a Q st hb hq=>by
 have h0:ops[k]?=some o:=by simpa using(hk 0).symm
 simp only[List.length_cons,List.range'_succ];rw[wpOps_cons];unfold wpOp;simp only[h0,Region.wanted,hg,if_true];left;have key:∀(next:Act→World→Prop),(∀cv w' G' v S',R v S'→CV G' S' w' v cv→Rel P G' S' w'→Tr G S w G' S' w'→A9 G S w G' S' w'→next (a.put o.dst cv) w')→o.wp P a w next Q:=fun next kont=>by
  obtain⟨hf,h⟩:=h;unfold callee at hc;obtain⟨jC,kO⟩:=hn;cases iU:c.callee with
  |value x=>
   simp only[iU]at hc jC;have hx:=(BH st x).strip jC;split at hc
   ·rename_i k' first caps mc
    simp only[Option.some.injEq,Prod.mk.injEq]at hc;obtain⟨e1,e2⟩:=hc;subst e1;subst e2;rw[mc]at hx;generalize hX:a.eval x=X at hx;cases hx with
    |fn _ _ _ xs ys h1 h2 h3 h4=>
     unfold ACT at hf;have gi:=h G w (xs++c.args.map a.eval++ys) st.rel (by simp[h1,h2]) (fun i hi gj=>by
      by_cases e1:i<first.length
      ·rw[List.getElem_append_left (by simp;omega),List.getElem_append_left e1];rw[Array.getElem_append_left (by simp;omega),Array.getElem_append_left (by omega)];exact h3 i e1
      ·by_cases e2:i<first.length+c.args.size
       ·rw[List.getElem_append_left (by simp;omega),List.getElem_append_right (by omega)];rw[Array.getElem_append_left (by simp;omega),Array.getElem_append_right (by omega)];simp only[List.getElem_map,Array.getElem_map,Array.getElem_toList,h1];exact(BH st _).strip (Fx kO _ (by simp))
       ·simp only[List.length_append,List.length_map,Array.length_toList]at hi;rw[List.getElem_append_right (by simp;omega)];rw[Array.getElem_append_right (by simp;omega)];simp only[List.length_append,List.length_map,Array.length_toList,Array.size_append,Array.size_map,h1];exact h4 _ (by omega))
     unfold Oper.wp;have gl:(execOp a.eval o).run P w=.ok (.enter k' (xs++c.args.map a.eval++ys)) w:=by
      split at hf
      ·rename_i fn lM;simp only[Bool.and_eq_true,Bool.not_eq_true',beq_eq_false_iff_ne,ne_eq]at hf;obtain⟨b,hb⟩:=Option.isSome_iff_exists.1 hf.2;simp[execOp,ho,resolve,iU,hX,Deferred.ofValue,invoke,callFunc,lM,hf.1,hb]
      ·cases hf
     rw[gl];simp only[Oper.upon];exact gi.mono fun e w' ⟨cv,G',v,S',hr,he,g1,g2,g3,g4⟩=>by subst he;exact kont cv w' G' v S' hr g1 g2 g3 g4
   ·cases hc
  |invoke=>simp[iU]at hc
  |builtin=>simp[iU]at hc
 refine key _ fun cv w' G' v S' hr g1 g2 g3 g4=>?_;refine h2 v S' hr (k+1) (fun j=>by have:=hk (j+1);simp only[List.getElem?_cons_succ]at this;rw[this];congr 1;omega) G' w' _ Q (st.put hd g1 g2 g4) (g4.late hb).len fun a2 w2 hh=>?_;obtain⟨G2,S2,tm2,gx,hK⟩:=hh;exact hq a2 w2 ⟨G2,S2,tm2,⟨gx.st,gx.ds.trans Be,g3.trans gx.tr,(g4.late hb).trans gx.late⟩,hK⟩
theorem AJ.Tb(t i sz:Nat){cs:List V}{xs:List D}(ht:tm t=.agg cs)(hi:cs[i]?=some (.full xs)):AJ P n b tm S (EJ tm t (.agg (cs.set i (.row S.length xs.length)))) (S++[.row false sz (xs.map .d)]):=fun G w a st hb=>by
 have h1:=st.tm t;rw[ht]at h1;generalize hX:a.tmps.getD t undef=X at h1;cases h1 with
 |agg _ vs hs h ho=>
  obtain⟨iD,m0⟩:=List.getElem?_eq_some_iff.1 hi;have h2:=h i iD;rw[m0]at h2;generalize hY:vs[i]'(by omega)=Y at h2;cases h2 with
  |full _ base hc=>
   obtain⟨r1,r2,r3⟩:=st.rel.Js sz xs base hc.len hc;refine⟨_,⟨st.size,fun k=>?_,r1⟩,r2,r3.late hb⟩;unfold EJ;by_cases e:k=t
   ·subst e;rw[if_pos rfl,hX];refine .agg _ _ (by simp[hs]) (fun j hj=>?_) ho;by_cases ej:j=i
    ·subst ej;simp only[List.getElem_set_self,hY];refine .row _ _ _ rfl (by simp) fun m' iS=>?_;have:m'=xs.length:=by simpa[lenOf]using iS.symm
     subst this;exact⟨Nat.le_refl _,fun _=>by simp[Gh.AAP,Gh.at]⟩
    ·rw[List.getElem_set_ne (fun h=>ej h.symm)];exact(h j (by simpa using hj)).later r3
   ·rw[if_neg e];exact(st.tm k).later r3
def Lt(S:Sg)(x y:V):Prop:=y=x∨y=.any∨∃d,asD S x=some d∧y=.d d
def ADR(S:Sg):List V→List V→Prop
 |[],[]=>True
 |x::xs,y::ys=>Lt S x y∧ADR S xs ys
 |_,_=>False
def Qn(S:Sg)(x y:V):Prop:=Lt S x y∨∃xs ys,x=.agg xs∧y=.agg ys∧ADR S xs ys
def Qb(S:Sg):List V→List V→Prop
 |[],[]=>True
 |x::xs,y::ys=>Qn S x y∧Qb S xs ys
 |_,_=>False
theorem KH{G:Gh}{w:World}(R:Rel P G S w){x y:V}{v:Value}(h:Lt S x y)(hx:CV G S w x v):CV G S w y v:=by
 rcases h with rfl|rfl|⟨d,h,rfl⟩
 ·exact hx
 ·exact .any _
 ·exact .W4 (hx.asD R h)
theorem SF{xs ys:List V}(h:ADR S xs ys):ys.length=xs.length∧∀i (hi:i<xs.length) (gj:i<ys.length),Lt S xs[i] ys[i]:=by
 induction xs generalizing ys with
 |nil=>cases ys with
  |nil=>exact⟨rfl,fun i hi=>by simp at hi⟩
  |cons=>exact h.elim
 |cons x xs ih=>cases ys with
  |nil=>exact h.elim
  |cons y ys=>
   obtain⟨h1,h2⟩:=h;obtain⟨g1,g2⟩:=ih h2;refine⟨by simp[g1],fun i hi gj=>?_⟩;cases i with
   |zero=>exact h1
   |succ i=>exact g2 i (by simpa using hi) (by simpa using gj)
theorem Uu{G:Gh}{w:World}(R:Rel P G S w){x y:V}{v:Value}(h:Qn S x y)(hx:CV G S w x v):CV G S w y v:=by
 rcases h with h|⟨xs,ys,rfl,rfl,h⟩
 ·exact KH R h hx
 ·cases hx with
  |agg _ vs hs hv ho=>
   obtain⟨g1,g2⟩:=SF h;exact .agg _ _ (by omega) (fun i hi=>KH R (g2 i (by omega) hi) (hv i (by omega))) ho
theorem SZ{xs ys:List V}(h:Qb S xs ys):ys.length=xs.length∧∀i (hi:i<xs.length) (gj:i<ys.length),Qn S xs[i] ys[i]:=by
 induction xs generalizing ys with
 |nil=>cases ys with
  |nil=>exact⟨rfl,fun i hi=>by simp at hi⟩
  |cons=>exact h.elim
 |cons x xs ih=>cases ys with
  |nil=>exact h.elim
  |cons y ys=>
   obtain⟨h1,h2⟩:=h;obtain⟨g1,g2⟩:=ih h2;refine⟨by simp[g1],fun i hi gj=>?_⟩;cases i with
   |zero=>exact h1
   |succ i=>exact g2 i (by simpa using hi) (by simpa using gj)
theorem AJ.I4(r:Nat){sz:Nat}{els:List V}(els':List V)(hr:S[r]?=some (.row true sz els))(hw:Qb S els els'):AJ P n b tm S tm (S.set r (.row true sz els')):=fun G w a st hb=>by
 have R:=st.rel;have iH:=AZ hr;obtain⟨hl,ia⟩:=SZ hw;have gz:(S.set r (.row true sz els'))[r]?=some (.row true sz els'):=by simp[iH]
 have dI:∀r',r'≠r→(S.set r (.row true sz els'))[r']?=S[r']?:=fun r' h=>by simp[List.getElem?_set_ne (Ne.symm h)]
 have el:∀r',lenOf (S.set r (.row true sz els')) r'=lenOf S r':=fun r'=>by
  by_cases e:r'=r
  ·subst e;simp[lenOf,gz,hr,hl]
  ·simp only[lenOf,dI r' e]
 have es:∀r',AAf (S.set r (.row true sz els')) r'=AAf S r':=fun r'=>by
  by_cases e:r'=r
  ·subst e;simp[AAf,gz,hr]
  ·simp only[AAf,dI r' e]
 have em:∀r',AAN (S.set r (.row true sz els')) r'=AAN S r':=fun r'=>by
  by_cases e:r'=r
  ·subst e;simp[AAN,gz,hr]
  ·simp only[AAN,dI r' e]
 have L:A9 G S w G (S.set r (.row true sz els')) w:=
  ⟨fun _ h=>h,fun _ _=>rfl,by simp,fun r' _ n' iz=>⟨n',by rw[←el];exact iz,Nat.le_refl _,fun _=>⟨rfl,rfl,rfl,.inl (es r')⟩⟩,fun r' _ hm=>⟨by rw[←em];exact hm,rfl⟩⟩
 have own:∀r' x,(S.set r (.row true sz els'))[r']?=some x→∃x',S[r']?=some x'∧AAJ G r' x'=AAJ G r' x:=fun r' x hx=>by
  by_cases e:r'=r
  ·subst e;rw[gz]at hx;cases hx;exact⟨_,hr,rfl⟩
  ·rw[dI r' e]at hx;exact⟨x,hx,rfl⟩
 have ownS:∀k,Eo G (S.set r (.row true sz els')) k→Eo G S k:=by
  rintro k ⟨r',x,h1,h2,h3⟩;obtain⟨x',g1,g2⟩:=own r' x h1;exact⟨r',x',g1,by rw[g2];exact h2,h3⟩
 refine⟨G,⟨st.size,st.tm.later L,⟨R.Es.later L,fun r' x jD=>?_,fun r1 r2 x1 x2 h1 h2 o1 o2 he=>?_,fun k hk=>R.nI k (ownS k hk),R.G5,fun k hk=>R.FW k (ownS k hk)⟩⟩,⟨Nat.le_refl _,fun _ h=>h,fun _ _ _=>rfl,fun k hk=>.inl (ownS k hk),fun k hk=>.inl hk,rfl,rfl⟩,L.late hb⟩
 ·by_cases e:r'=r
  ·subst e;rw[gz]at jD;cases jD;have gw:=R.CT r' _ hr;simp only[OK]at gw⊢;cases hv:G.BB r' with
   |none=>
    simp only[hv]at gw⊢;obtain⟨c,T,g1,g2,g3,g4,g5⟩:=gw;refine⟨c,T,g1,g2,by omega,by omega,fun i hi=>?_⟩;obtain⟨v,k1,k2,k3,k4⟩:=g5 i (by omega);exact⟨v,(Uu R (ia i (by omega) hi) k1).later L,k2,k3,k4⟩
   |some q=>simp only[hv]at gw;exact absurd gw.1 (by simp)
  ·rw[dI r' e]at jD;exact(R.CT r' x jD).later L (fun _=>rfl) rfl rfl rfl
 ·obtain⟨y1,g1,p1⟩:=own r1 x1 h1;obtain⟨y2,g2,p2⟩:=own r2 x2 h2;exact R.inj r1 r2 y1 y2 g1 g2 (by rw[p1];exact o1) (by rw[p2];exact o2) he
end
attribute [simp] Lt ADR Qn Qb
end Go.Koi
