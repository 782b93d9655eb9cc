/-
  Part 31 of the proof that the law ChangeCommutes of the package koinelaw31 returns true for every input.
-/
import Derived.Test.YtdhbnplflgihpaaGreatDoorK29
set_option maxHeartbeats 64000000
set_option maxRecDepth 100000
namespace Go.Koi
open Go.Proofs Tryz
def XF(b n:Nat):Option AN:=
 if n=0∨b % 6<3 then some ⟨[],1⟩else if b % 6=3 then some (Ap (b / 6 % n:Nat))else if b % 6=4 then J1 (Ap (b / 6 % n:Nat))else Hy [(b:Int)] n 8 0 0
def E7(b n:Nat):AN:=(XF b n).getD ⟨[],1⟩
theorem U8:((List.range 256).all fun b=>(List.range 4).all fun n=>(XF b n).isSome&&GF (E7 b n) n)=true:=by decide+kernel
theorem Df{b n:Nat}(hb:b<256)(hn:n<4):XF b n=some (E7 b n)∧GF (E7 b n) n=true:=by
 have h:=U8;simp only[List.all_eq_true,List.mem_range,Bool.and_eq_true]at h;obtain⟨h1,h2⟩:=h b hb n hn;refine⟨?_,h2⟩;obtain⟨d,hd⟩:=Option.isSome_iff_exists.1 h1;simp[E7,hd]
theorem Cx(b n:Nat)(hlb:b<256)(hn:n<4):Pure prog 17 [.int .u8 b,AG n] (AA (E7 b n)):=by
 have h:=(Df hlb hn).1;generalize E7 b n=d at *;unfold XF at h;have q1:((b:Int).tmod 6)=(b % 6:Nat):=by rw[Int.tmod_eq_emod_of_nonneg (by omega)];simp
 have q2:((b:Int).tdiv 6)=(b / 6:Nat):=by simp
 have h1:=Bi true;simp at h1;obtain⟨m,hm⟩:∃m,b % 6=m:=⟨_,rfl⟩;rw[hm]at h q1;by_cases hz:n=0∨m<3
 ·rw[if_pos hz]at h;cases h;refine Pure.AI func17 (by kernel_rfl) rfl (by simp) fun wf=>?_;rw[ntmps17];refine xW fun K hK=>?_;simp;apply hK;refine xS (xW fun K hK=>?_);simp[q1];apply hK;(repeat refine xS ?_);refine AW.BD (t:=decide (n=0)||decide (m<3)) ?_ (fun hb=>?_) (fun hb=>?_)
  ·simp;rw[Bool.eq_iff_iff];simp;omega
  ·(repeat refine xS ?_);refine BX fun K hK=>?_;refine xJ ?_;simp;refine Bp (h1) rfl (by simp) ?_;simp;refine xJ ?_;simp;refine Aj (hK _ _ ?_);(try simp only[xQ,reduceIte]);refine Ag ⟨_,_,AJ.refl,?_⟩;try simp
  ·simp at hb;omega
 ·rw[if_neg hz]at h;have hn0:¬n=0:=by omega
  have hb6:¬m<3:=by omega
  have hcb:(decide (n=0)||decide (m<3))=false:=by simp[hn0,hb6]
  have hle:b / 6 % n<n:=Nat.mod_lt _ (by omega);have q3:(((b / 6:Nat):Int).tmod n)=(b / 6 % n:Nat):=by rw[Int.tmod_eq_emod_of_nonneg (by omega)];simp
  obtain⟨q,hq⟩:∃q,b / 6=q:=⟨_,rfl⟩;rw[hq]at h q2 q3 hle;obtain⟨v,hv⟩:∃v,q % n=v:=⟨_,rfl⟩;rw[hv]at h q3 hle;have q4:(b:Int) / 6=q:=by omega
  have w1:IntKind.u8.wrap (q:Int)=q:=by simp[IntKind.wrap,IntKind.signed,IntKind.bits];omega
  have w2:IntKind.i64.wrap (q:Int)=q:=by rw[IntKind.wrap_i64];omega
  have hc:=Br (v:Int);have hmd:Hy [(b:Int)] n 8 0 0=some d→_:=NN [(b:Int)] n (by omega) d;refine Pure.AI func17 (by kernel_rfl) rfl (by simp) fun wf=>?_;rw[ntmps17];refine xW fun K hK=>?_;simp;apply hK;refine xS (xW fun K hK=>?_);simp[q1];apply hK;(repeat refine xS ?_);refine AW.BD (t:=decide (n=0)||decide (m<3)) ?_ (fun hb=>?_) (fun hb=>?_)
  ·simp;rw[Bool.eq_iff_iff];simp;omega
  ·rw[hcb]at hb;cases hb
  ·clear hb;refine xK ?_;(repeat refine xS ?_);refine BX fun K hK=>?_;refine xJ ?_;simp[q2,q3,w1,w2,hn0];refine Bp (hc) rfl (by simp) ?_;simp;refine xJ ?_;simp;refine Aj (hK _ _ ?_);(try simp only[xQ,reduceIte]);have hbq:((b:Int).tmod 6)=m:=q1;by_cases h3:m=3
   ·rw[if_pos h3]at h;cases h;refine xS (xW fun K hK=>?_);simp[hbq];apply hK;refine Bw ?_;refine xW fun K hK=>?_;simp[h3];apply hK;refine AU ?_;simp;refine xW fun K hK=>?_;simp;apply hK;refine Ag ⟨_,_,AJ.refl,?_⟩;try simp
   ·rw[if_neg h3]at h;by_cases h4:m=4
    ·rw[if_pos h4]at h;have hcd:=CX _ _ h;refine xS (xW fun K hK=>?_);simp[hbq];apply hK;refine Bw ?_;refine xW fun K hK=>?_;simp[h4];apply hK;refine AU ?_;simp;refine xW fun K hK=>?_;simp;apply hK;refine AU ?_;simp;(repeat refine xS ?_);refine BX fun K hK=>?_;refine xJ ?_;simp;refine Bp (hcd) rfl (by simp[xN]) ?_;simp;refine xJ ?_;simp;refine Aj (hK _ _ ?_);(try simp only[xQ,reduceIte]);refine Ag ⟨_,_,AJ.refl,?_⟩;try simp
    ·rw[if_neg h4]at h;have hm1:=hmd h;simp only[Hj,List.map_cons,List.map_nil]at hm1;have h3i:¬(m:Int)=3:=by omega
     have h4i:¬(m:Int)=4:=by omega
     refine xS (xW fun K hK=>?_);simp[hbq];apply hK;refine Bw ?_;refine xW fun K hK=>?_;simp;apply hK;refine AU ?_;simp[h3i];refine xW fun K hK=>?_;simp;apply hK;refine AU ?_;simp[h4i];refine CC ?_;have h1m:1≤maxLen:=by unfold maxLen;omega
     (repeat refine xS ?_);refine BX fun K hK=>?_;refine xJ ?_;simp[h1m];refine Bp (hm1) rfl (by simp[xN]) ?_;simp;refine xJ ?_;simp;refine Aj (hK _ _ ?_);(try simp only[xQ,reduceIte]);refine Ag ⟨_,_,AJ.refl,?_⟩;try simp
open Go.Proofs Tryz
theorem O9(p a c:Int)(d:AN):Pure prog 125 [AK ⟨1,p,a,c,0,0,[],d⟩] (.bool true):=by
 refine Pure.AI func125 (by kernel_rfl) rfl (by simp) fun wf=>?_;rw[ntmps125];refine xW fun K hK=>?_;simp;apply hK;refine xW fun K hK=>?_;simp;apply hK;refine xS (xW fun K hK=>?_);simp;apply hK;refine AU ?_;simp;refine xK ?_;refine xW fun K hK=>?_;simp;apply hK;refine xW fun K hK=>?_;simp;apply hK;refine Ag ⟨_,_,AJ.refl,?_⟩;try simp
theorem Pz(p a c:Int)(d:AN):Pure prog 125 [AK ⟨2,p,a,c,0,0,[],d⟩] (.bool true):=by
 refine Pure.AI func125 (by kernel_rfl) rfl (by simp) fun wf=>?_;rw[ntmps125];refine xW fun K hK=>?_;simp;apply hK;refine xW fun K hK=>?_;simp;apply hK;refine xS (xW fun K hK=>?_);simp;apply hK;refine AU ?_;simp;refine xK ?_;refine xW fun K hK=>?_;simp;apply hK;refine xW fun K hK=>?_;simp;apply hK;refine Ag ⟨_,_,AJ.refl,?_⟩;try simp
theorem Pf(l t:Int)(d:AN):Pure prog 125 [AK ⟨3,0,0,0,l,0,[t],d⟩] (.bool true):=by
 refine Pure.AI func125 (by kernel_rfl) rfl (by simp) fun wf=>?_;rw[ntmps125];refine xW fun K hK=>?_;simp;apply hK;refine xW fun K hK=>?_;simp;apply hK;refine xS (xW fun K hK=>?_);simp;apply hK;refine AU ?_;simp;refine xK ?_;refine xW fun K hK=>?_;simp;apply hK;refine xW fun K hK=>?_;simp;apply hK;refine Ag ⟨_,_,AJ.refl,?_⟩;try simp
theorem Om(l t:Int)(d:AN):Pure prog 125 [AK ⟨4,0,0,0,l,0,[t],d⟩] (.bool true):=by
 refine Pure.AI func125 (by kernel_rfl) rfl (by simp) fun wf=>?_;rw[ntmps125];refine xW fun K hK=>?_;simp;apply hK;refine xW fun K hK=>?_;simp;apply hK;refine xS (xW fun K hK=>?_);simp;apply hK;refine AU ?_;simp;refine xK ?_;refine xW fun K hK=>?_;simp;apply hK;refine xW fun K hK=>?_;simp;apply hK;refine Ag ⟨_,_,AJ.refl,?_⟩;try simp
theorem O2(t:Int)(d:AN):Pure prog 125 [AK ⟨5,0,0,0,0,0,[t],d⟩] (.bool true):=by
 refine Pure.AI func125 (by kernel_rfl) rfl (by simp) fun wf=>?_;rw[ntmps125];refine xW fun K hK=>?_;simp;apply hK;refine xW fun K hK=>?_;simp;apply hK;refine xS (xW fun K hK=>?_);simp;apply hK;refine AU ?_;simp;refine xK ?_;refine xW fun K hK=>?_;simp;apply hK;refine xW fun K hK=>?_;simp;apply hK;refine Ag ⟨_,_,AJ.refl,?_⟩;try simp
def OT(g:AF)(p:Int):Bool:=g.levels.any fun l=>l.AD.contains p
theorem GJ(g:AF)(p:Int)(h1:g.levels.length≤maxLen)(h2:∀l∈g.levels,l.AD.length≤maxLen):Pure prog 54 [AB g,AG p] (.bool (OT g p)):=by
 refine Pure.AI func54 (by kernel_rfl) rfl (by simp) fun wf=>?_;rw[ntmps54];refine xW fun K hK=>?_;simp;apply hK;refine xS (xW fun K hK=>?_);simp;apply hK;refine Bw ?_;refine DC g.levels.length (fun i tm S=>tm 1=.d (AG p)∧tm 2=.ptr 0 1 0 0∧tm 5=.d (.int .i64 i)∧S=[.row true 9 [.d (AB g)]]∧∀j (_:j<i) (h:j<g.levels.length),g.levels[j].AD.contains p=false) (Nat.zero_le _) (by simp) ?_;rintro i tm S hi ⟨t1,t2,t5,rfl,hq⟩;refine xS (xW fun K hK=>?_);simp[t2,t5];apply hK;refine AU ?_;simp;refine⟨fun hlt=>?_,fun hge=>?_⟩
 ·have hl2:=h2 _ (List.getElem_mem hlt);have hmm:=List.getElem_mem hlt;generalize hl:g.levels[i]=l at *;have henc:=Ac.eq_1 l;refine xK ?_;refine xB ?_;refine xW fun K hK=>?_;simp;apply hK;refine Bw ?_;refine DC l.AD.length (fun k tm S=>tm 1=.d (AG p)∧tm 2=.ptr 0 1 0 0∧tm 5=.d (.int .i64 i)∧tm 6=.d (.int .i64 k)∧S=[.row true 9 [.d (AB g)]]∧∀j (_:j<k) (h:j<l.AD.length),l.AD[j]≠p) (Nat.zero_le _) (by simp[t1,t2,t5]) ?_;rintro k tm S hk ⟨t1,t2,t5,t6,rfl,hr⟩;refine xS (xW fun K hK=>?_);simp[t2,t5,t6,hlt,hl,henc];apply hK;refine AU ?_;simp;refine⟨fun hkl=>?_,fun hge=>?_⟩
  ·refine xK ?_;refine xB ?_;refine xW fun K hK=>?_;simp[t1,t2,t5,t6,hlt,hl,henc,hkl];apply hK;refine AU ?_;simp;refine⟨fun he=>?_,fun hne=>?_⟩
   ·have:OT g p=true:=List.any_eq_true.2 ⟨l,hmm,by have:=List.getElem_mem hkl;rw[he]at this;simpa using this⟩;rw[this];refine xW fun K hK=>?_;simp;apply hK;refine Ag ⟨_,_,AJ.refl,?_⟩;try simp
   ·refine CC ?_;refine xV fun K hK=>?_;simp[t6];apply hK;refine⟨hkl,_,_,AJ.refl,?_⟩;simp[t1,t2,t5,AQ hkl hl2];intro j hj hjl;by_cases e:j=k
    ·subst e;simpa using hne
    ·exact hr j (by omega) hjl
  ·refine Cu ?_;have e:k=l.AD.length:=by omega
   subst e;refine xV fun K hK=>?_;simp[t5];apply hK;refine⟨hlt,_,_,AJ.refl,?_⟩;simp[t1,t2,AQ hlt h1];intro j hj hjl;by_cases e:j=i
   ·subst e;rw[hl];simp only[List.mem_iff_getElem,not_exists];intro q hq' hh;exact hr q hq' hq' hh
   ·simpa using hq j (by omega) hjl
 ·refine Cu ?_;have:OT g p=false:=by
   rw[OT,List.any_eq_false];intro x hx;obtain⟨j,hj,rfl⟩:=List.mem_iff_getElem.1 hx;rw[hq j (by omega) hj];simp
  rw[this];refine xW fun K hK=>?_;simp;apply hK;refine Ag ⟨_,_,AJ.refl,?_⟩;try simp
open Go.Proofs Tryz
section
variable {P:Program} {n b:Nat} {ops:Array Oper} {o:Oper} {tm:Tm} {S:Sg} {K:Tm→Sg→Prop}
theorem dR{B:List (Nat×(Sg→Prop))}{i:Nat}{q:Bool}{rest:List (Nat×Bool×Oper)}{j:Nat}{want:Bool}(hq:q=true)(hg:o.guard=some (j,want))
  (hp:guardV ops tm j want=some true∧A6 n o.dst∧basePre P o.op tm S∧CM P o.op tm S=S)
  (h2:Ae P n b ops ((i,fun S'=>S'=S)::B) rest (put tm o.dst (BP P o.op tm S)) S K):Ae P n b ops B ((i,q,o)::rest) tm S K:=by
 subst hq;obtain⟨h3,h4,h5,h6⟩:=hp;refine Ae.quiet (fun S'=>S'=S) rfl (fun hi S' hS=>?_) h2;subst hS;intro tm' he;obtain⟨e1,e2,e3⟩:=Hw (P:=P) (S:=S') (op:=o.op) (Fy he);have:=Step.FB (b:=b) hi h4 hg (by rw[guard_congr hg he];exact h3) (IW (P:=P) (n:=n) (o:=o) (tm:=tm') (S:=S') (by rw[e1];exact h5));rw[e2,e3,h6]at this;exact this
end
def Q1(tk:Token)(lit:Bool):Bool:=if lit then decide (tk.literal=⟨#[]⟩)else decide (tk.cls≠0)
theorem KS(g:AF)(t:Nat)(lit:Bool)(ht:t<g.Ak.length):Pure prog 126 [AB g,Ci [(t:Int)],.bool lit] (.bool (!(Q1 g.Ak[t] lit))):=by
 have c1:¬(t:Int)<0:=by omega
 have c2:¬(g.Ak.length:Int)≤t:=by omega
 have c3:¬g.Ak.length≤t:=by omega
 generalize htk:g.Ak[t]=tk;have henc:=Aa.eq_1 tk;refine Pure.AI func126 (by kernel_rfl) rfl (by simp) fun wf=>?_;rw[ntmps126];refine xW fun K hK=>?_;simp;apply hK;refine xS (xW fun K hK=>?_);simp;apply hK;refine Bw ?_;refine DC 1 (fun i tm S=>tm 1=.d (Ci [(t:Int)])∧tm 2=.d (.bool lit)∧tm 3=.ptr 0 1 0 0∧tm 7=.d (.int .i64 i)∧S=[.row true 9 [.d (AB g)]]∧(0<i→Q1 tk lit=false)) (Nat.zero_le _) (by simp) ?_;rintro i tm S hi ⟨t1,t2,t3,t7,rfl,hq⟩;rcases Nat.lt_or_ge i 1 with h0|h0
 ·have hi0:i=0:=by omega
  subst hi0;refine xS (xW fun K hK=>?_);simp[t1,t7];apply hK;refine AU ?_;simp;refine xK ?_;refine xB ?_;refine xS ?_;refine xD [0,2,4,6,8,10,12,14,16,18,20,22,24,26,28,30,32,34,36,38,40,42,44,46,48,50,52,54,56,58,60] (by kernel_rfl) fun K hK=>?_;simp;refine xZ ?_;simp[t1,t3,t7,c1,c2];refine xM (hK _ _ ?_);(try simp only[xQ,reduceIte]);refine AU ?_;simp;refine xK ?_;(repeat refine xS ?_);refine xE [0,2,4,6,8,10,12,14,17,19] (by kernel_rfl) fun K hK=>?_;simp;refine xA 1 ?_;simp[t1,t3,t7,ht,htk,henc];refine xX 0 (by kernel_rfl) ?_;simp[t1,t3,t7,AR,ht,htk,henc];refine xA 1 ?_;simp;refine xX 255 (by kernel_rfl) ?_;simp[AR];refine xM (hK _ _ ?_);(try simp only[xQ,reduceIte]);cases lit with
  |true=>
   (repeat refine xS ?_);refine BX fun K hK=>?_;(repeat((first|refine Dp rfl ?_ ?_;(·simp)|refine Jf rfl ?_ ?_;(·simp)|refine B7 ?_ ?_;(·simp));simp[t2]));refine Aj (hK _ _ ?_);(try simp only[QSeq]);refine AU ?_;simp;refine⟨fun hx=>?_,fun hx=>?_⟩
   ·have ha:Q1 tk true=true:=by simp[Q1,hx]
    rw[ha];refine xW fun K hK=>?_;simp;apply hK;refine Ag ⟨_,_,AJ.refl,?_⟩;try simp
   ·refine CC ?_;refine xV fun K hK=>?_;simp[t7];apply hK;refine⟨_,_,AJ.EL 1 (S':=[.row true 9 [.d (AB g)]]) (by simp) (by simp) (by simp) (by simp),?_⟩;simp[clean,belowV,t1,t2,t3,Q1,hx];decide
  |false=>
   refine Az fun K hK=>?_;refine xH ?_;simp[t2];refine Aj (hK _ _ ?_);refine AU ?_;simp;refine⟨fun hx=>?_,fun hx=>?_⟩
   ·have ha:Q1 tk false=true:=by simp[Q1,hx]
    rw[ha];refine xW fun K hK=>?_;simp;apply hK;refine Ag ⟨_,_,AJ.refl,?_⟩;try simp
   ·refine CC ?_;refine xV fun K hK=>?_;simp[t7];apply hK;refine⟨_,_,AJ.EL 1 (S':=[.row true 9 [.d (AB g)]]) (by simp) (by simp) (by simp) (by simp),?_⟩;simp[clean,belowV,t1,t2,t3,Q1,hx];decide
 ·have e:i=1:=by omega
  subst e;have ha:=hq (by omega);rw[ha];refine xS (xW fun K hK=>?_);simp[t1,t7];apply hK;refine AU ?_;simp;refine Cu ?_;refine xW fun K hK=>?_;simp[t1];apply hK;refine Ag ⟨_,_,AJ.refl,?_⟩;try simp
open Go.Proofs Tryz
def Ls(g:AF)(p a c:Nat):Bool:=!((g.AD.getD p F1).right.getD a ⟨true,0⟩).token&&decide (((g.AD.getD p F1).right.getD a ⟨true,0⟩).index=(g.AD.getD c F1).left)
theorem VO(g:AF)(p a c:Nat)(d:AN)(hp:p<g.AD.length)(hc:c<g.AD.length)(hd:GF d g.conds.length=true):
  Pure prog 55 [AB g,AK ⟨1,p,a,c,0,0,[],d⟩] (.bool (Ls g p a c)):=by
 have hf:=HB d g.conds.length hd;have hpl:=O9 p a c d;have c1:¬(p:Int)<0:=by omega
 have c2:¬(g.AD.length:Int)≤p:=by omega
 have c2':¬g.AD.length≤p:=by omega
 have c3:¬(c:Int)<0:=by omega
 have c4:¬(g.AD.length:Int)≤c:=by omega
 have c4':¬g.AD.length≤c:=by omega
 refine Pure.AI func55 (by kernel_rfl) rfl (by simp) fun wf=>?_;rw[ntmps55];refine xW fun K hK=>?_;simp;apply hK;refine xS (Az fun K hK=>?_);refine xH ?_;simp;refine AS.Cj (hf) rfl rfl (by simp[xN];try rfl) ?_;simp;refine xH ?_;simp;refine AS.Cj (hpl) rfl rfl (by simp[xN];try rfl) ?_;simp;refine xH ?_;simp;refine Aj (hK _ _ ?_);(try simp only[xQ,reduceIte]);refine AU ?_;simp;refine xK ?_;refine xS (xW fun K hK=>?_);simp;apply hK;refine Bw ?_;refine xS (xW fun K hK=>?_);simp;apply hK;refine AU ?_;simp;refine xK ?_;refine AU ?_;simp;refine xS (Az fun K hK=>?_);refine xH ?_;simp[c1,c2,c3,c4];refine Aj (hK _ _ ?_);(try simp only[xQ,reduceIte]);refine AU ?_;simp;refine CC ?_;unfold Ls;have e1:g.AD.getD p F1=g.AD[p]:=by simp[hp]
 have e2:g.AD.getD c F1=g.AD[c]:=by simp[hc]
 rw[e1,e2];generalize hpp:g.AD[p]=q;generalize hqq:g.AD[c]=u;have henc:=AH.eq_1 q;have henu:=AH.eq_1 u;(repeat refine xS ?_);refine xV fun K hK=>?_;simp[hp,hpp,henc];refine hK _ _ ?_;(try simp only[xQ,reduceIte]);by_cases a1:a<q.right.length
 ·generalize hs:q.right[a]=s;have hes:=AL.eq_1 s;have a2:(a:Int)<q.right.length:=by omega
  have e3:q.right.getD a ⟨true,0⟩=s:=by simp[a1,hs]
  rw[e3];cases ht:s.token with
  |true=>
   (repeat refine xS ?_);refine xE [0,2,4,6,8,10,12,14,16,18,20,22,24,26,28,30,32,34,36,38,40,42,44,46,48,50,52,54,56,58,60,62,64,66,68,70] (by kernel_rfl) fun K hK=>?_;simp;refine xZ ?_;simp[a1,a2,hs,hes,ht];refine xM (hK _ _ ?_);(try simp only[xQ,reduceIte]);refine Ag ⟨_,_,AJ.refl,?_⟩;try simp
  |false=>
   (repeat refine xS ?_);refine xE [0,2,4,6,8,10,12,14,16,18,20,22,24,26,28,30,32,34,36,38,40,42,44,46,48,50,52,54,56,58,60,62,64,66,68,70] (by kernel_rfl) fun K hK=>?_;simp;refine xZ ?_;simp[a1,a2,hs,hes,ht,hc,hqq,henu];refine xM (hK _ _ ?_);(try simp only[xQ,reduceIte]);refine Ag ⟨_,_,AJ.refl,?_⟩;(try simp);rw[Bool.eq_iff_iff];simp
 ·have a2:¬(a:Int)<q.right.length:=by omega
  have e3:q.right.getD a ⟨true,0⟩=⟨true,0⟩:=by simp[a1]
  rw[e3];(repeat refine xS ?_);refine xE [0,2,4,6,8,10,12,14,16,18,20,22,24,26,28,30,32,34,36,38,40,42,44,46,48,50,52,54,56,58,60,62,64,66,68,70] (by kernel_rfl) fun K hK=>?_;simp;refine xZ ?_;simp[a2];refine xM (hK _ _ ?_);(try simp only[]);refine Ag ⟨_,_,AJ.refl,?_⟩;try simp
theorem Td(g:AF)(p a c:Nat)(d:AN)(hp:p<g.AD.length)(hc:c<g.AD.length)(hd:GF d g.conds.length=true):
  Pure prog 55 [AB g,AK ⟨2,p,a,c,0,0,[],d⟩] (.bool (Ls g p a c)):=by
 have hf:=HB d g.conds.length hd;have hpl:=Pz p a c d;have c1:¬(p:Int)<0:=by omega
 have c2:¬(g.AD.length:Int)≤p:=by omega
 have c2':¬g.AD.length≤p:=by omega
 have c3:¬(c:Int)<0:=by omega
 have c4:¬(g.AD.length:Int)≤c:=by omega
 have c4':¬g.AD.length≤c:=by omega
 refine Pure.AI func55 (by kernel_rfl) rfl (by simp) fun wf=>?_;rw[ntmps55];refine xW fun K hK=>?_;simp;apply hK;refine xS (Az fun K hK=>?_);refine xH ?_;simp;refine AS.Cj (hf) rfl rfl (by simp[xN];try rfl) ?_;simp;refine xH ?_;simp;refine AS.Cj (hpl) rfl rfl (by simp[xN];try rfl) ?_;simp;refine xH ?_;simp;refine Aj (hK _ _ ?_);(try simp only[xQ,reduceIte]);refine AU ?_;simp;refine xK ?_;refine xS (xW fun K hK=>?_);simp;apply hK;refine Bw ?_;refine xS (xW fun K hK=>?_);simp;apply hK;refine AU ?_;simp;refine xV fun K hK=>?_;simp;apply hK;refine AU ?_;simp;refine xS (Az fun K hK=>?_);refine xH ?_;simp[c1,c2,c3,c4];refine Aj (hK _ _ ?_);(try simp only[xQ,reduceIte]);refine AU ?_;simp;refine CC ?_;unfold Ls;have e1:g.AD.getD p F1=g.AD[p]:=by simp[hp]
 have e2:g.AD.getD c F1=g.AD[c]:=by simp[hc]
 rw[e1,e2];generalize hpp:g.AD[p]=q;generalize hqq:g.AD[c]=u;have henc:=AH.eq_1 q;have henu:=AH.eq_1 u;(repeat refine xS ?_);refine xV fun K hK=>?_;simp[hp,hpp,henc];refine hK _ _ ?_;(try simp only[xQ,reduceIte]);by_cases a1:a<q.right.length
 ·generalize hs:q.right[a]=s;have hes:=AL.eq_1 s;have a2:(a:Int)<q.right.length:=by omega
  have e3:q.right.getD a ⟨true,0⟩=s:=by simp[a1,hs]
  rw[e3];cases ht:s.token with
  |true=>
   (repeat refine xS ?_);refine xE [0,2,4,6,8,10,12,14,16,18,20,22,24,26,28,30,32,34,36,38,40,42,44,46,48,50,52,54,56,58,60,62,64,66,68,70] (by kernel_rfl) fun K hK=>?_;simp;refine xZ ?_;simp[a1,a2,hs,hes,ht];refine xM (hK _ _ ?_);(try simp only[xQ,reduceIte]);refine Ag ⟨_,_,AJ.refl,?_⟩;try simp
  |false=>
   (repeat refine xS ?_);refine xE [0,2,4,6,8,10,12,14,16,18,20,22,24,26,28,30,32,34,36,38,40,42,44,46,48,50,52,54,56,58,60,62,64,66,68,70] (by kernel_rfl) fun K hK=>?_;simp;refine xZ ?_;simp[a1,a2,hs,hes,ht,hc,hqq,henu];refine xM (hK _ _ ?_);(try simp only[xQ,reduceIte]);refine Ag ⟨_,_,AJ.refl,?_⟩;(try simp);rw[Bool.eq_iff_iff];simp
 ·have a2:¬(a:Int)<q.right.length:=by omega
  have e3:q.right.getD a ⟨true,0⟩=⟨true,0⟩:=by simp[a1]
  rw[e3];(repeat refine xS ?_);refine xE [0,2,4,6,8,10,12,14,16,18,20,22,24,26,28,30,32,34,36,38,40,42,44,46,48,50,52,54,56,58,60,62,64,66,68,70] (by kernel_rfl) fun K hK=>?_;simp;refine xZ ?_;simp[a2];refine xM (hK _ _ ?_);(try simp only[]);refine Ag ⟨_,_,AJ.refl,?_⟩;try simp
theorem WC(g:AF)(l t:Nat)(d:AN)(hl:l<g.BC.length)(ht:t<g.Ak.length)(hd:GF d g.conds.length=true):
  Pure prog 55 [AB g,AK ⟨3,0,0,0,l,0,[(t:Int)],d⟩] (.bool (!(Q1 g.Ak[t] false))):=by
 have hf:=HB d g.conds.length hd;have hpl:=Pf l t d;have ham:=KS g t false ht;have c1:(0:Int)≤l:=by omega
 have c2:(l:Int)<g.BC.length:=by omega
 refine Pure.AI func55 (by kernel_rfl) rfl (by simp) fun wf=>?_;rw[ntmps55];refine xW fun K hK=>?_;simp;apply hK;refine xS (Az fun K hK=>?_);refine xH ?_;simp;refine AS.Cj (hf) rfl rfl (by simp[xN];try rfl) ?_;simp;refine xH ?_;simp;refine AS.Cj (hpl) rfl rfl (by simp[xN];try rfl) ?_;simp;refine xH ?_;simp;refine Aj (hK _ _ ?_);(try simp only[xQ,reduceIte]);refine AU ?_;simp;refine xK ?_;refine xS (xW fun K hK=>?_);simp;apply hK;refine Bw ?_;refine xS (xW fun K hK=>?_);simp;apply hK;refine AU ?_;simp;refine xV fun K hK=>?_;simp;apply hK;refine AU ?_;simp;refine xS (xW fun K hK=>?_);simp;apply hK;refine AU ?_;simp;refine xK ?_;refine AU ?_;simp;(repeat refine xS ?_);refine BX fun K hK=>?_;refine xH ?_;simp[c1,c2];refine AS.Cj (ham) rfl rfl (by simp[xN];try rfl) ?_;simp;refine xH ?_;simp;refine Aj (hK _ _ ?_);(try simp only[xQ,reduceIte]);refine Ag ⟨_,_,AJ.refl,?_⟩;try simp
theorem Vy(g:AF)(l t:Nat)(d:AN)(hl:l<g.BC.length)(ht:t<g.Ak.length)(hd:GF d g.conds.length=true):
  Pure prog 55 [AB g,AK ⟨4,0,0,0,l,0,[(t:Int)],d⟩] (.bool (!(Q1 g.Ak[t] false))):=by
 have hf:=HB d g.conds.length hd;have hpl:=Om l t d;have ham:=KS g t false ht;have c1:(0:Int)≤l:=by omega
 have c2:(l:Int)<g.BC.length:=by omega
 refine Pure.AI func55 (by kernel_rfl) rfl (by simp) fun wf=>?_;rw[ntmps55];refine xW fun K hK=>?_;simp;apply hK;refine xS (Az fun K hK=>?_);refine xH ?_;simp;refine AS.Cj (hf) rfl rfl (by simp[xN];try rfl) ?_;simp;refine xH ?_;simp;refine AS.Cj (hpl) rfl rfl (by simp[xN];try rfl) ?_;simp;refine xH ?_;simp;refine Aj (hK _ _ ?_);(try simp only[xQ,reduceIte]);refine AU ?_;simp;refine xK ?_;refine xS (xW fun K hK=>?_);simp;apply hK;refine Bw ?_;refine xS (xW fun K hK=>?_);simp;apply hK;refine AU ?_;simp;refine xV fun K hK=>?_;simp;apply hK;refine AU ?_;simp;refine xS (xW fun K hK=>?_);simp;apply hK;refine AU ?_;simp;refine xV fun K hK=>?_;simp;apply hK;refine AU ?_;simp;(repeat refine xS ?_);refine BX fun K hK=>?_;refine xH ?_;simp[c1,c2];refine AS.Cj (ham) rfl rfl (by simp[xN];try rfl) ?_;simp;refine xH ?_;simp;refine Aj (hK _ _ ?_);(try simp only[xQ,reduceIte]);refine Ag ⟨_,_,AJ.refl,?_⟩;try simp
theorem V2(g:AF)(t:Nat)(d:AN)(ht:t<g.Ak.length)(hd:GF d g.conds.length=true):
  ∃b,Pure prog 55 [AB g,AK ⟨5,0,0,0,0,0,[(t:Int)],d⟩] (.bool b):=by
 have hf:=HB d g.conds.length hd;have hpl:=O2 t d;have ham:=KS g t true ht;have h0:0<g.Ak.length:=by omega
 have c2:¬(g.Ak.length:Int)≤0:=by omega
 have c3:¬g.Ak.length=0:=by omega
 have c4:g.Ak≠[]:=by intro e;simp[e]at h0
 have sw:True:=trivial;cases ha:Q1 g.Ak[t] true with
 |true=>
  rw[ha]at ham;refine⟨false,?_⟩;refine Pure.AI func55 (by kernel_rfl) rfl (by simp) fun wf=>?_;rw[ntmps55];refine xW fun K hK=>?_;simp;apply hK;refine xS (Az fun K hK=>?_);refine xH ?_;simp;refine AS.Cj (hf) rfl rfl (by simp[xN];try rfl) ?_;simp;refine xH ?_;simp;refine AS.Cj (hpl) rfl rfl (by simp[xN];try rfl) ?_;simp;refine xH ?_;simp;refine Aj (hK _ _ ?_);(try simp only[xQ,reduceIte]);refine AU ?_;simp;refine xK ?_;refine xS (xW fun K hK=>?_);simp;apply hK;refine Bw ?_;refine xS (xW fun K hK=>?_);simp;apply hK;refine AU ?_;simp;refine xV fun K hK=>?_;simp;apply hK;refine AU ?_;simp;refine xS (xW fun K hK=>?_);simp;apply hK;refine AU ?_;simp;refine xV fun K hK=>?_;simp;apply hK;refine AU ?_;simp;refine CC ?_;refine xS (Az fun K hK=>?_);refine xH ?_;simp[c3];refine AS.Cj (ham) rfl rfl (by simp[xN];try rfl) ?_;simp;refine xH ?_;simp;refine Aj (hK _ _ ?_);(try simp only[xQ,reduceIte]);refine AU ?_;simp;refine xW fun K hK=>?_;simp;apply hK;refine Ag ⟨_,_,AJ.refl,?_⟩;try simp
 |false=>
  rw[ha]at ham;generalize htk:g.Ak[0]=tk;have henc:=Aa.eq_1 tk;refine⟨decide (tk.cls=0)&&decide (tk.literal=⟨#[]⟩),?_⟩;refine Pure.AI func55 (by kernel_rfl) rfl (by simp) fun wf=>?_;rw[ntmps55];refine xW fun K hK=>?_;simp;apply hK;refine xS (Az fun K hK=>?_);refine xH ?_;simp;refine AS.Cj (hf) rfl rfl (by simp[xN];try rfl) ?_;simp;refine xH ?_;simp;refine AS.Cj (hpl) rfl rfl (by simp[xN];try rfl) ?_;simp;refine xH ?_;simp;refine Aj (hK _ _ ?_);(try simp only[xQ,reduceIte]);refine AU ?_;simp;refine xK ?_;refine xS (xW fun K hK=>?_);simp;apply hK;refine Bw ?_;refine xS (xW fun K hK=>?_);simp;apply hK;refine AU ?_;simp;refine xV fun K hK=>?_;simp;apply hK;refine AU ?_;simp;refine xS (xW fun K hK=>?_);simp;apply hK;refine AU ?_;simp;refine xV fun K hK=>?_;simp;apply hK;refine AU ?_;simp;refine CC ?_;refine xS (Az fun K hK=>?_);refine xH ?_;simp[c3];refine AS.Cj (ham) rfl rfl (by simp[xN];try rfl) ?_;simp;refine xH ?_;simp;refine Aj (hK _ _ ?_);(try simp only[xQ,reduceIte]);refine AU ?_;simp;refine xK ?_;(repeat refine xS ?_);refine BX fun K hK=>?_;refine xJ ?_;simp[h0,htk,henc];refine Aj (hK _ _ ?_);(try simp only[xQ,reduceIte]);by_cases hcl:tk.cls=0
  ·(repeat refine xS ?_);refine BX fun K hK=>?_;refine xH ?_;simp[hcl];refine Aj (hK _ _ ?_);(try simp only[xQ,reduceIte]);refine Ag ⟨_,_,AJ.refl,?_⟩;(try simp);intro _;exact hcl
  ·(repeat refine xS ?_);refine BX fun K hK=>?_;(repeat((first|refine Dp rfl ?_ ?_;(·simp[hcl])|refine Jf rfl ?_ ?_;(·simp[hcl])|refine B7 ?_ ?_;(·simp[hcl]));simp));refine Aj (hK _ _ ?_);(try simp only[QSeq]);refine Ag ⟨_,_,AJ.refl,?_⟩;(try simp);simp[hcl]
open Go.Proofs Tryz
def Qw:Symbol:=⟨false,0⟩
def SE(l:Int)(r:List Symbol):Bool:=decide (r.length=3)&&((r.getD 0 Qw).token&&(r.getD 2 Qw).token&&!(r.getD 1 Qw).token&&decide ((r.getD 1 Qw).index=l))
theorem O7(nm:ByteArray)(l:Int)(r:List Symbol)(c:AN)(b:Bool):Pure prog 123 [AH ⟨nm,l,r,c,b,0,[],Av⟩] (.bool (SE l r)):=by
 have hz:Av=⟨false,0,0,0,0⟩:=rfl;have hdq:deqs [D.bool false,D.int .i64 0,D.int .i64 0,D.int .i64 0,D.int .i64 0] [D.bool false,D.int .i64 0,D.int .i64 0,D.int .i64 0,D.int .i64 0]=true:=rfl;by_cases h3:r.length=3
 ·obtain⟨x,y,z,rfl⟩:∃x y z,r=[x,y,z]:=by
   match r,h3 with
   |[x,y,z],_=>exact⟨x,y,z,rfl⟩
  have hb:SE l [x,y,z]=(x.token&&z.token&&!y.token&&decide (y.index=l)):=by simp[SE]
  rw[hb];have ex:=AL.eq_1 x;have ey:=AL.eq_1 y;have ez:=AL.eq_1 z;refine Pure.AI func123 (by kernel_rfl) rfl (by simp) fun wf=>?_;rw[ntmps123];refine xW fun K hK=>?_;simp;apply hK;refine xS (Az fun K hK=>?_);refine xH ?_;simp[hz,hdq];refine Aj (hK _ _ ?_);(try simp only[xQ,reduceIte]);refine AU ?_;simp;refine CC ?_;cases hx:x.token with
  |false=>
   (repeat refine xS ?_);refine xE [0,2,4,6,8,10,12,14,16,18,20,22,24,26,28,30,32,34,36,38,40,42,44,46,48,50,52,54,56,58,60] (by kernel_rfl) fun K hK=>?_;simp;refine xZ ?_;simp[ex,hx];refine xM (hK _ _ ?_);(try simp only[xQ,reduceIte]);refine Ag ⟨_,_,AJ.refl,?_⟩;try simp
  |true=>
   cases hzt:z.token with
   |false=>
    (repeat refine xS ?_);refine xE [0,2,4,6,8,10,12,14,16,18,20,22,24,26,28,30,32,34,36,38,40,42,44,46,48,50,52,54,56,58,60] (by kernel_rfl) fun K hK=>?_;simp;refine xZ ?_;simp[ex,ez,hx,hzt];refine xM (hK _ _ ?_);(try simp only[xQ,reduceIte]);refine Ag ⟨_,_,AJ.refl,?_⟩;try simp
   |true=>
    cases hy:y.token with
    |true=>
     (repeat refine xS ?_);refine xE [0,2,4,6,8,10,12,14,16,18,20,22,24,26,28,30,32,34,36,38,40,42,44,46,48,50,52,54,56,58,60] (by kernel_rfl) fun K hK=>?_;simp;refine xZ ?_;simp[ex,ey,ez,hx,hy,hzt];refine xM (hK _ _ ?_);(try simp only[xQ,reduceIte]);refine Ag ⟨_,_,AJ.refl,?_⟩;try simp
    |false=>
     (repeat refine xS ?_);refine xE [0,2,4,6,8,10,12,14,16,18,20,22,24,26,28,30,32,34,36,38,40,42,44,46,48,50,52,54,56,58,60] (by kernel_rfl) fun K hK=>?_;simp;refine xZ ?_;simp[ex,ey,ez,hx,hy,hzt];refine xM (hK _ _ ?_);(try simp only[xQ,reduceIte]);refine Ag ⟨_,_,AJ.refl,?_⟩;(try simp);rw[Bool.eq_iff_iff];simp
 ·have hb:SE l r=false:=by simp[SE,h3]
  rw[hb];have h3':¬(r.length:Int)=3:=by omega
  refine Pure.AI func123 (by kernel_rfl) rfl (by simp) fun wf=>?_;rw[ntmps123];refine xW fun K hK=>?_;simp;apply hK;refine xS (Az fun K hK=>?_);(repeat((first|refine Dp rfl ?_ ?_;(·simp[h3'])|refine Jf rfl ?_ ?_;(·simp[h3,h3'])|refine B7 ?_ ?_;(·simp[h3']));simp));refine Aj (hK _ _ ?_);(try simp only[xQ,reduceIte]);refine AU ?_;simp[h3'];refine xW fun K hK=>?_;simp;apply hK;refine Ag ⟨_,_,AJ.refl,?_⟩;try simp
end Go.Koi
