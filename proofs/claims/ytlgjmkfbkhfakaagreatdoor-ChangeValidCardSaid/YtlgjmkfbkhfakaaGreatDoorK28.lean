/- Part 29 of the proof that the law ChangeValid returns true for every input. -/
import Derived.Test.YtlgjmkfbkhfakaaGreatDoorK27
set_option maxHeartbeats 64000000
set_option maxRecDepth 100000
namespace Go.Koi
open Go.Proofs Tryz
theorem CX(a d:AN)(h:J1 a=some d):Pure prog 53 [AA a] (AA d):=by
 have hc:=Kv a ⟨[],1⟩ 2 d h;have h1:=Bi true;simp at h1;refine Pure.AI func53 (by kernel_rfl) rfl (by simp) fun wf=>?_;rw[ntmps53];refine xW fun K hK=>?_;simp;apply hK;(repeat refine xS ?_);refine xE [0,2,4,7] (by kernel_rfl) fun K hK=>?_;simp;refine xA 0 ?_;simp;refine Ae.CA (h1) rfl (by simp[xN]) ?_;simp;refine xA 0 ?_;simp;refine Ae.CA (hc) rfl (by simp[xN]) ?_;simp;refine xA 0 ?_;simp;refine xX 7 (by kernel_rfl) ?_;simp;refine xM (hK _ _ ?_);(try simp only[xQ,reduceIte]);refine Ag ⟨_,_,AJ.refl,?_⟩;try simp
theorem L5(a b d:AN)(h:IE a b 0=some d):Pure prog 131 [AA a,AA b] (AA d):=by
 have hc:=Kv a b 0 d h;refine Pure.AI func131 (by kernel_rfl) rfl (by simp) fun wf=>?_;rw[ntmps131];refine xW fun K hK=>?_;simp;apply hK;(repeat refine xS ?_);refine BX fun K hK=>?_;refine xJ ?_;simp;refine Bp (hc) rfl (by simp[xN]) ?_;simp;refine xJ ?_;simp;refine Aj (hK _ _ ?_);(try simp only[xQ,reduceIte]);refine Ag ⟨_,_,AJ.refl,?_⟩;try simp
theorem Sb(a b d:AN)(h:IE a b 1=some d):Pure prog 130 [AA a,AA b] (AA d):=by
 have hc:=Kv a b 1 d h;refine Pure.AI func130 (by kernel_rfl) rfl (by simp) fun wf=>?_;rw[ntmps130];refine xW fun K hK=>?_;simp;apply hK;(repeat refine xS ?_);refine BX fun K hK=>?_;refine xJ ?_;simp;refine Bp (hc) rfl (by simp[xN]) ?_;simp;refine xJ ?_;simp;refine Aj (hK _ _ ?_);(try simp only[xQ,reduceIte]);refine Ag ⟨_,_,AJ.refl,?_⟩;try simp
theorem Rq(a b d:AN)(h:M4 a b=some d):Pure prog 132 [AA a,AA b] (AA d):=by
 unfold M4 at h;cases e:J1 b with
 |none=>simp[e]at h
 |some c=>
  simp only[e]at h;have hc:=CX b c e;have hi:=L5 a c d h;refine Pure.AI func132 (by kernel_rfl) rfl (by simp) fun wf=>?_;rw[ntmps132];refine xW fun K hK=>?_;simp;apply hK;(repeat refine xS ?_);refine xE [0,2,4,6,9] (by kernel_rfl) fun K hK=>?_;simp;refine xA 0 ?_;simp;refine Ae.CA (hc) rfl (by simp[xN]) ?_;simp;refine xA 0 ?_;simp;refine Ae.CA (hi) rfl (by simp[xN]) ?_;simp;refine xA 0 ?_;simp;refine xX 15 (by kernel_rfl) ?_;simp;refine xM (hK _ _ ?_);(try simp only[xQ,reduceIte]);refine Ag ⟨_,_,AJ.refl,?_⟩;try simp
open Go.Proofs Tryz
def Hj(l:List Int):D:=.sl (l.map (D.int .u8))
theorem Ro(l:List Int)(n:Nat):∀(f v k:Nat) (d:AN),Hy l n f v k=some d→Pure prog 48 [Hj l,AG n,AG v,AG k] (AA d):=by
 intro f;induction f with
 |zero=>intro v k d h;simp[Hy]at h
 |succ f ih=>
  intro v k d h;unfold Hy at h;split at h
  ·cases h
  rename_i hb;have hk:k<1048576:=by omega
  have yn:v<7:=by omega
  by_cases nK:v=n
  ·rw[if_pos nK]at h;cases h;have jG:=Bi (P6 l k);have iP:P6 l k=(decide (k / 8<l.length)&&(IntKind.u8.wrap (max ((l.getD (k / 8) 0).fdiv (2 ^ (k % 8)) % 256) 0 % 2)==1)):=rfl;generalize P6 l k=bb at *;obtain⟨j,hj⟩:∃j,k / 8=j:=⟨_,rfl⟩;obtain⟨m,hm⟩:∃m,k % 8=m:=⟨_,rfl⟩;rw[hj,hm]at iP;have q1:((k:Int).tdiv 8)=j:=by rw[←hj];simp
   have q2:((k:Int).tmod 8)=m:=by rw[Int.tmod_eq_emod_of_nonneg (by omega),←hm];simp
   have q3:(k:Int) / 8=j:=by omega
   have q4:(k:Int) % 8=m:=by omega
   have w1:IntKind.i64.wrap (j:Int)=j:=by rw[IntKind.wrap_i64];omega
   have w2:IntKind.u64.wrap (m:Int)=m:=by simp[IntKind.wrap,IntKind.signed,IntKind.bits];omega
   have w3:min m 8=m:=by omega
   have lp:IntKind.u8.bits=8:=rfl;refine Pure.AI func48 (by kernel_rfl) rfl (by simp) fun wf=>?_;rw[ntmps48];unfold Hj;refine xW fun K hK=>?_;simp;apply hK;refine xS (xW fun K hK=>?_);simp;apply hK;refine AU ?_;simp[nK];(repeat refine xS ?_);refine BX fun K hK=>?_;(iterate 6 (refine B7 (by simp) ?_;simp[q1,w1]));cases cx:decide (j<l.length)with
   |true=>
    have hl:j<l.length:=by simpa using cx
    have hg:l.getD j 0=l[j]:=by simp[hl]
    rw[cx,hg,Bool.true_and]at iP;(iterate 11 ((refine Jf rfl (by simp[hl];try rfl) ?_);simp[q1,q2,w1,w2,w3,hl,lp]));(iterate 1 (refine B7 (by simp) ?_;simp));rw[←iP];refine Bp (jG) rfl (by simp) ?_;simp;refine xJ ?_;simp;refine Aj (hK _ _ ?_);(try simp only[xQ,reduceIte]);refine Ag ⟨_,_,AJ.refl,?_⟩;try simp
   |false=>
    have hl:¬j<l.length:=by simpa using cx
    rw[cx,Bool.false_and]at iP;subst iP;(repeat(refine Dp rfl ?_ ?_;(·simp);simp));(iterate 1 (refine B7 (by simp) ?_;simp));refine Bp (jG) rfl (by simp) ?_;simp;refine xJ ?_;simp;refine Aj (hK _ _ ?_);refine Ag ⟨_,_,AJ.refl,?_⟩;try simp
  ·rw[if_neg nK]at h;cases e1:Hy l n f (v+1) (k+2 ^ v)with
   |none=>simp[e1]at h
   |some d1=>
    simp only[e1]at h;cases e0:Hy l n f (v+1) k with
    |none=>simp[e0]at h
    |some d0=>
     simp only[e0]at h;cases f1:IE (Ap v) d1 0 with
     |none=>simp[f1]at h
     |some g1=>
      simp only[f1]at h;cases f0:M4 d0 (Ap v)with
      |none=>simp[f0]at h
      |some g0=>
       simp only[f0]at h;have k1:=ih _ _ _ e1;have k0:=ih _ _ _ e0;have xd:=Qo (v:Int);have ha:=L5 _ _ _ f1;have iC:=Rq _ _ _ f0;have nN:=Sb _ _ _ h;have uz:¬(v:Int)=n:=by omega
       have p2:2 ^ v≤64:=Nat.pow_le_pow_right (by omega) (show v≤6 by omega);obtain⟨pw,vL⟩:∃pw,2 ^ v=pw:=⟨_,rfl⟩;have p3:(2:Int) ^ v=pw:=by rw[←vL];simp
       rw[vL]at k1 p2;have w0:IntKind.i64.wrap ((v:Int)+1)=(v+1:Nat):=by rw[IntKind.wrap_i64];omega
       have w1:IntKind.u64.wrap (v:Int)=v:=by simp[IntKind.wrap,IntKind.signed,IntKind.bits];omega
       have w2:min v 64=v:=by omega
       have w3:IntKind.i64.wrap (pw:Int)=pw:=by rw[IntKind.wrap_i64];omega
       have w4:IntKind.i64.wrap ((k:Int)+pw)=(k+pw:Nat):=by rw[IntKind.wrap_i64];omega
       have lp:IntKind.i64.bits=64:=rfl;generalize yo:Ap v=vd at *;refine Pure.AI func48 (by kernel_rfl) rfl (by simp) fun wf=>?_;rw[ntmps48];unfold Hj at k1 k0⊢;refine xW fun K hK=>?_;simp;apply hK;refine xS (xW fun K hK=>?_);simp;apply hK;refine AU ?_;simp[uz];refine xK ?_;refine Az fun K hK=>?_;refine xJ ?_;simp;refine Bp (xd) rfl (by simp) ?_;simp;refine xJ ?_;simp;refine Aj (hK _ _ ?_);(repeat refine xS ?_);refine xE [0,2,4,6,8,10,12,14,16,18,20,22,24,26,28,30,32,34,36,38,40,43] (by kernel_rfl) fun K hK=>?_;simp;refine xA 0 ?_;simp[w0,w1,w2,w3,w4,lp,p3];refine Ae.CA (k1) rfl (by simp[xN]) ?_;simp;refine xA 0 ?_;simp;refine Ae.CA (ha) rfl (by simp[xN]) ?_;simp;refine xA 0 ?_;simp[w0];refine Ae.CA (k0) rfl (by simp[xN]) ?_;simp;refine xA 0 ?_;simp;refine Ae.CA (iC) rfl (by simp[xN]) ?_;simp;refine xA 0 ?_;simp;refine Ae.CA (nN) rfl (by simp[xN]) ?_;simp;refine xA 0 ?_;simp;refine xX 2097151 (by kernel_rfl) ?_;simp;refine xM (hK _ _ ?_);(try simp only[xQ,reduceIte]);refine Ag ⟨_,_,AJ.refl,?_⟩;try simp
theorem NN(l:List Int)(n:Nat)(hn:n≤6)(d:AN)(h:Hy l n 8 0 0=some d):Pure prog 17 [Hj l,AG n] (AA d):=by
 have ht:=Ro l n 8 0 0 d h;have h6:(if(6:Int)<(n:Int)then(6:Int)else n)=n:=by split<;>omega
 have h0:(if(0:Int)<(n:Int)then(n:Int)else 0)=n:=by split<;>omega
 have hx:(n=0→(0:Int)=n)↔True:=iff_true_intro (by omega);refine Pure.AI func17 (by kernel_rfl) rfl (by simp) fun wf=>?_;rw[ntmps17];unfold Hj at ht⊢;refine xW fun K hK=>?_;simp;apply hK;refine xW fun K hK=>?_;simp[h6];apply hK;(repeat refine xS ?_);refine BX fun K hK=>?_;refine xJ ?_;simp;refine Bp (ht) rfl (by simp[hx]) ?_;simp;refine xJ ?_;simp;refine Aj (hK _ _ ?_);(try simp only[xQ,reduceIte]);refine Ag ⟨_,_,AJ.refl,?_⟩;try simp
open Go.Proofs Tryz
def aC(d:AN)(i:Nat):Bool:=
 decide (0≤(d.nodes.getD i LW).var∧(d.nodes.getD i LW).var≤63∧0≤(d.nodes.getD i LW).low∧0≤(d.nodes.getD i LW).high∧(d.nodes.getD i LW).low<i+2∧(d.nodes.getD i LW).high<i+2∧(d.nodes.getD i LW).low≠(d.nodes.getD i LW).high∧(d.nodes.getD i LW).var<d.level (d.nodes.getD i LW).low∧(d.nodes.getD i LW).var<d.level (d.nodes.getD i LW).high)&&(List.range i).all fun j=>decide (d.nodes.getD j LW≠d.nodes.getD i LW)
def Nb(d:AN):Bool:=decide (0≤d.root∧d.root<d.nodes.length+2∧d.nodes.length≤4096)&&(List.range d.nodes.length).all (aC d)&&decide (QD d.nodes d.root=some d)
def GF(d:AN)(n:Nat):Bool:=Nb d&&d.nodes.all fun b=>decide (b.var<n)
theorem To(d:AN):Pure prog 231 [AA d,AA d] (.bool true):=by
 refine Pure.AI func231 (by kernel_rfl) rfl (by simp) fun wf=>?_;have a1:d.nodes.length≤maxLen:=by have:=wf.1;simp[WFD,AAY]at this;exact this.1.1
 rw[ntmps231];refine xW fun K hK=>?_;simp;apply hK;refine xS (xW fun K hK=>?_);simp;apply hK;refine AU ?_;simp;refine xK ?_;refine xS (xW fun K hK=>?_);simp;apply hK;refine Bw ?_;refine DC d.nodes.length (fun i tm S=>tm 2=.ptr 0 1 0 0∧tm 3=.ptr 1 1 0 0∧tm 5=.d (.int .i64 i)∧S=[.row true 2 [.d (AA d)],.row true 2 [.d (AA d)]]) (Nat.zero_le _) (by simp) ?_;rintro i tm S hi ⟨t2,t3,t5,rfl⟩;refine xS (xW fun K hK=>?_);simp[t2,t5];apply hK;refine AU ?_;simp;refine⟨fun cx=>?_,fun hO=>?_⟩
 ·refine xK ?_;refine xB ?_;refine xD [0,2,4,6,8,10,12,14,16,18,20] (by kernel_rfl) fun K hK=>?_;simp;refine xA 0 ?_;simp[t2,t3,t5,cx];refine xM (hK _ _ ?_);refine AU ?_;simp;refine CC ?_;refine xV fun K hK=>?_;simp[t5];apply hK;refine⟨cx,_,_,AJ.refl,?_⟩;simp[t2,t3,AQ cx a1]
 ·refine Cu ?_;refine xW fun K hK=>?_;simp;apply hK;refine Ag ⟨_,_,AJ.refl,?_⟩;try simp
theorem PI(d:AN)(i:Nat)(hi:i<d.nodes.length)(hn:d.nodes.length≤4096)(h:aC d i=true):Pure prog 230 [AA d,AG i] (.bool true):=by
 have hg:d.nodes.getD i LW=d.nodes[i]:=by simp[hi]
 simp only[aC,hg,Bool.and_eq_true,decide_eq_true_eq,List.all_eq_true,List.mem_range]at h;obtain⟨⟨b1,b2,b3,b4,b5,b6,b7,b8,b9⟩,hu⟩:=h;have xe:∀j (_:j<i) (hj:j<d.nodes.length),¬d.nodes[j]=d.nodes[i]:=fun j hji hj=>by have:=hu j hji;simpa[hj]using this
 refine Pure.AI func230 (by kernel_rfl) rfl (by simp) fun wf=>?_;have a1:d.nodes.length≤maxLen:=by have:=wf.1;simp[WFD,AAY]at this;exact this.1.1
 have hw:IntKind.i64.wrap ((i:Int)+2)=i+2:=by rw[IntKind.wrap_i64];omega
 generalize hb:d.nodes[i]=b at *;have l1:=F5 d b.low (by omega);have l2:=F5 d b.high (by omega);rw[ntmps230];refine xW fun K hK=>?_;simp;apply hK;(repeat refine xS ?_);refine xV fun K hK=>?_;simp[hi,hb];refine hK _ _ ?_;(try simp only[xQ,reduceIte]);have c1:¬b.var<0:=by omega
 have c2:¬63<b.var:=by omega
 have c3:¬b.low<0:=by omega
 have c4:¬b.high<0:=by omega
 have c5:¬(i:Int)+2≤b.low:=by omega
 have c6:¬(i:Int)+2≤b.high:=by omega
 have c8:¬d.level b.low≤b.var:=by omega
 have c9:¬d.level b.high≤b.var:=by omega
 refine xS (xW fun K hK=>?_);simp[hw,c1,c2,c3,c4,c5,c6];apply hK;refine AU ?_;simp[b7];refine xK ?_;refine xS ?_;refine xD [0,2,4,6,8,10,12,14,16,18,20,22,24,26,28,30] (by kernel_rfl) fun K hK=>?_;simp;refine xA 0 ?_;simp;refine Ae.CA (l1) rfl (by simp[xN]) ?_;simp;refine xA 0 ?_;simp[c8];refine Ae.CE (ds:=[AA d,AG b.high]) rfl rfl (by simp;rfl) (fun _=>l2) (by simp[xN]) ?_;simp;refine xA 0 ?_;simp[c9];refine xM (hK _ _ ?_);(try simp only[xQ,reduceIte]);refine AU ?_;simp;refine xK ?_;refine xS (xW fun K hK=>?_);simp;apply hK;refine Bw ?_;refine DC i (fun k tm S=>tm 1=.d (AG i)∧tm 2=.ptr 0 1 0 0∧tm 5=.ptr 1 1 0 0∧tm 6=.d (.int .i64 k)∧S=[.row true 2 [.d (AA d)],.row true 3 [.d (AX b)]]) (Nat.zero_le _) (by simp[AX]) ?_;rintro k tm S hk ⟨t1,t2,t5,t6,rfl⟩;refine xS (xW fun K hK=>?_);simp[t1,t6];apply hK;refine AU ?_;simp;refine⟨fun cx=>?_,fun hO=>?_⟩
 ·have iX:k<d.nodes.length:=by omega
  have dI:=xe k cx iX;refine xK ?_;refine xB ?_;(repeat refine xS ?_);refine xE [0,2,4,6,8,10,12] (by kernel_rfl) fun K hK=>?_;simp;(repeat(refine Ga ?_ ?_;(·simp[t2,t5,iX]);simp[t2,t5,t6,iX]));(repeat((refine Ga ?_ ?_);(focus(simp[AX];done));simp[AX,dI]));refine xM (hK _ _ ?_);(try simp only[AAE]);refine AU ?_;simp;refine CC ?_;refine xV fun K hK=>?_;simp[t6];apply hK;refine⟨cx,_,_,AJ.refl,?_⟩;have a2:i≤maxLen:=by omega
  simp[t1,t2,t5,AQ cx a2,AX]
 ·refine Cu ?_;refine xW fun K hK=>?_;simp;apply hK;refine Ag ⟨_,_,AJ.refl,?_⟩;try simp
theorem SA(d:AN)(h:Nb d=true):Pure prog 201 [AA d] (.bool true):=by
 simp only[Nb,Bool.and_eq_true,decide_eq_true_eq,List.all_eq_true,List.mem_range]at h;obtain⟨⟨⟨h1,h2,h3⟩,h4⟩,h5⟩:=h;have uy:=Nz d.nodes d.root d h5;have jd:=To d;have a1:d.nodes.length≤maxLen:=by unfold maxLen;omega
 have hw:IntKind.i64.wrap ((d.nodes.length:Int)+2)=d.nodes.length+2:=by rw[IntKind.wrap_i64];omega
 have c1:¬d.root<0:=by omega
 have c2:¬(d.nodes.length:Int)+2≤d.root:=by omega
 refine Pure.AI func201 (by kernel_rfl) rfl (by simp) fun wf=>?_;rw[ntmps201];refine xW fun K hK=>?_;simp;apply hK;refine xS (xW fun K hK=>?_);simp[hw,c1,c2];apply hK;refine AU ?_;simp;refine xK ?_;refine xS (xW fun K hK=>?_);simp;apply hK;refine Bw ?_;refine DC d.nodes.length (fun i tm S=>tm 1=.ptr 0 1 0 0∧tm 3=.d (.int .i64 i)∧S=[.row true 2 [.d (AA d)]]) (Nat.zero_le _) (by simp) ?_;rintro i tm S hi ⟨t1,t3,rfl⟩;refine xS (xW fun K hK=>?_);simp[t1,t3];apply hK;refine AU ?_;simp;refine⟨fun cx=>?_,fun hO=>?_⟩
 ·have iP:=PI d i cx h3 (h4 i cx);refine xK ?_;refine xB ?_;refine Az fun K hK=>?_;refine xJ ?_;simp[t1,t3];refine Bp (iP) rfl (by simp[xN]) ?_;simp;refine xJ ?_;simp;refine Aj (hK _ _ ?_);refine AU ?_;simp;refine CC ?_;refine xV fun K hK=>?_;simp[t3];apply hK;refine⟨cx,_,_,AJ.refl,?_⟩;simp[t1,AQ cx a1]
 ·refine Cu ?_;(repeat refine xS ?_);refine xE [0,2,4,6,8,10,12,14] (by kernel_rfl) fun K hK=>?_;simp;refine xA 0 ?_;simp[t1];refine Ae.CA (uy) rfl (by simp[xN]) ?_;simp;refine xA 0 ?_;simp;refine Ae.CA (jd) rfl (by simp[xN]) ?_;simp;refine xA 0 ?_;simp;refine xM (hK _ _ ?_);(try simp only[xQ,reduceIte]);refine Ag ⟨_,_,AJ.refl,?_⟩;try simp
theorem R6(d:AN)(h:Nb d=true):Pure prog 167 [AA d] (AG 0):=by
 have hv:=SA d h;simp only[Nb,Bool.and_eq_true,decide_eq_true_eq]at h;have h3:¬4096<(d.nodes.length:Int):=by omega
 have j3:¬4096<d.nodes.length:=by omega
 refine Pure.AI func167 (by kernel_rfl) rfl (by simp) fun wf=>?_;rw[ntmps167];refine xW fun K hK=>?_;simp;apply hK;refine xS (xW fun K hK=>?_);simp[h3];apply hK;refine AU ?_;simp;refine xK ?_;refine xS (Az fun K hK=>?_);refine xJ ?_;simp;refine Bp (hv) rfl (by simp[xN]) ?_;simp;refine xJ ?_;simp;refine Aj (hK _ _ ?_);(try simp only[xQ,reduceIte]);refine AU ?_;simp;refine xK ?_;refine xW fun K hK=>?_;simp;apply hK;refine Ag ⟨_,_,AJ.refl,?_⟩;try simp
theorem HB(d:AN)(n:Nat)(h:GF d n=true):Pure prog 134 [AA d,AG n] (.bool true):=by
 simp only[GF,Bool.and_eq_true,List.all_eq_true,decide_eq_true_eq]at h;have hc:=R6 d h.1;have h2:=h.2;refine Pure.AI func134 (by kernel_rfl) rfl (by simp) fun wf=>?_;have a1:d.nodes.length≤maxLen:=by have:=wf.1;simp[WFD,AAY]at this;exact this.1.1
 rw[ntmps134];refine xW fun K hK=>?_;simp;apply hK;refine xS (Az fun K hK=>?_);refine xJ ?_;simp;refine Bp (hc) rfl (by simp[xN]) ?_;simp;refine xJ ?_;simp;refine Aj (hK _ _ ?_);(try simp only[xQ,reduceIte]);refine AU ?_;simp;refine xK ?_;refine xS (xW fun K hK=>?_);simp;apply hK;refine Bw ?_;refine DC d.nodes.length (fun i tm S=>tm 1=.d (AG n)∧tm 2=.ptr 0 1 0 0∧tm 5=.d (.int .i64 i)∧S=[.row true 2 [.d (AA d)]]) (Nat.zero_le _) (by simp) ?_;rintro i tm S hi ⟨t1,t2,t5,rfl⟩;refine xS (xW fun K hK=>?_);simp[t2,t5];apply hK;refine AU ?_;simp;refine⟨fun cx=>?_,fun hO=>?_⟩
 ·have hv:¬(n:Int)≤d.nodes[i].var:=by have:=h2 _ (List.getElem_mem cx);omega
  refine xK ?_;refine xB ?_;refine xW fun K hK=>?_;simp[t1,t2,t5,cx,hv];apply hK;refine AU ?_;simp;refine CC ?_;refine xV fun K hK=>?_;simp[t5];apply hK;refine⟨cx,_,_,AJ.refl,?_⟩;simp[t1,t2,AQ cx a1]
 ·refine Cu ?_;refine xW fun K hK=>?_;simp;apply hK;refine Ag ⟨_,_,AJ.refl,?_⟩;try simp
open Go.Proofs Tryz
def XF(b n:Nat):Option AN:=
 if n=0∨b % 6<3 then some ⟨[],1⟩else if b % 6=3 then some (Ap (b / 6 % n:Nat))else if b % 6=4 then J1 (Ap (b / 6 % n:Nat))else Hy [(b:Int)] n 8 0 0
def E7(b n:Nat):AN:=(XF b n).getD ⟨[],1⟩
theorem U8:((List.range 256).all fun b=>(List.range 4).all fun n=>(XF b n).isSome&&GF (E7 b n) n)=true:=by decide+kernel
theorem Df{b n:Nat}(hb:b<256)(hn:n<4):XF b n=some (E7 b n)∧GF (E7 b n) n=true:=by
 have h:=U8;simp only[List.all_eq_true,List.mem_range,Bool.and_eq_true]at h;obtain⟨h1,h2⟩:=h b hb n hn;refine⟨?_,h2⟩;obtain⟨d,hd⟩:=Option.isSome_iff_exists.1 h1;simp[E7,hd]
theorem Cx(b n:Nat)(nT:b<256)(hn:n<4):Pure prog 20 [.int .u8 b,AG n] (AA (E7 b n)):=by
 have h:=(Df nT hn).1;generalize E7 b n=d at *;unfold XF at h;have q1:((b:Int).tmod 6)=(b % 6:Nat):=by rw[Int.tmod_eq_emod_of_nonneg (by omega)];simp
 have q2:((b:Int).tdiv 6)=(b / 6:Nat):=by simp
 have h1:=Bi true;simp at h1;obtain⟨m,hm⟩:∃m,b % 6=m:=⟨_,rfl⟩;rw[hm]at h q1;by_cases hz:n=0∨m<3
 ·rw[if_pos hz]at h;cases h;refine Pure.AI func20 (by kernel_rfl) rfl (by simp) fun wf=>?_;rw[ntmps20];refine xW fun K hK=>?_;simp;apply hK;refine xS (xW fun K hK=>?_);simp[q1];apply hK;(repeat refine xS ?_);refine AW.BD (t:=decide (n=0)||decide (m<3)) ?_ (fun hb=>?_) (fun hb=>?_)
  ·simp;rw[Bool.eq_iff_iff];simp;omega
  ·(repeat refine xS ?_);refine BX fun K hK=>?_;refine xJ ?_;simp;refine Bp (h1) rfl (by simp) ?_;simp;refine xJ ?_;simp;refine Aj (hK _ _ ?_);(try simp only[xQ,reduceIte]);refine Ag ⟨_,_,AJ.refl,?_⟩;try simp
  ·simp at hb;omega
 ·rw[if_neg hz]at h;have iL:¬n=0:=by omega
  have xf:¬m<3:=by omega
  have my:(decide (n=0)||decide (m<3))=false:=by simp[iL,xf]
  have hle:b / 6 % n<n:=Nat.mod_lt _ (by omega);have q3:(((b / 6:Nat):Int).tmod n)=(b / 6 % n:Nat):=by rw[Int.tmod_eq_emod_of_nonneg (by omega)];simp
  obtain⟨q,hq⟩:∃q,b / 6=q:=⟨_,rfl⟩;rw[hq]at h q2 q3 hle;obtain⟨v,hv⟩:∃v,q % n=v:=⟨_,rfl⟩;rw[hv]at h q3 hle;have q4:(b:Int) / 6=q:=by omega
  have w1:IntKind.u8.wrap (q:Int)=q:=by simp[IntKind.wrap,IntKind.signed,IntKind.bits];omega
  have w2:IntKind.i64.wrap (q:Int)=q:=by rw[IntKind.wrap_i64];omega
  have hc:=Br (v:Int);have qR:Hy [(b:Int)] n 8 0 0=some d→_:=NN [(b:Int)] n (by omega) d;refine Pure.AI func20 (by kernel_rfl) rfl (by simp) fun wf=>?_;rw[ntmps20];refine xW fun K hK=>?_;simp;apply hK;refine xS (xW fun K hK=>?_);simp[q1];apply hK;(repeat refine xS ?_);refine AW.BD (t:=decide (n=0)||decide (m<3)) ?_ (fun hb=>?_) (fun hb=>?_)
  ·simp;rw[Bool.eq_iff_iff];simp;omega
  ·rw[my]at hb;cases hb
  ·clear hb;refine xK ?_;(repeat refine xS ?_);refine BX fun K hK=>?_;refine xJ ?_;simp[q2,q3,w1,w2,iL];refine Bp (hc) rfl (by simp) ?_;simp;refine xJ ?_;simp;refine Aj (hK _ _ ?_);(try simp only[xQ,reduceIte]);have uA:((b:Int).tmod 6)=m:=q1;by_cases h3:m=3
   ·rw[if_pos h3]at h;cases h;refine xS (xW fun K hK=>?_);simp[uA];apply hK;refine Bw ?_;refine xW fun K hK=>?_;simp[h3];apply hK;refine AU ?_;simp;refine xW fun K hK=>?_;simp;apply hK;refine Ag ⟨_,_,AJ.refl,?_⟩;try simp
   ·rw[if_neg h3]at h;by_cases h4:m=4
    ·rw[if_pos h4]at h;have jo:=CX _ _ h;refine xS (xW fun K hK=>?_);simp[uA];apply hK;refine Bw ?_;refine xW fun K hK=>?_;simp[h4];apply hK;refine AU ?_;simp;refine xW fun K hK=>?_;simp;apply hK;refine AU ?_;simp;(repeat refine xS ?_);refine BX fun K hK=>?_;refine xJ ?_;simp;refine Bp (jo) rfl (by simp[xN]) ?_;simp;refine xJ ?_;simp;refine Aj (hK _ _ ?_);(try simp only[xQ,reduceIte]);refine Ag ⟨_,_,AJ.refl,?_⟩;try simp
    ·rw[if_neg h4]at h;have mh:=qR h;simp only[Hj,List.map_cons,List.map_nil]at mh;have vM:¬(m:Int)=3:=by omega
     have sW:¬(m:Int)=4:=by omega
     refine xS (xW fun K hK=>?_);simp[uA];apply hK;refine Bw ?_;refine xW fun K hK=>?_;simp;apply hK;refine AU ?_;simp[vM];refine xW fun K hK=>?_;simp;apply hK;refine AU ?_;simp[sW];refine CC ?_;have gm:1≤maxLen:=by unfold maxLen;omega
     (repeat refine xS ?_);refine BX fun K hK=>?_;refine xJ ?_;simp[gm];refine Bp (mh) rfl (by simp[xN]) ?_;simp;refine xJ ?_;simp;refine Aj (hK _ _ ?_);(try simp only[xQ,reduceIte]);refine Ag ⟨_,_,AJ.refl,?_⟩;try simp
open Go.Proofs Tryz
theorem O9(p a c:Int)(d:AN):Pure prog 135 [AK ⟨1,p,a,c,0,0,[],d⟩] (.bool true):=by
 refine Pure.AI func135 (by kernel_rfl) rfl (by simp) fun wf=>?_;rw[ntmps135];refine xW fun K hK=>?_;simp;apply hK;refine xW fun K hK=>?_;simp;apply hK;refine xS (xW fun K hK=>?_);simp;apply hK;refine AU ?_;simp;refine xK ?_;refine xW fun K hK=>?_;simp;apply hK;refine xW fun K hK=>?_;simp;apply hK;refine Ag ⟨_,_,AJ.refl,?_⟩;try simp
theorem Pz(p a c:Int)(d:AN):Pure prog 135 [AK ⟨2,p,a,c,0,0,[],d⟩] (.bool true):=by
 refine Pure.AI func135 (by kernel_rfl) rfl (by simp) fun wf=>?_;rw[ntmps135];refine xW fun K hK=>?_;simp;apply hK;refine xW fun K hK=>?_;simp;apply hK;refine xS (xW fun K hK=>?_);simp;apply hK;refine AU ?_;simp;refine xK ?_;refine xW fun K hK=>?_;simp;apply hK;refine xW fun K hK=>?_;simp;apply hK;refine Ag ⟨_,_,AJ.refl,?_⟩;try simp
theorem Pf(l t:Int)(d:AN):Pure prog 135 [AK ⟨3,0,0,0,l,0,[t],d⟩] (.bool true):=by
 refine Pure.AI func135 (by kernel_rfl) rfl (by simp) fun wf=>?_;rw[ntmps135];refine xW fun K hK=>?_;simp;apply hK;refine xW fun K hK=>?_;simp;apply hK;refine xS (xW fun K hK=>?_);simp;apply hK;refine AU ?_;simp;refine xK ?_;refine xW fun K hK=>?_;simp;apply hK;refine xW fun K hK=>?_;simp;apply hK;refine Ag ⟨_,_,AJ.refl,?_⟩;try simp
theorem Om(l t:Int)(d:AN):Pure prog 135 [AK ⟨4,0,0,0,l,0,[t],d⟩] (.bool true):=by
 refine Pure.AI func135 (by kernel_rfl) rfl (by simp) fun wf=>?_;rw[ntmps135];refine xW fun K hK=>?_;simp;apply hK;refine xW fun K hK=>?_;simp;apply hK;refine xS (xW fun K hK=>?_);simp;apply hK;refine AU ?_;simp;refine xK ?_;refine xW fun K hK=>?_;simp;apply hK;refine xW fun K hK=>?_;simp;apply hK;refine Ag ⟨_,_,AJ.refl,?_⟩;try simp
theorem O2(t:Int)(d:AN):Pure prog 135 [AK ⟨5,0,0,0,0,0,[t],d⟩] (.bool true):=by
 refine Pure.AI func135 (by kernel_rfl) rfl (by simp) fun wf=>?_;rw[ntmps135];refine xW fun K hK=>?_;simp;apply hK;refine xW fun K hK=>?_;simp;apply hK;refine xS (xW fun K hK=>?_);simp;apply hK;refine AU ?_;simp;refine xK ?_;refine xW fun K hK=>?_;simp;apply hK;refine xW fun K hK=>?_;simp;apply hK;refine Ag ⟨_,_,AJ.refl,?_⟩;try simp
def OT(g:AF)(p:Int):Bool:=g.levels.any fun l=>l.AD.contains p
theorem GJ(g:AF)(p:Int)(h1:g.levels.length≤maxLen)(h2:∀l∈g.levels,l.AD.length≤maxLen):Pure prog 50 [AB g,AG p] (.bool (OT g p)):=by
 refine Pure.AI func50 (by kernel_rfl) rfl (by simp) fun wf=>?_;rw[ntmps50];refine xW fun K hK=>?_;simp;apply hK;refine xS (xW fun K hK=>?_);simp;apply hK;refine Bw ?_;refine DC g.levels.length (fun i tm S=>tm 1=.d (AG p)∧tm 2=.ptr 0 1 0 0∧tm 5=.d (.int .i64 i)∧S=[.row true 9 [.d (AB g)]]∧∀j (_:j<i) (h:j<g.levels.length),g.levels[j].AD.contains p=false) (Nat.zero_le _) (by simp) ?_;rintro i tm S hi ⟨t1,t2,t5,rfl,hq⟩;refine xS (xW fun K hK=>?_);simp[t2,t5];apply hK;refine AU ?_;simp;refine⟨fun cx=>?_,fun hO=>?_⟩
 ·have jT:=h2 _ (List.getElem_mem cx);have lC:=List.getElem_mem cx;generalize hl:g.levels[i]=l at *;have cy:=Ac.eq_1 l;refine xK ?_;refine xB ?_;refine xW fun K hK=>?_;simp;apply hK;refine Bw ?_;refine DC l.AD.length (fun k tm S=>tm 1=.d (AG p)∧tm 2=.ptr 0 1 0 0∧tm 5=.d (.int .i64 i)∧tm 6=.d (.int .i64 k)∧S=[.row true 9 [.d (AB g)]]∧∀j (_:j<k) (h:j<l.AD.length),l.AD[j]≠p) (Nat.zero_le _) (by simp[t1,t2,t5]) ?_;rintro k tm S hk ⟨t1,t2,t5,t6,rfl,hr⟩;refine xS (xW fun K hK=>?_);simp[t2,t5,t6,cx,hl,cy];apply hK;refine AU ?_;simp;refine⟨fun iX=>?_,fun hO=>?_⟩
  ·refine xK ?_;refine xB ?_;refine xW fun K hK=>?_;simp[t1,t2,t5,t6,cx,hl,cy,iX];apply hK;refine AU ?_;simp;refine⟨fun he=>?_,fun dI=>?_⟩
   ·have:OT g p=true:=List.any_eq_true.2 ⟨l,lC,by have:=List.getElem_mem iX;rw[he]at this;simpa using this⟩;rw[this];refine xW fun K hK=>?_;simp;apply hK;refine Ag ⟨_,_,AJ.refl,?_⟩;try simp
   ·refine CC ?_;refine xV fun K hK=>?_;simp[t6];apply hK;refine⟨iX,_,_,AJ.refl,?_⟩;simp[t1,t2,t5,AQ iX jT];intro j hj iV;by_cases e:j=k
    ·subst e;simpa using dI
    ·exact hr j (by omega) iV
  ·refine Cu ?_;have e:k=l.AD.length:=by omega
   subst e;refine xV fun K hK=>?_;simp[t5];apply hK;refine⟨cx,_,_,AJ.refl,?_⟩;simp[t1,t2,AQ cx h1];intro j hj iV;by_cases e:j=i
   ·subst e;rw[hl];simp only[List.mem_iff_getElem,not_exists];intro q kf hh;exact hr q kf kf hh
   ·simpa using hq j (by omega) iV
 ·refine Cu ?_;have:OT g p=false:=by
   rw[OT,List.any_eq_false];intro x hx;obtain⟨j,hj,rfl⟩:=List.mem_iff_getElem.1 hx;rw[hq j (by omega) hj];simp
  rw[this];refine xW fun K hK=>?_;simp;apply hK;refine Ag ⟨_,_,AJ.refl,?_⟩;try simp
open Go.Proofs Tryz
section
variable {P:Program} {n b:Nat} {ops:Array Oper} {o:Oper} {tm:Tm} {S:Sg} {K:Tm→Sg→Prop}
theorem dR{B:List (Nat×(Sg→Prop))}{i:Nat}{q:Bool}{rest:List (Nat×Bool×Oper)}{j:Nat}{want:Bool}(hq:q=true)(hg:o.guard=some (j,want))
  (hp:AAd ops tm j want=some true∧A6 n o.dst∧AAS P o.op tm S∧CM P o.op tm S=S)
  (h2:Ae P n b ops ((i,fun S'=>S'=S)::B) rest (put tm o.dst (BP P o.op tm S)) S K):Ae P n b ops B ((i,q,o)::rest) tm S K:=by
 subst hq;obtain⟨h3,h4,h5,h6⟩:=hp;refine Ae.quiet (fun S'=>S'=S) rfl (fun hi S' hS=>?_) h2;subst hS;intro tm' he;obtain⟨e1,e2,e3⟩:=Hw (P:=P) (S:=S') (op:=o.op) (Fy he);have:=Step.FB (b:=b) hi h4 hg (by rw[guard_congr hg he];exact h3) (IW (P:=P) (n:=n) (o:=o) (tm:=tm') (S:=S') (by rw[e1];exact h5));rw[e2,e3,h6]at this;exact this
end
def Q1(tk:Token)(lit:Bool):Bool:=if lit then decide (tk.literal=⟨#[]⟩)else decide (tk.cls≠0)
theorem KS(g:AF)(t:Nat)(lit:Bool)(ht:t<g.Ak.length):Pure prog 136 [AB g,Ci [(t:Int)],.bool lit] (.bool (!(Q1 g.Ak[t] lit))):=by
 have c1:¬(t:Int)<0:=by omega
 have c2:¬(g.Ak.length:Int)≤t:=by omega
 have c3:¬g.Ak.length≤t:=by omega
 generalize g9:g.Ak[t]=tk;have cy:=Aa.eq_1 tk;refine Pure.AI func136 (by kernel_rfl) rfl (by simp) fun wf=>?_;rw[ntmps136];refine xW fun K hK=>?_;simp;apply hK;refine xS (xW fun K hK=>?_);simp;apply hK;refine Bw ?_;refine DC 1 (fun i tm S=>tm 1=.d (Ci [(t:Int)])∧tm 2=.d (.bool lit)∧tm 3=.ptr 0 1 0 0∧tm 7=.d (.int .i64 i)∧S=[.row true 9 [.d (AB g)]]∧(0<i→Q1 tk lit=false)) (Nat.zero_le _) (by simp) ?_;rintro i tm S hi ⟨t1,t2,t3,t7,rfl,hq⟩;rcases Nat.lt_or_ge i 1 with h0|h0
 ·have tz:i=0:=by omega
  subst tz;refine xS (xW fun K hK=>?_);simp[t1,t7];apply hK;refine AU ?_;simp;refine xK ?_;refine xB ?_;refine xS ?_;refine xD [0,2,4,6,8,10,12,14,16,18,20,22,24,26,28,30,32,34,36,38,40,42,44,46,48,50,52,54,56,58,60] (by kernel_rfl) fun K hK=>?_;simp;refine xZ ?_;simp[t1,t3,t7,c1,c2];refine xM (hK _ _ ?_);(try simp only[xQ,reduceIte]);refine AU ?_;simp;refine xK ?_;(repeat refine xS ?_);refine xE [0,2,4,6,8,10,12,14,17,19] (by kernel_rfl) fun K hK=>?_;simp;refine xA 1 ?_;simp[t1,t3,t7,ht,g9,cy];refine xX 0 (by kernel_rfl) ?_;simp[t1,t3,t7,AR,ht,g9,cy];refine xA 1 ?_;simp;refine xX 255 (by kernel_rfl) ?_;simp[AR];refine xM (hK _ _ ?_);(try simp only[xQ,reduceIte]);cases lit with
  |true=>
   (repeat refine xS ?_);refine BX fun K hK=>?_;(repeat((first|refine Dp rfl ?_ ?_;(·simp)|refine Jf rfl ?_ ?_;(·simp)|refine B7 ?_ ?_;(·simp));simp[t2]));refine Aj (hK _ _ ?_);(try simp only[AAE]);refine AU ?_;simp;refine⟨fun hx=>?_,fun hx=>?_⟩
   ·have ha:Q1 tk true=true:=by simp[Q1,hx]
    rw[ha];refine xW fun K hK=>?_;simp;apply hK;refine Ag ⟨_,_,AJ.refl,?_⟩;try simp
   ·refine CC ?_;refine xV fun K hK=>?_;simp[t7];apply hK;refine⟨_,_,AJ.EL 1 (S':=[.row true 9 [.d (AB g)]]) (by simp) (by simp) (by simp) (by simp),?_⟩;simp[clean,AAB,t1,t2,t3,Q1,hx];decide
  |false=>
   refine Az fun K hK=>?_;refine xH ?_;simp[t2];refine Aj (hK _ _ ?_);refine AU ?_;simp;refine⟨fun hx=>?_,fun hx=>?_⟩
   ·have ha:Q1 tk false=true:=by simp[Q1,hx]
    rw[ha];refine xW fun K hK=>?_;simp;apply hK;refine Ag ⟨_,_,AJ.refl,?_⟩;try simp
   ·refine CC ?_;refine xV fun K hK=>?_;simp[t7];apply hK;refine⟨_,_,AJ.EL 1 (S':=[.row true 9 [.d (AB g)]]) (by simp) (by simp) (by simp) (by simp),?_⟩;simp[clean,AAB,t1,t2,t3,Q1,hx];decide
 ·have e:i=1:=by omega
  subst e;have ha:=hq (by omega);rw[ha];refine xS (xW fun K hK=>?_);simp[t1,t7];apply hK;refine AU ?_;simp;refine Cu ?_;refine xW fun K hK=>?_;simp[t1];apply hK;refine Ag ⟨_,_,AJ.refl,?_⟩;try simp
open Go.Proofs Tryz
def Ls(g:AF)(p a c:Nat):Bool:=!((g.AD.getD p F1).right.getD a ⟨true,0⟩).token&&decide (((g.AD.getD p F1).right.getD a ⟨true,0⟩).index=(g.AD.getD c F1).left)
theorem VO(g:AF)(p a c:Nat)(d:AN)(hp:p<g.AD.length)(hc:c<g.AD.length)(hd:GF d g.conds.length=true):
  Pure prog 51 [AB g,AK ⟨1,p,a,c,0,0,[],d⟩] (.bool (Ls g p a c)):=by
 have hf:=HB d g.conds.length hd;have iY:=O9 p a c d;have c1:¬(p:Int)<0:=by omega
 have c2:¬(g.AD.length:Int)≤p:=by omega
 have c2':¬g.AD.length≤p:=by omega
 have c3:¬(c:Int)<0:=by omega
 have c4:¬(g.AD.length:Int)≤c:=by omega
 have c4':¬g.AD.length≤c:=by omega
 refine Pure.AI func51 (by kernel_rfl) rfl (by simp) fun wf=>?_;rw[ntmps51];refine xW fun K hK=>?_;simp;apply hK;refine xS (Az fun K hK=>?_);refine xH ?_;simp;refine AS.Cj (hf) rfl rfl (by simp[xN];try rfl) ?_;simp;refine xH ?_;simp;refine AS.Cj (iY) rfl rfl (by simp[xN];try rfl) ?_;simp;refine xH ?_;simp;refine Aj (hK _ _ ?_);(try simp only[xQ,reduceIte]);refine AU ?_;simp;refine xK ?_;refine xS (xW fun K hK=>?_);simp;apply hK;refine Bw ?_;refine xS (xW fun K hK=>?_);simp;apply hK;refine AU ?_;simp;refine xK ?_;refine AU ?_;simp;refine xS (Az fun K hK=>?_);refine xH ?_;simp[c1,c2,c3,c4];refine Aj (hK _ _ ?_);(try simp only[xQ,reduceIte]);refine AU ?_;simp;refine CC ?_;unfold Ls;have e1:g.AD.getD p F1=g.AD[p]:=by simp[hp]
 have e2:g.AD.getD c F1=g.AD[c]:=by simp[hc]
 rw[e1,e2];generalize jF:g.AD[p]=q;generalize kL:g.AD[c]=u;have cy:=AH.eq_1 q;have qq:=AH.eq_1 u;(repeat refine xS ?_);refine xV fun K hK=>?_;simp[hp,jF,cy];refine hK _ _ ?_;(try simp only[xQ,reduceIte]);by_cases a1:a<q.right.length
 ·generalize hs:q.right[a]=s;have iB:=AL.eq_1 s;have a2:(a:Int)<q.right.length:=by omega
  have e3:q.right.getD a ⟨true,0⟩=s:=by simp[a1,hs]
  rw[e3];cases ht:s.token with
  |true=>
   (repeat refine xS ?_);refine xE [0,2,4,6,8,10,12,14,16,18,20,22,24,26,28,30,32,34,36,38,40,42,44,46,48,50,52,54,56,58,60,62,64,66,68,70] (by kernel_rfl) fun K hK=>?_;simp;refine xZ ?_;simp[a1,a2,hs,iB,ht];refine xM (hK _ _ ?_);(try simp only[xQ,reduceIte]);refine Ag ⟨_,_,AJ.refl,?_⟩;try simp
  |false=>
   (repeat refine xS ?_);refine xE [0,2,4,6,8,10,12,14,16,18,20,22,24,26,28,30,32,34,36,38,40,42,44,46,48,50,52,54,56,58,60,62,64,66,68,70] (by kernel_rfl) fun K hK=>?_;simp;refine xZ ?_;simp[a1,a2,hs,iB,ht,hc,kL,qq];refine xM (hK _ _ ?_);(try simp only[xQ,reduceIte]);refine Ag ⟨_,_,AJ.refl,?_⟩;(try simp);rw[Bool.eq_iff_iff];simp
 ·have a2:¬(a:Int)<q.right.length:=by omega
  have e3:q.right.getD a ⟨true,0⟩=⟨true,0⟩:=by simp[a1]
  rw[e3];(repeat refine xS ?_);refine xE [0,2,4,6,8,10,12,14,16,18,20,22,24,26,28,30,32,34,36,38,40,42,44,46,48,50,52,54,56,58,60,62,64,66,68,70] (by kernel_rfl) fun K hK=>?_;simp;refine xZ ?_;simp[a2];refine xM (hK _ _ ?_);(try simp only[]);refine Ag ⟨_,_,AJ.refl,?_⟩;try simp
theorem Td(g:AF)(p a c:Nat)(d:AN)(hp:p<g.AD.length)(hc:c<g.AD.length)(hd:GF d g.conds.length=true):
  Pure prog 51 [AB g,AK ⟨2,p,a,c,0,0,[],d⟩] (.bool (Ls g p a c)):=by
 have hf:=HB d g.conds.length hd;have iY:=Pz p a c d;have c1:¬(p:Int)<0:=by omega
 have c2:¬(g.AD.length:Int)≤p:=by omega
 have c2':¬g.AD.length≤p:=by omega
 have c3:¬(c:Int)<0:=by omega
 have c4:¬(g.AD.length:Int)≤c:=by omega
 have c4':¬g.AD.length≤c:=by omega
 refine Pure.AI func51 (by kernel_rfl) rfl (by simp) fun wf=>?_;rw[ntmps51];refine xW fun K hK=>?_;simp;apply hK;refine xS (Az fun K hK=>?_);refine xH ?_;simp;refine AS.Cj (hf) rfl rfl (by simp[xN];try rfl) ?_;simp;refine xH ?_;simp;refine AS.Cj (iY) rfl rfl (by simp[xN];try rfl) ?_;simp;refine xH ?_;simp;refine Aj (hK _ _ ?_);(try simp only[xQ,reduceIte]);refine AU ?_;simp;refine xK ?_;refine xS (xW fun K hK=>?_);simp;apply hK;refine Bw ?_;refine xS (xW fun K hK=>?_);simp;apply hK;refine AU ?_;simp;refine xV fun K hK=>?_;simp;apply hK;refine AU ?_;simp;refine xS (Az fun K hK=>?_);refine xH ?_;simp[c1,c2,c3,c4];refine Aj (hK _ _ ?_);(try simp only[xQ,reduceIte]);refine AU ?_;simp;refine CC ?_;unfold Ls;have e1:g.AD.getD p F1=g.AD[p]:=by simp[hp]
 have e2:g.AD.getD c F1=g.AD[c]:=by simp[hc]
 rw[e1,e2];generalize jF:g.AD[p]=q;generalize kL:g.AD[c]=u;have cy:=AH.eq_1 q;have qq:=AH.eq_1 u;(repeat refine xS ?_);refine xV fun K hK=>?_;simp[hp,jF,cy];refine hK _ _ ?_;(try simp only[xQ,reduceIte]);by_cases a1:a<q.right.length
 ·generalize hs:q.right[a]=s;have iB:=AL.eq_1 s;have a2:(a:Int)<q.right.length:=by omega
  have e3:q.right.getD a ⟨true,0⟩=s:=by simp[a1,hs]
  rw[e3];cases ht:s.token with
  |true=>
   (repeat refine xS ?_);refine xE [0,2,4,6,8,10,12,14,16,18,20,22,24,26,28,30,32,34,36,38,40,42,44,46,48,50,52,54,56,58,60,62,64,66,68,70] (by kernel_rfl) fun K hK=>?_;simp;refine xZ ?_;simp[a1,a2,hs,iB,ht];refine xM (hK _ _ ?_);(try simp only[xQ,reduceIte]);refine Ag ⟨_,_,AJ.refl,?_⟩;try simp
  |false=>
   (repeat refine xS ?_);refine xE [0,2,4,6,8,10,12,14,16,18,20,22,24,26,28,30,32,34,36,38,40,42,44,46,48,50,52,54,56,58,60,62,64,66,68,70] (by kernel_rfl) fun K hK=>?_;simp;refine xZ ?_;simp[a1,a2,hs,iB,ht,hc,kL,qq];refine xM (hK _ _ ?_);(try simp only[xQ,reduceIte]);refine Ag ⟨_,_,AJ.refl,?_⟩;(try simp);rw[Bool.eq_iff_iff];simp
 ·have a2:¬(a:Int)<q.right.length:=by omega
  have e3:q.right.getD a ⟨true,0⟩=⟨true,0⟩:=by simp[a1]
  rw[e3];(repeat refine xS ?_);refine xE [0,2,4,6,8,10,12,14,16,18,20,22,24,26,28,30,32,34,36,38,40,42,44,46,48,50,52,54,56,58,60,62,64,66,68,70] (by kernel_rfl) fun K hK=>?_;simp;refine xZ ?_;simp[a2];refine xM (hK _ _ ?_);(try simp only[]);refine Ag ⟨_,_,AJ.refl,?_⟩;try simp
theorem WC(g:AF)(l t:Nat)(d:AN)(hl:l<g.BC.length)(ht:t<g.Ak.length)(hd:GF d g.conds.length=true):
  Pure prog 51 [AB g,AK ⟨3,0,0,0,l,0,[(t:Int)],d⟩] (.bool (!(Q1 g.Ak[t] false))):=by
 have hf:=HB d g.conds.length hd;have iY:=Pf l t d;have pn:=KS g t false ht;have c1:(0:Int)≤l:=by omega
 have c2:(l:Int)<g.BC.length:=by omega
 refine Pure.AI func51 (by kernel_rfl) rfl (by simp) fun wf=>?_;rw[ntmps51];refine xW fun K hK=>?_;simp;apply hK;refine xS (Az fun K hK=>?_);refine xH ?_;simp;refine AS.Cj (hf) rfl rfl (by simp[xN];try rfl) ?_;simp;refine xH ?_;simp;refine AS.Cj (iY) rfl rfl (by simp[xN];try rfl) ?_;simp;refine xH ?_;simp;refine Aj (hK _ _ ?_);(try simp only[xQ,reduceIte]);refine AU ?_;simp;refine xK ?_;refine xS (xW fun K hK=>?_);simp;apply hK;refine Bw ?_;refine xS (xW fun K hK=>?_);simp;apply hK;refine AU ?_;simp;refine xV fun K hK=>?_;simp;apply hK;refine AU ?_;simp;refine xS (xW fun K hK=>?_);simp;apply hK;refine AU ?_;simp;refine xK ?_;refine AU ?_;simp;(repeat refine xS ?_);refine BX fun K hK=>?_;refine xH ?_;simp[c1,c2];refine AS.Cj (pn) rfl rfl (by simp[xN];try rfl) ?_;simp;refine xH ?_;simp;refine Aj (hK _ _ ?_);(try simp only[xQ,reduceIte]);refine Ag ⟨_,_,AJ.refl,?_⟩;try simp
theorem Vy(g:AF)(l t:Nat)(d:AN)(hl:l<g.BC.length)(ht:t<g.Ak.length)(hd:GF d g.conds.length=true):
  Pure prog 51 [AB g,AK ⟨4,0,0,0,l,0,[(t:Int)],d⟩] (.bool (!(Q1 g.Ak[t] false))):=by
 have hf:=HB d g.conds.length hd;have iY:=Om l t d;have pn:=KS g t false ht;have c1:(0:Int)≤l:=by omega
 have c2:(l:Int)<g.BC.length:=by omega
 refine Pure.AI func51 (by kernel_rfl) rfl (by simp) fun wf=>?_;rw[ntmps51];refine xW fun K hK=>?_;simp;apply hK;refine xS (Az fun K hK=>?_);refine xH ?_;simp;refine AS.Cj (hf) rfl rfl (by simp[xN];try rfl) ?_;simp;refine xH ?_;simp;refine AS.Cj (iY) rfl rfl (by simp[xN];try rfl) ?_;simp;refine xH ?_;simp;refine Aj (hK _ _ ?_);(try simp only[xQ,reduceIte]);refine AU ?_;simp;refine xK ?_;refine xS (xW fun K hK=>?_);simp;apply hK;refine Bw ?_;refine xS (xW fun K hK=>?_);simp;apply hK;refine AU ?_;simp;refine xV fun K hK=>?_;simp;apply hK;refine AU ?_;simp;refine xS (xW fun K hK=>?_);simp;apply hK;refine AU ?_;simp;refine xV fun K hK=>?_;simp;apply hK;refine AU ?_;simp;(repeat refine xS ?_);refine BX fun K hK=>?_;refine xH ?_;simp[c1,c2];refine AS.Cj (pn) rfl rfl (by simp[xN];try rfl) ?_;simp;refine xH ?_;simp;refine Aj (hK _ _ ?_);(try simp only[xQ,reduceIte]);refine Ag ⟨_,_,AJ.refl,?_⟩;try simp
theorem V2(g:AF)(t:Nat)(d:AN)(ht:t<g.Ak.length)(hd:GF d g.conds.length=true):
  ∃b,Pure prog 51 [AB g,AK ⟨5,0,0,0,0,0,[(t:Int)],d⟩] (.bool b):=by
 have hf:=HB d g.conds.length hd;have iY:=O2 t d;have pn:=KS g t true ht;have h0:0<g.Ak.length:=by omega
 have c2:¬(g.Ak.length:Int)≤0:=by omega
 have c3:¬g.Ak.length=0:=by omega
 have c4:g.Ak≠[]:=by intro e;simp[e]at h0
 have sw:True:=trivial;cases ha:Q1 g.Ak[t] true with
 |true=>
  rw[ha]at pn;refine⟨false,?_⟩;refine Pure.AI func51 (by kernel_rfl) rfl (by simp) fun wf=>?_;rw[ntmps51];refine xW fun K hK=>?_;simp;apply hK;refine xS (Az fun K hK=>?_);refine xH ?_;simp;refine AS.Cj (hf) rfl rfl (by simp[xN];try rfl) ?_;simp;refine xH ?_;simp;refine AS.Cj (iY) rfl rfl (by simp[xN];try rfl) ?_;simp;refine xH ?_;simp;refine Aj (hK _ _ ?_);(try simp only[xQ,reduceIte]);refine AU ?_;simp;refine xK ?_;refine xS (xW fun K hK=>?_);simp;apply hK;refine Bw ?_;refine xS (xW fun K hK=>?_);simp;apply hK;refine AU ?_;simp;refine xV fun K hK=>?_;simp;apply hK;refine AU ?_;simp;refine xS (xW fun K hK=>?_);simp;apply hK;refine AU ?_;simp;refine xV fun K hK=>?_;simp;apply hK;refine AU ?_;simp;refine CC ?_;refine xS (Az fun K hK=>?_);refine xH ?_;simp[c3];refine AS.Cj (pn) rfl rfl (by simp[xN];try rfl) ?_;simp;refine xH ?_;simp;refine Aj (hK _ _ ?_);(try simp only[xQ,reduceIte]);refine AU ?_;simp;refine xW fun K hK=>?_;simp;apply hK;refine Ag ⟨_,_,AJ.refl,?_⟩;try simp
 |false=>
  rw[ha]at pn;generalize g9:g.Ak[0]=tk;have cy:=Aa.eq_1 tk;refine⟨decide (tk.cls=0)&&decide (tk.literal=⟨#[]⟩),?_⟩;refine Pure.AI func51 (by kernel_rfl) rfl (by simp) fun wf=>?_;rw[ntmps51];refine xW fun K hK=>?_;simp;apply hK;refine xS (Az fun K hK=>?_);refine xH ?_;simp;refine AS.Cj (hf) rfl rfl (by simp[xN];try rfl) ?_;simp;refine xH ?_;simp;refine AS.Cj (iY) rfl rfl (by simp[xN];try rfl) ?_;simp;refine xH ?_;simp;refine Aj (hK _ _ ?_);(try simp only[xQ,reduceIte]);refine AU ?_;simp;refine xK ?_;refine xS (xW fun K hK=>?_);simp;apply hK;refine Bw ?_;refine xS (xW fun K hK=>?_);simp;apply hK;refine AU ?_;simp;refine xV fun K hK=>?_;simp;apply hK;refine AU ?_;simp;refine xS (xW fun K hK=>?_);simp;apply hK;refine AU ?_;simp;refine xV fun K hK=>?_;simp;apply hK;refine AU ?_;simp;refine CC ?_;refine xS (Az fun K hK=>?_);refine xH ?_;simp[c3];refine AS.Cj (pn) rfl rfl (by simp[xN];try rfl) ?_;simp;refine xH ?_;simp;refine Aj (hK _ _ ?_);(try simp only[xQ,reduceIte]);refine AU ?_;simp;refine xK ?_;(repeat refine xS ?_);refine BX fun K hK=>?_;refine xJ ?_;simp[h0,g9,cy];refine Aj (hK _ _ ?_);(try simp only[xQ,reduceIte]);by_cases jQ:tk.cls=0
  ·(repeat refine xS ?_);refine BX fun K hK=>?_;refine xH ?_;simp[jQ];refine Aj (hK _ _ ?_);(try simp only[xQ,reduceIte]);refine Ag ⟨_,_,AJ.refl,?_⟩;(try simp);intro _;exact jQ
  ·(repeat refine xS ?_);refine BX fun K hK=>?_;(repeat((first|refine Dp rfl ?_ ?_;(·simp[jQ])|refine Jf rfl ?_ ?_;(·simp[jQ])|refine B7 ?_ ?_;(·simp[jQ]));simp));refine Aj (hK _ _ ?_);(try simp only[AAE]);refine Ag ⟨_,_,AJ.refl,?_⟩;(try simp);simp[jQ]
open Go.Proofs DT
def ACz:DT→Bool
 |.leaf _=>true
 |.node v l h=>decide (0≤v)&&(decide (v≤63)&&(decide (l≠h)&&(decide (v<l.level)&&(decide (v<h.level)&&(ACz l&&ACz h)))))
theorem ACS:∀{t:DT},ACz t=true→t.Good
 |.leaf _,_=>trivial
 |.node v l h,e=>by
  simp only[ACz,Bool.and_eq_true,decide_eq_true_eq]at e;exact⟨e.1,e.2.1,e.2.2.1,e.2.2.2.1,e.2.2.2.2.1,ACS e.2.2.2.2.2.1,ACS e.2.2.2.2.2.2⟩
def AEm(l:List Ah):Nat→Int→DT
 |0,_=>.leaf false
 |f+1,k=>if k≤0 then .leaf false else if k=1 then .leaf true else match l[(k - 2).toNat]? with
  |none=>.leaf false
  |some b=>.node b.var (AEm l f b.low) (AEm l f b.high)
def AEt(d:AN):DT:=AEm d.nodes 8 d.root
def ADE(d:AN)(n:Nat):Bool:=decide (B2 (AEt d)=d)&&(ACz (AEt d)&&(decide (d.nodes.length≤4096)&&d.nodes.all fun b=>decide (b.var<n)))
theorem AB0{d:AN}{n:Nat}(h:ADE d n=true):DS d n=true:=by
 simp only[ADE,Bool.and_eq_true,decide_eq_true_eq,List.all_eq_true]at h;obtain⟨h1,h2,h3,h4⟩:=h;have hv:Valid d:=⟨AEt d,ACS h2,h1.symm⟩;have hc:HW d=0:=by unfold HW;rw[if_neg (by omega),if_pos hv]
 simp only[DS,hc,decide_true,Bool.true_and,Bool.not_eq_true',List.any_eq_false,decide_eq_true_eq];intro b hb;have:=h4 b hb;omega
theorem ADo:((List.range 256).all fun b=>(List.range 4).all fun n=>ADE (E7 b n) n)=true:=by decide+kernel
theorem AAx{b n:Nat}(hb:b<256)(hn:n<4):DS (E7 b n) n=true:=by
 have h:=ADo;simp only[List.all_eq_true,List.mem_range]at h;exact AB0 (h b hb n hn)
theorem ADu:((List.range 256).all fun b=>(List.range 4).all fun n=>match Hy [(b:Int)] n 8 0 0 with|none=>false|some d=>ADE d n)=true:=by decide+kernel
theorem ACj{b n:Nat}(hb:b<256)(hn:n<4){d:AN}(hd:Hy [(b:Int)] n 8 0 0=some d):DS d n=true:=by
 have h:=ADu;simp only[List.all_eq_true,List.mem_range]at h;have:=h b hb n hn;rw[hd]at this;exact AB0 this
def LvQ(g:AF)(l:Level):Prop:=
 l.AD.length≤2∧0≤l.assoc∧l.assoc≤3∧DS l.cond g.conds.length=true∧l.AD.Nodup∧∀p∈l.AD,0≤p∧p<g.AD.length∧OT g p=false
def FlQ(g:AF)(f:Filter):Prop:=∃d,DS d g.conds.length=true∧((∃A C B:Nat,∃k:Int,(k=1∨k=2)∧A<g.AD.length∧B<g.AD.length∧Ls g A C B=true∧f=⟨k,A,C,B,0,0,[],d⟩)∨(∃l t:Nat,∃k:Int,(k=3∨k=4)∧l<g.BC.length∧t<9∧f=⟨k,0,0,0,l,0,[(t:Int)],d⟩)∨f=⟨5,0,0,0,0,0,[5],d⟩)
def TkQ(g:AF)(t:List Token):Prop:=∃(e:Nat) (d:AN),DS d g.conds.length=true∧∃h:e<g.Ak.length,t=g.Ak.set e {g.Ak[e]with cond:=d}
end Go.Koi
