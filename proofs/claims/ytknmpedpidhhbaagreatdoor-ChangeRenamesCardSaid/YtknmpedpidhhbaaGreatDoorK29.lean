/-
  Part 30 of the proof that the law ChangeRenames of the package koinelaw31 returns true for every input.
-/
import Derived.Test.YtknmpedpidhhbaaGreatDoorK28
set_option maxHeartbeats 64000000
set_option maxRecDepth 100000
namespace Go.Koi
open Go.Proofs Tryz
def Q4(nodes:List Ah)(nu:List Int)(out:List Ah)(w:Bool):Sg:=
 [.row true 3 [.agg [.d (AV nodes),.row 1 nu.length,.row 2 out.length]],.row true 1 (nu.map fun x=>.d (AG x)),.row w 3 (out.map fun x=>.d (AX x))]
theorem Yh(nodes:List Ah):∀(f:Nat) (nu:List Int) (out:List Ah) (n:Int) (w:Bool) (res:List Int×List Ah×Int),Mu nodes f nu out n=some res→nu.length=nodes.length→(∃w',AE prog 209 [.ptr 0 1 0 0,.d (AG n)] (Q4 nodes nu out w) (.d (AG res.2.2)) (Q4 nodes res.1 res.2.1 w'))∧res.1.length=nodes.length:=by
 intro f;induction f with
 |zero=>intro nu out n w res h;simp[Mu]at h
 |succ f ih=>
  intro nu out n w res h hnl;unfold Mu at h;by_cases hc:n<2
  ·rw[if_pos hc]at h;cases h;refine⟨⟨w,?_⟩,hnl⟩;refine AE.AI func209 (by kernel_rfl) rfl (by simp) fun wf _=>?_;rw[ntmps209];refine xW fun K hK=>?_;simp;apply hK;refine xS (xW fun K hK=>?_);simp[hc];apply hK;refine AU ?_;simp;refine xW fun K hK=>?_;simp;apply hK;refine Ag ?_;(try simp only[xQ,reduceIte]);refine⟨_,AJ.refl,?_⟩;simp[Am]
  ·rw[if_neg hc]at h;have hn2:2≤n:=by omega
   cases hk:nu[(n - 2).toNat]? with
   |none=>simp[hk]at h
   |some k=>
    simp only[hk]at h;obtain⟨hkl,hke⟩:=List.getElem?_eq_some_iff.1 hk;obtain⟨m,rfl⟩:∃m:Nat,n=m+2:=⟨(n - 2).toNat,by omega⟩;have e2:((m:Int)+2 - 2).toNat=m:=by omega
    have e3:(m:Int)+2 - 2=m:=by omega
    rw[e2]at hkl;simp only[e2]at h hke;have hml:m<nodes.length:=by omega
    have hcb:¬(m:Int)+2<2:=by omega
    by_cases hs:0<k
    ·rw[if_pos hs]at h;cases h;refine⟨⟨w,?_⟩,hnl⟩;refine AE.AI func209 (by kernel_rfl) rfl (by simp) fun wf _=>?_;have hw:IntKind.i64.wrap (m:Int)=m:=by
      have:=wf.2.1;simp[WFV,WFD,rng]at this;rw[IntKind.wrap_i64];omega
     rw[ntmps209];unfold Q4;refine xW fun K hK=>?_;simp;apply hK;refine xS (xW fun K hK=>?_);simp;apply hK;refine AU ?_;simp[hcb];refine xK ?_;refine xS (xW fun K hK=>?_);simp[hw,hkl,hke];apply hK;refine AU ?_;simp[hs];refine xW fun K hK=>?_;simp[hw,hkl,hke];apply hK;refine Ag ?_;(try simp only[xQ,reduceIte]);refine⟨_,AJ.refl,?_⟩;simp[Am]
    ·rw[if_neg hs]at h;have hgd:nodes.getD m LW=nodes[m]:=by simp[hml]
     rw[hgd]at h;cases e1:Mu nodes f nu out nodes[m].low with
     |none=>simp[e1]at h
     |some r1=>
      obtain⟨nu1,out1,low⟩:=r1;simp only[e1]at h;cases e4:Mu nodes f nu1 out1 nodes[m].high with
      |none=>simp[e4]at h
      |some r2=>
       obtain⟨nu2,out2,high⟩:=r2;simp only[e4]at h;split at h
       ·cases h
       ·rename_i hsz;cases h;obtain⟨⟨u1,k1⟩,hl1⟩:=ih _ _ _ w _ e1 hnl;obtain⟨⟨u2,k2⟩,hl2⟩:=ih _ _ _ u1 _ e4 hl1;simp only[]at hl1 hl2 k1 k2;refine⟨⟨true,?_⟩,by simpa using hl2⟩;have n2:out2.length+1≤1073741824:=by omega
        have h1m:1≤maxLen:=by unfold maxLen;omega
        have hm2:m<nu2.length:=by omega
        have hw2:IntKind.i64.wrap ((out2.length:Int)+1+1)=out2.length+2:=by rw[IntKind.wrap_i64];omega
        generalize hb:nodes[m]=b at *;unfold Q4 at k1 k2;refine AE.AI func209 (by kernel_rfl) rfl (by simp) fun wf _=>?_;have hw:IntKind.i64.wrap (m:Int)=m:=by
         have:=wf.2.1;simp[WFV,WFD,rng]at this;rw[IntKind.wrap_i64];omega
        rw[ntmps209];unfold Q4;refine xW fun K hK=>?_;simp;apply hK;refine xS (xW fun K hK=>?_);simp;apply hK;refine AU ?_;simp[hcb];refine xK ?_;refine xS (xW fun K hK=>?_);simp[hw,hkl,hke];apply hK;refine AU ?_;simp[hs];refine xK ?_;refine xW fun K hK=>?_;simp[hw,hml,hb];apply hK;refine Az fun K hK=>?_;refine xJ ?_;simp;refine xF (k1) [0,1,2] rfl ?_;simp;refine xJ ?_;simp;refine Aj (hK _ _ ?_);refine Az fun K hK=>?_;refine xJ ?_;simp;refine xF (k2) [0,1,2] rfl ?_;simp;refine xJ ?_;simp;refine Aj (hK _ _ ?_);refine xD [0,2,4,6,8,10,12,14,16,18,20,23,24,26,29] (by kernel_rfl) fun K hK=>?_;simp;refine xA 1 ?_;simp[h1m];refine xX 65 (by kernel_rfl) ?_;simp[AR,n2,h1m,Af,forall_and];refine xA 1 ?_;simp;refine xX 2045 (by kernel_rfl) ?_;simp[AR];refine xM (hK _ _ ?_);refine xD [0,2,4,6,8,10,12,14,16,18,20,22,24,27] (by kernel_rfl) fun K hK=>?_;simp;refine xA 1 ?_;simp[hw,hm2,hw2];refine xX 8191 (by kernel_rfl) ?_;simp[AR,hw,hm2,hw2];refine xM (hK _ _ ?_);refine xW fun K hK=>?_;simp[hw2];apply hK;refine Ag ?_;(try simp only[xQ,reduceIte]);have hms:(List.map (fun x=>V.d (D.int .i64 x)) nu2).set m (V.d (D.int .i64 ((out2.length:Int)+2)))=List.map (fun x=>V.d (D.int .i64 x)) (nu2.set m ((out2.length:Int)+2)):=by simp[List.map_set]
        rw[hms];generalize nu2.set m _=nu3;refine⟨_,AJ.Cy [0,1,2] (by simp[AX]) (by simp) rfl,?_⟩;simp[Am,pick]
open Go.Proofs Tryz
@[simp] theorem bh(f:Nat→Nat)(n:Nat)(d:D):AAT f (List.replicate n (V.d d))=List.replicate n (V.d d):=by
 induction n with
 |zero=>rfl
 |succ n ih=>simp[List.replicate_succ,AAT,AAI,ih]
@[simp] theorem Yl(k n:Nat)(d:D):AAG k (List.replicate n (V.d d))=true:=by
 induction n with
 |zero=>rfl
 |succ n ih=>simp[List.replicate_succ,AAG,AAB,ih]
theorem Nz(nodes:List Ah)(root:Int)(d:AN)(h:QD nodes root=some d):Pure prog 178 [AV nodes,AG root] (AA d):=by
 unfold QD at h;split at h
 ·cases h
 rename_i hnl;have hn2:(nodes.length:Int)≤1073741824:=by omega
 cases e1:Mu nodes 64 (List.replicate nodes.length 0) [] root with
 |none=>simp[e1]at h
 |some r1=>
  obtain⟨nu1,out1,r⟩:=r1;simp only[e1]at h;cases h;obtain⟨⟨w',k1⟩,_⟩:=Yh nodes 64 (List.replicate nodes.length 0) [] root false _ e1 (by simp);simp only[]at k1;unfold Q4 at k1;simp at k1;refine Pure.AI func178 (by kernel_rfl) rfl (by simp) fun wf=>?_;rw[ntmps178];refine xW fun K hK=>?_;simp;apply hK;refine xW fun K hK=>?_;simp[hn2];apply hK;refine AW.ghost (AJ.Lb 2 0 2 3 (xs:=[]) rfl rfl rfl) ?_;simp;refine Az fun K hK=>?_;refine xJ ?_;simp;refine xF (k1) [2,1,3] rfl ?_;simp;refine xJ ?_;simp;refine Aj (hK _ _ ?_);refine xW fun K hK=>?_;simp;apply hK;refine Ag ?_;(try simp only[xQ,reduceIte]);refine⟨_,_,AJ.B6 3 (xs:=out1.map AX) rfl (by simp),?_⟩;simp[asD,AA]
theorem Kv(a b:AN)(op:Int)(d:AN)(h:IE a b op=some d):Pure prog 151 [AA a,AA b,AG op] (AA d):=by
 unfold IE at h;cases e1:atR a b op 64 [] [] a.root b.root with
 |none=>simp[e1]at h
 |some r1=>
  obtain⟨ns,sn,r⟩:=r1;simp only[e1]at h;obtain⟨w1,w2,k1⟩:=ag a b op 64 [] [] a.root b.root false false _ e1;simp only[]at k1;unfold Ri at k1;simp at k1;have hnb:=Nz ns r d h;refine Pure.AI func151 (by kernel_rfl) rfl (by simp) fun wf=>?_;rw[ntmps151];refine xW fun K hK=>?_;simp;apply hK;refine xW fun K hK=>?_;simp[AA];apply hK;refine AW.ghost (AJ.Lb 3 0 5 3 (xs:=[]) rfl rfl rfl) ?_;simp;refine AW.ghost (AJ.Lb 3 0 6 3 (xs:=[]) rfl rfl rfl) ?_;simp;refine Az fun K hK=>?_;refine xJ ?_;simp;refine xF (k1) [3,4,5] rfl ?_;simp;refine xJ ?_;simp;refine Aj (hK _ _ ?_);refine AW.ghost (AJ.B6 4 (xs:=ns.map AX) rfl (by simp)) ?_;simp;(repeat refine xS ?_);refine BX fun K hK=>?_;refine xJ ?_;simp;refine Bp (hnb) rfl (by simp) ?_;simp;refine xJ ?_;simp;refine Aj (hK _ _ ?_);(try simp only[xQ,reduceIte]);refine Ag ⟨_,_,AJ.refl,?_⟩;try simp
open Go.Proofs Tryz
theorem CX(a d:AN)(h:J1 a=some d):Pure prog 107 [AA a] (AA d):=by
 have hc:=Kv a ⟨[],1⟩ 2 d h;have h1:=Bi true;simp at h1;refine Pure.AI func107 (by kernel_rfl) rfl (by simp) fun wf=>?_;rw[ntmps107];refine xW fun K hK=>?_;simp;apply hK;(repeat refine xS ?_);refine xE [0,2,4,7] (by kernel_rfl) fun K hK=>?_;simp;refine xA 0 ?_;simp;refine Ae.CA (h1) rfl (by simp[xN]) ?_;simp;refine xA 0 ?_;simp;refine Ae.CA (hc) rfl (by simp[xN]) ?_;simp;refine xA 0 ?_;simp;refine xX 7 (by kernel_rfl) ?_;simp;refine xM (hK _ _ ?_);(try simp only[xQ,reduceIte]);refine Ag ⟨_,_,AJ.refl,?_⟩;try simp
theorem L5(a b d:AN)(h:IE a b 0=some d):Pure prog 112 [AA a,AA b] (AA d):=by
 have hc:=Kv a b 0 d h;refine Pure.AI func112 (by kernel_rfl) rfl (by simp) fun wf=>?_;rw[ntmps112];refine xW fun K hK=>?_;simp;apply hK;(repeat refine xS ?_);refine BX fun K hK=>?_;refine xJ ?_;simp;refine Bp (hc) rfl (by simp[xN]) ?_;simp;refine xJ ?_;simp;refine Aj (hK _ _ ?_);(try simp only[xQ,reduceIte]);refine Ag ⟨_,_,AJ.refl,?_⟩;try simp
theorem Sb(a b d:AN)(h:IE a b 1=some d):Pure prog 111 [AA a,AA b] (AA d):=by
 have hc:=Kv a b 1 d h;refine Pure.AI func111 (by kernel_rfl) rfl (by simp) fun wf=>?_;rw[ntmps111];refine xW fun K hK=>?_;simp;apply hK;(repeat refine xS ?_);refine BX fun K hK=>?_;refine xJ ?_;simp;refine Bp (hc) rfl (by simp[xN]) ?_;simp;refine xJ ?_;simp;refine Aj (hK _ _ ?_);(try simp only[xQ,reduceIte]);refine Ag ⟨_,_,AJ.refl,?_⟩;try simp
theorem Rq(a b d:AN)(h:M4 a b=some d):Pure prog 113 [AA a,AA b] (AA d):=by
 unfold M4 at h;cases e:J1 b with
 |none=>simp[e]at h
 |some c=>
  simp only[e]at h;have hc:=CX b c e;have hi:=L5 a c d h;refine Pure.AI func113 (by kernel_rfl) rfl (by simp) fun wf=>?_;rw[ntmps113];refine xW fun K hK=>?_;simp;apply hK;(repeat refine xS ?_);refine xE [0,2,4,6,9] (by kernel_rfl) fun K hK=>?_;simp;refine xA 0 ?_;simp;refine Ae.CA (hc) rfl (by simp[xN]) ?_;simp;refine xA 0 ?_;simp;refine Ae.CA (hi) rfl (by simp[xN]) ?_;simp;refine xA 0 ?_;simp;refine xX 15 (by kernel_rfl) ?_;simp;refine xM (hK _ _ ?_);(try simp only[xQ,reduceIte]);refine Ag ⟨_,_,AJ.refl,?_⟩;try simp
open Go.Proofs Tryz
def Hj(l:List Int):D:=.sl (l.map (D.int .u8))
theorem Ro(l:List Int)(n:Nat):∀(f v k:Nat) (d:AN),Hy l n f v k=some d→Pure prog 45 [Hj l,AG n,AG v,AG k] (AA d):=by
 intro f;induction f with
 |zero=>intro v k d h;simp[Hy]at h
 |succ f ih=>
  intro v k d h;unfold Hy at h;split at h
  ·cases h
  rename_i hb;have hk:k<1048576:=by omega
  have hv7:v<7:=by omega
  by_cases hvn:v=n
  ·rw[if_pos hvn]at h;cases h;have hcn:=Bi (P6 l k);have hbr:P6 l k=(decide (k / 8<l.length)&&(IntKind.u8.wrap (max ((l.getD (k / 8) 0).fdiv (2 ^ (k % 8)) % 256) 0 % 2)==1)):=rfl;generalize P6 l k=bb at *;obtain⟨j,hj⟩:∃j,k / 8=j:=⟨_,rfl⟩;obtain⟨m,hm⟩:∃m,k % 8=m:=⟨_,rfl⟩;rw[hj,hm]at hbr;have q1:((k:Int).tdiv 8)=j:=by rw[←hj];simp
   have q2:((k:Int).tmod 8)=m:=by rw[Int.tmod_eq_emod_of_nonneg (by omega),←hm];simp
   have q3:(k:Int) / 8=j:=by omega
   have q4:(k:Int) % 8=m:=by omega
   have w1:IntKind.i64.wrap (j:Int)=j:=by rw[IntKind.wrap_i64];omega
   have w2:IntKind.u64.wrap (m:Int)=m:=by simp[IntKind.wrap,IntKind.signed,IntKind.bits];omega
   have w3:min m 8=m:=by omega
   have hbits:IntKind.u8.bits=8:=rfl;refine Pure.AI func45 (by kernel_rfl) rfl (by simp) fun wf=>?_;rw[ntmps45];unfold Hj;refine xW fun K hK=>?_;simp;apply hK;refine xS (xW fun K hK=>?_);simp;apply hK;refine AU ?_;simp[hvn];(repeat refine xS ?_);refine BX fun K hK=>?_;(iterate 6 (refine B7 (by simp) ?_;simp[q1,w1]));cases hlt:decide (j<l.length)with
   |true=>
    have hl:j<l.length:=by simpa using hlt
    have hg:l.getD j 0=l[j]:=by simp[hl]
    rw[hlt,hg,Bool.true_and]at hbr;(iterate 11 ((refine Jf rfl (by simp[hl];try rfl) ?_);simp[q1,q2,w1,w2,w3,hl,hbits]));(iterate 1 (refine B7 (by simp) ?_;simp));rw[←hbr];refine Bp (hcn) rfl (by simp) ?_;simp;refine xJ ?_;simp;refine Aj (hK _ _ ?_);(try simp only[xQ,reduceIte]);refine Ag ⟨_,_,AJ.refl,?_⟩;try simp
   |false=>
    have hl:¬j<l.length:=by simpa using hlt
    rw[hlt,Bool.false_and]at hbr;subst hbr;(repeat(refine Dp rfl ?_ ?_;(·simp);simp));(iterate 1 (refine B7 (by simp) ?_;simp));refine Bp (hcn) rfl (by simp) ?_;simp;refine xJ ?_;simp;refine Aj (hK _ _ ?_);refine Ag ⟨_,_,AJ.refl,?_⟩;try simp
  ·rw[if_neg hvn]at h;cases e1:Hy l n f (v+1) (k+2 ^ v)with
   |none=>simp[e1]at h
   |some d1=>
    simp only[e1]at h;cases e0:Hy l n f (v+1) k with
    |none=>simp[e0]at h
    |some d0=>
     simp only[e0]at h;cases f1:IE (Ap v) d1 0 with
     |none=>simp[f1]at h
     |some g1=>
      simp only[f1]at h;cases f0:M4 d0 (Ap v)with
      |none=>simp[f0]at h
      |some g0=>
       simp only[f0]at h;have k1:=ih _ _ _ e1;have k0:=ih _ _ _ e0;have hvr:=Qo (v:Int);have ha:=L5 _ _ _ f1;have hb':=Rq _ _ _ f0;have hc':=Sb _ _ _ h;have hvn':¬(v:Int)=n:=by omega
       have p2:2 ^ v≤64:=Nat.pow_le_pow_right (by omega) (show v≤6 by omega);obtain⟨pw,hpw⟩:∃pw,2 ^ v=pw:=⟨_,rfl⟩;have p3:(2:Int) ^ v=pw:=by rw[←hpw];simp
       rw[hpw]at k1 p2;have w0:IntKind.i64.wrap ((v:Int)+1)=(v+1:Nat):=by rw[IntKind.wrap_i64];omega
       have w1:IntKind.u64.wrap (v:Int)=v:=by simp[IntKind.wrap,IntKind.signed,IntKind.bits];omega
       have w2:min v 64=v:=by omega
       have w3:IntKind.i64.wrap (pw:Int)=pw:=by rw[IntKind.wrap_i64];omega
       have w4:IntKind.i64.wrap ((k:Int)+pw)=(k+pw:Nat):=by rw[IntKind.wrap_i64];omega
       have hbits:IntKind.i64.bits=64:=rfl;generalize hvv:Ap v=vd at *;refine Pure.AI func45 (by kernel_rfl) rfl (by simp) fun wf=>?_;rw[ntmps45];unfold Hj at k1 k0⊢;refine xW fun K hK=>?_;simp;apply hK;refine xS (xW fun K hK=>?_);simp;apply hK;refine AU ?_;simp[hvn'];refine xK ?_;refine Az fun K hK=>?_;refine xJ ?_;simp;refine Bp (hvr) rfl (by simp) ?_;simp;refine xJ ?_;simp;refine Aj (hK _ _ ?_);(repeat refine xS ?_);refine xE [0,2,4,6,8,10,12,14,16,18,20,22,24,26,28,30,32,34,36,38,40,43] (by kernel_rfl) fun K hK=>?_;simp;refine xA 0 ?_;simp[w0,w1,w2,w3,w4,hbits,p3];refine Ae.CA (k1) rfl (by simp[xN]) ?_;simp;refine xA 0 ?_;simp;refine Ae.CA (ha) rfl (by simp[xN]) ?_;simp;refine xA 0 ?_;simp[w0];refine Ae.CA (k0) rfl (by simp[xN]) ?_;simp;refine xA 0 ?_;simp;refine Ae.CA (hb') rfl (by simp[xN]) ?_;simp;refine xA 0 ?_;simp;refine Ae.CA (hc') rfl (by simp[xN]) ?_;simp;refine xA 0 ?_;simp;refine xX 2097151 (by kernel_rfl) ?_;simp;refine xM (hK _ _ ?_);(try simp only[xQ,reduceIte]);refine Ag ⟨_,_,AJ.refl,?_⟩;try simp
theorem NN(l:List Int)(n:Nat)(hn:n≤6)(d:AN)(h:Hy l n 8 0 0=some d):Pure prog 13 [Hj l,AG n] (AA d):=by
 have ht:=Ro l n 8 0 0 d h;have h6:(if(6:Int)<(n:Int)then(6:Int)else n)=n:=by split<;>omega
 have h0:(if(0:Int)<(n:Int)then(n:Int)else 0)=n:=by split<;>omega
 have hx:(n=0→(0:Int)=n)↔True:=iff_true_intro (by omega);refine Pure.AI func13 (by kernel_rfl) rfl (by simp) fun wf=>?_;rw[ntmps13];unfold Hj at ht⊢;refine xW fun K hK=>?_;simp;apply hK;refine xW fun K hK=>?_;simp[h6];apply hK;(repeat refine xS ?_);refine BX fun K hK=>?_;refine xJ ?_;simp;refine Bp (ht) rfl (by simp[hx]) ?_;simp;refine xJ ?_;simp;refine Aj (hK _ _ ?_);(try simp only[xQ,reduceIte]);refine Ag ⟨_,_,AJ.refl,?_⟩;try simp
open Go.Proofs Tryz
def aC(d:AN)(i:Nat):Bool:=
 decide (0≤(d.nodes.getD i LW).var∧(d.nodes.getD i LW).var≤63∧0≤(d.nodes.getD i LW).low∧0≤(d.nodes.getD i LW).high∧(d.nodes.getD i LW).low<i+2∧(d.nodes.getD i LW).high<i+2∧(d.nodes.getD i LW).low≠(d.nodes.getD i LW).high∧(d.nodes.getD i LW).var<d.level (d.nodes.getD i LW).low∧(d.nodes.getD i LW).var<d.level (d.nodes.getD i LW).high)&&(List.range i).all fun j=>decide (d.nodes.getD j LW≠d.nodes.getD i LW)
def Nb(d:AN):Bool:=decide (0≤d.root∧d.root<d.nodes.length+2∧d.nodes.length≤4096)&&(List.range d.nodes.length).all (aC d)&&decide (QD d.nodes d.root=some d)
def GF(d:AN)(n:Nat):Bool:=Nb d&&d.nodes.all fun b=>decide (b.var<n)
theorem To(d:AN):Pure prog 211 [AA d,AA d] (.bool true):=by
 refine Pure.AI func211 (by kernel_rfl) rfl (by simp) fun wf=>?_;have a1:d.nodes.length≤maxLen:=by have:=wf.1;simp[WFD,AAY]at this;exact this.1.1
 rw[ntmps211];refine xW fun K hK=>?_;simp;apply hK;refine xS (xW fun K hK=>?_);simp;apply hK;refine AU ?_;simp;refine xK ?_;refine xS (xW fun K hK=>?_);simp;apply hK;refine Bw ?_;refine DC d.nodes.length (fun i tm S=>tm 2=.ptr 0 1 0 0∧tm 3=.ptr 1 1 0 0∧tm 5=.d (.int .i64 i)∧S=[.row true 2 [.d (AA d)],.row true 2 [.d (AA d)]]) (Nat.zero_le _) (by simp) ?_;rintro i tm S hi ⟨t2,t3,t5,rfl⟩;refine xS (xW fun K hK=>?_);simp[t2,t5];apply hK;refine AU ?_;simp;refine⟨fun hlt=>?_,fun hge=>?_⟩
 ·refine xK ?_;refine xB ?_;refine xD [0,2,4,6,8,10,12,14,16,18,20] (by kernel_rfl) fun K hK=>?_;simp;refine xA 0 ?_;simp[t2,t3,t5,hlt];refine xM (hK _ _ ?_);refine AU ?_;simp;refine CC ?_;refine xV fun K hK=>?_;simp[t5];apply hK;refine⟨hlt,_,_,AJ.refl,?_⟩;simp[t2,t3,AQ hlt a1]
 ·refine Cu ?_;refine xW fun K hK=>?_;simp;apply hK;refine Ag ⟨_,_,AJ.refl,?_⟩;try simp
theorem PI(d:AN)(i:Nat)(hi:i<d.nodes.length)(hn:d.nodes.length≤4096)(h:aC d i=true):Pure prog 210 [AA d,AG i] (.bool true):=by
 have hg:d.nodes.getD i LW=d.nodes[i]:=by simp[hi]
 simp only[aC,hg,Bool.and_eq_true,decide_eq_true_eq,List.all_eq_true,List.mem_range]at h;obtain⟨⟨b1,b2,b3,b4,b5,b6,b7,b8,b9⟩,hu⟩:=h;have hu':∀j (_:j<i) (hj:j<d.nodes.length),¬d.nodes[j]=d.nodes[i]:=fun j hji hj=>by have:=hu j hji;simpa[hj]using this
 refine Pure.AI func210 (by kernel_rfl) rfl (by simp) fun wf=>?_;have a1:d.nodes.length≤maxLen:=by have:=wf.1;simp[WFD,AAY]at this;exact this.1.1
 have hw:IntKind.i64.wrap ((i:Int)+2)=i+2:=by rw[IntKind.wrap_i64];omega
 generalize hb:d.nodes[i]=b at *;have l1:=F5 d b.low (by omega);have l2:=F5 d b.high (by omega);rw[ntmps210];refine xW fun K hK=>?_;simp;apply hK;(repeat refine xS ?_);refine xV fun K hK=>?_;simp[hi,hb];refine hK _ _ ?_;(try simp only[xQ,reduceIte]);have c1:¬b.var<0:=by omega
 have c2:¬63<b.var:=by omega
 have c3:¬b.low<0:=by omega
 have c4:¬b.high<0:=by omega
 have c5:¬(i:Int)+2≤b.low:=by omega
 have c6:¬(i:Int)+2≤b.high:=by omega
 have c8:¬d.level b.low≤b.var:=by omega
 have c9:¬d.level b.high≤b.var:=by omega
 refine xS (xW fun K hK=>?_);simp[hw,c1,c2,c3,c4,c5,c6];apply hK;refine AU ?_;simp[b7];refine xK ?_;refine xS ?_;refine xD [0,2,4,6,8,10,12,14,16,18,20,22,24,26,28,30] (by kernel_rfl) fun K hK=>?_;simp;refine xA 0 ?_;simp;refine Ae.CA (l1) rfl (by simp[xN]) ?_;simp;refine xA 0 ?_;simp[c8];refine Ae.CE (ds:=[AA d,AG b.high]) rfl rfl (by simp;rfl) (fun _=>l2) (by simp[xN]) ?_;simp;refine xA 0 ?_;simp[c9];refine xM (hK _ _ ?_);(try simp only[xQ,reduceIte]);refine AU ?_;simp;refine xK ?_;refine xS (xW fun K hK=>?_);simp;apply hK;refine Bw ?_;refine DC i (fun k tm S=>tm 1=.d (AG i)∧tm 2=.ptr 0 1 0 0∧tm 5=.ptr 1 1 0 0∧tm 6=.d (.int .i64 k)∧S=[.row true 2 [.d (AA d)],.row true 3 [.d (AX b)]]) (Nat.zero_le _) (by simp[AX]) ?_;rintro k tm S hk ⟨t1,t2,t5,t6,rfl⟩;refine xS (xW fun K hK=>?_);simp[t1,t6];apply hK;refine AU ?_;simp;refine⟨fun hlt=>?_,fun hge=>?_⟩
 ·have hkl:k<d.nodes.length:=by omega
  have hne:=hu' k hlt hkl;refine xK ?_;refine xB ?_;(repeat refine xS ?_);refine xE [0,2,4,6,8,10,12] (by kernel_rfl) fun K hK=>?_;simp;(repeat(refine Ga ?_ ?_;(·simp[t2,t5,hkl]);simp[t2,t5,t6,hkl]));(repeat((refine Ga ?_ ?_);(focus(simp[AX];done));simp[AX,hne]));refine xM (hK _ _ ?_);(try simp only[AAo]);refine AU ?_;simp;refine CC ?_;refine xV fun K hK=>?_;simp[t6];apply hK;refine⟨hlt,_,_,AJ.refl,?_⟩;have a2:i≤maxLen:=by omega
  simp[t1,t2,t5,AQ hlt a2,AX]
 ·refine Cu ?_;refine xW fun K hK=>?_;simp;apply hK;refine Ag ⟨_,_,AJ.refl,?_⟩;try simp
theorem SA(d:AN)(h:Nb d=true):Pure prog 179 [AA d] (.bool true):=by
 simp only[Nb,Bool.and_eq_true,decide_eq_true_eq,List.all_eq_true,List.mem_range]at h;obtain⟨⟨⟨h1,h2,h3⟩,h4⟩,h5⟩:=h;have hnb:=Nz d.nodes d.root d h5;have hsm:=To d;have a1:d.nodes.length≤maxLen:=by unfold maxLen;omega
 have hw:IntKind.i64.wrap ((d.nodes.length:Int)+2)=d.nodes.length+2:=by rw[IntKind.wrap_i64];omega
 have c1:¬d.root<0:=by omega
 have c2:¬(d.nodes.length:Int)+2≤d.root:=by omega
 refine Pure.AI func179 (by kernel_rfl) rfl (by simp) fun wf=>?_;rw[ntmps179];refine xW fun K hK=>?_;simp;apply hK;refine xS (xW fun K hK=>?_);simp[hw,c1,c2];apply hK;refine AU ?_;simp;refine xK ?_;refine xS (xW fun K hK=>?_);simp;apply hK;refine Bw ?_;refine DC d.nodes.length (fun i tm S=>tm 1=.ptr 0 1 0 0∧tm 3=.d (.int .i64 i)∧S=[.row true 2 [.d (AA d)]]) (Nat.zero_le _) (by simp) ?_;rintro i tm S hi ⟨t1,t3,rfl⟩;refine xS (xW fun K hK=>?_);simp[t1,t3];apply hK;refine AU ?_;simp;refine⟨fun hlt=>?_,fun hge=>?_⟩
 ·have hbr:=PI d i hlt h3 (h4 i hlt);refine xK ?_;refine xB ?_;refine Az fun K hK=>?_;refine xJ ?_;simp[t1,t3];refine Bp (hbr) rfl (by simp[xN]) ?_;simp;refine xJ ?_;simp;refine Aj (hK _ _ ?_);refine AU ?_;simp;refine CC ?_;refine xV fun K hK=>?_;simp[t3];apply hK;refine⟨hlt,_,_,AJ.refl,?_⟩;simp[t1,AQ hlt a1]
 ·refine Cu ?_;(repeat refine xS ?_);refine xE [0,2,4,6,8,10,12,14] (by kernel_rfl) fun K hK=>?_;simp;refine xA 0 ?_;simp[t1];refine Ae.CA (hnb) rfl (by simp[xN]) ?_;simp;refine xA 0 ?_;simp;refine Ae.CA (hsm) rfl (by simp[xN]) ?_;simp;refine xA 0 ?_;simp;refine xM (hK _ _ ?_);(try simp only[xQ,reduceIte]);refine Ag ⟨_,_,AJ.refl,?_⟩;try simp
theorem R6(d:AN)(h:Nb d=true):Pure prog 152 [AA d] (AG 0):=by
 have hv:=SA d h;simp only[Nb,Bool.and_eq_true,decide_eq_true_eq]at h;have h3:¬4096<(d.nodes.length:Int):=by omega
 have h3':¬4096<d.nodes.length:=by omega
 refine Pure.AI func152 (by kernel_rfl) rfl (by simp) fun wf=>?_;rw[ntmps152];refine xW fun K hK=>?_;simp;apply hK;refine xS (xW fun K hK=>?_);simp[h3];apply hK;refine AU ?_;simp;refine xK ?_;refine xS (Az fun K hK=>?_);refine xJ ?_;simp;refine Bp (hv) rfl (by simp[xN]) ?_;simp;refine xJ ?_;simp;refine Aj (hK _ _ ?_);(try simp only[xQ,reduceIte]);refine AU ?_;simp;refine xK ?_;refine xW fun K hK=>?_;simp;apply hK;refine Ag ⟨_,_,AJ.refl,?_⟩;try simp
theorem HB(d:AN)(n:Nat)(h:GF d n=true):Pure prog 115 [AA d,AG n] (.bool true):=by
 simp only[GF,Bool.and_eq_true,List.all_eq_true,decide_eq_true_eq]at h;have hc:=R6 d h.1;have h2:=h.2;refine Pure.AI func115 (by kernel_rfl) rfl (by simp) fun wf=>?_;have a1:d.nodes.length≤maxLen:=by have:=wf.1;simp[WFD,AAY]at this;exact this.1.1
 rw[ntmps115];refine xW fun K hK=>?_;simp;apply hK;refine xS (Az fun K hK=>?_);refine xJ ?_;simp;refine Bp (hc) rfl (by simp[xN]) ?_;simp;refine xJ ?_;simp;refine Aj (hK _ _ ?_);(try simp only[xQ,reduceIte]);refine AU ?_;simp;refine xK ?_;refine xS (xW fun K hK=>?_);simp;apply hK;refine Bw ?_;refine DC d.nodes.length (fun i tm S=>tm 1=.d (AG n)∧tm 2=.ptr 0 1 0 0∧tm 5=.d (.int .i64 i)∧S=[.row true 2 [.d (AA d)]]) (Nat.zero_le _) (by simp) ?_;rintro i tm S hi ⟨t1,t2,t5,rfl⟩;refine xS (xW fun K hK=>?_);simp[t2,t5];apply hK;refine AU ?_;simp;refine⟨fun hlt=>?_,fun hge=>?_⟩
 ·have hv:¬(n:Int)≤d.nodes[i].var:=by have:=h2 _ (List.getElem_mem hlt);omega
  refine xK ?_;refine xB ?_;refine xW fun K hK=>?_;simp[t1,t2,t5,hlt,hv];apply hK;refine AU ?_;simp;refine CC ?_;refine xV fun K hK=>?_;simp[t5];apply hK;refine⟨hlt,_,_,AJ.refl,?_⟩;simp[t1,t2,AQ hlt a1]
 ·refine Cu ?_;refine xW fun K hK=>?_;simp;apply hK;refine Ag ⟨_,_,AJ.refl,?_⟩;try simp
open Go.Proofs Tryz
def XF(b n:Nat):Option AN:=
 if n=0∨b % 6<3 then some ⟨[],1⟩else if b % 6=3 then some (Ap (b / 6 % n:Nat))else if b % 6=4 then J1 (Ap (b / 6 % n:Nat))else Hy [(b:Int)] n 8 0 0
def E7(b n:Nat):AN:=(XF b n).getD ⟨[],1⟩
theorem U8:((List.range 256).all fun b=>(List.range 4).all fun n=>(XF b n).isSome&&GF (E7 b n) n)=true:=by decide+kernel
theorem Df{b n:Nat}(hb:b<256)(hn:n<4):XF b n=some (E7 b n)∧GF (E7 b n) n=true:=by
 have h:=U8;simp only[List.all_eq_true,List.mem_range,Bool.and_eq_true]at h;obtain⟨h1,h2⟩:=h b hb n hn;refine⟨?_,h2⟩;obtain⟨d,hd⟩:=Option.isSome_iff_exists.1 h1;simp[E7,hd]
theorem Cx(b n:Nat)(hlb:b<256)(hn:n<4):Pure prog 46 [.int .u8 b,AG n] (AA (E7 b n)):=by
 have h:=(Df hlb hn).1;generalize E7 b n=d at *;unfold XF at h;have q1:((b:Int).tmod 6)=(b % 6:Nat):=by rw[Int.tmod_eq_emod_of_nonneg (by omega)];simp
 have q2:((b:Int).tdiv 6)=(b / 6:Nat):=by simp
 have h1:=Bi true;simp at h1;obtain⟨m,hm⟩:∃m,b % 6=m:=⟨_,rfl⟩;rw[hm]at h q1;by_cases hz:n=0∨m<3
 ·rw[if_pos hz]at h;cases h;refine Pure.AI func46 (by kernel_rfl) rfl (by simp) fun wf=>?_;rw[ntmps46];refine xW fun K hK=>?_;simp;apply hK;refine xS (xW fun K hK=>?_);simp[q1];apply hK;(repeat refine xS ?_);refine AW.BD (t:=decide (n=0)||decide (m<3)) ?_ (fun hb=>?_) (fun hb=>?_)
  ·simp;rw[Bool.eq_iff_iff];simp;omega
  ·(repeat refine xS ?_);refine BX fun K hK=>?_;refine xJ ?_;simp;refine Bp (h1) rfl (by simp) ?_;simp;refine xJ ?_;simp;refine Aj (hK _ _ ?_);(try simp only[xQ,reduceIte]);refine Ag ⟨_,_,AJ.refl,?_⟩;try simp
  ·simp at hb;omega
 ·rw[if_neg hz]at h;have hn0:¬n=0:=by omega
  have hb6:¬m<3:=by omega
  have hcb:(decide (n=0)||decide (m<3))=false:=by simp[hn0,hb6]
  have hle:b / 6 % n<n:=Nat.mod_lt _ (by omega);have q3:(((b / 6:Nat):Int).tmod n)=(b / 6 % n:Nat):=by rw[Int.tmod_eq_emod_of_nonneg (by omega)];simp
  obtain⟨q,hq⟩:∃q,b / 6=q:=⟨_,rfl⟩;rw[hq]at h q2 q3 hle;obtain⟨v,hv⟩:∃v,q % n=v:=⟨_,rfl⟩;rw[hv]at h q3 hle;have q4:(b:Int) / 6=q:=by omega
  have w1:IntKind.u8.wrap (q:Int)=q:=by simp[IntKind.wrap,IntKind.signed,IntKind.bits];omega
  have w2:IntKind.i64.wrap (q:Int)=q:=by rw[IntKind.wrap_i64];omega
  have hc:=Br (v:Int);have hmd:Hy [(b:Int)] n 8 0 0=some d→_:=NN [(b:Int)] n (by omega) d;refine Pure.AI func46 (by kernel_rfl) rfl (by simp) fun wf=>?_;rw[ntmps46];refine xW fun K hK=>?_;simp;apply hK;refine xS (xW fun K hK=>?_);simp[q1];apply hK;(repeat refine xS ?_);refine AW.BD (t:=decide (n=0)||decide (m<3)) ?_ (fun hb=>?_) (fun hb=>?_)
  ·simp;rw[Bool.eq_iff_iff];simp;omega
  ·rw[hcb]at hb;cases hb
  ·clear hb;refine xK ?_;(repeat refine xS ?_);refine BX fun K hK=>?_;refine xJ ?_;simp[q2,q3,w1,w2,hn0];refine Bp (hc) rfl (by simp) ?_;simp;refine xJ ?_;simp;refine Aj (hK _ _ ?_);(try simp only[xQ,reduceIte]);have hbq:((b:Int).tmod 6)=m:=q1;by_cases h3:m=3
   ·rw[if_pos h3]at h;cases h;refine xS (xW fun K hK=>?_);simp[hbq];apply hK;refine Bw ?_;refine xW fun K hK=>?_;simp[h3];apply hK;refine AU ?_;simp;refine xW fun K hK=>?_;simp;apply hK;refine Ag ⟨_,_,AJ.refl,?_⟩;try simp
   ·rw[if_neg h3]at h;by_cases h4:m=4
    ·rw[if_pos h4]at h;have hcd:=CX _ _ h;refine xS (xW fun K hK=>?_);simp[hbq];apply hK;refine Bw ?_;refine xW fun K hK=>?_;simp[h4];apply hK;refine AU ?_;simp;refine xW fun K hK=>?_;simp;apply hK;refine AU ?_;simp;(repeat refine xS ?_);refine BX fun K hK=>?_;refine xJ ?_;simp;refine Bp (hcd) rfl (by simp[xN]) ?_;simp;refine xJ ?_;simp;refine Aj (hK _ _ ?_);(try simp only[xQ,reduceIte]);refine Ag ⟨_,_,AJ.refl,?_⟩;try simp
    ·rw[if_neg h4]at h;have hm1:=hmd h;simp only[Hj,List.map_cons,List.map_nil]at hm1;have h3i:¬(m:Int)=3:=by omega
     have h4i:¬(m:Int)=4:=by omega
     refine xS (xW fun K hK=>?_);simp[hbq];apply hK;refine Bw ?_;refine xW fun K hK=>?_;simp;apply hK;refine AU ?_;simp[h3i];refine xW fun K hK=>?_;simp;apply hK;refine AU ?_;simp[h4i];refine CC ?_;have h1m:1≤maxLen:=by unfold maxLen;omega
     (repeat refine xS ?_);refine BX fun K hK=>?_;refine xJ ?_;simp[h1m];refine Bp (hm1) rfl (by simp[xN]) ?_;simp;refine xJ ?_;simp;refine Aj (hK _ _ ?_);(try simp only[xQ,reduceIte]);refine Ag ⟨_,_,AJ.refl,?_⟩;try simp
open Go.Proofs Tryz
theorem O9(p a c:Int)(d:AN):Pure prog 116 [AK ⟨1,p,a,c,0,0,[],d⟩] (.bool true):=by
 refine Pure.AI func116 (by kernel_rfl) rfl (by simp) fun wf=>?_;rw[ntmps116];refine xW fun K hK=>?_;simp;apply hK;refine xW fun K hK=>?_;simp;apply hK;refine xS (xW fun K hK=>?_);simp;apply hK;refine AU ?_;simp;refine xK ?_;refine xW fun K hK=>?_;simp;apply hK;refine xW fun K hK=>?_;simp;apply hK;refine Ag ⟨_,_,AJ.refl,?_⟩;try simp
theorem Pz(p a c:Int)(d:AN):Pure prog 116 [AK ⟨2,p,a,c,0,0,[],d⟩] (.bool true):=by
 refine Pure.AI func116 (by kernel_rfl) rfl (by simp) fun wf=>?_;rw[ntmps116];refine xW fun K hK=>?_;simp;apply hK;refine xW fun K hK=>?_;simp;apply hK;refine xS (xW fun K hK=>?_);simp;apply hK;refine AU ?_;simp;refine xK ?_;refine xW fun K hK=>?_;simp;apply hK;refine xW fun K hK=>?_;simp;apply hK;refine Ag ⟨_,_,AJ.refl,?_⟩;try simp
theorem Pf(l t:Int)(d:AN):Pure prog 116 [AK ⟨3,0,0,0,l,0,[t],d⟩] (.bool true):=by
 refine Pure.AI func116 (by kernel_rfl) rfl (by simp) fun wf=>?_;rw[ntmps116];refine xW fun K hK=>?_;simp;apply hK;refine xW fun K hK=>?_;simp;apply hK;refine xS (xW fun K hK=>?_);simp;apply hK;refine AU ?_;simp;refine xK ?_;refine xW fun K hK=>?_;simp;apply hK;refine xW fun K hK=>?_;simp;apply hK;refine Ag ⟨_,_,AJ.refl,?_⟩;try simp
theorem Om(l t:Int)(d:AN):Pure prog 116 [AK ⟨4,0,0,0,l,0,[t],d⟩] (.bool true):=by
 refine Pure.AI func116 (by kernel_rfl) rfl (by simp) fun wf=>?_;rw[ntmps116];refine xW fun K hK=>?_;simp;apply hK;refine xW fun K hK=>?_;simp;apply hK;refine xS (xW fun K hK=>?_);simp;apply hK;refine AU ?_;simp;refine xK ?_;refine xW fun K hK=>?_;simp;apply hK;refine xW fun K hK=>?_;simp;apply hK;refine Ag ⟨_,_,AJ.refl,?_⟩;try simp
theorem O2(t:Int)(d:AN):Pure prog 116 [AK ⟨5,0,0,0,0,0,[t],d⟩] (.bool true):=by
 refine Pure.AI func116 (by kernel_rfl) rfl (by simp) fun wf=>?_;rw[ntmps116];refine xW fun K hK=>?_;simp;apply hK;refine xW fun K hK=>?_;simp;apply hK;refine xS (xW fun K hK=>?_);simp;apply hK;refine AU ?_;simp;refine xK ?_;refine xW fun K hK=>?_;simp;apply hK;refine xW fun K hK=>?_;simp;apply hK;refine Ag ⟨_,_,AJ.refl,?_⟩;try simp
def OT(g:AF)(p:Int):Bool:=g.levels.any fun l=>l.AD.contains p
theorem GJ(g:AF)(p:Int)(h1:g.levels.length≤maxLen)(h2:∀l∈g.levels,l.AD.length≤maxLen):Pure prog 48 [AB g,AG p] (.bool (OT g p)):=by
 refine Pure.AI func48 (by kernel_rfl) rfl (by simp) fun wf=>?_;rw[ntmps48];refine xW fun K hK=>?_;simp;apply hK;refine xS (xW fun K hK=>?_);simp;apply hK;refine Bw ?_;refine DC g.levels.length (fun i tm S=>tm 1=.d (AG p)∧tm 2=.ptr 0 1 0 0∧tm 5=.d (.int .i64 i)∧S=[.row true 9 [.d (AB g)]]∧∀j (_:j<i) (h:j<g.levels.length),g.levels[j].AD.contains p=false) (Nat.zero_le _) (by simp) ?_;rintro i tm S hi ⟨t1,t2,t5,rfl,hq⟩;refine xS (xW fun K hK=>?_);simp[t2,t5];apply hK;refine AU ?_;simp;refine⟨fun hlt=>?_,fun hge=>?_⟩
 ·have hl2:=h2 _ (List.getElem_mem hlt);have hmm:=List.getElem_mem hlt;generalize hl:g.levels[i]=l at *;have henc:=Ac.eq_1 l;refine xK ?_;refine xB ?_;refine xW fun K hK=>?_;simp;apply hK;refine Bw ?_;refine DC l.AD.length (fun k tm S=>tm 1=.d (AG p)∧tm 2=.ptr 0 1 0 0∧tm 5=.d (.int .i64 i)∧tm 6=.d (.int .i64 k)∧S=[.row true 9 [.d (AB g)]]∧∀j (_:j<k) (h:j<l.AD.length),l.AD[j]≠p) (Nat.zero_le _) (by simp[t1,t2,t5]) ?_;rintro k tm S hk ⟨t1,t2,t5,t6,rfl,hr⟩;refine xS (xW fun K hK=>?_);simp[t2,t5,t6,hlt,hl,henc];apply hK;refine AU ?_;simp;refine⟨fun hkl=>?_,fun hge=>?_⟩
  ·refine xK ?_;refine xB ?_;refine xW fun K hK=>?_;simp[t1,t2,t5,t6,hlt,hl,henc,hkl];apply hK;refine AU ?_;simp;refine⟨fun he=>?_,fun hne=>?_⟩
   ·have:OT g p=true:=List.any_eq_true.2 ⟨l,hmm,by have:=List.getElem_mem hkl;rw[he]at this;simpa using this⟩;rw[this];refine xW fun K hK=>?_;simp;apply hK;refine Ag ⟨_,_,AJ.refl,?_⟩;try simp
   ·refine CC ?_;refine xV fun K hK=>?_;simp[t6];apply hK;refine⟨hkl,_,_,AJ.refl,?_⟩;simp[t1,t2,t5,AQ hkl hl2];intro j hj hjl;by_cases e:j=k
    ·subst e;simpa using hne
    ·exact hr j (by omega) hjl
  ·refine Cu ?_;have e:k=l.AD.length:=by omega
   subst e;refine xV fun K hK=>?_;simp[t5];apply hK;refine⟨hlt,_,_,AJ.refl,?_⟩;simp[t1,t2,AQ hlt h1];intro j hj hjl;by_cases e:j=i
   ·subst e;rw[hl];simp only[List.mem_iff_getElem,not_exists];intro q hq' hh;exact hr q hq' hq' hh
   ·simpa using hq j (by omega) hjl
 ·refine Cu ?_;have:OT g p=false:=by
   rw[OT,List.any_eq_false];intro x hx;obtain⟨j,hj,rfl⟩:=List.mem_iff_getElem.1 hx;rw[hq j (by omega) hj];simp
  rw[this];refine xW fun K hK=>?_;simp;apply hK;refine Ag ⟨_,_,AJ.refl,?_⟩;try simp
open Go.Proofs Tryz
section
variable {P:Program} {n b:Nat} {ops:Array Oper} {o:Oper} {tm:Tm} {S:Sg} {K:Tm→Sg→Prop}
theorem dR{B:List (Nat×(Sg→Prop))}{i:Nat}{q:Bool}{rest:List (Nat×Bool×Oper)}{j:Nat}{want:Bool}(hq:q=true)(hg:o.guard=some (j,want))
  (hp:AAb ops tm j want=some true∧A6 n o.dst∧AAQ P o.op tm S∧CM P o.op tm S=S)
  (h2:Ae P n b ops ((i,fun S'=>S'=S)::B) rest (put tm o.dst (BP P o.op tm S)) S K):Ae P n b ops B ((i,q,o)::rest) tm S K:=by
 subst hq;obtain⟨h3,h4,h5,h6⟩:=hp;refine Ae.quiet (fun S'=>S'=S) rfl (fun hi S' hS=>?_) h2;subst hS;intro tm' he;obtain⟨e1,e2,e3⟩:=Hw (P:=P) (S:=S') (op:=o.op) (Fy he);have:=Step.FB (b:=b) hi h4 hg (by rw[guard_congr hg he];exact h3) (IW (P:=P) (n:=n) (o:=o) (tm:=tm') (S:=S') (by rw[e1];exact h5));rw[e2,e3,h6]at this;exact this
end
def Q1(tk:Token)(lit:Bool):Bool:=if lit then decide (tk.literal=⟨#[]⟩)else decide (tk.cls≠0)
theorem KS(g:AF)(t:Nat)(lit:Bool)(ht:t<g.Ak.length):Pure prog 117 [AB g,Ci [(t:Int)],.bool lit] (.bool (!(Q1 g.Ak[t] lit))):=by
 have c1:¬(t:Int)<0:=by omega
 have c2:¬(g.Ak.length:Int)≤t:=by omega
 have c3:¬g.Ak.length≤t:=by omega
 generalize htk:g.Ak[t]=tk;have henc:=Aa.eq_1 tk;refine Pure.AI func117 (by kernel_rfl) rfl (by simp) fun wf=>?_;rw[ntmps117];refine xW fun K hK=>?_;simp;apply hK;refine xS (xW fun K hK=>?_);simp;apply hK;refine Bw ?_;refine DC 1 (fun i tm S=>tm 1=.d (Ci [(t:Int)])∧tm 2=.d (.bool lit)∧tm 3=.ptr 0 1 0 0∧tm 7=.d (.int .i64 i)∧S=[.row true 9 [.d (AB g)]]∧(0<i→Q1 tk lit=false)) (Nat.zero_le _) (by simp) ?_;rintro i tm S hi ⟨t1,t2,t3,t7,rfl,hq⟩;rcases Nat.lt_or_ge i 1 with h0|h0
 ·have hi0:i=0:=by omega
  subst hi0;refine xS (xW fun K hK=>?_);simp[t1,t7];apply hK;refine AU ?_;simp;refine xK ?_;refine xB ?_;refine xS ?_;refine xD [0,2,4,6,8,10,12,14,16,18,20,22,24,26,28,30,32,34,36,38,40,42,44,46,48,50,52,54,56,58,60] (by kernel_rfl) fun K hK=>?_;simp;refine xZ ?_;simp[t1,t3,t7,c1,c2];refine xM (hK _ _ ?_);(try simp only[xQ,reduceIte]);refine AU ?_;simp;refine xK ?_;(repeat refine xS ?_);refine xE [0,2,4,6,8,10,12,14,17,19] (by kernel_rfl) fun K hK=>?_;simp;refine xA 1 ?_;simp[t1,t3,t7,ht,htk,henc];refine xX 0 (by kernel_rfl) ?_;simp[t1,t3,t7,AR,ht,htk,henc];refine xA 1 ?_;simp;refine xX 255 (by kernel_rfl) ?_;simp[AR];refine xM (hK _ _ ?_);(try simp only[xQ,reduceIte]);cases lit with
  |true=>
   (repeat refine xS ?_);refine BX fun K hK=>?_;(repeat((first|refine Dp rfl ?_ ?_;(·simp)|refine Jf rfl ?_ ?_;(·simp)|refine B7 ?_ ?_;(·simp));simp[t2]));refine Aj (hK _ _ ?_);(try simp only[AAo]);refine AU ?_;simp;refine⟨fun hx=>?_,fun hx=>?_⟩
   ·have ha:Q1 tk true=true:=by simp[Q1,hx]
    rw[ha];refine xW fun K hK=>?_;simp;apply hK;refine Ag ⟨_,_,AJ.refl,?_⟩;try simp
   ·refine CC ?_;refine xV fun K hK=>?_;simp[t7];apply hK;refine⟨_,_,AJ.EL 1 (S':=[.row true 9 [.d (AB g)]]) (by simp) (by simp) (by simp) (by simp),?_⟩;simp[clean,AAB,t1,t2,t3,Q1,hx];decide
  |false=>
   refine Az fun K hK=>?_;refine xH ?_;simp[t2];refine Aj (hK _ _ ?_);refine AU ?_;simp;refine⟨fun hx=>?_,fun hx=>?_⟩
   ·have ha:Q1 tk false=true:=by simp[Q1,hx]
    rw[ha];refine xW fun K hK=>?_;simp;apply hK;refine Ag ⟨_,_,AJ.refl,?_⟩;try simp
   ·refine CC ?_;refine xV fun K hK=>?_;simp[t7];apply hK;refine⟨_,_,AJ.EL 1 (S':=[.row true 9 [.d (AB g)]]) (by simp) (by simp) (by simp) (by simp),?_⟩;simp[clean,AAB,t1,t2,t3,Q1,hx];decide
 ·have e:i=1:=by omega
  subst e;have ha:=hq (by omega);rw[ha];refine xS (xW fun K hK=>?_);simp[t1,t7];apply hK;refine AU ?_;simp;refine Cu ?_;refine xW fun K hK=>?_;simp[t1];apply hK;refine Ag ⟨_,_,AJ.refl,?_⟩;try simp
end Go.Koi
