/-
  Part 16 of the proof that the law ChangeRenames of the package koinelaw31 returns true for every input.
-/
import Derived.Test.YtknmpedpidhhbaaGreatDoorK14
set_option maxHeartbeats 64000000
set_option maxRecDepth 100000
namespace Go.Koi
open Go.Proofs Tryz
theorem Bl{α:Type}{l:List α}{i:Nat}(h:i<l.length):l.take (i+1)=l.take i++[l[i]]:=by rw[List.take_succ_eq_append_getElem h]
theorem MN(a c:List Ah):Pure prog 105 [.sl (a.map AX),.sl (c.map AX)] (.bool (decide (a=c))):=by
 refine Pure.AI func105 (by kernel_rfl) rfl (by simp) fun wf=>?_;have a1:a.length≤maxLen:=by have:=wf.1;simp only[WFD]at this;simpa using this.1
 rw[ntmps105];refine xW fun K hK=>?_;simp;apply hK;refine xS (xW fun K hK=>?_);simp;apply hK;refine AU ?_;simp;refine⟨fun hne=>?_,fun heq=>?_⟩
 ·refine xW fun K hK=>?_;simp;apply hK;refine Ag ⟨_,_,AJ.refl,?_⟩;(try simp);intro e;rw[e]at hne;exact hne rfl
 ·have heq:a.length=c.length:=by omega
  refine xK ?_;refine xS (xW fun K hK=>?_);simp;apply hK;refine Bw ?_;refine DC a.length (fun i tm S=>tm 0=.d (.sl (a.map AX))∧tm 1=.d (.sl (c.map AX))∧tm 13=.d (.int .i64 i)∧tm 12=.d (.int .i64 a.length)∧S=[]∧a.take i=c.take i) (Nat.zero_le _) (by simp) ?_;rintro i tm S hi ⟨t0,t1,t13,t12,rfl,hq⟩;refine xW fun K hK=>?_;simp[t13,t12];apply hK;refine xC ?_;simp;refine⟨fun hlt=>?_,fun hge=>?_⟩
  ·have hltc:i<c.length:=by omega
   refine xK ?_;refine xB ?_;refine xW fun K hK=>?_;simp[t13];apply hK;refine xD [0,2,4,6,8,10,12,14,16] (by kernel_rfl) fun K hK=>?_;simp;refine xA 0 ?_;simp[t0,t1,hlt,hltc];refine xM (hK _ _ ?_);refine AU ?_;simp;refine⟨fun hne=>?_,fun he=>?_⟩
   ·refine xW fun K hK=>?_;simp;apply hK;refine Ag ⟨_,_,AJ.refl,?_⟩;(try simp);intro e;subst e;simp at hne
   ·refine CC ?_;refine xV fun K hK=>?_;simp[t13];apply hK;refine⟨hlt,_,_,AJ.refl,?_⟩;simp[t0,t1,t12,AQ hlt a1];rw[Bl hlt,Bl hltc,hq,he]
  ·have hia:i=a.length:=by omega
   subst hia;have hac:a=c:=by rw[List.take_length,heq,List.take_length]at hq;exact hq
   refine Cu ?_;refine xW fun K hK=>?_;simp;apply hK;refine Ag ⟨_,_,AJ.refl,?_⟩;(try simp);exact hac
theorem ID(a c:List Symbol):Pure prog 29 [.sl (a.map AL),.sl (c.map AL)] (.bool (decide (a=c))):=by
 refine Pure.AI func29 (by kernel_rfl) rfl (by simp) fun wf=>?_;have a1:a.length≤maxLen:=by have:=wf.1;simp only[WFD]at this;simpa using this.1
 rw[ntmps29];refine xW fun K hK=>?_;simp;apply hK;refine xS (xW fun K hK=>?_);simp;apply hK;refine AU ?_;simp;refine⟨fun hne=>?_,fun heq=>?_⟩
 ·refine xW fun K hK=>?_;simp;apply hK;refine Ag ⟨_,_,AJ.refl,?_⟩;(try simp);intro e;rw[e]at hne;exact hne rfl
 ·have heq:a.length=c.length:=by omega
  refine xK ?_;refine xS (xW fun K hK=>?_);simp;apply hK;refine Bw ?_;refine DC a.length (fun i tm S=>tm 0=.d (.sl (a.map AL))∧tm 1=.d (.sl (c.map AL))∧tm 13=.d (.int .i64 i)∧tm 12=.d (.int .i64 a.length)∧S=[]∧a.take i=c.take i) (Nat.zero_le _) (by simp) ?_;rintro i tm S hi ⟨t0,t1,t13,t12,rfl,hq⟩;refine xW fun K hK=>?_;simp[t13,t12];apply hK;refine xC ?_;simp;refine⟨fun hlt=>?_,fun hge=>?_⟩
  ·have hltc:i<c.length:=by omega
   refine xK ?_;refine xB ?_;refine xW fun K hK=>?_;simp[t13];apply hK;refine xD [0,2,4,6,8,10,12,14,16] (by kernel_rfl) fun K hK=>?_;simp;refine xA 0 ?_;simp[t0,t1,hlt,hltc];refine xM (hK _ _ ?_);refine AU ?_;simp;refine⟨fun hne=>?_,fun he=>?_⟩
   ·refine xW fun K hK=>?_;simp;apply hK;refine Ag ⟨_,_,AJ.refl,?_⟩;(try simp);intro e;subst e;simp at hne
   ·refine CC ?_;refine xV fun K hK=>?_;simp[t13];apply hK;refine⟨hlt,_,_,AJ.refl,?_⟩;simp[t0,t1,t12,AQ hlt a1];rw[Bl hlt,Bl hltc,hq,he]
  ·have hia:i=a.length:=by omega
   subst hia;have hac:a=c:=by rw[List.take_length,heq,List.take_length]at hq;exact hq
   refine Cu ?_;refine xW fun K hK=>?_;simp;apply hK;refine Ag ⟨_,_,AJ.refl,?_⟩;(try simp);exact hac
theorem Mj(a c:List D2):Pure prog 30 [.sl (a.map A0),.sl (c.map A0)] (.bool (decide (a=c))):=by
 refine Pure.AI func30 (by kernel_rfl) rfl (by simp) fun wf=>?_;have a1:a.length≤maxLen:=by have:=wf.1;simp only[WFD]at this;simpa using this.1
 rw[ntmps30];refine xW fun K hK=>?_;simp;apply hK;refine xS (xW fun K hK=>?_);simp;apply hK;refine AU ?_;simp;refine⟨fun hne=>?_,fun heq=>?_⟩
 ·refine xW fun K hK=>?_;simp;apply hK;refine Ag ⟨_,_,AJ.refl,?_⟩;(try simp);intro e;rw[e]at hne;exact hne rfl
 ·have heq:a.length=c.length:=by omega
  refine xK ?_;refine xS (xW fun K hK=>?_);simp;apply hK;refine Bw ?_;refine DC a.length (fun i tm S=>tm 0=.d (.sl (a.map A0))∧tm 1=.d (.sl (c.map A0))∧tm 13=.d (.int .i64 i)∧tm 12=.d (.int .i64 a.length)∧S=[]∧a.take i=c.take i) (Nat.zero_le _) (by simp) ?_;rintro i tm S hi ⟨t0,t1,t13,t12,rfl,hq⟩;refine xW fun K hK=>?_;simp[t13,t12];apply hK;refine xC ?_;simp;refine⟨fun hlt=>?_,fun hge=>?_⟩
  ·have hltc:i<c.length:=by omega
   refine xK ?_;refine xB ?_;refine xW fun K hK=>?_;simp[t13];apply hK;refine xD [0,2,4,6,8,10,12,14,16] (by kernel_rfl) fun K hK=>?_;simp;refine xA 0 ?_;simp[t0,t1,hlt,hltc];refine xM (hK _ _ ?_);refine AU ?_;simp;refine⟨fun hne=>?_,fun he=>?_⟩
   ·refine xW fun K hK=>?_;simp;apply hK;refine Ag ⟨_,_,AJ.refl,?_⟩;(try simp);intro e;subst e;simp at hne
   ·refine CC ?_;refine xV fun K hK=>?_;simp[t13];apply hK;refine⟨hlt,_,_,AJ.refl,?_⟩;simp[t0,t1,t12,AQ hlt a1];rw[Bl hlt,Bl hltc,hq,he]
  ·have hia:i=a.length:=by omega
   subst hia;have hac:a=c:=by rw[List.take_length,heq,List.take_length]at hq;exact hq
   refine Cu ?_;refine xW fun K hK=>?_;simp;apply hK;refine Ag ⟨_,_,AJ.refl,?_⟩;(try simp);exact hac
theorem OD(a c:List BM):Pure prog 26 [.sl (a.map AP),.sl (c.map AP)] (.bool (decide (a=c))):=by
 refine Pure.AI func26 (by kernel_rfl) rfl (by simp) fun wf=>?_;have a1:a.length≤maxLen:=by have:=wf.1;simp only[WFD]at this;simpa using this.1
 rw[ntmps26];refine xW fun K hK=>?_;simp;apply hK;refine xS (xW fun K hK=>?_);simp;apply hK;refine AU ?_;simp;refine⟨fun hne=>?_,fun heq=>?_⟩
 ·refine xW fun K hK=>?_;simp;apply hK;refine Ag ⟨_,_,AJ.refl,?_⟩;(try simp);intro e;rw[e]at hne;exact hne rfl
 ·have heq:a.length=c.length:=by omega
  refine xK ?_;refine xS (xW fun K hK=>?_);simp;apply hK;refine Bw ?_;refine DC a.length (fun i tm S=>tm 0=.d (.sl (a.map AP))∧tm 1=.d (.sl (c.map AP))∧tm 13=.d (.int .i64 i)∧tm 12=.d (.int .i64 a.length)∧S=[]∧a.take i=c.take i) (Nat.zero_le _) (by simp) ?_;rintro i tm S hi ⟨t0,t1,t13,t12,rfl,hq⟩;refine xW fun K hK=>?_;simp[t13,t12];apply hK;refine xC ?_;simp;refine⟨fun hlt=>?_,fun hge=>?_⟩
  ·have hltc:i<c.length:=by omega
   refine xK ?_;refine xB ?_;refine xW fun K hK=>?_;simp[t13];apply hK;refine xD [0,2,4,6,8,10,12,14,16] (by kernel_rfl) fun K hK=>?_;simp;refine xA 0 ?_;simp[t0,t1,hlt,hltc];refine xM (hK _ _ ?_);refine AU ?_;simp;refine⟨fun hne=>?_,fun he=>?_⟩
   ·refine xW fun K hK=>?_;simp;apply hK;refine Ag ⟨_,_,AJ.refl,?_⟩;(try simp);intro e;subst e;simp at hne
   ·refine CC ?_;refine xV fun K hK=>?_;simp[t13];apply hK;refine⟨hlt,_,_,AJ.refl,?_⟩;simp[t0,t1,t12,AQ hlt a1];rw[Bl hlt,Bl hltc,hq,he]
  ·have hia:i=a.length:=by omega
   subst hia;have hac:a=c:=by rw[List.take_length,heq,List.take_length]at hq;exact hq
   refine Cu ?_;refine xW fun K hK=>?_;simp;apply hK;refine Ag ⟨_,_,AJ.refl,?_⟩;(try simp);exact hac
theorem Lw(a c:List Int):Pure prog 33 [.sl (a.map (D.int .i64)),.sl (c.map (D.int .i64))] (.bool (decide (a=c))):=by
 refine Pure.AI func33 (by kernel_rfl) rfl (by simp) fun wf=>?_;have a1:a.length≤maxLen:=by have:=wf.1;simp only[WFD]at this;simpa using this.1
 rw[ntmps33];refine xW fun K hK=>?_;simp;apply hK;refine xS (xW fun K hK=>?_);simp;apply hK;refine AU ?_;simp;refine⟨fun hne=>?_,fun heq=>?_⟩
 ·refine xW fun K hK=>?_;simp;apply hK;refine Ag ⟨_,_,AJ.refl,?_⟩;(try simp);intro e;rw[e]at hne;exact hne rfl
 ·have heq:a.length=c.length:=by omega
  refine xK ?_;refine xS (xW fun K hK=>?_);simp;apply hK;refine Bw ?_;refine DC a.length (fun i tm S=>tm 0=.d (.sl (a.map (D.int .i64)))∧tm 1=.d (.sl (c.map (D.int .i64)))∧tm 13=.d (.int .i64 i)∧tm 12=.d (.int .i64 a.length)∧S=[]∧a.take i=c.take i) (Nat.zero_le _) (by simp) ?_;rintro i tm S hi ⟨t0,t1,t13,t12,rfl,hq⟩;refine xW fun K hK=>?_;simp[t13,t12];apply hK;refine xC ?_;simp;refine⟨fun hlt=>?_,fun hge=>?_⟩
  ·have hltc:i<c.length:=by omega
   refine xK ?_;refine xB ?_;refine xW fun K hK=>?_;simp[t13];apply hK;refine xD [0,2,4,6,8,10,12,14,16] (by kernel_rfl) fun K hK=>?_;simp;refine xA 0 ?_;simp[t0,t1,hlt,hltc];refine xM (hK _ _ ?_);refine AU ?_;simp;refine⟨fun hne=>?_,fun he=>?_⟩
   ·refine xW fun K hK=>?_;simp;apply hK;refine Ag ⟨_,_,AJ.refl,?_⟩;(try simp);intro e;subst e;simp at hne
   ·refine CC ?_;refine xV fun K hK=>?_;simp[t13];apply hK;refine⟨hlt,_,_,AJ.refl,?_⟩;simp[t0,t1,t12,AQ hlt a1];rw[Bl hlt,Bl hltc,hq,he]
  ·have hia:i=a.length:=by omega
   subst hia;have hac:a=c:=by rw[List.take_length,heq,List.take_length]at hq;exact hq
   refine Cu ?_;refine xW fun K hK=>?_;simp;apply hK;refine Ag ⟨_,_,AJ.refl,?_⟩;(try simp);exact hac
theorem L7(a c:List ByteArray):Pure prog 22 [.sl (a.map D.str),.sl (c.map D.str)] (.bool (decide (a=c))):=by
 refine Pure.AI func22 (by kernel_rfl) rfl (by simp) fun wf=>?_;have a1:a.length≤maxLen:=by have:=wf.1;simp only[WFD]at this;simpa using this.1
 rw[ntmps22];refine xW fun K hK=>?_;simp;apply hK;refine xS (xW fun K hK=>?_);simp;apply hK;refine AU ?_;simp;refine⟨fun hne=>?_,fun heq=>?_⟩
 ·refine xW fun K hK=>?_;simp;apply hK;refine Ag ⟨_,_,AJ.refl,?_⟩;(try simp);intro e;rw[e]at hne;exact hne rfl
 ·have heq:a.length=c.length:=by omega
  refine xK ?_;refine xS (xW fun K hK=>?_);simp;apply hK;refine Bw ?_;refine DC a.length (fun i tm S=>tm 0=.d (.sl (a.map D.str))∧tm 1=.d (.sl (c.map D.str))∧tm 13=.d (.int .i64 i)∧tm 12=.d (.int .i64 a.length)∧S=[]∧a.take i=c.take i) (Nat.zero_le _) (by simp) ?_;rintro i tm S hi ⟨t0,t1,t13,t12,rfl,hq⟩;refine xW fun K hK=>?_;simp[t13,t12];apply hK;refine xC ?_;simp;refine⟨fun hlt=>?_,fun hge=>?_⟩
  ·have hltc:i<c.length:=by omega
   refine xK ?_;refine xB ?_;refine xW fun K hK=>?_;simp[t13];apply hK;refine xD [0,2,4,6,8,10,12,14,16] (by kernel_rfl) fun K hK=>?_;simp;refine xA 0 ?_;simp[t0,t1,hlt,hltc];refine xM (hK _ _ ?_);refine AU ?_;simp;refine⟨fun hne=>?_,fun he=>?_⟩
   ·refine xW fun K hK=>?_;simp;apply hK;refine Ag ⟨_,_,AJ.refl,?_⟩;(try simp);intro e;subst e;simp at hne
   ·refine CC ?_;refine xV fun K hK=>?_;simp[t13];apply hK;refine⟨hlt,_,_,AJ.refl,?_⟩;simp[t0,t1,t12,AQ hlt a1];rw[Bl hlt,Bl hltc,hq,he]
  ·have hia:i=a.length:=by omega
   subst hia;have hac:a=c:=by rw[List.take_length,heq,List.take_length]at hq;exact hq
   refine Cu ?_;refine xW fun K hK=>?_;simp;apply hK;refine Ag ⟨_,_,AJ.refl,?_⟩;(try simp);exact hac
theorem E0(a c:AN):Pure prog 23 [AA a,AA c] (.bool (decide (a=c))):=by
 refine Pure.AI func23 (by kernel_rfl) rfl (by simp) fun wf=>?_;rw[ntmps23];refine xW fun K hK=>?_;simp;apply hK;(repeat refine xS ?_);refine BX fun K hK=>?_;refine xJ ?_;simp;refine AS.CE (g:=a.root==c.root) (ds:=[AV a.nodes,AV c.nodes]) rfl rfl (by simp) (fun _=>MN _ _) (by simp) ?_;simp;refine xJ ?_;simp;refine Aj (hK _ _ ?_);(try simp only[xQ,reduceIte]);refine Ag ⟨_,_,AJ.refl,?_⟩;(try simp);cases a;cases c;rw[Bool.eq_iff_iff];simp[and_comm]
theorem Fb(x:Bool):Pure prog 124 [.bool x] (AA ⟨[],if x then 1 else 0⟩):=by
 refine Pure.AI func124 (by kernel_rfl) rfl (by simp) fun wf=>?_;rw[ntmps124];refine xW fun K hK=>?_;simp;apply hK;refine xS (xW fun K hK=>?_);simp;apply hK;refine AU ?_;simp;refine⟨fun hx=>?_,fun hx=>?_⟩
 ·refine xW fun K hK=>?_;simp;apply hK;refine Ag ⟨_,_,AJ.refl,?_⟩;(try simp);simp[hx,AA]
 ·refine xK ?_;refine xW fun K hK=>?_;simp;apply hK;refine Ag ⟨_,_,AJ.refl,?_⟩;(try simp);simp[hx,AA]
def AN.level(d:AN)(e:Int):Int:=if e<2 then 64 else match d.nodes[(e - 2).toNat]? with|some x=>x.var|none=>0
theorem Fv(d:AN)(e:Int)(he:e<2+d.nodes.length):Pure prog 132 [AA d,AG e] (AG (d.level e)):=by
 refine Pure.AI func132 (by kernel_rfl) rfl (by simp) fun wf=>?_;simp[AAY,DM,WFD]at wf;rw[ntmps132];refine xW fun K hK=>?_;simp;apply hK;refine xS (xW fun K hK=>?_);simp;apply hK;refine AU ?_;simp;refine⟨fun hx=>?_,fun hx=>?_⟩
 ·refine xW fun K hK=>?_;simp;apply hK;refine Ag ⟨_,_,AJ.refl,?_⟩;(try simp);simp[AN.level,hx]
 ·have h2:IntKind.i64.wrap (e - 2)=e - 2:=wrap_i64 (by omega) (by omega);have h3:(e - 2).toNat<d.nodes.length:=by omega
  have h4:e - 2<(d.nodes.length:Int):=by omega
  have h5:¬e<2:=by omega
  refine xK ?_;refine xW fun K hK=>?_;simp[h2,h3,h4,hx];apply hK;refine Ag ⟨_,_,AJ.refl,?_⟩;(try simp);simp[AN.level,h5,h3]
open Go.Proofs Tryz
theorem Pa(a c:Token):Pure prog 25 [Aa a,Aa c] (.bool (decide (a=c))):=by
 refine Pure.AI func25 (by kernel_rfl) rfl (by simp) fun wf=>?_;rw[ntmps25];refine xW fun K hK=>?_;simp;apply hK;(repeat refine xS ?_);refine BX fun K hK=>?_;refine xJ ?_;simp;refine AS.CE (ds:=[Ax a.pattern,Ax c.pattern]) rfl rfl (by simp;rfl) (fun _=>OD _ _) (by simp[xN]) ?_;simp;refine xJ ?_;simp;refine AS.CE (ds:=[AA a.cond,AA c.cond]) rfl rfl (by simp;rfl) (fun _=>E0 _ _) (by simp[xN]) ?_;simp;refine xJ ?_;simp;refine Aj (hK _ _ ?_);(try simp only[xQ,reduceIte]);refine Ag ⟨_,_,AJ.refl,?_⟩;(try simp);cases a;cases c;rw[Bool.eq_iff_iff];simp[and_assoc]
theorem Ng(a c:AT):Pure prog 28 [AH a,AH c] (.bool (decide (a=c))):=by
 refine Pure.AI func28 (by kernel_rfl) rfl (by simp) fun wf=>?_;rw[ntmps28];refine xW fun K hK=>?_;simp;apply hK;(repeat refine xS ?_);refine BX fun K hK=>?_;refine xJ ?_;simp;refine AS.CE (ds:=[As a.right,As c.right]) rfl rfl (by simp;rfl) (fun _=>ID _ _) (by simp[xN]) ?_;simp;refine xJ ?_;simp;refine AS.CE (ds:=[AA a.cond,AA c.cond]) rfl rfl (by simp;rfl) (fun _=>E0 _ _) (by simp[xN]) ?_;simp;refine xJ ?_;simp;refine AS.CE (ds:=[Bf a.layout,Bf c.layout]) rfl rfl (by simp;rfl) (fun _=>Mj _ _) (by simp[xN]) ?_;simp;refine xJ ?_;simp;refine Aj (hK _ _ ?_);(try simp only[xQ,reduceIte]);refine Ag ⟨_,_,AJ.refl,?_⟩;(try simp);cases a;cases c;rw[Bool.eq_iff_iff];simp[and_assoc]
theorem MU(a c:Level):Pure prog 32 [Ac a,Ac c] (.bool (decide (a=c))):=by
 refine Pure.AI func32 (by kernel_rfl) rfl (by simp) fun wf=>?_;rw[ntmps32];refine xW fun K hK=>?_;simp;apply hK;(repeat refine xS ?_);refine BX fun K hK=>?_;refine xJ ?_;simp;refine Bp (Lw a.AD c.AD) rfl (by simp[xN]) ?_;simp;refine xJ ?_;simp;refine AS.CE (ds:=[AA a.cond,AA c.cond]) rfl rfl (by simp;rfl) (fun _=>E0 _ _) (by simp[xN]) ?_;simp;refine xJ ?_;simp;refine Aj (hK _ _ ?_);(try simp only[xQ,reduceIte]);refine Ag ⟨_,_,AJ.refl,?_⟩;(try simp);cases a;cases c;rw[Bool.eq_iff_iff];simp[and_assoc]
theorem LH(a c:Filter):Pure prog 35 [AK a,AK c] (.bool (decide (a=c))):=by
 refine Pure.AI func35 (by kernel_rfl) rfl (by simp) fun wf=>?_;rw[ntmps35];refine xW fun K hK=>?_;simp;apply hK;(repeat refine xS ?_);refine BX fun K hK=>?_;refine xJ ?_;simp;refine AS.CE (ds:=[Ci a.tokens,Ci c.tokens]) rfl rfl (by simp;rfl) (fun _=>Lw _ _) (by simp[xN]) ?_;simp;refine xJ ?_;simp;refine AS.CE (ds:=[AA a.cond,AA c.cond]) rfl rfl (by simp;rfl) (fun _=>E0 _ _) (by simp[xN]) ?_;simp;refine xJ ?_;simp;refine Aj (hK _ _ ?_);(try simp only[xQ,reduceIte]);refine Ag ⟨_,_,AJ.refl,?_⟩;(try simp);cases a;cases c;rw[Bool.eq_iff_iff];simp[and_assoc]
open Go.Proofs Tryz
theorem LG(a c:List Token):AE prog 24 [.d (Bs a),.d (Bs c),.fn (.func 25) [] []] [] (.d (.bool (decide (a=c)))) []:=by
 refine AE.AI func24 (by kernel_rfl) rfl (by simp) fun wf _=>?_;have a1:a.length≤maxLen:=by have:=wf.1;simp only[Bs,WFV,WFD]at this;simpa using this.1
 rw[ntmps24];refine xW fun K hK=>?_;simp;apply hK;refine xS (xW fun K hK=>?_);simp;apply hK;refine AU ?_;simp;refine⟨fun hne=>?_,fun heq=>?_⟩
 ·refine xW fun K hK=>?_;simp;apply hK;refine Ag ?_;(try simp only[xQ,reduceIte]);refine⟨_,AJ.refl,?_⟩;simp[Am];intro e;rw[e]at hne;exact hne rfl
 ·have heq:a.length=c.length:=by omega
  refine xK ?_;refine xS (xW fun K hK=>?_);simp;apply hK;refine Bw ?_;refine DC a.length (fun i tm S=>tm 1=.d (Bs c)∧tm 2=.fn (.func 25) [] []∧tm 15=.d (Bs a)∧tm 17=.d (.int .i64 i)∧tm 16=.d (.int .i64 a.length)∧S=[]∧a.take i=c.take i) (Nat.zero_le _) (by simp) ?_;rintro i tm S hi ⟨t1,t2,t15,t17,t16,rfl,hq⟩;refine xW fun K hK=>?_;simp[t17,t16];apply hK;refine xC ?_;simp;refine⟨fun hlt=>?_,fun hge=>?_⟩
  ·have hltc:i<c.length:=by omega
   refine xK ?_;refine xB ?_;refine xW fun K hK=>?_;simp[t15,t17,hlt];apply hK;refine xW fun K hK=>?_;simp[t1,hltc];apply hK;refine Az fun K hK=>?_;refine xJ ?_;simp[t2];refine Bp (Pa a[i] c[i]) rfl (by simp[xN]) ?_;simp;refine xJ ?_;simp;refine Aj (hK _ _ ?_);refine AU ?_;simp;refine⟨fun hne=>?_,fun he=>?_⟩
   ·refine xW fun K hK=>?_;simp;apply hK;refine Ag ?_;(try simp only[xQ,reduceIte]);refine⟨_,AJ.drop 0 (by simp) (by simp) (by simp),?_⟩;simp[Am,clean];intro e;subst e;simp at hne
   ·refine CC ?_;refine xV fun K hK=>?_;simp[t17];apply hK;refine⟨hlt,_,_,AJ.drop 0 (by simp) (by simp) (by simp),?_⟩;simp[clean,t1,t2,t15,t16,AQ hlt a1];rw[Bl hlt,Bl hltc,hq,he]
  ·have hia:i=a.length:=by omega
   subst hia;have hac:a=c:=by rw[List.take_length,heq,List.take_length]at hq;exact hq
   refine Cu ?_;refine xW fun K hK=>?_;simp;apply hK;refine Ag ?_;(try simp only[xQ,reduceIte]);refine⟨_,AJ.refl,?_⟩;simp[Am];exact hac
theorem J2(a c:List AT):AE prog 27 [.d (Bb a),.d (Bb c),.fn (.func 28) [] []] [] (.d (.bool (decide (a=c)))) []:=by
 refine AE.AI func27 (by kernel_rfl) rfl (by simp) fun wf _=>?_;have a1:a.length≤maxLen:=by have:=wf.1;simp only[Bb,WFV,WFD]at this;simpa using this.1
 rw[ntmps27];refine xW fun K hK=>?_;simp;apply hK;refine xS (xW fun K hK=>?_);simp;apply hK;refine AU ?_;simp;refine⟨fun hne=>?_,fun heq=>?_⟩
 ·refine xW fun K hK=>?_;simp;apply hK;refine Ag ?_;(try simp only[xQ,reduceIte]);refine⟨_,AJ.refl,?_⟩;simp[Am];intro e;rw[e]at hne;exact hne rfl
 ·have heq:a.length=c.length:=by omega
  refine xK ?_;refine xS (xW fun K hK=>?_);simp;apply hK;refine Bw ?_;refine DC a.length (fun i tm S=>tm 1=.d (Bb c)∧tm 2=.fn (.func 28) [] []∧tm 15=.d (Bb a)∧tm 17=.d (.int .i64 i)∧tm 16=.d (.int .i64 a.length)∧S=[]∧a.take i=c.take i) (Nat.zero_le _) (by simp) ?_;rintro i tm S hi ⟨t1,t2,t15,t17,t16,rfl,hq⟩;refine xW fun K hK=>?_;simp[t17,t16];apply hK;refine xC ?_;simp;refine⟨fun hlt=>?_,fun hge=>?_⟩
  ·have hltc:i<c.length:=by omega
   refine xK ?_;refine xB ?_;refine xW fun K hK=>?_;simp[t15,t17,hlt];apply hK;refine xW fun K hK=>?_;simp[t1,hltc];apply hK;refine Az fun K hK=>?_;refine xJ ?_;simp[t2];refine Bp (Ng a[i] c[i]) rfl (by simp[xN]) ?_;simp;refine xJ ?_;simp;refine Aj (hK _ _ ?_);refine AU ?_;simp;refine⟨fun hne=>?_,fun he=>?_⟩
   ·refine xW fun K hK=>?_;simp;apply hK;refine Ag ?_;(try simp only[xQ,reduceIte]);refine⟨_,AJ.drop 0 (by simp) (by simp) (by simp),?_⟩;simp[Am,clean];intro e;subst e;simp at hne
   ·refine CC ?_;refine xV fun K hK=>?_;simp[t17];apply hK;refine⟨hlt,_,_,AJ.drop 0 (by simp) (by simp) (by simp),?_⟩;simp[clean,t1,t2,t15,t16,AQ hlt a1];rw[Bl hlt,Bl hltc,hq,he]
  ·have hia:i=a.length:=by omega
   subst hia;have hac:a=c:=by rw[List.take_length,heq,List.take_length]at hq;exact hq
   refine Cu ?_;refine xW fun K hK=>?_;simp;apply hK;refine Ag ?_;(try simp only[xQ,reduceIte]);refine⟨_,AJ.refl,?_⟩;simp[Am];exact hac
theorem Jh(a c:List Level):AE prog 31 [.d (BI a),.d (BI c),.fn (.func 32) [] []] [] (.d (.bool (decide (a=c)))) []:=by
 refine AE.AI func31 (by kernel_rfl) rfl (by simp) fun wf _=>?_;have a1:a.length≤maxLen:=by have:=wf.1;simp only[BI,WFV,WFD]at this;simpa using this.1
 rw[ntmps31];refine xW fun K hK=>?_;simp;apply hK;refine xS (xW fun K hK=>?_);simp;apply hK;refine AU ?_;simp;refine⟨fun hne=>?_,fun heq=>?_⟩
 ·refine xW fun K hK=>?_;simp;apply hK;refine Ag ?_;(try simp only[xQ,reduceIte]);refine⟨_,AJ.refl,?_⟩;simp[Am];intro e;rw[e]at hne;exact hne rfl
 ·have heq:a.length=c.length:=by omega
  refine xK ?_;refine xS (xW fun K hK=>?_);simp;apply hK;refine Bw ?_;refine DC a.length (fun i tm S=>tm 1=.d (BI c)∧tm 2=.fn (.func 32) [] []∧tm 15=.d (BI a)∧tm 17=.d (.int .i64 i)∧tm 16=.d (.int .i64 a.length)∧S=[]∧a.take i=c.take i) (Nat.zero_le _) (by simp) ?_;rintro i tm S hi ⟨t1,t2,t15,t17,t16,rfl,hq⟩;refine xW fun K hK=>?_;simp[t17,t16];apply hK;refine xC ?_;simp;refine⟨fun hlt=>?_,fun hge=>?_⟩
  ·have hltc:i<c.length:=by omega
   refine xK ?_;refine xB ?_;refine xW fun K hK=>?_;simp[t15,t17,hlt];apply hK;refine xW fun K hK=>?_;simp[t1,hltc];apply hK;refine Az fun K hK=>?_;refine xJ ?_;simp[t2];refine Bp (MU a[i] c[i]) rfl (by simp[xN]) ?_;simp;refine xJ ?_;simp;refine Aj (hK _ _ ?_);refine AU ?_;simp;refine⟨fun hne=>?_,fun he=>?_⟩
   ·refine xW fun K hK=>?_;simp;apply hK;refine Ag ?_;(try simp only[xQ,reduceIte]);refine⟨_,AJ.drop 0 (by simp) (by simp) (by simp),?_⟩;simp[Am,clean];intro e;subst e;simp at hne
   ·refine CC ?_;refine xV fun K hK=>?_;simp[t17];apply hK;refine⟨hlt,_,_,AJ.drop 0 (by simp) (by simp) (by simp),?_⟩;simp[clean,t1,t2,t15,t16,AQ hlt a1];rw[Bl hlt,Bl hltc,hq,he]
  ·have hia:i=a.length:=by omega
   subst hia;have hac:a=c:=by rw[List.take_length,heq,List.take_length]at hq;exact hq
   refine Cu ?_;refine xW fun K hK=>?_;simp;apply hK;refine Ag ?_;(try simp only[xQ,reduceIte]);refine⟨_,AJ.refl,?_⟩;simp[Am];exact hac
theorem JB(a c:List Filter):AE prog 34 [.d (A8 a),.d (A8 c),.fn (.func 35) [] []] [] (.d (.bool (decide (a=c)))) []:=by
 refine AE.AI func34 (by kernel_rfl) rfl (by simp) fun wf _=>?_;have a1:a.length≤maxLen:=by have:=wf.1;simp only[A8,WFV,WFD]at this;simpa using this.1
 rw[ntmps34];refine xW fun K hK=>?_;simp;apply hK;refine xS (xW fun K hK=>?_);simp;apply hK;refine AU ?_;simp;refine⟨fun hne=>?_,fun heq=>?_⟩
 ·refine xW fun K hK=>?_;simp;apply hK;refine Ag ?_;(try simp only[xQ,reduceIte]);refine⟨_,AJ.refl,?_⟩;simp[Am];intro e;rw[e]at hne;exact hne rfl
 ·have heq:a.length=c.length:=by omega
  refine xK ?_;refine xS (xW fun K hK=>?_);simp;apply hK;refine Bw ?_;refine DC a.length (fun i tm S=>tm 1=.d (A8 c)∧tm 2=.fn (.func 35) [] []∧tm 15=.d (A8 a)∧tm 17=.d (.int .i64 i)∧tm 16=.d (.int .i64 a.length)∧S=[]∧a.take i=c.take i) (Nat.zero_le _) (by simp) ?_;rintro i tm S hi ⟨t1,t2,t15,t17,t16,rfl,hq⟩;refine xW fun K hK=>?_;simp[t17,t16];apply hK;refine xC ?_;simp;refine⟨fun hlt=>?_,fun hge=>?_⟩
  ·have hltc:i<c.length:=by omega
   refine xK ?_;refine xB ?_;refine xW fun K hK=>?_;simp[t15,t17,hlt];apply hK;refine xW fun K hK=>?_;simp[t1,hltc];apply hK;refine Az fun K hK=>?_;refine xJ ?_;simp[t2];refine Bp (LH a[i] c[i]) rfl (by simp[xN]) ?_;simp;refine xJ ?_;simp;refine Aj (hK _ _ ?_);refine AU ?_;simp;refine⟨fun hne=>?_,fun he=>?_⟩
   ·refine xW fun K hK=>?_;simp;apply hK;refine Ag ?_;(try simp only[xQ,reduceIte]);refine⟨_,AJ.drop 0 (by simp) (by simp) (by simp),?_⟩;simp[Am,clean];intro e;subst e;simp at hne
   ·refine CC ?_;refine xV fun K hK=>?_;simp[t17];apply hK;refine⟨hlt,_,_,AJ.drop 0 (by simp) (by simp) (by simp),?_⟩;simp[clean,t1,t2,t15,t16,AQ hlt a1];rw[Bl hlt,Bl hltc,hq,he]
  ·have hia:i=a.length:=by omega
   subst hia;have hac:a=c:=by rw[List.take_length,heq,List.take_length]at hq;exact hq
   refine Cu ?_;refine xW fun K hK=>?_;simp;apply hK;refine Ag ?_;(try simp only[xQ,reduceIte]);refine⟨_,AJ.refl,?_⟩;simp[Am];exact hac
theorem Kw(a c:AF):Pure prog 7 [AB a,AB c] (.bool (decide (a=c))):=by
 refine Pure.AI func7 (by kernel_rfl) rfl (by simp) fun wf=>?_;rw[ntmps7];refine xW fun K hK=>?_;simp;apply hK;refine Az fun K hK=>?_;refine xJ ?_;simp;refine Bp (L7 a.conds c.conds) rfl (by simp[xN]) ?_;simp;refine xJ ?_;simp;refine AS.CE (ds:=[AA a.fam,AA c.fam]) rfl rfl (by simp;rfl) (fun _=>E0 _ _) (by simp[xN]) ?_;simp;refine xJ ?_;simp;refine AS.CE (ds:=[CW a.BC,CW c.BC]) rfl rfl (by simp;rfl) (fun _=>L7 _ _) (by simp[xN]) ?_;simp;refine xJ ?_;simp;refine Aj (hK _ _ ?_);(repeat refine xS ?_);refine BX fun K hK=>?_;refine xJ ?_;simp;refine AS.Hg rfl rfl (by simp;rfl) (fun _=>LG a.Ak c.Ak) (by simp) ?_;simp;refine xJ ?_;simp;refine AS.Hg rfl rfl (by simp;rfl) (fun _=>J2 a.AD c.AD) (by simp) ?_;simp;refine xJ ?_;simp;refine AS.Hg rfl rfl (by simp;rfl) (fun _=>Jh a.levels c.levels) (by simp) ?_;simp;refine xJ ?_;simp;refine AS.Hg rfl rfl (by simp;rfl) (fun _=>JB a.AM c.AM) (by simp) ?_;simp;refine xJ ?_;simp;refine Aj (hK _ _ ?_);(try simp only[xQ,reduceIte]);refine Ag ⟨_,_,AJ.refl,?_⟩;(try simp);cases a;cases c;rw[Bool.eq_iff_iff];simp[and_assoc];intro _ _;exact⟨fun⟨h1,h2,h3,h4,h5,h6⟩=>⟨h3,h1,h4,h2,h5,h6⟩,fun⟨h1,h2,h3,h4,h5,h6⟩=>⟨h2,h4,h1,h3,h5,h6⟩⟩
open Go.Proofs Tryz
theorem L9(xs:List ByteArray)(hx:xs.length≤2 ^ 30):AE prog 92 [.d (.sl (xs.map D.str))] [] (.row 0 xs.length) [.row (!xs.isEmpty) 1 (xs.map fun x=>.d (D.str x))]:=by
 refine AE.AI func92 (by kernel_rfl) rfl (by simp) fun wf _=>?_;rw[ntmps92];refine xW fun K hK=>?_;simp;apply hK;refine xS (Az fun K hK=>?_);(repeat(refine B7 ?_ ?_;(·simp);simp));refine AS.Ge (neg:=false) (xs:=xs.map D.str) rfl (by simp) fun t ht=>?_;simp;refine Aj (hK _ _ ?_);(try simp only[xQ,reduceIte]);refine AU ?_;simp;refine⟨fun h=>?_,fun h=>?_⟩
 ·have hn:xs=[]:=by
   cases xs with
   |nil=>rfl
   |cons x xs=>simp[ht]at h
  subst hn;refine xW fun K hK=>?_;simp;apply hK;refine Ag ?_;(try simp only[xQ,reduceIte]);refine⟨_,AJ.BB 2 1 (xs:=[]) (by simp),?_⟩;simp[Am]
 ·refine xK ?_;refine xW fun K hK=>?_;simp[hx];apply hK;refine Ag ?_;(try simp only[xQ,reduceIte]);refine⟨_,AJ.refl,?_⟩;simp[Am]
theorem Mm(xs:List Ah)(hx:xs.length≤2 ^ 30):AE prog 144 [.d (.sl (xs.map AX))] [] (.row 0 xs.length) [.row (!xs.isEmpty) 3 (xs.map fun x=>.d (AX x))]:=by
 refine AE.AI func144 (by kernel_rfl) rfl (by simp) fun wf _=>?_;rw[ntmps144];refine xW fun K hK=>?_;simp;apply hK;refine xS (Az fun K hK=>?_);(repeat(refine B7 ?_ ?_;(·simp);simp));refine AS.Ge (neg:=false) (xs:=xs.map AX) rfl (by simp) fun t ht=>?_;simp;refine Aj (hK _ _ ?_);(try simp only[xQ,reduceIte]);refine AU ?_;simp;refine⟨fun h=>?_,fun h=>?_⟩
 ·have hn:xs=[]:=by
   cases xs with
   |nil=>rfl
   |cons x xs=>simp[ht]at h
  subst hn;refine xW fun K hK=>?_;simp;apply hK;refine Ag ?_;(try simp only[xQ,reduceIte]);refine⟨_,AJ.BB 2 3 (xs:=[]) (by simp),?_⟩;simp[Am]
 ·refine xK ?_;refine xW fun K hK=>?_;simp[hx];apply hK;refine Ag ?_;(try simp only[xQ,reduceIte]);refine⟨_,AJ.refl,?_⟩;simp[Am]
theorem Sl(xs:List Token)(hx:xs.length≤2 ^ 30):AE prog 94 [.d (.sl (xs.map Aa))] [] (.row 0 xs.length) [.row (!xs.isEmpty) 7 (xs.map fun x=>.d (Aa x))]:=by
 refine AE.AI func94 (by kernel_rfl) rfl (by simp) fun wf _=>?_;rw[ntmps94];refine xW fun K hK=>?_;simp;apply hK;refine xS (Az fun K hK=>?_);(repeat(refine B7 ?_ ?_;(·simp);simp));refine AS.Ge (neg:=false) (xs:=xs.map Aa) rfl (by simp) fun t ht=>?_;simp;refine Aj (hK _ _ ?_);(try simp only[xQ,reduceIte]);refine AU ?_;simp;refine⟨fun h=>?_,fun h=>?_⟩
 ·have hn:xs=[]:=by
   cases xs with
   |nil=>rfl
   |cons x xs=>simp[ht]at h
  subst hn;refine xW fun K hK=>?_;simp;apply hK;refine Ag ?_;(try simp only[xQ,reduceIte]);refine⟨_,AJ.BB 2 7 (xs:=[]) (by simp),?_⟩;simp[Am]
 ·refine xK ?_;refine xW fun K hK=>?_;simp[hx];apply hK;refine Ag ?_;(try simp only[xQ,reduceIte]);refine⟨_,AJ.refl,?_⟩;simp[Am]
theorem Pb(xs:List AT)(hx:xs.length≤2 ^ 30):AE prog 95 [.d (.sl (xs.map AH))] [] (.row 0 xs.length) [.row (!xs.isEmpty) 13 (xs.map fun x=>.d (AH x))]:=by
 refine AE.AI func95 (by kernel_rfl) rfl (by simp) fun wf _=>?_;rw[ntmps95];refine xW fun K hK=>?_;simp;apply hK;refine xS (Az fun K hK=>?_);(repeat(refine B7 ?_ ?_;(·simp);simp));refine AS.Ge (neg:=false) (xs:=xs.map AH) rfl (by simp) fun t ht=>?_;simp;refine Aj (hK _ _ ?_);(try simp only[xQ,reduceIte]);refine AU ?_;simp;refine⟨fun h=>?_,fun h=>?_⟩
 ·have hn:xs=[]:=by
   cases xs with
   |nil=>rfl
   |cons x xs=>simp[ht]at h
  subst hn;refine xW fun K hK=>?_;simp;apply hK;refine Ag ?_;(try simp only[xQ,reduceIte]);refine⟨_,AJ.BB 2 13 (xs:=[]) (by simp),?_⟩;simp[Am]
 ·refine xK ?_;refine xW fun K hK=>?_;simp[hx];apply hK;refine Ag ?_;(try simp only[xQ,reduceIte]);refine⟨_,AJ.refl,?_⟩;simp[Am]
theorem Nw(xs:List Level)(hx:xs.length≤2 ^ 30):AE prog 96 [.d (.sl (xs.map Ac))] [] (.row 0 xs.length) [.row (!xs.isEmpty) 4 (xs.map fun x=>.d (Ac x))]:=by
 refine AE.AI func96 (by kernel_rfl) rfl (by simp) fun wf _=>?_;rw[ntmps96];refine xW fun K hK=>?_;simp;apply hK;refine xS (Az fun K hK=>?_);(repeat(refine B7 ?_ ?_;(·simp);simp));refine AS.Ge (neg:=false) (xs:=xs.map Ac) rfl (by simp) fun t ht=>?_;simp;refine Aj (hK _ _ ?_);(try simp only[xQ,reduceIte]);refine AU ?_;simp;refine⟨fun h=>?_,fun h=>?_⟩
 ·have hn:xs=[]:=by
   cases xs with
   |nil=>rfl
   |cons x xs=>simp[ht]at h
  subst hn;refine xW fun K hK=>?_;simp;apply hK;refine Ag ?_;(try simp only[xQ,reduceIte]);refine⟨_,AJ.BB 2 4 (xs:=[]) (by simp),?_⟩;simp[Am]
 ·refine xK ?_;refine xW fun K hK=>?_;simp[hx];apply hK;refine Ag ?_;(try simp only[xQ,reduceIte]);refine⟨_,AJ.refl,?_⟩;simp[Am]
theorem Mv(xs:List Filter)(hx:xs.length≤2 ^ 30):AE prog 97 [.d (.sl (xs.map AK))] [] (.row 0 xs.length) [.row (!xs.isEmpty) 9 (xs.map fun x=>.d (AK x))]:=by
 refine AE.AI func97 (by kernel_rfl) rfl (by simp) fun wf _=>?_;rw[ntmps97];refine xW fun K hK=>?_;simp;apply hK;refine xS (Az fun K hK=>?_);(repeat(refine B7 ?_ ?_;(·simp);simp));refine AS.Ge (neg:=false) (xs:=xs.map AK) rfl (by simp) fun t ht=>?_;simp;refine Aj (hK _ _ ?_);(try simp only[xQ,reduceIte]);refine AU ?_;simp;refine⟨fun h=>?_,fun h=>?_⟩
 ·have hn:xs=[]:=by
   cases xs with
   |nil=>rfl
   |cons x xs=>simp[ht]at h
  subst hn;refine xW fun K hK=>?_;simp;apply hK;refine Ag ?_;(try simp only[xQ,reduceIte]);refine⟨_,AJ.BB 2 9 (xs:=[]) (by simp),?_⟩;simp[Am]
 ·refine xK ?_;refine xW fun K hK=>?_;simp[hx];apply hK;refine Ag ?_;(try simp only[xQ,reduceIte]);refine⟨_,AJ.refl,?_⟩;simp[Am]
theorem N7(xs:List BM)(hx:xs.length≤2 ^ 30):AE prog 98 [.d (.sl (xs.map AP))] [] (.row 0 xs.length) [.row (!xs.isEmpty) 5 (xs.map fun x=>.d (AP x))]:=by
 refine AE.AI func98 (by kernel_rfl) rfl (by simp) fun wf _=>?_;rw[ntmps98];refine xW fun K hK=>?_;simp;apply hK;refine xS (Az fun K hK=>?_);(repeat(refine B7 ?_ ?_;(·simp);simp));refine AS.Ge (neg:=false) (xs:=xs.map AP) rfl (by simp) fun t ht=>?_;simp;refine Aj (hK _ _ ?_);(try simp only[xQ,reduceIte]);refine AU ?_;simp;refine⟨fun h=>?_,fun h=>?_⟩
 ·have hn:xs=[]:=by
   cases xs with
   |nil=>rfl
   |cons x xs=>simp[ht]at h
  subst hn;refine xW fun K hK=>?_;simp;apply hK;refine Ag ?_;(try simp only[xQ,reduceIte]);refine⟨_,AJ.BB 2 5 (xs:=[]) (by simp),?_⟩;simp[Am]
 ·refine xK ?_;refine xW fun K hK=>?_;simp[hx];apply hK;refine Ag ?_;(try simp only[xQ,reduceIte]);refine⟨_,AJ.refl,?_⟩;simp[Am]
theorem GG(xs:List Symbol)(hx:xs.length≤2 ^ 30):AE prog 99 [.d (.sl (xs.map AL))] [] (.row 0 xs.length) [.row (!xs.isEmpty) 2 (xs.map fun x=>.d (AL x))]:=by
 refine AE.AI func99 (by kernel_rfl) rfl (by simp) fun wf _=>?_;rw[ntmps99];refine xW fun K hK=>?_;simp;apply hK;refine xS (Az fun K hK=>?_);(repeat(refine B7 ?_ ?_;(·simp);simp));refine AS.Ge (neg:=false) (xs:=xs.map AL) rfl (by simp) fun t ht=>?_;simp;refine Aj (hK _ _ ?_);(try simp only[xQ,reduceIte]);refine AU ?_;simp;refine⟨fun h=>?_,fun h=>?_⟩
 ·have hn:xs=[]:=by
   cases xs with
   |nil=>rfl
   |cons x xs=>simp[ht]at h
  subst hn;refine xW fun K hK=>?_;simp;apply hK;refine Ag ?_;(try simp only[xQ,reduceIte]);refine⟨_,AJ.BB 2 2 (xs:=[]) (by simp),?_⟩;simp[Am]
 ·refine xK ?_;refine xW fun K hK=>?_;simp[hx];apply hK;refine Ag ?_;(try simp only[xQ,reduceIte]);refine⟨_,AJ.refl,?_⟩;simp[Am]
theorem Mt(xs:List D2)(hx:xs.length≤2 ^ 30):AE prog 100 [.d (.sl (xs.map A0))] [] (.row 0 xs.length) [.row (!xs.isEmpty) 3 (xs.map fun x=>.d (A0 x))]:=by
 refine AE.AI func100 (by kernel_rfl) rfl (by simp) fun wf _=>?_;rw[ntmps100];refine xW fun K hK=>?_;simp;apply hK;refine xS (Az fun K hK=>?_);(repeat(refine B7 ?_ ?_;(·simp);simp));refine AS.Ge (neg:=false) (xs:=xs.map A0) rfl (by simp) fun t ht=>?_;simp;refine Aj (hK _ _ ?_);(try simp only[xQ,reduceIte]);refine AU ?_;simp;refine⟨fun h=>?_,fun h=>?_⟩
 ·have hn:xs=[]:=by
   cases xs with
   |nil=>rfl
   |cons x xs=>simp[ht]at h
  subst hn;refine xW fun K hK=>?_;simp;apply hK;refine Ag ?_;(try simp only[xQ,reduceIte]);refine⟨_,AJ.BB 2 3 (xs:=[]) (by simp),?_⟩;simp[Am]
 ·refine xK ?_;refine xW fun K hK=>?_;simp[hx];apply hK;refine Ag ?_;(try simp only[xQ,reduceIte]);refine⟨_,AJ.refl,?_⟩;simp[Am]
theorem Ld(xs:List Int)(hx:xs.length≤2 ^ 30):AE prog 101 [.d (.sl (xs.map (D.int .i64)))] [] (.row 0 xs.length) [.row (!xs.isEmpty) 1 (xs.map fun x=>.d ((D.int .i64) x))]:=by
 refine AE.AI func101 (by kernel_rfl) rfl (by simp) fun wf _=>?_;rw[ntmps101];refine xW fun K hK=>?_;simp;apply hK;refine xS (Az fun K hK=>?_);(repeat(refine B7 ?_ ?_;(·simp);simp));refine AS.Ge (neg:=false) (xs:=xs.map (D.int .i64)) rfl (by simp) fun t ht=>?_;simp;refine Aj (hK _ _ ?_);(try simp only[xQ,reduceIte]);refine AU ?_;simp;refine⟨fun h=>?_,fun h=>?_⟩
 ·have hn:xs=[]:=by
   cases xs with
   |nil=>rfl
   |cons x xs=>simp[ht]at h
  subst hn;refine xW fun K hK=>?_;simp;apply hK;refine Ag ?_;(try simp only[xQ,reduceIte]);refine⟨_,AJ.BB 2 1 (xs:=[]) (by simp),?_⟩;simp[Am]
 ·refine xK ?_;refine xW fun K hK=>?_;simp[hx];apply hK;refine Ag ?_;(try simp only[xQ,reduceIte]);refine⟨_,AJ.refl,?_⟩;simp[Am]
theorem NU(xs:List Cw)(hx:xs.length≤2 ^ 30):AE prog 21 [.d (.sl (xs.map A1))] [] (.row 0 xs.length) [.row (!xs.isEmpty) 4 (xs.map fun x=>.d (A1 x))]:=by
 refine AE.AI func21 (by kernel_rfl) rfl (by simp) fun wf _=>?_;rw[ntmps21];refine xW fun K hK=>?_;simp;apply hK;refine xS (Az fun K hK=>?_);(repeat(refine B7 ?_ ?_;(·simp);simp));refine AS.Ge (neg:=false) (xs:=xs.map A1) rfl (by simp) fun t ht=>?_;simp;refine Aj (hK _ _ ?_);(try simp only[xQ,reduceIte]);refine AU ?_;simp;refine⟨fun h=>?_,fun h=>?_⟩
 ·have hn:xs=[]:=by
   cases xs with
   |nil=>rfl
   |cons x xs=>simp[ht]at h
  subst hn;refine xW fun K hK=>?_;simp;apply hK;refine Ag ?_;(try simp only[xQ,reduceIte]);refine⟨_,AJ.BB 2 4 (xs:=[]) (by simp),?_⟩;simp[Am]
 ·refine xK ?_;refine xW fun K hK=>?_;simp[hx];apply hK;refine Ag ?_;(try simp only[xQ,reduceIte]);refine⟨_,AJ.refl,?_⟩;simp[Am]
end Go.Koi
