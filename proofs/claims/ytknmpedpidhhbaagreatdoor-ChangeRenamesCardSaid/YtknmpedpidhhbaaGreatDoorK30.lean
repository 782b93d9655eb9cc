/-
  Part 31 of the proof that the law ChangeRenames of the package koinelaw31 returns true for every input.
-/
import Derived.Test.YtknmpedpidhhbaaGreatDoorK29
set_option maxHeartbeats 64000000
set_option maxRecDepth 100000
namespace Go.Koi
open Go.Proofs Tryz
def Ls(g:AF)(p a c:Nat):Bool:=!((g.AD.getD p F1).right.getD a ⟨true,0⟩).token&&decide (((g.AD.getD p F1).right.getD a ⟨true,0⟩).index=(g.AD.getD c F1).left)
theorem VO(g:AF)(p a c:Nat)(d:AN)(hp:p<g.AD.length)(hc:c<g.AD.length)(hd:GF d g.conds.length=true):
  Pure prog 49 [AB g,AK ⟨1,p,a,c,0,0,[],d⟩] (.bool (Ls g p a c)):=by
 have hf:=HB d g.conds.length hd;have hpl:=O9 p a c d;have c1:¬(p:Int)<0:=by omega
 have c2:¬(g.AD.length:Int)≤p:=by omega
 have c2':¬g.AD.length≤p:=by omega
 have c3:¬(c:Int)<0:=by omega
 have c4:¬(g.AD.length:Int)≤c:=by omega
 have c4':¬g.AD.length≤c:=by omega
 refine Pure.AI func49 (by kernel_rfl) rfl (by simp) fun wf=>?_;rw[ntmps49];refine xW fun K hK=>?_;simp;apply hK;refine xS (Az fun K hK=>?_);refine xH ?_;simp;refine AS.Cj (hf) rfl rfl (by simp[xN];try rfl) ?_;simp;refine xH ?_;simp;refine AS.Cj (hpl) rfl rfl (by simp[xN];try rfl) ?_;simp;refine xH ?_;simp;refine Aj (hK _ _ ?_);(try simp only[xQ,reduceIte]);refine AU ?_;simp;refine xK ?_;refine xS (xW fun K hK=>?_);simp;apply hK;refine Bw ?_;refine xS (xW fun K hK=>?_);simp;apply hK;refine AU ?_;simp;refine xK ?_;refine AU ?_;simp;refine xS (Az fun K hK=>?_);refine xH ?_;simp[c1,c2,c3,c4];refine Aj (hK _ _ ?_);(try simp only[xQ,reduceIte]);refine AU ?_;simp;refine CC ?_;unfold Ls;have e1:g.AD.getD p F1=g.AD[p]:=by simp[hp]
 have e2:g.AD.getD c F1=g.AD[c]:=by simp[hc]
 rw[e1,e2];generalize hpp:g.AD[p]=q;generalize hqq:g.AD[c]=u;have henc:=AH.eq_1 q;have henu:=AH.eq_1 u;(repeat refine xS ?_);refine xV fun K hK=>?_;simp[hp,hpp,henc];refine hK _ _ ?_;(try simp only[xQ,reduceIte]);by_cases a1:a<q.right.length
 ·generalize hs:q.right[a]=s;have hes:=AL.eq_1 s;have a2:(a:Int)<q.right.length:=by omega
  have e3:q.right.getD a ⟨true,0⟩=s:=by simp[a1,hs]
  rw[e3];cases ht:s.token with
  |true=>
   (repeat refine xS ?_);refine xE [0,2,4,6,8,10,12,14,16,18,20,22,24,26,28,30,32,34,36,38,40,42,44,46,48,50,52,54,56,58,60,62,64,66,68,70] (by kernel_rfl) fun K hK=>?_;simp;refine xZ ?_;simp[a1,a2,hs,hes,ht];refine xM (hK _ _ ?_);(try simp only[xQ,reduceIte]);refine Ag ⟨_,_,AJ.refl,?_⟩;try simp
  |false=>
   (repeat refine xS ?_);refine xE [0,2,4,6,8,10,12,14,16,18,20,22,24,26,28,30,32,34,36,38,40,42,44,46,48,50,52,54,56,58,60,62,64,66,68,70] (by kernel_rfl) fun K hK=>?_;simp;refine xZ ?_;simp[a1,a2,hs,hes,ht,hc,hqq,henu];refine xM (hK _ _ ?_);(try simp only[xQ,reduceIte]);refine Ag ⟨_,_,AJ.refl,?_⟩;(try simp);rw[Bool.eq_iff_iff];simp
 ·have a2:¬(a:Int)<q.right.length:=by omega
  have e3:q.right.getD a ⟨true,0⟩=⟨true,0⟩:=by simp[a1]
  rw[e3];(repeat refine xS ?_);refine xE [0,2,4,6,8,10,12,14,16,18,20,22,24,26,28,30,32,34,36,38,40,42,44,46,48,50,52,54,56,58,60,62,64,66,68,70] (by kernel_rfl) fun K hK=>?_;simp;refine xZ ?_;simp[a2];refine xM (hK _ _ ?_);(try simp only[]);refine Ag ⟨_,_,AJ.refl,?_⟩;try simp
theorem Td(g:AF)(p a c:Nat)(d:AN)(hp:p<g.AD.length)(hc:c<g.AD.length)(hd:GF d g.conds.length=true):
  Pure prog 49 [AB g,AK ⟨2,p,a,c,0,0,[],d⟩] (.bool (Ls g p a c)):=by
 have hf:=HB d g.conds.length hd;have hpl:=Pz p a c d;have c1:¬(p:Int)<0:=by omega
 have c2:¬(g.AD.length:Int)≤p:=by omega
 have c2':¬g.AD.length≤p:=by omega
 have c3:¬(c:Int)<0:=by omega
 have c4:¬(g.AD.length:Int)≤c:=by omega
 have c4':¬g.AD.length≤c:=by omega
 refine Pure.AI func49 (by kernel_rfl) rfl (by simp) fun wf=>?_;rw[ntmps49];refine xW fun K hK=>?_;simp;apply hK;refine xS (Az fun K hK=>?_);refine xH ?_;simp;refine AS.Cj (hf) rfl rfl (by simp[xN];try rfl) ?_;simp;refine xH ?_;simp;refine AS.Cj (hpl) rfl rfl (by simp[xN];try rfl) ?_;simp;refine xH ?_;simp;refine Aj (hK _ _ ?_);(try simp only[xQ,reduceIte]);refine AU ?_;simp;refine xK ?_;refine xS (xW fun K hK=>?_);simp;apply hK;refine Bw ?_;refine xS (xW fun K hK=>?_);simp;apply hK;refine AU ?_;simp;refine xV fun K hK=>?_;simp;apply hK;refine AU ?_;simp;refine xS (Az fun K hK=>?_);refine xH ?_;simp[c1,c2,c3,c4];refine Aj (hK _ _ ?_);(try simp only[xQ,reduceIte]);refine AU ?_;simp;refine CC ?_;unfold Ls;have e1:g.AD.getD p F1=g.AD[p]:=by simp[hp]
 have e2:g.AD.getD c F1=g.AD[c]:=by simp[hc]
 rw[e1,e2];generalize hpp:g.AD[p]=q;generalize hqq:g.AD[c]=u;have henc:=AH.eq_1 q;have henu:=AH.eq_1 u;(repeat refine xS ?_);refine xV fun K hK=>?_;simp[hp,hpp,henc];refine hK _ _ ?_;(try simp only[xQ,reduceIte]);by_cases a1:a<q.right.length
 ·generalize hs:q.right[a]=s;have hes:=AL.eq_1 s;have a2:(a:Int)<q.right.length:=by omega
  have e3:q.right.getD a ⟨true,0⟩=s:=by simp[a1,hs]
  rw[e3];cases ht:s.token with
  |true=>
   (repeat refine xS ?_);refine xE [0,2,4,6,8,10,12,14,16,18,20,22,24,26,28,30,32,34,36,38,40,42,44,46,48,50,52,54,56,58,60,62,64,66,68,70] (by kernel_rfl) fun K hK=>?_;simp;refine xZ ?_;simp[a1,a2,hs,hes,ht];refine xM (hK _ _ ?_);(try simp only[xQ,reduceIte]);refine Ag ⟨_,_,AJ.refl,?_⟩;try simp
  |false=>
   (repeat refine xS ?_);refine xE [0,2,4,6,8,10,12,14,16,18,20,22,24,26,28,30,32,34,36,38,40,42,44,46,48,50,52,54,56,58,60,62,64,66,68,70] (by kernel_rfl) fun K hK=>?_;simp;refine xZ ?_;simp[a1,a2,hs,hes,ht,hc,hqq,henu];refine xM (hK _ _ ?_);(try simp only[xQ,reduceIte]);refine Ag ⟨_,_,AJ.refl,?_⟩;(try simp);rw[Bool.eq_iff_iff];simp
 ·have a2:¬(a:Int)<q.right.length:=by omega
  have e3:q.right.getD a ⟨true,0⟩=⟨true,0⟩:=by simp[a1]
  rw[e3];(repeat refine xS ?_);refine xE [0,2,4,6,8,10,12,14,16,18,20,22,24,26,28,30,32,34,36,38,40,42,44,46,48,50,52,54,56,58,60,62,64,66,68,70] (by kernel_rfl) fun K hK=>?_;simp;refine xZ ?_;simp[a2];refine xM (hK _ _ ?_);(try simp only[]);refine Ag ⟨_,_,AJ.refl,?_⟩;try simp
theorem WC(g:AF)(l t:Nat)(d:AN)(hl:l<g.BC.length)(ht:t<g.Ak.length)(hd:GF d g.conds.length=true):
  Pure prog 49 [AB g,AK ⟨3,0,0,0,l,0,[(t:Int)],d⟩] (.bool (!(Q1 g.Ak[t] false))):=by
 have hf:=HB d g.conds.length hd;have hpl:=Pf l t d;have ham:=KS g t false ht;have c1:(0:Int)≤l:=by omega
 have c2:(l:Int)<g.BC.length:=by omega
 refine Pure.AI func49 (by kernel_rfl) rfl (by simp) fun wf=>?_;rw[ntmps49];refine xW fun K hK=>?_;simp;apply hK;refine xS (Az fun K hK=>?_);refine xH ?_;simp;refine AS.Cj (hf) rfl rfl (by simp[xN];try rfl) ?_;simp;refine xH ?_;simp;refine AS.Cj (hpl) rfl rfl (by simp[xN];try rfl) ?_;simp;refine xH ?_;simp;refine Aj (hK _ _ ?_);(try simp only[xQ,reduceIte]);refine AU ?_;simp;refine xK ?_;refine xS (xW fun K hK=>?_);simp;apply hK;refine Bw ?_;refine xS (xW fun K hK=>?_);simp;apply hK;refine AU ?_;simp;refine xV fun K hK=>?_;simp;apply hK;refine AU ?_;simp;refine xS (xW fun K hK=>?_);simp;apply hK;refine AU ?_;simp;refine xK ?_;refine AU ?_;simp;(repeat refine xS ?_);refine BX fun K hK=>?_;refine xH ?_;simp[c1,c2];refine AS.Cj (ham) rfl rfl (by simp[xN];try rfl) ?_;simp;refine xH ?_;simp;refine Aj (hK _ _ ?_);(try simp only[xQ,reduceIte]);refine Ag ⟨_,_,AJ.refl,?_⟩;try simp
theorem Vy(g:AF)(l t:Nat)(d:AN)(hl:l<g.BC.length)(ht:t<g.Ak.length)(hd:GF d g.conds.length=true):
  Pure prog 49 [AB g,AK ⟨4,0,0,0,l,0,[(t:Int)],d⟩] (.bool (!(Q1 g.Ak[t] false))):=by
 have hf:=HB d g.conds.length hd;have hpl:=Om l t d;have ham:=KS g t false ht;have c1:(0:Int)≤l:=by omega
 have c2:(l:Int)<g.BC.length:=by omega
 refine Pure.AI func49 (by kernel_rfl) rfl (by simp) fun wf=>?_;rw[ntmps49];refine xW fun K hK=>?_;simp;apply hK;refine xS (Az fun K hK=>?_);refine xH ?_;simp;refine AS.Cj (hf) rfl rfl (by simp[xN];try rfl) ?_;simp;refine xH ?_;simp;refine AS.Cj (hpl) rfl rfl (by simp[xN];try rfl) ?_;simp;refine xH ?_;simp;refine Aj (hK _ _ ?_);(try simp only[xQ,reduceIte]);refine AU ?_;simp;refine xK ?_;refine xS (xW fun K hK=>?_);simp;apply hK;refine Bw ?_;refine xS (xW fun K hK=>?_);simp;apply hK;refine AU ?_;simp;refine xV fun K hK=>?_;simp;apply hK;refine AU ?_;simp;refine xS (xW fun K hK=>?_);simp;apply hK;refine AU ?_;simp;refine xV fun K hK=>?_;simp;apply hK;refine AU ?_;simp;(repeat refine xS ?_);refine BX fun K hK=>?_;refine xH ?_;simp[c1,c2];refine AS.Cj (ham) rfl rfl (by simp[xN];try rfl) ?_;simp;refine xH ?_;simp;refine Aj (hK _ _ ?_);(try simp only[xQ,reduceIte]);refine Ag ⟨_,_,AJ.refl,?_⟩;try simp
theorem V2(g:AF)(t:Nat)(d:AN)(ht:t<g.Ak.length)(hd:GF d g.conds.length=true):
  ∃b,Pure prog 49 [AB g,AK ⟨5,0,0,0,0,0,[(t:Int)],d⟩] (.bool b):=by
 have hf:=HB d g.conds.length hd;have hpl:=O2 t d;have ham:=KS g t true ht;have h0:0<g.Ak.length:=by omega
 have c2:¬(g.Ak.length:Int)≤0:=by omega
 have c3:¬g.Ak.length=0:=by omega
 have c4:g.Ak≠[]:=by intro e;simp[e]at h0
 have sw:True:=trivial;cases ha:Q1 g.Ak[t] true with
 |true=>
  rw[ha]at ham;refine⟨false,?_⟩;refine Pure.AI func49 (by kernel_rfl) rfl (by simp) fun wf=>?_;rw[ntmps49];refine xW fun K hK=>?_;simp;apply hK;refine xS (Az fun K hK=>?_);refine xH ?_;simp;refine AS.Cj (hf) rfl rfl (by simp[xN];try rfl) ?_;simp;refine xH ?_;simp;refine AS.Cj (hpl) rfl rfl (by simp[xN];try rfl) ?_;simp;refine xH ?_;simp;refine Aj (hK _ _ ?_);(try simp only[xQ,reduceIte]);refine AU ?_;simp;refine xK ?_;refine xS (xW fun K hK=>?_);simp;apply hK;refine Bw ?_;refine xS (xW fun K hK=>?_);simp;apply hK;refine AU ?_;simp;refine xV fun K hK=>?_;simp;apply hK;refine AU ?_;simp;refine xS (xW fun K hK=>?_);simp;apply hK;refine AU ?_;simp;refine xV fun K hK=>?_;simp;apply hK;refine AU ?_;simp;refine CC ?_;refine xS (Az fun K hK=>?_);refine xH ?_;simp[c3];refine AS.Cj (ham) rfl rfl (by simp[xN];try rfl) ?_;simp;refine xH ?_;simp;refine Aj (hK _ _ ?_);(try simp only[xQ,reduceIte]);refine AU ?_;simp;refine xW fun K hK=>?_;simp;apply hK;refine Ag ⟨_,_,AJ.refl,?_⟩;try simp
 |false=>
  rw[ha]at ham;generalize htk:g.Ak[0]=tk;have henc:=Aa.eq_1 tk;refine⟨decide (tk.cls=0)&&decide (tk.literal=⟨#[]⟩),?_⟩;refine Pure.AI func49 (by kernel_rfl) rfl (by simp) fun wf=>?_;rw[ntmps49];refine xW fun K hK=>?_;simp;apply hK;refine xS (Az fun K hK=>?_);refine xH ?_;simp;refine AS.Cj (hf) rfl rfl (by simp[xN];try rfl) ?_;simp;refine xH ?_;simp;refine AS.Cj (hpl) rfl rfl (by simp[xN];try rfl) ?_;simp;refine xH ?_;simp;refine Aj (hK _ _ ?_);(try simp only[xQ,reduceIte]);refine AU ?_;simp;refine xK ?_;refine xS (xW fun K hK=>?_);simp;apply hK;refine Bw ?_;refine xS (xW fun K hK=>?_);simp;apply hK;refine AU ?_;simp;refine xV fun K hK=>?_;simp;apply hK;refine AU ?_;simp;refine xS (xW fun K hK=>?_);simp;apply hK;refine AU ?_;simp;refine xV fun K hK=>?_;simp;apply hK;refine AU ?_;simp;refine CC ?_;refine xS (Az fun K hK=>?_);refine xH ?_;simp[c3];refine AS.Cj (ham) rfl rfl (by simp[xN];try rfl) ?_;simp;refine xH ?_;simp;refine Aj (hK _ _ ?_);(try simp only[xQ,reduceIte]);refine AU ?_;simp;refine xK ?_;(repeat refine xS ?_);refine BX fun K hK=>?_;refine xJ ?_;simp[h0,htk,henc];refine Aj (hK _ _ ?_);(try simp only[xQ,reduceIte]);by_cases hcl:tk.cls=0
  ·(repeat refine xS ?_);refine BX fun K hK=>?_;refine xH ?_;simp[hcl];refine Aj (hK _ _ ?_);(try simp only[xQ,reduceIte]);refine Ag ⟨_,_,AJ.refl,?_⟩;(try simp);intro _;exact hcl
  ·(repeat refine xS ?_);refine BX fun K hK=>?_;(repeat((first|refine Dp rfl ?_ ?_;(·simp[hcl])|refine Jf rfl ?_ ?_;(·simp[hcl])|refine B7 ?_ ?_;(·simp[hcl]));simp));refine Aj (hK _ _ ?_);(try simp only[AAo]);refine Ag ⟨_,_,AJ.refl,?_⟩;(try simp);simp[hcl]
open Go.Proofs DT
def ACk:DT→Bool
 |.leaf _=>true
 |.node v l h=>decide (0≤v)&&(decide (v≤63)&&(decide (l≠h)&&(decide (v<l.level)&&(decide (v<h.level)&&(ACk l&&ACk h)))))
theorem ACH:∀{t:DT},ACk t=true→t.Good
 |.leaf _,_=>trivial
 |.node v l h,e=>by
  simp only[ACk,Bool.and_eq_true,decide_eq_true_eq]at e;exact⟨e.1,e.2.1,e.2.2.1,e.2.2.2.1,e.2.2.2.2.1,ACH e.2.2.2.2.2.1,ACH e.2.2.2.2.2.2⟩
def AD9(l:List Ah):Nat→Int→DT
 |0,_=>.leaf false
 |f+1,k=>if k≤0 then .leaf false else if k=1 then .leaf true else match l[(k - 2).toNat]? with
  |none=>.leaf false
  |some b=>.node b.var (AD9 l f b.low) (AD9 l f b.high)
def AD5(d:AN):DT:=AD9 d.nodes 8 d.root
def ACs(d:AN)(n:Nat):Bool:=decide (B2 (AD5 d)=d)&&(ACk (AD5 d)&&(decide (d.nodes.length≤4096)&&d.nodes.all fun b=>decide (b.var<n)))
theorem ABm{d:AN}{n:Nat}(h:ACs d n=true):DS d n=true:=by
 simp only[ACs,Bool.and_eq_true,decide_eq_true_eq,List.all_eq_true]at h;obtain⟨h1,h2,h3,h4⟩:=h;have hv:Valid d:=⟨AD5 d,ACH h2,h1.symm⟩;have hc:HW d=0:=by unfold HW;rw[if_neg (by omega),if_pos hv]
 simp only[DS,hc,decide_true,Bool.true_and,Bool.not_eq_true',List.any_eq_false,decide_eq_true_eq];intro b hb;have:=h4 b hb;omega
theorem ADI:((List.range 256).all fun b=>(List.range 4).all fun n=>ACs (E7 b n) n)=true:=by decide+kernel
theorem AAy{b n:Nat}(hb:b<256)(hn:n<4):DS (E7 b n) n=true:=by
 have h:=ADI;simp only[List.all_eq_true,List.mem_range]at h;exact ABm (h b hb n hn)
theorem ADD:((List.range 256).all fun b=>(List.range 4).all fun n=>match Hy [(b:Int)] n 8 0 0 with|none=>false|some d=>ACs d n)=true:=by decide+kernel
theorem ACQ{b n:Nat}(hb:b<256)(hn:n<4){d:AN}(hd:Hy [(b:Int)] n 8 0 0=some d):DS d n=true:=by
 have h:=ADD;simp only[List.all_eq_true,List.mem_range]at h;have:=h b hb n hn;rw[hd]at this;exact ABm this
def LvQ(g:AF)(l:Level):Prop:=
 l.AD.length≤2∧0≤l.assoc∧l.assoc≤3∧DS l.cond g.conds.length=true∧l.AD.Nodup∧∀p∈l.AD,0≤p∧p<g.AD.length∧OT g p=false
def FlQ(g:AF)(f:Filter):Prop:=∃d,DS d g.conds.length=true∧((∃A C B:Nat,∃k:Int,(k=1∨k=2)∧A<g.AD.length∧B<g.AD.length∧Ls g A C B=true∧f=⟨k,A,C,B,0,0,[],d⟩)∨(∃l t:Nat,∃k:Int,(k=3∨k=4)∧l<g.BC.length∧t<9∧f=⟨k,0,0,0,l,0,[(t:Int)],d⟩)∨f=⟨5,0,0,0,0,0,[5],d⟩)
def TkQ(g:AF)(t:List Token):Prop:=∃(e:Nat) (d:AN),DS d g.conds.length=true∧∃h:e<g.Ak.length,t=g.Ak.set e {g.Ak[e]with cond:=d}
open Go.Proofs Tryz
def Qw:Symbol:=⟨false,0⟩
def SE(l:Int)(r:List Symbol):Bool:=decide (r.length=3)&&((r.getD 0 Qw).token&&(r.getD 2 Qw).token&&!(r.getD 1 Qw).token&&decide ((r.getD 1 Qw).index=l))
theorem O7(nm:ByteArray)(l:Int)(r:List Symbol)(c:AN)(b:Bool):Pure prog 114 [AH ⟨nm,l,r,c,b,0,[],Av⟩] (.bool (SE l r)):=by
 have hz:Av=⟨false,0,0,0,0⟩:=rfl;have hdq:AAk [D.bool false,D.int .i64 0,D.int .i64 0,D.int .i64 0,D.int .i64 0] [D.bool false,D.int .i64 0,D.int .i64 0,D.int .i64 0,D.int .i64 0]=true:=rfl;by_cases h3:r.length=3
 ·obtain⟨x,y,z,rfl⟩:∃x y z,r=[x,y,z]:=by
   match r,h3 with
   |[x,y,z],_=>exact⟨x,y,z,rfl⟩
  have hb:SE l [x,y,z]=(x.token&&z.token&&!y.token&&decide (y.index=l)):=by simp[SE]
  rw[hb];have ex:=AL.eq_1 x;have ey:=AL.eq_1 y;have ez:=AL.eq_1 z;refine Pure.AI func114 (by kernel_rfl) rfl (by simp) fun wf=>?_;rw[ntmps114];refine xW fun K hK=>?_;simp;apply hK;refine xS (Az fun K hK=>?_);refine xH ?_;simp[hz,hdq];refine Aj (hK _ _ ?_);(try simp only[xQ,reduceIte]);refine AU ?_;simp;refine CC ?_;cases hx:x.token with
  |false=>
   (repeat refine xS ?_);refine xE [0,2,4,6,8,10,12,14,16,18,20,22,24,26,28,30,32,34,36,38,40,42,44,46,48,50,52,54,56,58,60] (by kernel_rfl) fun K hK=>?_;simp;refine xZ ?_;simp[ex,hx];refine xM (hK _ _ ?_);(try simp only[xQ,reduceIte]);refine Ag ⟨_,_,AJ.refl,?_⟩;try simp
  |true=>
   cases hzt:z.token with
   |false=>
    (repeat refine xS ?_);refine xE [0,2,4,6,8,10,12,14,16,18,20,22,24,26,28,30,32,34,36,38,40,42,44,46,48,50,52,54,56,58,60] (by kernel_rfl) fun K hK=>?_;simp;refine xZ ?_;simp[ex,ez,hx,hzt];refine xM (hK _ _ ?_);(try simp only[xQ,reduceIte]);refine Ag ⟨_,_,AJ.refl,?_⟩;try simp
   |true=>
    cases hy:y.token with
    |true=>
     (repeat refine xS ?_);refine xE [0,2,4,6,8,10,12,14,16,18,20,22,24,26,28,30,32,34,36,38,40,42,44,46,48,50,52,54,56,58,60] (by kernel_rfl) fun K hK=>?_;simp;refine xZ ?_;simp[ex,ey,ez,hx,hy,hzt];refine xM (hK _ _ ?_);(try simp only[xQ,reduceIte]);refine Ag ⟨_,_,AJ.refl,?_⟩;try simp
    |false=>
     (repeat refine xS ?_);refine xE [0,2,4,6,8,10,12,14,16,18,20,22,24,26,28,30,32,34,36,38,40,42,44,46,48,50,52,54,56,58,60] (by kernel_rfl) fun K hK=>?_;simp;refine xZ ?_;simp[ex,ey,ez,hx,hy,hzt];refine xM (hK _ _ ?_);(try simp only[xQ,reduceIte]);refine Ag ⟨_,_,AJ.refl,?_⟩;(try simp);rw[Bool.eq_iff_iff];simp
 ·have hb:SE l r=false:=by simp[SE,h3]
  rw[hb];have h3':¬(r.length:Int)=3:=by omega
  refine Pure.AI func114 (by kernel_rfl) rfl (by simp) fun wf=>?_;rw[ntmps114];refine xW fun K hK=>?_;simp;apply hK;refine xS (Az fun K hK=>?_);(repeat((first|refine Dp rfl ?_ ?_;(·simp[h3'])|refine Jf rfl ?_ ?_;(·simp[h3,h3'])|refine B7 ?_ ?_;(·simp[h3']));simp));refine Aj (hK _ _ ?_);(try simp only[xQ,reduceIte]);refine AU ?_;simp[h3'];refine xW fun K hK=>?_;simp;apply hK;refine Ag ⟨_,_,AJ.refl,?_⟩;try simp
open Go.Proofs Tryz
def pl(nm:ByteArray)(l:Int)(r:List Symbol)(c:AN):AT:=⟨nm,l,r,c,false,0,[],Av⟩
theorem OA(nm:ByteArray)(l:Int)(c:AN)(m:Nat):Pure prog 47 [AH (pl nm l [] c),.int .u8 m] (AH (pl nm l [] c)):=by
 refine Pure.AI func47 (by kernel_rfl) rfl (by simp) fun wf=>?_;rw[ntmps47];unfold pl;refine xW fun K hK=>?_;simp;apply hK;refine xW fun K hK=>?_;simp;apply hK;refine xS (xW fun K hK=>?_);simp;apply hK;refine AU ?_;simp;refine xW fun K hK=>?_;simp;apply hK;refine Ag ⟨_,_,AJ.refl,?_⟩;try simp
theorem Oo(nm:ByteArray)(l:Int)(r:List Symbol)(c:AN)(k:Nat)(hk:8 * k+0<256)(h0:0<r.length)(h4:r.length≤4):Pure prog 47 [AH (pl nm l r c),.int .u8 (8 * k+0:Nat)] (AH (pl nm l r c)):=by
 have hz:Av=⟨false,0,0,0,0⟩:=rfl;have hn0:¬r.length=0:=by omega
 have hne:r≠[]:=by intro e;simp[e]at h0
 obtain⟨m,hm⟩:∃m,8 * k+0=m:=⟨_,rfl⟩;rw[hm];have q1:((m:Int).tmod 8)=0:=by rw[Int.tmod_eq_emod_of_nonneg (by omega)];omega
 have q2:((m:Int).tdiv 8)=k:=by rw[Int.tdiv_eq_ediv_of_nonneg (by omega)];omega
 have q3:(m:Int) / 8=k:=by omega
 have q4:(m:Int) % 8=0:=by omega
 have w1:IntKind.u8.wrap (k:Int)=k:=by simp[IntKind.wrap,IntKind.signed,IntKind.bits];omega
 have w2:IntKind.i64.wrap (k:Int)=k:=by rw[IntKind.wrap_i64];omega
 refine Pure.AI func47 (by kernel_rfl) rfl (by simp) fun wf=>?_;rw[ntmps47];unfold pl;refine xW fun K hK=>?_;simp;apply hK;refine xW fun K hK=>?_;simp;apply hK;refine xS (xW fun K hK=>?_);simp;apply hK;refine AU ?_;simp[hn0];refine xK ?_;refine xW fun K hK=>?_;simp[q2,w1,w2];apply hK;refine xS (xW fun K hK=>?_);simp[q1];apply hK;refine Bw ?_;refine xW fun K hK=>?_;simp;apply hK;refine AU ?_;simp;refine xW fun K hK=>?_;simp;apply hK;refine AU ?_;simp;refine xW fun K hK=>?_;simp;apply hK;refine AU ?_;simp;refine xW fun K hK=>?_;simp;apply hK;refine AU ?_;simp;refine xW fun K hK=>?_;simp;apply hK;refine AU ?_;simp;refine xW fun K hK=>?_;simp;apply hK;refine AU ?_;simp;refine xW fun K hK=>?_;simp;apply hK;refine AU ?_;simp;refine CC ?_;refine xW fun K hK=>?_;simp;apply hK;refine Ag ⟨_,_,AJ.refl,?_⟩;try simp
theorem PS(nm:ByteArray)(l:Int)(r:List Symbol)(c:AN)(k:Nat)(hk:8 * k+1<256)(h0:0<r.length)(h4:r.length≤4):Pure prog 47 [AH (pl nm l r c),.int .u8 (8 * k+1:Nat)] (AH {pl nm l r c with Di:=1}):=by
 have hz:Av=⟨false,0,0,0,0⟩:=rfl;have hn0:¬r.length=0:=by omega
 have hne:r≠[]:=by intro e;simp[e]at h0
 obtain⟨m,hm⟩:∃m,8 * k+1=m:=⟨_,rfl⟩;rw[hm];have q1:((m:Int).tmod 8)=1:=by rw[Int.tmod_eq_emod_of_nonneg (by omega)];omega
 have q2:((m:Int).tdiv 8)=k:=by rw[Int.tdiv_eq_ediv_of_nonneg (by omega)];omega
 have q3:(m:Int) / 8=k:=by omega
 have q4:(m:Int) % 8=1:=by omega
 have w1:IntKind.u8.wrap (k:Int)=k:=by simp[IntKind.wrap,IntKind.signed,IntKind.bits];omega
 have w2:IntKind.i64.wrap (k:Int)=k:=by rw[IntKind.wrap_i64];omega
 refine Pure.AI func47 (by kernel_rfl) rfl (by simp) fun wf=>?_;rw[ntmps47];unfold pl;refine xW fun K hK=>?_;simp;apply hK;refine xW fun K hK=>?_;simp;apply hK;refine xS (xW fun K hK=>?_);simp;apply hK;refine AU ?_;simp[hn0];refine xK ?_;refine xW fun K hK=>?_;simp[q2,w1,w2];apply hK;refine xS (xW fun K hK=>?_);simp[q1];apply hK;refine Bw ?_;refine xW fun K hK=>?_;simp;apply hK;refine AU ?_;simp;refine xV fun K hK=>?_;simp;apply hK;refine xW fun K hK=>?_;simp;apply hK;refine Ag ⟨_,_,AJ.refl,?_⟩;(try simp);simp[AH,Av]
theorem Po(nm:ByteArray)(l:Int)(r:List Symbol)(c:AN)(k:Nat)(hk:8 * k+2<256)(h0:0<r.length)(h4:r.length≤4):Pure prog 47 [AH (pl nm l r c),.int .u8 (8 * k+2:Nat)] (AH {pl nm l r c with Di:=-1}):=by
 have hz:Av=⟨false,0,0,0,0⟩:=rfl;have hn0:¬r.length=0:=by omega
 have hne:r≠[]:=by intro e;simp[e]at h0
 obtain⟨m,hm⟩:∃m,8 * k+2=m:=⟨_,rfl⟩;rw[hm];have q1:((m:Int).tmod 8)=2:=by rw[Int.tmod_eq_emod_of_nonneg (by omega)];omega
 have q2:((m:Int).tdiv 8)=k:=by rw[Int.tdiv_eq_ediv_of_nonneg (by omega)];omega
 have q3:(m:Int) / 8=k:=by omega
 have q4:(m:Int) % 8=2:=by omega
 have w1:IntKind.u8.wrap (k:Int)=k:=by simp[IntKind.wrap,IntKind.signed,IntKind.bits];omega
 have w2:IntKind.i64.wrap (k:Int)=k:=by rw[IntKind.wrap_i64];omega
 refine Pure.AI func47 (by kernel_rfl) rfl (by simp) fun wf=>?_;rw[ntmps47];unfold pl;refine xW fun K hK=>?_;simp;apply hK;refine xW fun K hK=>?_;simp;apply hK;refine xS (xW fun K hK=>?_);simp;apply hK;refine AU ?_;simp[hn0];refine xK ?_;refine xW fun K hK=>?_;simp[q2,w1,w2];apply hK;refine xS (xW fun K hK=>?_);simp[q1];apply hK;refine Bw ?_;refine xW fun K hK=>?_;simp;apply hK;refine AU ?_;simp;refine xW fun K hK=>?_;simp;apply hK;refine AU ?_;simp;refine xV fun K hK=>?_;simp;apply hK;refine xW fun K hK=>?_;simp;apply hK;refine Ag ⟨_,_,AJ.refl,?_⟩;(try simp);simp[AH,Av]
theorem Pt(nm:ByteArray)(l:Int)(r:List Symbol)(c:AN)(k:Nat)(hk:8 * k+3<256)(h0:0<r.length)(h4:r.length≤4):Pure prog 47 [AH (pl nm l r c),.int .u8 (8 * k+3:Nat)] (AH {pl nm l r c with bracket:=SE l r}):=by
 have hz:Av=⟨false,0,0,0,0⟩:=rfl;have hn0:¬r.length=0:=by omega
 have hne:r≠[]:=by intro e;simp[e]at h0
 obtain⟨m,hm⟩:∃m,8 * k+3=m:=⟨_,rfl⟩;rw[hm];have q1:((m:Int).tmod 8)=3:=by rw[Int.tmod_eq_emod_of_nonneg (by omega)];omega
 have q2:((m:Int).tdiv 8)=k:=by rw[Int.tdiv_eq_ediv_of_nonneg (by omega)];omega
 have q3:(m:Int) / 8=k:=by omega
 have q4:(m:Int) % 8=3:=by omega
 have w1:IntKind.u8.wrap (k:Int)=k:=by simp[IntKind.wrap,IntKind.signed,IntKind.bits];omega
 have w2:IntKind.i64.wrap (k:Int)=k:=by rw[IntKind.wrap_i64];omega
 have hb:=O7 nm l r c true;rw[hz]at hb;refine Pure.AI func47 (by kernel_rfl) rfl (by simp) fun wf=>?_;rw[ntmps47];unfold pl;refine xW fun K hK=>?_;simp;apply hK;refine xW fun K hK=>?_;simp;apply hK;refine xS (xW fun K hK=>?_);simp;apply hK;refine AU ?_;simp[hn0];refine xK ?_;refine xW fun K hK=>?_;simp[q2,w1,w2];apply hK;refine xS (xW fun K hK=>?_);simp[q1];apply hK;refine Bw ?_;refine xW fun K hK=>?_;simp;apply hK;refine AU ?_;simp;refine xW fun K hK=>?_;simp;apply hK;refine AU ?_;simp;refine xW fun K hK=>?_;simp;apply hK;refine AU ?_;simp;refine xW fun K hK=>?_;simp[hz];apply hK;refine BX fun K hK=>?_;refine xJ ?_;simp;refine Bp (hb) rfl (by simp[xN]) ?_;simp;refine xJ ?_;simp;refine Aj (hK _ _ ?_);refine xW fun K hK=>?_;simp;apply hK;refine Ag ⟨_,_,AJ.refl,?_⟩;(try simp);simp[AH,Av]
theorem PK(nm:ByteArray)(l:Int)(r:List Symbol)(c:AN)(k:Nat)(hk:8 * k+4<256)(h0:0<r.length)(h4:r.length≤4):Pure prog 47 [AH (pl nm l r c),.int .u8 (8 * k+4:Nat)] (AH {pl nm l r c with layout:=[⟨1+(k % 4:Nat),(k / 4 % r.length:Nat),if k % 4=0 then 0 else(r.length:Int) - 1⟩]}):=by
 have hz:Av=⟨false,0,0,0,0⟩:=rfl;have hn0:¬r.length=0:=by omega
 have hne:r≠[]:=by intro e;simp[e]at h0
 obtain⟨m,hm⟩:∃m,8 * k+4=m:=⟨_,rfl⟩;rw[hm];have q1:((m:Int).tmod 8)=4:=by rw[Int.tmod_eq_emod_of_nonneg (by omega)];omega
 have q2:((m:Int).tdiv 8)=k:=by rw[Int.tdiv_eq_ediv_of_nonneg (by omega)];omega
 have q3:(m:Int) / 8=k:=by omega
 have q4:(m:Int) % 8=4:=by omega
 have w1:IntKind.u8.wrap (k:Int)=k:=by simp[IntKind.wrap,IntKind.signed,IntKind.bits];omega
 have w2:IntKind.i64.wrap (k:Int)=k:=by rw[IntKind.wrap_i64];omega
 obtain⟨n,hn⟩:∃n,r.length=n:=⟨_,rfl⟩;obtain⟨j,hj⟩:∃j,k % 4=j:=⟨_,rfl⟩;obtain⟨d,hd⟩:∃d,k / 4=d:=⟨_,rfl⟩;obtain⟨e,he⟩:∃e,d % n=e:=⟨_,rfl⟩;have hen:e<n:=by rw[←he];exact Nat.mod_lt _ (by omega)
 have a1:((k:Int).tmod 4)=j:=by rw[Int.tmod_eq_emod_of_nonneg (by omega)];omega
 have a1':(k:Int) % 4=j:=by omega
 have a2:IntKind.i64.wrap ((1:Int)+j)=1+j:=by rw[IntKind.wrap_i64];omega
 have a3:((k:Int).tdiv 4)=d:=by rw[Int.tdiv_eq_ediv_of_nonneg (by omega)];omega
 have a3':(k:Int) / 4=d:=by omega
 have a3w:IntKind.i64.wrap (d:Int)=d:=by rw[IntKind.wrap_i64];omega
 have a4:((d:Int).tmod n)=e:=by rw[Int.tmod_eq_emod_of_nonneg (by omega),←he];simp
 have a5:IntKind.i64.wrap ((n:Int) - 1)=(n:Int) - 1:=by rw[IntKind.wrap_i64];omega
 have hnz:¬n=0:=by omega
 have h1m:1≤maxLen:=by unfold maxLen;omega
 rw[hj,hd,hn,he];refine Pure.AI func47 (by kernel_rfl) rfl (by simp) fun wf=>?_;rw[ntmps47];unfold pl;refine xW fun K hK=>?_;simp;apply hK;refine xW fun K hK=>?_;simp;apply hK;refine xS (xW fun K hK=>?_);simp;apply hK;refine AU ?_;simp[hn0];refine xK ?_;refine xW fun K hK=>?_;simp[q2,w1,w2];apply hK;refine xS (xW fun K hK=>?_);simp[q1];apply hK;refine Bw ?_;refine xW fun K hK=>?_;simp;apply hK;refine AU ?_;simp;refine xW fun K hK=>?_;simp;apply hK;refine AU ?_;simp;refine xW fun K hK=>?_;simp;apply hK;refine AU ?_;simp;refine xW fun K hK=>?_;simp;apply hK;refine AU ?_;simp;refine Az fun K hK=>?_;(iterate 10 (refine B7 (by simp[hnz]) ?_;simp[hn,a1,a2,a3,a3w,a4,a5]));((refine AS.Gi rfl ?_ ?_);(focus(simp[AA3,maxLen];done));simp);refine xJ ?_;simp;refine Aj (hK _ _ ?_);(repeat refine xS ?_);refine xV fun K hK=>?_;simp[a1];refine hK _ _ ?_;(try simp only[xQ,reduceIte]);by_cases hj0:j=0
 ·refine AU ?_;simp[hj0];refine xV fun K hK=>?_;simp;apply hK;refine xW fun K hK=>?_;simp;apply hK;refine Ag ?_;(try simp only[xQ,reduceIte]);refine⟨_,_,AJ.B6 2 (xs:=[A0 ⟨1+j,e,0⟩]) rfl (by simp[A0,AAp,AA0,AAl,hj0]),?_⟩;simp[asD,AH,A0,Av,hj0]
 ·have hj0':¬(j:Int)=0:=by omega
  refine AU ?_;simp[hj0];refine CC ?_;refine xW fun K hK=>?_;simp;apply hK;refine Ag ?_;(try simp only[xQ,reduceIte]);refine⟨_,_,AJ.B6 2 (xs:=[A0 ⟨1+j,e,n - 1⟩]) rfl (by simp[A0,AAp,AA0,AAl]),?_⟩;simp[asD,AH,A0,Av]
theorem Pj(nm:ByteArray)(l:Int)(r:List Symbol)(c:AN)(k:Nat)(hk:8 * k+5<256)(h0:0<r.length)(h4:r.length≤4):Pure prog 47 [AH (pl nm l r c),.int .u8 (8 * k+5:Nat)] (AH {pl nm l r c with scope:=⟨true,0,0,0,0⟩}):=by
 have hz:Av=⟨false,0,0,0,0⟩:=rfl;have hn0:¬r.length=0:=by omega
 have hne:r≠[]:=by intro e;simp[e]at h0
 obtain⟨m,hm⟩:∃m,8 * k+5=m:=⟨_,rfl⟩;rw[hm];have q1:((m:Int).tmod 8)=5:=by rw[Int.tmod_eq_emod_of_nonneg (by omega)];omega
 have q2:((m:Int).tdiv 8)=k:=by rw[Int.tdiv_eq_ediv_of_nonneg (by omega)];omega
 have q3:(m:Int) / 8=k:=by omega
 have q4:(m:Int) % 8=5:=by omega
 have w1:IntKind.u8.wrap (k:Int)=k:=by simp[IntKind.wrap,IntKind.signed,IntKind.bits];omega
 have w2:IntKind.i64.wrap (k:Int)=k:=by rw[IntKind.wrap_i64];omega
 refine Pure.AI func47 (by kernel_rfl) rfl (by simp) fun wf=>?_;rw[ntmps47];unfold pl;refine xW fun K hK=>?_;simp;apply hK;refine xW fun K hK=>?_;simp;apply hK;refine xS (xW fun K hK=>?_);simp;apply hK;refine AU ?_;simp[hn0];refine xK ?_;refine xW fun K hK=>?_;simp[q2,w1,w2];apply hK;refine xS (xW fun K hK=>?_);simp[q1];apply hK;refine Bw ?_;refine xW fun K hK=>?_;simp;apply hK;refine AU ?_;simp;refine xW fun K hK=>?_;simp;apply hK;refine AU ?_;simp;refine xW fun K hK=>?_;simp;apply hK;refine AU ?_;simp;refine xW fun K hK=>?_;simp;apply hK;refine AU ?_;simp;refine xW fun K hK=>?_;simp;apply hK;refine AU ?_;simp;refine xV fun K hK=>?_;simp;apply hK;refine xW fun K hK=>?_;simp;apply hK;refine Ag ⟨_,_,AJ.refl,?_⟩;(try simp);simp[AH,Av]
theorem OM(nm:ByteArray)(l:Int)(r:List Symbol)(c:AN)(k:Nat)(hk:8 * k+6<256)(h0:0<r.length)(h4:r.length≤4)(ht:(r.getD (k % r.length) Qw).token=true):Pure prog 47 [AH (pl nm l r c),.int .u8 (8 * k+6:Nat)] (AH {pl nm l r c with scope:=⟨false,(k % r.length:Nat)+1,1+(k % 2:Nat),0,0⟩}):=by
 have hz:Av=⟨false,0,0,0,0⟩:=rfl;have hn0:¬r.length=0:=by omega
 have hne:r≠[]:=by intro e;simp[e]at h0
 obtain⟨m,hm⟩:∃m,8 * k+6=m:=⟨_,rfl⟩;rw[hm];have q1:((m:Int).tmod 8)=6:=by rw[Int.tmod_eq_emod_of_nonneg (by omega)];omega
 have q2:((m:Int).tdiv 8)=k:=by rw[Int.tdiv_eq_ediv_of_nonneg (by omega)];omega
 have q3:(m:Int) / 8=k:=by omega
 have q4:(m:Int) % 8=6:=by omega
 have w1:IntKind.u8.wrap (k:Int)=k:=by simp[IntKind.wrap,IntKind.signed,IntKind.bits];omega
 have w2:IntKind.i64.wrap (k:Int)=k:=by rw[IntKind.wrap_i64];omega
 obtain⟨n,hn⟩:∃n,r.length=n:=⟨_,rfl⟩;rw[hn]at ht hn0 h4 h0⊢;obtain⟨e,he⟩:∃e,k % n=e:=⟨_,rfl⟩;obtain⟨j,hj⟩:∃j,k % 2=j:=⟨_,rfl⟩;rw[he]at ht⊢;rw[hj];have hen:e<n:=by rw[←he];exact Nat.mod_lt _ (by omega)
 have her:e<r.length:=by omega
 have hge:r.getD e Qw=r[e]:=by simp[her]
 rw[hge]at ht;generalize hs:r[e]=s at *;have hes:=AL.eq_1 s;have a4:((k:Int).tmod n)=e:=by rw[Int.tmod_eq_emod_of_nonneg (by omega),←he];simp
 have a5:IntKind.i64.wrap ((e:Int)+1)=(e:Int)+1:=by rw[IntKind.wrap_i64];omega
 have a6:((k:Int).tmod 2)=j:=by rw[Int.tmod_eq_emod_of_nonneg (by omega)];omega
 have a6':(k:Int) % 2=j:=by omega
 have a7:IntKind.i64.wrap ((1:Int)+j)=1+j:=by rw[IntKind.wrap_i64];omega
 have hnz:¬n=0:=by omega
 refine Pure.AI func47 (by kernel_rfl) rfl (by simp) fun wf=>?_;rw[ntmps47];unfold pl;refine xW fun K hK=>?_;simp;apply hK;refine xW fun K hK=>?_;simp;apply hK;refine xS (xW fun K hK=>?_);simp[hn];apply hK;refine AU ?_;simp[hn0];refine xK ?_;refine xW fun K hK=>?_;simp[q2,w1,w2];apply hK;refine xS (xW fun K hK=>?_);simp[q1];apply hK;refine Bw ?_;refine xW fun K hK=>?_;simp;apply hK;refine AU ?_;simp;refine xW fun K hK=>?_;simp;apply hK;refine AU ?_;simp;refine xW fun K hK=>?_;simp;apply hK;refine AU ?_;simp;refine xW fun K hK=>?_;simp;apply hK;refine AU ?_;simp;refine xW fun K hK=>?_;simp;apply hK;refine AU ?_;simp;refine xW fun K hK=>?_;simp;apply hK;refine AU ?_;simp;refine xD [0,2,4,6,8,10,12,14] (by kernel_rfl) fun K hK=>?_;simp;refine xA 0 ?_;simp[hn,a4,hnz,hen,hs,hes,ht];refine xM (hK _ _ ?_);refine AU ?_;simp;refine xV fun K hK=>?_;simp[a4,a5,a6,a7,hnz];apply hK;refine xW fun K hK=>?_;simp;apply hK;refine Ag ⟨_,_,AJ.refl,?_⟩;(try simp);simp[AH]
theorem OH(nm:ByteArray)(l:Int)(r:List Symbol)(c:AN)(k:Nat)(hk:8 * k+6<256)(h0:0<r.length)(h4:r.length≤4)(ht:(r.getD (k % r.length) Qw).token=false):Pure prog 47 [AH (pl nm l r c),.int .u8 (8 * k+6:Nat)] (AH (pl nm l r c)):=by
 have hz:Av=⟨false,0,0,0,0⟩:=rfl;have hn0:¬r.length=0:=by omega
 have hne:r≠[]:=by intro e;simp[e]at h0
 obtain⟨m,hm⟩:∃m,8 * k+6=m:=⟨_,rfl⟩;rw[hm];have q1:((m:Int).tmod 8)=6:=by rw[Int.tmod_eq_emod_of_nonneg (by omega)];omega
 have q2:((m:Int).tdiv 8)=k:=by rw[Int.tdiv_eq_ediv_of_nonneg (by omega)];omega
 have q3:(m:Int) / 8=k:=by omega
 have q4:(m:Int) % 8=6:=by omega
 have w1:IntKind.u8.wrap (k:Int)=k:=by simp[IntKind.wrap,IntKind.signed,IntKind.bits];omega
 have w2:IntKind.i64.wrap (k:Int)=k:=by rw[IntKind.wrap_i64];omega
 obtain⟨n,hn⟩:∃n,r.length=n:=⟨_,rfl⟩;rw[hn]at ht hn0 h4 h0;obtain⟨e,he⟩:∃e,k % n=e:=⟨_,rfl⟩;obtain⟨j,hj⟩:∃j,k % 2=j:=⟨_,rfl⟩;rw[he]at ht;have hen:e<n:=by rw[←he];exact Nat.mod_lt _ (by omega)
 have her:e<r.length:=by omega
 have hge:r.getD e Qw=r[e]:=by simp[her]
 rw[hge]at ht;generalize hs:r[e]=s at *;have hes:=AL.eq_1 s;have a4:((k:Int).tmod n)=e:=by rw[Int.tmod_eq_emod_of_nonneg (by omega),←he];simp
 have a5:IntKind.i64.wrap ((e:Int)+1)=(e:Int)+1:=by rw[IntKind.wrap_i64];omega
 have a6:((k:Int).tmod 2)=j:=by rw[Int.tmod_eq_emod_of_nonneg (by omega)];omega
 have a6':(k:Int) % 2=j:=by omega
 have a7:IntKind.i64.wrap ((1:Int)+j)=1+j:=by rw[IntKind.wrap_i64];omega
 have hnz:¬n=0:=by omega
 refine Pure.AI func47 (by kernel_rfl) rfl (by simp) fun wf=>?_;rw[ntmps47];unfold pl;refine xW fun K hK=>?_;simp;apply hK;refine xW fun K hK=>?_;simp;apply hK;refine xS (xW fun K hK=>?_);simp[hn];apply hK;refine AU ?_;simp[hn0];refine xK ?_;refine xW fun K hK=>?_;simp[q2,w1,w2];apply hK;refine xS (xW fun K hK=>?_);simp[q1];apply hK;refine Bw ?_;refine xW fun K hK=>?_;simp;apply hK;refine AU ?_;simp;refine xW fun K hK=>?_;simp;apply hK;refine AU ?_;simp;refine xW fun K hK=>?_;simp;apply hK;refine AU ?_;simp;refine xW fun K hK=>?_;simp;apply hK;refine AU ?_;simp;refine xW fun K hK=>?_;simp;apply hK;refine AU ?_;simp;refine xW fun K hK=>?_;simp;apply hK;refine AU ?_;simp;refine xD [0,2,4,6,8,10,12,14] (by kernel_rfl) fun K hK=>?_;simp;refine xA 0 ?_;simp[hn,a4,hnz,hen,hs,hes,ht];refine xM (hK _ _ ?_);refine AU ?_;simp;refine CC ?_;refine xW fun K hK=>?_;simp;apply hK;refine Ag ⟨_,_,AJ.refl,?_⟩;try simp
theorem NQ(nm:ByteArray)(l:Int)(r:List Symbol)(c:AN)(k:Nat)(hk:8 * k+7<256)(h0:0<r.length)(h4:r.length≤4)(ht:(r.getD (k % r.length) Qw).token=true):Pure prog 47 [AH (pl nm l r c),.int .u8 (8 * k+7:Nat)] (AH {pl nm l r c with scope:=⟨false,0,0,(k % r.length:Nat)+1,1+(k % 7:Nat)⟩}):=by
 have hz:Av=⟨false,0,0,0,0⟩:=rfl;have hn0:¬r.length=0:=by omega
 have hne:r≠[]:=by intro e;simp[e]at h0
 obtain⟨m,hm⟩:∃m,8 * k+7=m:=⟨_,rfl⟩;rw[hm];have q1:((m:Int).tmod 8)=7:=by rw[Int.tmod_eq_emod_of_nonneg (by omega)];omega
 have q2:((m:Int).tdiv 8)=k:=by rw[Int.tdiv_eq_ediv_of_nonneg (by omega)];omega
 have q3:(m:Int) / 8=k:=by omega
 have q4:(m:Int) % 8=7:=by omega
 have w1:IntKind.u8.wrap (k:Int)=k:=by simp[IntKind.wrap,IntKind.signed,IntKind.bits];omega
 have w2:IntKind.i64.wrap (k:Int)=k:=by rw[IntKind.wrap_i64];omega
 obtain⟨n,hn⟩:∃n,r.length=n:=⟨_,rfl⟩;rw[hn]at ht hn0 h4 h0⊢;obtain⟨e,he⟩:∃e,k % n=e:=⟨_,rfl⟩;obtain⟨j,hj⟩:∃j,k % 7=j:=⟨_,rfl⟩;rw[he]at ht⊢;rw[hj];have hen:e<n:=by rw[←he];exact Nat.mod_lt _ (by omega)
 have her:e<r.length:=by omega
 have hge:r.getD e Qw=r[e]:=by simp[her]
 rw[hge]at ht;generalize hs:r[e]=s at *;have hes:=AL.eq_1 s;have a4:((k:Int).tmod n)=e:=by rw[Int.tmod_eq_emod_of_nonneg (by omega),←he];simp
 have a5:IntKind.i64.wrap ((e:Int)+1)=(e:Int)+1:=by rw[IntKind.wrap_i64];omega
 have a6:((k:Int).tmod 7)=j:=by rw[Int.tmod_eq_emod_of_nonneg (by omega)];omega
 have a6':(k:Int) % 7=j:=by omega
 have a7:IntKind.i64.wrap ((1:Int)+j)=1+j:=by rw[IntKind.wrap_i64];omega
 have hnz:¬n=0:=by omega
 refine Pure.AI func47 (by kernel_rfl) rfl (by simp) fun wf=>?_;rw[ntmps47];unfold pl;refine xW fun K hK=>?_;simp;apply hK;refine xW fun K hK=>?_;simp;apply hK;refine xS (xW fun K hK=>?_);simp[hn];apply hK;refine AU ?_;simp[hn0];refine xK ?_;refine xW fun K hK=>?_;simp[q2,w1,w2];apply hK;refine xS (xW fun K hK=>?_);simp[q1];apply hK;refine Bw ?_;refine xW fun K hK=>?_;simp;apply hK;refine AU ?_;simp;refine xW fun K hK=>?_;simp;apply hK;refine AU ?_;simp;refine xW fun K hK=>?_;simp;apply hK;refine AU ?_;simp;refine xW fun K hK=>?_;simp;apply hK;refine AU ?_;simp;refine xW fun K hK=>?_;simp;apply hK;refine AU ?_;simp;refine xW fun K hK=>?_;simp;apply hK;refine AU ?_;simp;refine xW fun K hK=>?_;simp;apply hK;refine AU ?_;simp;refine xD [0,2,4,6,8,10,12,14] (by kernel_rfl) fun K hK=>?_;simp;refine xA 0 ?_;simp[hn,a4,hnz,hen,hs,hes,ht];refine xM (hK _ _ ?_);refine AU ?_;simp;refine xV fun K hK=>?_;simp[a4,a5,a6,a7,hnz];apply hK;refine xW fun K hK=>?_;simp;apply hK;refine Ag ⟨_,_,AJ.refl,?_⟩;(try simp);simp[AH]
theorem NG(nm:ByteArray)(l:Int)(r:List Symbol)(c:AN)(k:Nat)(hk:8 * k+7<256)(h0:0<r.length)(h4:r.length≤4)(ht:(r.getD (k % r.length) Qw).token=false):Pure prog 47 [AH (pl nm l r c),.int .u8 (8 * k+7:Nat)] (AH (pl nm l r c)):=by
 have hz:Av=⟨false,0,0,0,0⟩:=rfl;have hn0:¬r.length=0:=by omega
 have hne:r≠[]:=by intro e;simp[e]at h0
 obtain⟨m,hm⟩:∃m,8 * k+7=m:=⟨_,rfl⟩;rw[hm];have q1:((m:Int).tmod 8)=7:=by rw[Int.tmod_eq_emod_of_nonneg (by omega)];omega
 have q2:((m:Int).tdiv 8)=k:=by rw[Int.tdiv_eq_ediv_of_nonneg (by omega)];omega
 have q3:(m:Int) / 8=k:=by omega
 have q4:(m:Int) % 8=7:=by omega
 have w1:IntKind.u8.wrap (k:Int)=k:=by simp[IntKind.wrap,IntKind.signed,IntKind.bits];omega
 have w2:IntKind.i64.wrap (k:Int)=k:=by rw[IntKind.wrap_i64];omega
 obtain⟨n,hn⟩:∃n,r.length=n:=⟨_,rfl⟩;rw[hn]at ht hn0 h4 h0;obtain⟨e,he⟩:∃e,k % n=e:=⟨_,rfl⟩;obtain⟨j,hj⟩:∃j,k % 7=j:=⟨_,rfl⟩;rw[he]at ht;have hen:e<n:=by rw[←he];exact Nat.mod_lt _ (by omega)
 have her:e<r.length:=by omega
 have hge:r.getD e Qw=r[e]:=by simp[her]
 rw[hge]at ht;generalize hs:r[e]=s at *;have hes:=AL.eq_1 s;have a4:((k:Int).tmod n)=e:=by rw[Int.tmod_eq_emod_of_nonneg (by omega),←he];simp
 have a5:IntKind.i64.wrap ((e:Int)+1)=(e:Int)+1:=by rw[IntKind.wrap_i64];omega
 have a6:((k:Int).tmod 7)=j:=by rw[Int.tmod_eq_emod_of_nonneg (by omega)];omega
 have a6':(k:Int) % 7=j:=by omega
 have a7:IntKind.i64.wrap ((1:Int)+j)=1+j:=by rw[IntKind.wrap_i64];omega
 have hnz:¬n=0:=by omega
 refine Pure.AI func47 (by kernel_rfl) rfl (by simp) fun wf=>?_;rw[ntmps47];unfold pl;refine xW fun K hK=>?_;simp;apply hK;refine xW fun K hK=>?_;simp;apply hK;refine xS (xW fun K hK=>?_);simp[hn];apply hK;refine AU ?_;simp[hn0];refine xK ?_;refine xW fun K hK=>?_;simp[q2,w1,w2];apply hK;refine xS (xW fun K hK=>?_);simp[q1];apply hK;refine Bw ?_;refine xW fun K hK=>?_;simp;apply hK;refine AU ?_;simp;refine xW fun K hK=>?_;simp;apply hK;refine AU ?_;simp;refine xW fun K hK=>?_;simp;apply hK;refine AU ?_;simp;refine xW fun K hK=>?_;simp;apply hK;refine AU ?_;simp;refine xW fun K hK=>?_;simp;apply hK;refine AU ?_;simp;refine xW fun K hK=>?_;simp;apply hK;refine AU ?_;simp;refine xW fun K hK=>?_;simp;apply hK;refine AU ?_;simp;refine xD [0,2,4,6,8,10,12,14] (by kernel_rfl) fun K hK=>?_;simp;refine xA 0 ?_;simp[hn,a4,hnz,hen,hs,hes,ht];refine xM (hK _ _ ?_);refine AU ?_;simp;refine CC ?_;refine xW fun K hK=>?_;simp;apply hK;refine Ag ⟨_,_,AJ.refl,?_⟩;try simp
open Go.Proofs
section
variable {P:Program} {n b:Nat} {ops:Array Oper} {o:Oper} {tm:Tm} {S:Sg} {K:Tm→Sg→Prop}
def Gr(i:Int):ByteArray:=ByteArray.empty.push (UInt8.ofNat i.toNat)
theorem Hm(i:Int):(Gr i).size=1:=by simp[Gr,ByteArray.size_push]
theorem Jc{T U E:TypeId}{x:Operand}{i:Int}{t e:TI}(ho:o.op=.convert T U x)(hx:need (ev tm x))(ex:strip (ev tm x)=.full [.int .u8 i])
  (ht:ti P T=some t) (hu:P.underlying U=some .string) (he:ti P E=some e) (kt:t.kind=.slice E) (ke:e.kind=.int .u8):Bv P n o tm S (.d (.str (Gr i))) S:=.pure fun G w a st=>by
 have h1:=(BH st x).strip hx;rw[ex]at h1;obtain⟨d,hd,hd'⟩:=Ai ht w;have hd2:(underlying U).run P w=.ok .string w:=by simp[underlying,hu]
 obtain⟨d3,hd3,hd3'⟩:=Ai he w;have:d=.slice E:=by rw[kt]at hd';cases d<;>simp[tk]at hd'⊢;exact hd'
 subst this;have:d3=.int .u8:=by rw[ke]at hd3';cases d3<;>simp[tk]at hd3'⊢;exact hd3'
 subst this;generalize hB:a.eval x=B at h1;cases h1 with
 |full _ base hc=>
  cases hc with
  |sl sz _ b off cap vs hI hl hcp g1 g2=>
   have q0:=g1 0 (by simp);simp only[List.getElem_cons_zero]at q0;have q1:vs 0=.int .u8 i:=by generalize vs 0=u at q0;cases q0;rfl
   obtain⟨r1,r2⟩:=g2 0 (by simp);have hsz:sz=1:=by rw[←r1,q1];rfl
   have hld:(loadCells ⟨b,off,none⟩ 1).run P w=.ok #[.int .u8 i] w:=run_loadCells _ rfl fun j hj=>by
    have:=r2 j (by omega);rw[q1,show(Value.int IntKind.u8 i).cells=#[.int .u8 i]from rfl]at this;have hj0:j=0:=by omega
    subst hj0;simpa using this
   refine⟨.string (Gr i),?_,.d _ _ (.str _ (by rw[Hm];unfold maxLen;omega))⟩;simp only[execOp,ho,convert,hB,hd,hd2,hd3,Sem.run_bind,Result.andThen_ok,Conv.bytesToString];simp[hld,Gr]
theorem AS.KJ{rest:List Oper}{T U:TypeId}{x:Operand}(E:TypeId)(i:Int)(ho:o.op=.convert T U x)(hp:o.guard=none∧A6 n o.dst∧need (ev tm x)∧strip (ev tm x)=.full [.int .u8 i]∧AAF P T=some E∧intKind P E=some .u8)
  (hu:P.underlying U=some .string) (h2:AS P n b ops rest (put tm o.dst (.d (.str (Gr i)))) S K):AS P n b ops (o::rest) tm S K:=by
 obtain⟨h3,h4,h5,h6,h7,h8⟩:=hp;obtain⟨t,t1,t2⟩:=BA h7;obtain⟨e,e1,e2⟩:=GQ h8;exact AS.Rm ⟨h3,h4⟩ (Jc ho h5 h6 t1 hu e1 t2 e2) h2
theorem Ae.KJ{B:List (Nat×(Sg→Prop))}{k:Nat}{rest:List (Nat×Bool×Oper)}{T U:TypeId}{x:Operand}(E:TypeId)(i:Int)(ho:o.op=.convert T U x)(hp:o.guard=none∧A6 n o.dst∧need (ev tm x)∧strip (ev tm x)=.full [.int .u8 i]∧AAF P T=some E∧intKind P E=some .u8)
  (hu:P.underlying U=some .string) (h2:Ae P n b ops ((k,fun _=>True)::B) rest (put tm o.dst (.d (.str (Gr i)))) S K):Ae P n b ops B ((k,true,o)::rest) tm S K:=by
 obtain⟨h3,h4,h5,h6,h7,h8⟩:=hp;obtain⟨t,t1,t2⟩:=BA h7;obtain⟨e,e1,e2⟩:=GQ h8;refine Ae.quiet (fun _=>True) trivial (fun hi S' _=>fun tm' hh=>?_) h2;have h1:ev tm' x=ev tm x:=Fy hh x (by rw[ho];simp[Op.operands]);exact Step.Hd hi h4 h3 (Jc ho (by rw[h1];exact h5) (by rw[h1];exact h6) t1 hu e1 t2 e2)
theorem Ae.al{B:List (Nat×(Sg→Prop))}{i:Nat}{rest:List (Nat×Bool×Oper)}{c:Call}{f:FuncId}{args:List V}{v:V}(h:AE P f args [] v [])(ho:o.op=.call c)
  (hp:o.guard=none∧A6 n o.dst∧A5 tm c∧AA2 tm c f args∧args.all (AAB 0)=true∧AAB 0 v=true) (h2:Ae P n b ops ((i,fun _=>True)::B) rest (put tm o.dst v) S K):Ae P n b ops B ((i,true,o)::rest) tm S K:=by
 obtain⟨h3,h4,h5,h6,h7,h8⟩:=hp;exact Ae.quiet (fun _=>True) trivial (fun hi S' _=>A7.call hi ho h3 h4 (D6 h6) h5 (h.M5 h8 h7)) h2
end
end Go.Koi
