/-
  Part 32 of the proof that the law ChangeCommutes of the package koinelaw31 returns true for every input.
-/
import Derived.Test.YtdhbnplflgihpaaGreatDoorK30
set_option maxHeartbeats 64000000
set_option maxRecDepth 100000
namespace Go.Koi
open Go.Proofs Tryz
def pl(nm:ByteArray)(l:Int)(r:List Symbol)(c:AN):AT:=⟨nm,l,r,c,false,0,[],Av⟩
theorem OA(nm:ByteArray)(l:Int)(c:AN)(m:Nat):Pure prog 53 [AH (pl nm l [] c),.int .u8 m] (AH (pl nm l [] c)):=by
 refine Pure.AI func53 (by kernel_rfl) rfl (by simp) fun wf=>?_;rw[ntmps53];unfold pl;refine xW fun K hK=>?_;simp;apply hK;refine xW fun K hK=>?_;simp;apply hK;refine xS (xW fun K hK=>?_);simp;apply hK;refine AU ?_;simp;refine xW fun K hK=>?_;simp;apply hK;refine Ag ⟨_,_,AJ.refl,?_⟩;try simp
theorem Oo(nm:ByteArray)(l:Int)(r:List Symbol)(c:AN)(k:Nat)(hk:8 * k+0<256)(h0:0<r.length)(h4:r.length≤4):Pure prog 53 [AH (pl nm l r c),.int .u8 (8 * k+0:Nat)] (AH (pl nm l r c)):=by
 have hz:Av=⟨false,0,0,0,0⟩:=rfl;have hn0:¬r.length=0:=by omega
 have hne:r≠[]:=by intro e;simp[e]at h0
 obtain⟨m,hm⟩:∃m,8 * k+0=m:=⟨_,rfl⟩;rw[hm];have q1:((m:Int).tmod 8)=0:=by rw[Int.tmod_eq_emod_of_nonneg (by omega)];omega
 have q2:((m:Int).tdiv 8)=k:=by rw[Int.tdiv_eq_ediv_of_nonneg (by omega)];omega
 have q3:(m:Int) / 8=k:=by omega
 have q4:(m:Int) % 8=0:=by omega
 have w1:IntKind.u8.wrap (k:Int)=k:=by simp[IntKind.wrap,IntKind.signed,IntKind.bits];omega
 have w2:IntKind.i64.wrap (k:Int)=k:=by rw[IntKind.wrap_i64];omega
 refine Pure.AI func53 (by kernel_rfl) rfl (by simp) fun wf=>?_;rw[ntmps53];unfold pl;refine xW fun K hK=>?_;simp;apply hK;refine xW fun K hK=>?_;simp;apply hK;refine xS (xW fun K hK=>?_);simp;apply hK;refine AU ?_;simp[hn0];refine xK ?_;refine xW fun K hK=>?_;simp[q2,w1,w2];apply hK;refine xS (xW fun K hK=>?_);simp[q1];apply hK;refine Bw ?_;refine xW fun K hK=>?_;simp;apply hK;refine AU ?_;simp;refine xW fun K hK=>?_;simp;apply hK;refine AU ?_;simp;refine xW fun K hK=>?_;simp;apply hK;refine AU ?_;simp;refine xW fun K hK=>?_;simp;apply hK;refine AU ?_;simp;refine xW fun K hK=>?_;simp;apply hK;refine AU ?_;simp;refine xW fun K hK=>?_;simp;apply hK;refine AU ?_;simp;refine xW fun K hK=>?_;simp;apply hK;refine AU ?_;simp;refine CC ?_;refine xW fun K hK=>?_;simp;apply hK;refine Ag ⟨_,_,AJ.refl,?_⟩;try simp
theorem PS(nm:ByteArray)(l:Int)(r:List Symbol)(c:AN)(k:Nat)(hk:8 * k+1<256)(h0:0<r.length)(h4:r.length≤4):Pure prog 53 [AH (pl nm l r c),.int .u8 (8 * k+1:Nat)] (AH {pl nm l r c with Di:=1}):=by
 have hz:Av=⟨false,0,0,0,0⟩:=rfl;have hn0:¬r.length=0:=by omega
 have hne:r≠[]:=by intro e;simp[e]at h0
 obtain⟨m,hm⟩:∃m,8 * k+1=m:=⟨_,rfl⟩;rw[hm];have q1:((m:Int).tmod 8)=1:=by rw[Int.tmod_eq_emod_of_nonneg (by omega)];omega
 have q2:((m:Int).tdiv 8)=k:=by rw[Int.tdiv_eq_ediv_of_nonneg (by omega)];omega
 have q3:(m:Int) / 8=k:=by omega
 have q4:(m:Int) % 8=1:=by omega
 have w1:IntKind.u8.wrap (k:Int)=k:=by simp[IntKind.wrap,IntKind.signed,IntKind.bits];omega
 have w2:IntKind.i64.wrap (k:Int)=k:=by rw[IntKind.wrap_i64];omega
 refine Pure.AI func53 (by kernel_rfl) rfl (by simp) fun wf=>?_;rw[ntmps53];unfold pl;refine xW fun K hK=>?_;simp;apply hK;refine xW fun K hK=>?_;simp;apply hK;refine xS (xW fun K hK=>?_);simp;apply hK;refine AU ?_;simp[hn0];refine xK ?_;refine xW fun K hK=>?_;simp[q2,w1,w2];apply hK;refine xS (xW fun K hK=>?_);simp[q1];apply hK;refine Bw ?_;refine xW fun K hK=>?_;simp;apply hK;refine AU ?_;simp;refine xV fun K hK=>?_;simp;apply hK;refine xW fun K hK=>?_;simp;apply hK;refine Ag ⟨_,_,AJ.refl,?_⟩;(try simp);simp[AH,Av]
theorem Po(nm:ByteArray)(l:Int)(r:List Symbol)(c:AN)(k:Nat)(hk:8 * k+2<256)(h0:0<r.length)(h4:r.length≤4):Pure prog 53 [AH (pl nm l r c),.int .u8 (8 * k+2:Nat)] (AH {pl nm l r c with Di:=-1}):=by
 have hz:Av=⟨false,0,0,0,0⟩:=rfl;have hn0:¬r.length=0:=by omega
 have hne:r≠[]:=by intro e;simp[e]at h0
 obtain⟨m,hm⟩:∃m,8 * k+2=m:=⟨_,rfl⟩;rw[hm];have q1:((m:Int).tmod 8)=2:=by rw[Int.tmod_eq_emod_of_nonneg (by omega)];omega
 have q2:((m:Int).tdiv 8)=k:=by rw[Int.tdiv_eq_ediv_of_nonneg (by omega)];omega
 have q3:(m:Int) / 8=k:=by omega
 have q4:(m:Int) % 8=2:=by omega
 have w1:IntKind.u8.wrap (k:Int)=k:=by simp[IntKind.wrap,IntKind.signed,IntKind.bits];omega
 have w2:IntKind.i64.wrap (k:Int)=k:=by rw[IntKind.wrap_i64];omega
 refine Pure.AI func53 (by kernel_rfl) rfl (by simp) fun wf=>?_;rw[ntmps53];unfold pl;refine xW fun K hK=>?_;simp;apply hK;refine xW fun K hK=>?_;simp;apply hK;refine xS (xW fun K hK=>?_);simp;apply hK;refine AU ?_;simp[hn0];refine xK ?_;refine xW fun K hK=>?_;simp[q2,w1,w2];apply hK;refine xS (xW fun K hK=>?_);simp[q1];apply hK;refine Bw ?_;refine xW fun K hK=>?_;simp;apply hK;refine AU ?_;simp;refine xW fun K hK=>?_;simp;apply hK;refine AU ?_;simp;refine xV fun K hK=>?_;simp;apply hK;refine xW fun K hK=>?_;simp;apply hK;refine Ag ⟨_,_,AJ.refl,?_⟩;(try simp);simp[AH,Av]
theorem Pt(nm:ByteArray)(l:Int)(r:List Symbol)(c:AN)(k:Nat)(hk:8 * k+3<256)(h0:0<r.length)(h4:r.length≤4):Pure prog 53 [AH (pl nm l r c),.int .u8 (8 * k+3:Nat)] (AH {pl nm l r c with bracket:=SE l r}):=by
 have hz:Av=⟨false,0,0,0,0⟩:=rfl;have hn0:¬r.length=0:=by omega
 have hne:r≠[]:=by intro e;simp[e]at h0
 obtain⟨m,hm⟩:∃m,8 * k+3=m:=⟨_,rfl⟩;rw[hm];have q1:((m:Int).tmod 8)=3:=by rw[Int.tmod_eq_emod_of_nonneg (by omega)];omega
 have q2:((m:Int).tdiv 8)=k:=by rw[Int.tdiv_eq_ediv_of_nonneg (by omega)];omega
 have q3:(m:Int) / 8=k:=by omega
 have q4:(m:Int) % 8=3:=by omega
 have w1:IntKind.u8.wrap (k:Int)=k:=by simp[IntKind.wrap,IntKind.signed,IntKind.bits];omega
 have w2:IntKind.i64.wrap (k:Int)=k:=by rw[IntKind.wrap_i64];omega
 have hb:=O7 nm l r c true;rw[hz]at hb;refine Pure.AI func53 (by kernel_rfl) rfl (by simp) fun wf=>?_;rw[ntmps53];unfold pl;refine xW fun K hK=>?_;simp;apply hK;refine xW fun K hK=>?_;simp;apply hK;refine xS (xW fun K hK=>?_);simp;apply hK;refine AU ?_;simp[hn0];refine xK ?_;refine xW fun K hK=>?_;simp[q2,w1,w2];apply hK;refine xS (xW fun K hK=>?_);simp[q1];apply hK;refine Bw ?_;refine xW fun K hK=>?_;simp;apply hK;refine AU ?_;simp;refine xW fun K hK=>?_;simp;apply hK;refine AU ?_;simp;refine xW fun K hK=>?_;simp;apply hK;refine AU ?_;simp;refine xW fun K hK=>?_;simp[hz];apply hK;refine BX fun K hK=>?_;refine xJ ?_;simp;refine Bp (hb) rfl (by simp[xN]) ?_;simp;refine xJ ?_;simp;refine Aj (hK _ _ ?_);refine xW fun K hK=>?_;simp;apply hK;refine Ag ⟨_,_,AJ.refl,?_⟩;(try simp);simp[AH,Av]
theorem PK(nm:ByteArray)(l:Int)(r:List Symbol)(c:AN)(k:Nat)(hk:8 * k+4<256)(h0:0<r.length)(h4:r.length≤4):Pure prog 53 [AH (pl nm l r c),.int .u8 (8 * k+4:Nat)] (AH {pl nm l r c with layout:=[⟨1+(k % 4:Nat),(k / 4 % r.length:Nat),if k % 4=0 then 0 else(r.length:Int) - 1⟩]}):=by
 have hz:Av=⟨false,0,0,0,0⟩:=rfl;have hn0:¬r.length=0:=by omega
 have hne:r≠[]:=by intro e;simp[e]at h0
 obtain⟨m,hm⟩:∃m,8 * k+4=m:=⟨_,rfl⟩;rw[hm];have q1:((m:Int).tmod 8)=4:=by rw[Int.tmod_eq_emod_of_nonneg (by omega)];omega
 have q2:((m:Int).tdiv 8)=k:=by rw[Int.tdiv_eq_ediv_of_nonneg (by omega)];omega
 have q3:(m:Int) / 8=k:=by omega
 have q4:(m:Int) % 8=4:=by omega
 have w1:IntKind.u8.wrap (k:Int)=k:=by simp[IntKind.wrap,IntKind.signed,IntKind.bits];omega
 have w2:IntKind.i64.wrap (k:Int)=k:=by rw[IntKind.wrap_i64];omega
 obtain⟨n,hn⟩:∃n,r.length=n:=⟨_,rfl⟩;obtain⟨j,hj⟩:∃j,k % 4=j:=⟨_,rfl⟩;obtain⟨d,hd⟩:∃d,k / 4=d:=⟨_,rfl⟩;obtain⟨e,he⟩:∃e,d % n=e:=⟨_,rfl⟩;have hen:e<n:=by rw[←he];exact Nat.mod_lt _ (by omega)
 have a1:((k:Int).tmod 4)=j:=by rw[Int.tmod_eq_emod_of_nonneg (by omega)];omega
 have a1':(k:Int) % 4=j:=by omega
 have a2:IntKind.i64.wrap ((1:Int)+j)=1+j:=by rw[IntKind.wrap_i64];omega
 have a3:((k:Int).tdiv 4)=d:=by rw[Int.tdiv_eq_ediv_of_nonneg (by omega)];omega
 have a3':(k:Int) / 4=d:=by omega
 have a3w:IntKind.i64.wrap (d:Int)=d:=by rw[IntKind.wrap_i64];omega
 have a4:((d:Int).tmod n)=e:=by rw[Int.tmod_eq_emod_of_nonneg (by omega),←he];simp
 have a5:IntKind.i64.wrap ((n:Int) - 1)=(n:Int) - 1:=by rw[IntKind.wrap_i64];omega
 have hnz:¬n=0:=by omega
 have h1m:1≤maxLen:=by unfold maxLen;omega
 rw[hj,hd,hn,he];refine Pure.AI func53 (by kernel_rfl) rfl (by simp) fun wf=>?_;rw[ntmps53];unfold pl;refine xW fun K hK=>?_;simp;apply hK;refine xW fun K hK=>?_;simp;apply hK;refine xS (xW fun K hK=>?_);simp;apply hK;refine AU ?_;simp[hn0];refine xK ?_;refine xW fun K hK=>?_;simp[q2,w1,w2];apply hK;refine xS (xW fun K hK=>?_);simp[q1];apply hK;refine Bw ?_;refine xW fun K hK=>?_;simp;apply hK;refine AU ?_;simp;refine xW fun K hK=>?_;simp;apply hK;refine AU ?_;simp;refine xW fun K hK=>?_;simp;apply hK;refine AU ?_;simp;refine xW fun K hK=>?_;simp;apply hK;refine AU ?_;simp;refine Az fun K hK=>?_;(iterate 10 (refine B7 (by simp[hnz]) ?_;simp[hn,a1,a2,a3,a3w,a4,a5]));((refine AS.Gi rfl ?_ ?_);(focus(simp[sizesOK,maxLen];done));simp);refine xJ ?_;simp;refine Aj (hK _ _ ?_);(repeat refine xS ?_);refine xV fun K hK=>?_;simp[a1];refine hK _ _ ?_;(try simp only[xQ,reduceIte]);by_cases hj0:j=0
 ·refine AU ?_;simp[hj0];refine xV fun K hK=>?_;simp;apply hK;refine xW fun K hK=>?_;simp;apply hK;refine Ag ?_;(try simp only[xQ,reduceIte]);refine⟨_,_,AJ.B6 2 (xs:=[A0 ⟨1+j,e,0⟩]) rfl (by simp[A0,allD,asDs,asD1,hj0]),?_⟩;simp[asD,AH,A0,Av,hj0]
 ·have hj0':¬(j:Int)=0:=by omega
  refine AU ?_;simp[hj0];refine CC ?_;refine xW fun K hK=>?_;simp;apply hK;refine Ag ?_;(try simp only[xQ,reduceIte]);refine⟨_,_,AJ.B6 2 (xs:=[A0 ⟨1+j,e,n - 1⟩]) rfl (by simp[A0,allD,asDs,asD1]),?_⟩;simp[asD,AH,A0,Av]
theorem Pj(nm:ByteArray)(l:Int)(r:List Symbol)(c:AN)(k:Nat)(hk:8 * k+5<256)(h0:0<r.length)(h4:r.length≤4):Pure prog 53 [AH (pl nm l r c),.int .u8 (8 * k+5:Nat)] (AH {pl nm l r c with scope:=⟨true,0,0,0,0⟩}):=by
 have hz:Av=⟨false,0,0,0,0⟩:=rfl;have hn0:¬r.length=0:=by omega
 have hne:r≠[]:=by intro e;simp[e]at h0
 obtain⟨m,hm⟩:∃m,8 * k+5=m:=⟨_,rfl⟩;rw[hm];have q1:((m:Int).tmod 8)=5:=by rw[Int.tmod_eq_emod_of_nonneg (by omega)];omega
 have q2:((m:Int).tdiv 8)=k:=by rw[Int.tdiv_eq_ediv_of_nonneg (by omega)];omega
 have q3:(m:Int) / 8=k:=by omega
 have q4:(m:Int) % 8=5:=by omega
 have w1:IntKind.u8.wrap (k:Int)=k:=by simp[IntKind.wrap,IntKind.signed,IntKind.bits];omega
 have w2:IntKind.i64.wrap (k:Int)=k:=by rw[IntKind.wrap_i64];omega
 refine Pure.AI func53 (by kernel_rfl) rfl (by simp) fun wf=>?_;rw[ntmps53];unfold pl;refine xW fun K hK=>?_;simp;apply hK;refine xW fun K hK=>?_;simp;apply hK;refine xS (xW fun K hK=>?_);simp;apply hK;refine AU ?_;simp[hn0];refine xK ?_;refine xW fun K hK=>?_;simp[q2,w1,w2];apply hK;refine xS (xW fun K hK=>?_);simp[q1];apply hK;refine Bw ?_;refine xW fun K hK=>?_;simp;apply hK;refine AU ?_;simp;refine xW fun K hK=>?_;simp;apply hK;refine AU ?_;simp;refine xW fun K hK=>?_;simp;apply hK;refine AU ?_;simp;refine xW fun K hK=>?_;simp;apply hK;refine AU ?_;simp;refine xW fun K hK=>?_;simp;apply hK;refine AU ?_;simp;refine xV fun K hK=>?_;simp;apply hK;refine xW fun K hK=>?_;simp;apply hK;refine Ag ⟨_,_,AJ.refl,?_⟩;(try simp);simp[AH,Av]
theorem OM(nm:ByteArray)(l:Int)(r:List Symbol)(c:AN)(k:Nat)(hk:8 * k+6<256)(h0:0<r.length)(h4:r.length≤4)(ht:(r.getD (k % r.length) Qw).token=true):Pure prog 53 [AH (pl nm l r c),.int .u8 (8 * k+6:Nat)] (AH {pl nm l r c with scope:=⟨false,(k % r.length:Nat)+1,1+(k % 2:Nat),0,0⟩}):=by
 have hz:Av=⟨false,0,0,0,0⟩:=rfl;have hn0:¬r.length=0:=by omega
 have hne:r≠[]:=by intro e;simp[e]at h0
 obtain⟨m,hm⟩:∃m,8 * k+6=m:=⟨_,rfl⟩;rw[hm];have q1:((m:Int).tmod 8)=6:=by rw[Int.tmod_eq_emod_of_nonneg (by omega)];omega
 have q2:((m:Int).tdiv 8)=k:=by rw[Int.tdiv_eq_ediv_of_nonneg (by omega)];omega
 have q3:(m:Int) / 8=k:=by omega
 have q4:(m:Int) % 8=6:=by omega
 have w1:IntKind.u8.wrap (k:Int)=k:=by simp[IntKind.wrap,IntKind.signed,IntKind.bits];omega
 have w2:IntKind.i64.wrap (k:Int)=k:=by rw[IntKind.wrap_i64];omega
 obtain⟨n,hn⟩:∃n,r.length=n:=⟨_,rfl⟩;rw[hn]at ht hn0 h4 h0⊢;obtain⟨e,he⟩:∃e,k % n=e:=⟨_,rfl⟩;obtain⟨j,hj⟩:∃j,k % 2=j:=⟨_,rfl⟩;rw[he]at ht⊢;rw[hj];have hen:e<n:=by rw[←he];exact Nat.mod_lt _ (by omega)
 have her:e<r.length:=by omega
 have hge:r.getD e Qw=r[e]:=by simp[her]
 rw[hge]at ht;generalize hs:r[e]=s at *;have hes:=AL.eq_1 s;have a4:((k:Int).tmod n)=e:=by rw[Int.tmod_eq_emod_of_nonneg (by omega),←he];simp
 have a5:IntKind.i64.wrap ((e:Int)+1)=(e:Int)+1:=by rw[IntKind.wrap_i64];omega
 have a6:((k:Int).tmod 2)=j:=by rw[Int.tmod_eq_emod_of_nonneg (by omega)];omega
 have a6':(k:Int) % 2=j:=by omega
 have a7:IntKind.i64.wrap ((1:Int)+j)=1+j:=by rw[IntKind.wrap_i64];omega
 have hnz:¬n=0:=by omega
 refine Pure.AI func53 (by kernel_rfl) rfl (by simp) fun wf=>?_;rw[ntmps53];unfold pl;refine xW fun K hK=>?_;simp;apply hK;refine xW fun K hK=>?_;simp;apply hK;refine xS (xW fun K hK=>?_);simp[hn];apply hK;refine AU ?_;simp[hn0];refine xK ?_;refine xW fun K hK=>?_;simp[q2,w1,w2];apply hK;refine xS (xW fun K hK=>?_);simp[q1];apply hK;refine Bw ?_;refine xW fun K hK=>?_;simp;apply hK;refine AU ?_;simp;refine xW fun K hK=>?_;simp;apply hK;refine AU ?_;simp;refine xW fun K hK=>?_;simp;apply hK;refine AU ?_;simp;refine xW fun K hK=>?_;simp;apply hK;refine AU ?_;simp;refine xW fun K hK=>?_;simp;apply hK;refine AU ?_;simp;refine xW fun K hK=>?_;simp;apply hK;refine AU ?_;simp;refine xD [0,2,4,6,8,10,12,14] (by kernel_rfl) fun K hK=>?_;simp;refine xA 0 ?_;simp[hn,a4,hnz,hen,hs,hes,ht];refine xM (hK _ _ ?_);refine AU ?_;simp;refine xV fun K hK=>?_;simp[a4,a5,a6,a7,hnz];apply hK;refine xW fun K hK=>?_;simp;apply hK;refine Ag ⟨_,_,AJ.refl,?_⟩;(try simp);simp[AH]
theorem OH(nm:ByteArray)(l:Int)(r:List Symbol)(c:AN)(k:Nat)(hk:8 * k+6<256)(h0:0<r.length)(h4:r.length≤4)(ht:(r.getD (k % r.length) Qw).token=false):Pure prog 53 [AH (pl nm l r c),.int .u8 (8 * k+6:Nat)] (AH (pl nm l r c)):=by
 have hz:Av=⟨false,0,0,0,0⟩:=rfl;have hn0:¬r.length=0:=by omega
 have hne:r≠[]:=by intro e;simp[e]at h0
 obtain⟨m,hm⟩:∃m,8 * k+6=m:=⟨_,rfl⟩;rw[hm];have q1:((m:Int).tmod 8)=6:=by rw[Int.tmod_eq_emod_of_nonneg (by omega)];omega
 have q2:((m:Int).tdiv 8)=k:=by rw[Int.tdiv_eq_ediv_of_nonneg (by omega)];omega
 have q3:(m:Int) / 8=k:=by omega
 have q4:(m:Int) % 8=6:=by omega
 have w1:IntKind.u8.wrap (k:Int)=k:=by simp[IntKind.wrap,IntKind.signed,IntKind.bits];omega
 have w2:IntKind.i64.wrap (k:Int)=k:=by rw[IntKind.wrap_i64];omega
 obtain⟨n,hn⟩:∃n,r.length=n:=⟨_,rfl⟩;rw[hn]at ht hn0 h4 h0;obtain⟨e,he⟩:∃e,k % n=e:=⟨_,rfl⟩;obtain⟨j,hj⟩:∃j,k % 2=j:=⟨_,rfl⟩;rw[he]at ht;have hen:e<n:=by rw[←he];exact Nat.mod_lt _ (by omega)
 have her:e<r.length:=by omega
 have hge:r.getD e Qw=r[e]:=by simp[her]
 rw[hge]at ht;generalize hs:r[e]=s at *;have hes:=AL.eq_1 s;have a4:((k:Int).tmod n)=e:=by rw[Int.tmod_eq_emod_of_nonneg (by omega),←he];simp
 have a5:IntKind.i64.wrap ((e:Int)+1)=(e:Int)+1:=by rw[IntKind.wrap_i64];omega
 have a6:((k:Int).tmod 2)=j:=by rw[Int.tmod_eq_emod_of_nonneg (by omega)];omega
 have a6':(k:Int) % 2=j:=by omega
 have a7:IntKind.i64.wrap ((1:Int)+j)=1+j:=by rw[IntKind.wrap_i64];omega
 have hnz:¬n=0:=by omega
 refine Pure.AI func53 (by kernel_rfl) rfl (by simp) fun wf=>?_;rw[ntmps53];unfold pl;refine xW fun K hK=>?_;simp;apply hK;refine xW fun K hK=>?_;simp;apply hK;refine xS (xW fun K hK=>?_);simp[hn];apply hK;refine AU ?_;simp[hn0];refine xK ?_;refine xW fun K hK=>?_;simp[q2,w1,w2];apply hK;refine xS (xW fun K hK=>?_);simp[q1];apply hK;refine Bw ?_;refine xW fun K hK=>?_;simp;apply hK;refine AU ?_;simp;refine xW fun K hK=>?_;simp;apply hK;refine AU ?_;simp;refine xW fun K hK=>?_;simp;apply hK;refine AU ?_;simp;refine xW fun K hK=>?_;simp;apply hK;refine AU ?_;simp;refine xW fun K hK=>?_;simp;apply hK;refine AU ?_;simp;refine xW fun K hK=>?_;simp;apply hK;refine AU ?_;simp;refine xD [0,2,4,6,8,10,12,14] (by kernel_rfl) fun K hK=>?_;simp;refine xA 0 ?_;simp[hn,a4,hnz,hen,hs,hes,ht];refine xM (hK _ _ ?_);refine AU ?_;simp;refine CC ?_;refine xW fun K hK=>?_;simp;apply hK;refine Ag ⟨_,_,AJ.refl,?_⟩;try simp
theorem NQ(nm:ByteArray)(l:Int)(r:List Symbol)(c:AN)(k:Nat)(hk:8 * k+7<256)(h0:0<r.length)(h4:r.length≤4)(ht:(r.getD (k % r.length) Qw).token=true):Pure prog 53 [AH (pl nm l r c),.int .u8 (8 * k+7:Nat)] (AH {pl nm l r c with scope:=⟨false,0,0,(k % r.length:Nat)+1,1+(k % 7:Nat)⟩}):=by
 have hz:Av=⟨false,0,0,0,0⟩:=rfl;have hn0:¬r.length=0:=by omega
 have hne:r≠[]:=by intro e;simp[e]at h0
 obtain⟨m,hm⟩:∃m,8 * k+7=m:=⟨_,rfl⟩;rw[hm];have q1:((m:Int).tmod 8)=7:=by rw[Int.tmod_eq_emod_of_nonneg (by omega)];omega
 have q2:((m:Int).tdiv 8)=k:=by rw[Int.tdiv_eq_ediv_of_nonneg (by omega)];omega
 have q3:(m:Int) / 8=k:=by omega
 have q4:(m:Int) % 8=7:=by omega
 have w1:IntKind.u8.wrap (k:Int)=k:=by simp[IntKind.wrap,IntKind.signed,IntKind.bits];omega
 have w2:IntKind.i64.wrap (k:Int)=k:=by rw[IntKind.wrap_i64];omega
 obtain⟨n,hn⟩:∃n,r.length=n:=⟨_,rfl⟩;rw[hn]at ht hn0 h4 h0⊢;obtain⟨e,he⟩:∃e,k % n=e:=⟨_,rfl⟩;obtain⟨j,hj⟩:∃j,k % 7=j:=⟨_,rfl⟩;rw[he]at ht⊢;rw[hj];have hen:e<n:=by rw[←he];exact Nat.mod_lt _ (by omega)
 have her:e<r.length:=by omega
 have hge:r.getD e Qw=r[e]:=by simp[her]
 rw[hge]at ht;generalize hs:r[e]=s at *;have hes:=AL.eq_1 s;have a4:((k:Int).tmod n)=e:=by rw[Int.tmod_eq_emod_of_nonneg (by omega),←he];simp
 have a5:IntKind.i64.wrap ((e:Int)+1)=(e:Int)+1:=by rw[IntKind.wrap_i64];omega
 have a6:((k:Int).tmod 7)=j:=by rw[Int.tmod_eq_emod_of_nonneg (by omega)];omega
 have a6':(k:Int) % 7=j:=by omega
 have a7:IntKind.i64.wrap ((1:Int)+j)=1+j:=by rw[IntKind.wrap_i64];omega
 have hnz:¬n=0:=by omega
 refine Pure.AI func53 (by kernel_rfl) rfl (by simp) fun wf=>?_;rw[ntmps53];unfold pl;refine xW fun K hK=>?_;simp;apply hK;refine xW fun K hK=>?_;simp;apply hK;refine xS (xW fun K hK=>?_);simp[hn];apply hK;refine AU ?_;simp[hn0];refine xK ?_;refine xW fun K hK=>?_;simp[q2,w1,w2];apply hK;refine xS (xW fun K hK=>?_);simp[q1];apply hK;refine Bw ?_;refine xW fun K hK=>?_;simp;apply hK;refine AU ?_;simp;refine xW fun K hK=>?_;simp;apply hK;refine AU ?_;simp;refine xW fun K hK=>?_;simp;apply hK;refine AU ?_;simp;refine xW fun K hK=>?_;simp;apply hK;refine AU ?_;simp;refine xW fun K hK=>?_;simp;apply hK;refine AU ?_;simp;refine xW fun K hK=>?_;simp;apply hK;refine AU ?_;simp;refine xW fun K hK=>?_;simp;apply hK;refine AU ?_;simp;refine xD [0,2,4,6,8,10,12,14] (by kernel_rfl) fun K hK=>?_;simp;refine xA 0 ?_;simp[hn,a4,hnz,hen,hs,hes,ht];refine xM (hK _ _ ?_);refine AU ?_;simp;refine xV fun K hK=>?_;simp[a4,a5,a6,a7,hnz];apply hK;refine xW fun K hK=>?_;simp;apply hK;refine Ag ⟨_,_,AJ.refl,?_⟩;(try simp);simp[AH]
theorem NG(nm:ByteArray)(l:Int)(r:List Symbol)(c:AN)(k:Nat)(hk:8 * k+7<256)(h0:0<r.length)(h4:r.length≤4)(ht:(r.getD (k % r.length) Qw).token=false):Pure prog 53 [AH (pl nm l r c),.int .u8 (8 * k+7:Nat)] (AH (pl nm l r c)):=by
 have hz:Av=⟨false,0,0,0,0⟩:=rfl;have hn0:¬r.length=0:=by omega
 have hne:r≠[]:=by intro e;simp[e]at h0
 obtain⟨m,hm⟩:∃m,8 * k+7=m:=⟨_,rfl⟩;rw[hm];have q1:((m:Int).tmod 8)=7:=by rw[Int.tmod_eq_emod_of_nonneg (by omega)];omega
 have q2:((m:Int).tdiv 8)=k:=by rw[Int.tdiv_eq_ediv_of_nonneg (by omega)];omega
 have q3:(m:Int) / 8=k:=by omega
 have q4:(m:Int) % 8=7:=by omega
 have w1:IntKind.u8.wrap (k:Int)=k:=by simp[IntKind.wrap,IntKind.signed,IntKind.bits];omega
 have w2:IntKind.i64.wrap (k:Int)=k:=by rw[IntKind.wrap_i64];omega
 obtain⟨n,hn⟩:∃n,r.length=n:=⟨_,rfl⟩;rw[hn]at ht hn0 h4 h0;obtain⟨e,he⟩:∃e,k % n=e:=⟨_,rfl⟩;obtain⟨j,hj⟩:∃j,k % 7=j:=⟨_,rfl⟩;rw[he]at ht;have hen:e<n:=by rw[←he];exact Nat.mod_lt _ (by omega)
 have her:e<r.length:=by omega
 have hge:r.getD e Qw=r[e]:=by simp[her]
 rw[hge]at ht;generalize hs:r[e]=s at *;have hes:=AL.eq_1 s;have a4:((k:Int).tmod n)=e:=by rw[Int.tmod_eq_emod_of_nonneg (by omega),←he];simp
 have a5:IntKind.i64.wrap ((e:Int)+1)=(e:Int)+1:=by rw[IntKind.wrap_i64];omega
 have a6:((k:Int).tmod 7)=j:=by rw[Int.tmod_eq_emod_of_nonneg (by omega)];omega
 have a6':(k:Int) % 7=j:=by omega
 have a7:IntKind.i64.wrap ((1:Int)+j)=1+j:=by rw[IntKind.wrap_i64];omega
 have hnz:¬n=0:=by omega
 refine Pure.AI func53 (by kernel_rfl) rfl (by simp) fun wf=>?_;rw[ntmps53];unfold pl;refine xW fun K hK=>?_;simp;apply hK;refine xW fun K hK=>?_;simp;apply hK;refine xS (xW fun K hK=>?_);simp[hn];apply hK;refine AU ?_;simp[hn0];refine xK ?_;refine xW fun K hK=>?_;simp[q2,w1,w2];apply hK;refine xS (xW fun K hK=>?_);simp[q1];apply hK;refine Bw ?_;refine xW fun K hK=>?_;simp;apply hK;refine AU ?_;simp;refine xW fun K hK=>?_;simp;apply hK;refine AU ?_;simp;refine xW fun K hK=>?_;simp;apply hK;refine AU ?_;simp;refine xW fun K hK=>?_;simp;apply hK;refine AU ?_;simp;refine xW fun K hK=>?_;simp;apply hK;refine AU ?_;simp;refine xW fun K hK=>?_;simp;apply hK;refine AU ?_;simp;refine xW fun K hK=>?_;simp;apply hK;refine AU ?_;simp;refine xD [0,2,4,6,8,10,12,14] (by kernel_rfl) fun K hK=>?_;simp;refine xA 0 ?_;simp[hn,a4,hnz,hen,hs,hes,ht];refine xM (hK _ _ ?_);refine AU ?_;simp;refine CC ?_;refine xW fun K hK=>?_;simp;apply hK;refine Ag ⟨_,_,AJ.refl,?_⟩;try simp
open Go.Proofs
section
variable {P:Program} {n b:Nat} {ops:Array Oper} {o:Oper} {tm:Tm} {S:Sg} {K:Tm→Sg→Prop}
def Gr(i:Int):ByteArray:=ByteArray.empty.push (UInt8.ofNat i.toNat)
theorem Hm(i:Int):(Gr i).size=1:=by simp[Gr,ByteArray.size_push]
theorem Jc{T U E:TypeId}{x:Operand}{i:Int}{t e:TI}(ho:o.op=.convert T U x)(hx:need (ev tm x))(ex:strip (ev tm x)=.full [.int .u8 i])
  (ht:ti P T=some t) (hu:P.underlying U=some .string) (he:ti P E=some e) (kt:t.kind=.slice E) (ke:e.kind=.int .u8):Bv P n o tm S (.d (.str (Gr i))) S:=.pure fun G w a st=>by
 have h1:=(BH st x).strip hx;rw[ex]at h1;obtain⟨d,hd,hd'⟩:=Ai ht w;have hd2:(underlying U).run P w=.ok .string w:=by simp[underlying,hu]
 obtain⟨d3,hd3,hd3'⟩:=Ai he w;have:d=.slice E:=by rw[kt]at hd';cases d<;>simp[tk]at hd'⊢;exact hd'
 subst this;have:d3=.int .u8:=by rw[ke]at hd3';cases d3<;>simp[tk]at hd3'⊢;exact hd3'
 subst this;generalize hB:a.eval x=B at h1;cases h1 with
 |full _ base hc=>
  cases hc with
  |sl sz _ b off cap vs hI hl hcp g1 g2=>
   have q0:=g1 0 (by simp);simp only[List.getElem_cons_zero]at q0;have q1:vs 0=.int .u8 i:=by generalize vs 0=u at q0;cases q0;rfl
   obtain⟨r1,r2⟩:=g2 0 (by simp);have hsz:sz=1:=by rw[←r1,q1];rfl
   have hld:(loadCells ⟨b,off,none⟩ 1).run P w=.ok #[.int .u8 i] w:=run_loadCells _ rfl fun j hj=>by
    have:=r2 j (by omega);rw[q1,show(Value.int IntKind.u8 i).cells=#[.int .u8 i]from rfl]at this;have hj0:j=0:=by omega
    subst hj0;simpa using this
   refine⟨.string (Gr i),?_,.d _ _ (.str _ (by rw[Hm];unfold maxLen;omega))⟩;simp only[execOp,ho,convert,hB,hd,hd2,hd3,Sem.run_bind,Result.andThen_ok,Conv.bytesToString];simp[hld,Gr]
theorem AS.KJ{rest:List Oper}{T U:TypeId}{x:Operand}(E:TypeId)(i:Int)(ho:o.op=.convert T U x)(hp:o.guard=none∧A6 n o.dst∧need (ev tm x)∧strip (ev tm x)=.full [.int .u8 i]∧sliceElem P T=some E∧intKind P E=some .u8)
  (hu:P.underlying U=some .string) (h2:AS P n b ops rest (put tm o.dst (.d (.str (Gr i)))) S K):AS P n b ops (o::rest) tm S K:=by
 obtain⟨h3,h4,h5,h6,h7,h8⟩:=hp;obtain⟨t,t1,t2⟩:=BA h7;obtain⟨e,e1,e2⟩:=GQ h8;exact AS.Rm ⟨h3,h4⟩ (Jc ho h5 h6 t1 hu e1 t2 e2) h2
theorem Ae.KJ{B:List (Nat×(Sg→Prop))}{k:Nat}{rest:List (Nat×Bool×Oper)}{T U:TypeId}{x:Operand}(E:TypeId)(i:Int)(ho:o.op=.convert T U x)(hp:o.guard=none∧A6 n o.dst∧need (ev tm x)∧strip (ev tm x)=.full [.int .u8 i]∧sliceElem P T=some E∧intKind P E=some .u8)
  (hu:P.underlying U=some .string) (h2:Ae P n b ops ((k,fun _=>True)::B) rest (put tm o.dst (.d (.str (Gr i)))) S K):Ae P n b ops B ((k,true,o)::rest) tm S K:=by
 obtain⟨h3,h4,h5,h6,h7,h8⟩:=hp;obtain⟨t,t1,t2⟩:=BA h7;obtain⟨e,e1,e2⟩:=GQ h8;refine Ae.quiet (fun _=>True) trivial (fun hi S' _=>fun tm' hh=>?_) h2;have h1:ev tm' x=ev tm x:=Fy hh x (by rw[ho];simp[Op.operands]);exact Step.Hd hi h4 h3 (Jc ho (by rw[h1];exact h5) (by rw[h1];exact h6) t1 hu e1 t2 e2)
theorem Ae.al{B:List (Nat×(Sg→Prop))}{i:Nat}{rest:List (Nat×Bool×Oper)}{c:Call}{f:FuncId}{args:List V}{v:V}(h:AE P f args [] v [])(ho:o.op=.call c)
  (hp:o.guard=none∧A6 n o.dst∧A5 tm c∧calleeA tm c f args∧args.all (belowV 0)=true∧belowV 0 v=true) (h2:Ae P n b ops ((i,fun _=>True)::B) rest (put tm o.dst v) S K):Ae P n b ops B ((i,true,o)::rest) tm S K:=by
 obtain⟨h3,h4,h5,h6,h7,h8⟩:=hp;exact Ae.quiet (fun _=>True) trivial (fun hi S' _=>A7.call hi ho h3 h4 (D6 h6) h5 (h.M5 h8 h7)) h2
end
open Go.Proofs Tryz
def OB(n:ByteArray)(l:Int):V:=.agg [.d (.str n),.d (.int .i64 l),.full [],.d (.sl []),.d (.int .i64 1),.d (.bool false),.d (.int .i64 0),.full [],.d (.bool false),.d (.int .i64 0),.d (.int .i64 0),.d (.int .i64 0),.d (.int .i64 0)]
theorem Ud(n:ByteArray)(l:Int):AE prog 12 [.d (.str n),.d (.int .i64 l),.full []] [] (OB n l) [.row true 13 [OB n l]]:=by
 have h1:=Bi true;simp at h1;refine AE.AI func12 (by kernel_rfl) rfl (by simp) fun wf _=>?_;rw[ntmps12];refine xW fun K hK=>?_;simp;apply hK;(repeat refine xS ?_);refine BX fun K hK=>?_;refine xJ ?_;simp;refine Bp (h1) rfl (by simp) ?_;simp;refine xJ ?_;simp[AA];refine Aj (hK _ _ ?_);(try simp only[xQ,reduceIte]);refine Ag ?_;(try simp only[xQ,reduceIte]);refine⟨_,AJ.refl,?_⟩;simp[Am,OB]
theorem Rb(n:ByteArray)(l:Int):AE prog 12 [.d (.str n),.d (.int .i64 l),.full []] [] (OB n l) []:=
 (Ud n l).ghost fun tm h0=>⟨_,AJ.drop 0 (Nat.le_refl _) (by simp) (by simp),by simp[clean,h0,OB,belowV,belowVs]⟩
structure Fu where
 left:Nat
 right:List Nat
 DV:Nat
 mark:Nat
def CY(x:Fu):D:=.agg [D.int .u8 (x.left:Nat),D.sl (x.right.map fun(k:Nat)=>D.int .u8 k),D.int .u8 (x.DV:Nat),D.int .u8 (x.mark:Nat)]
@[simp] theorem WE(x:Fu):cellsV (.d (CY x))=[.d (D.int .u8 (x.left:Nat)),.d (D.sl (x.right.map fun(k:Nat)=>D.int .u8 k)),.d (D.int .u8 (x.DV:Nat)),.d (D.int .u8 (x.mark:Nat))]:=rfl
@[simp] theorem U3(x:Fu):Ar (.d (CY x))=true:=rfl
@[simp] theorem XG(x:Fu):oneV (.d (CY x))=false:=rfl
@[simp] theorem WK(x:Fu):dcells (CY x)=[D.int .u8 (x.left:Nat),D.sl (x.right.map fun(k:Nat)=>D.int .u8 k),D.int .u8 (x.DV:Nat),D.int .u8 (x.mark:Nat)]:=rfl
@[simp] theorem YA(x:Fu):iaPre.oneD (CY x)=true:=rfl
@[simp] theorem Zt(x:Fu):WFD (CY x)=WFDs [D.int .u8 (x.left:Nat),D.sl (x.right.map fun(k:Nat)=>D.int .u8 k),D.int .u8 (x.DV:Nat),D.int .u8 (x.mark:Nat)]:=rfl
@[simp] theorem W1(S:Sg)(x:Fu):aggOf S (.d (CY x))=some [D.int .u8 (x.left:Nat),D.sl (x.right.map fun(k:Nat)=>D.int .u8 k),D.int .u8 (x.DV:Nat),D.int .u8 (x.mark:Nat)]:=rfl
open Go.Proofs Tryz
def bz(n k:Nat):Symbol:=if k % 14<9 then⟨true,(k % 14:Nat)⟩else⟨false,((k % 14 - 9) % n:Nat)⟩
def KA(n:Nat)(x:Fu)(i:Nat):List Symbol:=(x.right.take i).map (bz n)
def Gc:V:=.agg [.full [],.full [],.d (.int .i64 0),.full [],.full [],.full [],.d (.int .i64 0),.full [],.full []]
def aY(g:AF)(x:Fu)(nm:ByteArray)(lf:Nat)(r:List Symbol)(w:Bool):Sg:=
 [.row true 9 [.d (AB g)],.row true 4 [.d (CY x)],.row true 9 [Gc],.row true 13 [.agg [.d (.str nm),.d (.int .i64 lf),.row 4 r.length,.d (.sl []),.d (.int .i64 1),.d (.bool false),.d (.int .i64 0),.full [],.d (.bool false),.d (.int .i64 0),.d (.int .i64 0),.d (.int .i64 0),.d (.int .i64 0)]],.row w 2 (r.map fun s=>.d (AL s))]
def W5(n:Nat)(x:Fu):Nat→Int
 |0=>0
 |i+1=>if x.right.getD i 0 % 14<9 then IntKind.i64.wrap (W5 n x i+1)else W5 n x i
def Tj(n lf:Nat)(x:Fu):Nat→Bool
 |0=>true
 |i+1=>if x.right.getD i 0 % 14<9 then Tj n lf x i else Tj n lf x i&&decide (lf<(x.right.getD i 0 % 14 - 9) % n)
theorem SM{n i:Nat}{x:Fu}(h:i<x.right.length):KA n x (i+1)=KA n x i++[bz n x.right[i]]:=by
 unfold KA;rw[List.take_succ_eq_append_getElem h,List.map_append];rfl
theorem NK{n i:Nat}{x:Fu}(h:i≤x.right.length):(KA n x i).length=i:=by
 unfold KA;rw[List.length_map,List.length_take];omega
def Ph(p:AF→Prop)(v:V)(S':Sg):Prop:=S'=[]∧∃g,v=.d (AB g)∧p g
theorem SH(nm:ByteArray)(l:Int)(r:List Symbol)(c:AN)(m:Nat)(hm:m<256)(h4:r.length≤4):∃q,Pure prog 53 [AH (pl nm l r c),.int .u8 m] (AH q):=by
 by_cases h0:r=[]
 ·subst h0;exact⟨_,OA nm l c m⟩
 have h1:0<r.length:=List.length_pos_iff.2 h0;have e:m=8 * (m / 8)+m % 8:=by omega
 have h8:m % 8<8:=Nat.mod_lt _ (by omega);generalize m / 8=k at *;match hq:m % 8,h8 with
 |0,_=>rw[hq]at e;subst e;exact⟨_,Oo nm l r c k hm h1 h4⟩
 |1,_=>rw[hq]at e;subst e;exact⟨_,PS nm l r c k hm h1 h4⟩
 |2,_=>rw[hq]at e;subst e;exact⟨_,Po nm l r c k hm h1 h4⟩
 |3,_=>rw[hq]at e;subst e;exact⟨_,Pt nm l r c k hm h1 h4⟩
 |4,_=>rw[hq]at e;subst e;exact⟨_,PK nm l r c k hm h1 h4⟩
 |5,_=>rw[hq]at e;subst e;exact⟨_,Pj nm l r c k hm h1 h4⟩
 |6,_=>
  rw[hq]at e;subst e;cases ht:(r.getD (k % r.length) Qw).token with
  |true=>exact⟨_,OM nm l r c k hm h1 h4 ht⟩
  |false=>exact⟨_,OH nm l r c k hm h1 h4 ht⟩
 |7,_=>
  rw[hq]at e;subst e;cases ht:(r.getD (k % r.length) Qw).token with
  |true=>exact⟨_,NQ nm l r c k hm h1 h4 ht⟩
  |false=>exact⟨_,NG nm l r c k hm h1 h4 ht⟩
theorem Ph.pure{f:FuncId}{ds:List D}{F:AF}(h:At prog f (ds.map .d) [] (Ph fun g'=>g'=F)):Pure prog f ds (AB F):=
 At.cZ (h.mono fun v S' ⟨h1,g,h2,h3⟩=>by subst h3;exact⟨h2,h1⟩)
theorem OG(g:AF)(x:Fu)(known:Bool)(hn:0<g.BC.length∧g.BC.length≤3)(hc:g.conds.length≤3)(hp:g.AD.length≤100)(hx1:x.DV<256)(hx2:x.mark<256):
  ∃F,(F=g∨∃q,F={g with AD:=g.AD++[q]})∧At prog 15 [.d (AB g),.d (CY x),.d (.bool known)] [] (Ph fun g'=>g'=F):=by
 obtain⟨n,hnn⟩:∃n,g.BC.length=n:=⟨_,rfl⟩;rw[hnn]at hn;obtain⟨lf,hlf⟩:∃lf,x.left % n=lf:=⟨_,rfl⟩;have u1:IntKind.i64.wrap (97+(g.AD.length:Int))=97+(g.AD.length:Int):=by rw[IntKind.wrap_i64];omega
 have hu9:prog.underlying 9=some .string:=by kernel_rfl
 have h2m:2≤maxLen:=by unfold maxLen;omega
 have h1m:1≤maxLen:=by unfold maxLen;omega
 obtain⟨N,hN⟩:∃N,min x.right.length 4=N:=⟨_,rfl⟩;have hset:=Cx x.DV g.conds.length hx1 (by omega);have hsl4:(KA n x N).length≤4:=by rw[NK (by omega)];omega
 obtain⟨q,hq⟩:=SH (⟨#[112]⟩++Gr (IntKind.u8.wrap (97+g.AD.length))) lf (KA n x N) (E7 x.DV g.conds.length) x.mark hx2 hsl4;generalize hset0:E7 x.DV g.conds.length=d at *;refine⟨if decide (W5 n x N=0)&&(known||!Tj n lf x N)then g else {g with AD:=g.AD++[q]},by split;exact .inl rfl;exact .inr ⟨q,rfl⟩,?_⟩;refine At.AI func15 (by kernel_rfl) rfl (by simp) fun wf _=>?_;have hll:x.left<256:=by have:=wf.2.1;simp[WFV,WFD,WFDs,rng]at this;omega
 have u2:IntKind.i64.wrap (x.left:Int)=x.left:=by rw[IntKind.wrap_i64];omega
 have u3:((x.left:Int).tmod n)=lf:=by rw[Int.tmod_eq_emod_of_nonneg (by omega),←hlf];simp
 have hnz:¬n=0:=by omega
 rw[ntmps15];refine xW fun K hK=>?_;simp;apply hK;refine xW fun K hK=>?_;simp[hnn];apply hK;(repeat refine xS ?_);refine xE [0,2,4,6,8,10,12,14,16,18,20,22,24,26,29,31] (by kernel_rfl) fun K hK=>?_;simp;(repeat(refine xG ?_ ?_;(·simp[h1m]);simp[u1]));refine Ae.KJ 5 (IntKind.u8.wrap (97+g.AD.length)) rfl (by simp) hu9 ?_;simp;refine xA 1 ?_;simp[h1m,h2m,u2,u3,hnz,Hm];refine Ae.al (Rb (⟨#[112]⟩++Gr (IntKind.u8.wrap (97+g.AD.length))) lf) rfl (by simp[OB,belowV,belowVs];try rfl) ?_;simp;refine xA 1 ?_;simp;refine xX 0 (by kernel_rfl) ?_;simp[AR,OB];refine xA 1 ?_;simp;refine xX 16383 (by kernel_rfl) ?_;simp[AR];refine xM (hK _ _ ?_);(try simp only[xQ,reduceIte]);generalize({data:=#[112]}:ByteArray)++Gr (IntKind.u8.wrap (97+g.AD.length))=nm at *;refine AW.ghost (AJ.Lb 3 0 2 2 (xs:=[]) rfl rfl rfl) ?_;simp;refine xW fun K hK=>?_;simp;apply hK;refine xW fun K hK=>?_;simp;apply hK;refine AW.El (R:=fun tm S=>tm 2=.d (.bool known)∧tm 3=.ptr 0 1 0 0∧tm 4=.ptr 1 1 0 0∧tm 6=.ptr 2 1 0 0∧tm 8=.ptr 3 1 0 0∧tm 9=.d (.int .i64 (W5 n x N))∧tm 10=.d (.bool (Tj n lf x N))∧∃w,S=aY g x nm lf (KA n x N) w) ?_ ?_
 ·refine xW fun K hK=>?_;simp;apply hK;refine Bw ?_;refine DC N (fun i tm S=>tm 2=.d (.bool known)∧tm 3=.ptr 0 1 0 0∧tm 4=.ptr 1 1 0 0∧tm 6=.ptr 2 1 0 0∧tm 7=.d (.int .i64 n)∧tm 8=.ptr 3 1 0 0∧tm 9=.d (.int .i64 (W5 n x i))∧tm 10=.d (.bool (Tj n lf x i))∧tm 11=.d (.int .i64 i)∧∃w,S=aY g x nm lf (KA n x i) w) (Nat.zero_le _) ?_ ?_
  ·simp[KA,aY,Gc,W5,Tj]
  rintro i tm S hi ⟨t2,t3,t4,t6,t7,t8,t9,t10,t11,w,rfl⟩;unfold aY;refine xS (xW fun K hK=>?_);simp[t4,t11];apply hK;(repeat refine xS ?_);refine AW.BD (t:=decide (i<x.right.length)&&decide (i<4)) ?_ (fun hb=>?_) (fun hb=>?_)
  ·simp;rw[Bool.eq_iff_iff];simp;intro _;omega
  ·simp only[Bool.and_eq_true,decide_eq_true_eq]at hb;obtain⟨hlt,hi4⟩:=hb;have hk:x.right[i] <256:=by
    have:=wf.2.1;simp[WFV,WFD,WFDs,DM]at this;have:=this.2.1.2 _ (List.getElem_mem hlt);omega
   have hsl:=NK (n:=n) (Nat.le_of_lt hlt);have hss:=SM (n:=n) hlt;have hgk:x.right.getD i 0=x.right[i]:=by simp[hlt]
   have hlt1:W5 n x (i+1)=if x.right[i] % 14<9 then IntKind.i64.wrap (W5 n x i+1)else W5 n x i:=by rw[←hgk];rfl
   have hll1:Tj n lf x (i+1)=if x.right[i] % 14<9 then Tj n lf x i else Tj n lf x i&&decide (lf<(x.right[i] % 14 - 9) % n):=by rw[←hgk];rfl
   generalize hkk:x.right[i]=kk at *;obtain⟨m,hm⟩:∃m,kk % 14=m:=⟨_,rfl⟩;rw[hm]at hlt1 hll1;have v1:IntKind.i64.wrap (kk:Int)=kk:=by rw[IntKind.wrap_i64];omega
   have v2:((kk:Int).tmod 14)=m:=by rw[Int.tmod_eq_emod_of_nonneg (by omega),←hm];simp
   have v3:(kk:Int) % 14=m:=by omega
   have hl1:i+1≤1073741824:=by omega
   have hwi:IntKind.i64.wrap ((i:Int)+1)=(i+1:Nat):=by rw[IntKind.wrap_i64];omega
   refine xK ?_;refine xB ?_;refine xW fun K hK=>?_;simp[t4,t11,hlt,hkk,v1,v2];apply hK;refine xS (xW fun K hK=>?_);simp;apply hK;refine AU ?_;simp;refine⟨fun h9=>?_,fun h9=>?_⟩
   ·have hs9:bz n kk=⟨true,m⟩:=by
     have h9':m<9:=by omega
     simp[bz,hm,h9']
    refine xD [0,2,4,6,8,11,12,15] (by kernel_rfl) fun K hK=>?_;simp;refine xA 1 ?_;simp[t8];refine Ae.CA (Cp m) rfl (by simp[xN]) ?_;simp;refine xA 1 ?_;simp[h1m];refine xX 11 (by kernel_rfl) ?_;simp[AR,hsl,hl1,h1m,Af,forall_and,t8];refine xA 1 ?_;simp[t8];refine xX 7 (by kernel_rfl) ?_;simp[AR,t8];refine xM (hK _ _ ?_);refine xW fun K hK=>?_;simp[t9];apply hK;refine Cu ?_;refine xV fun K hK=>?_;simp[t11];apply hK;refine⟨by omega,_,_,AJ.refl,?_⟩;have h9n:m<9:=by omega
    rw[if_pos h9n]at hlt1 hll1;simp[t2,t3,t4,t6,t7,t8,t10,hwi,hss,hs9,hsl,hlt1,hll1]
   ·have hs9:bz n kk=⟨false,((m - 9) % n:Nat)⟩:=by
     have h9':¬m<9:=by omega
     simp[bz,hm,h9']
    obtain⟨e,he⟩:∃e,(m - 9) % n=e:=⟨_,rfl⟩;have h9n:¬m<9:=by omega
    rw[if_neg h9n]at hlt1 hll1;rw[he]at hs9 hll1;have v4:IntKind.i64.wrap ((m:Int) - 9)=(m - 9:Nat):=by rw[IntKind.wrap_i64];omega
    have v5:(((m - 9:Nat):Int).tmod n)=e:=by rw[Int.tmod_eq_emod_of_nonneg (by omega),←he];simp
    generalize m - 9=m9 at *;refine xK ?_;(repeat refine xS ?_);refine xE [0,2,4,6,8,10,12,14,17,18,21] (by kernel_rfl) fun K hK=>?_;simp;refine xA 1 ?_;simp[t7,t8,v4,v5,hnz];refine Ae.CA (Dh e) rfl (by simp[xN]) ?_;simp;refine xA 1 ?_;simp[h1m];refine xX 67 (by kernel_rfl) ?_;simp[AR,hsl,hl1,h1m,Af,forall_and,t7,t8,v4,v5,hnz];refine xA 1 ?_;simp[t8];refine xX 63 (by kernel_rfl) ?_;simp[AR,t8];refine xM (hK _ _ ?_);(try simp only[xQ,reduceIte]);cases hli:Tj n lf x i with
    |true=>
     rw[hli]at t10 hll1;refine xE [0,2,4,6,8,10,12,14,16,18,20] (by kernel_rfl) fun K hK=>?_;simp;refine xZ ?_;simp[t7,t8,t10,v4,v5,hnz];refine xM (hK _ _ ?_);refine xV fun K hK=>?_;simp[t11];apply hK;refine⟨by omega,_,_,AJ.refl,?_⟩;simp[t2,t3,t4,t6,t7,t8,t9,hwi,hss,hs9,hsl,hlt1,hll1]
    |false=>
     rw[hli]at t10 hll1;refine xE [0,2,4,6,8,10,12,14,16,18,20] (by kernel_rfl) fun K hK=>?_;simp;refine xZ ?_;simp[t10];refine xM (hK _ _ ?_);refine xV fun K hK=>?_;simp[t11];apply hK;refine⟨by omega,_,_,AJ.refl,?_⟩;simp[t2,t3,t4,t6,t7,t8,t9,hwi,hss,hs9,hsl,hlt1,hll1]
  ·have e:i=N:=by simp at hb;omega
   subst e;refine Cu ?_;simp[t2,t3,t4,t6,t8,t9,t10]
 ·rintro tm S ⟨t2,t3,t4,t6,t8,t9,t10,w,rfl⟩;generalize W5 n x N=t at *;generalize Tj n lf x N=l at *;generalize KA n x N=r at *;refine AW.El (R:=fun tm S=>tm 3=.ptr 0 1 0 0∧tm 4=.ptr 1 1 0 0∧tm 6=.ptr 2 1 0 0∧tm 8=.ptr 3 1 0 0∧S=aY g x nm lf r w∧(decide (t=0)&&(known||!l))=false) ?_ ?_
  ·unfold aY;by_cases ht0:t=0
   ·cases known with
    |true=>
     refine Az fun K hK=>?_;refine xH ?_;simp[t2,t9,ht0];refine Aj (hK _ _ ?_);refine AU ?_;simp;refine xW fun K hK=>?_;simp[t3,t6,Gc];apply hK;refine Ag ?_;(try simp only[xQ,reduceIte]);refine⟨_,_,AJ.refl,by simp[t6],_,_,⟨rfl,g,rfl,by simp[ht0]⟩,.inl ⟨AB g,_,by simp[t6],rfl,AJ.AY 0 rfl (by simp) (by simp) (by simp)⟩⟩
    |false=>
     (repeat refine xS ?_);refine BX fun K hK=>?_;refine xH ?_;simp[t2,t9,t10,ht0];refine Aj (hK _ _ ?_);(try simp only[xQ,reduceIte]);cases l with
     |true=>
      refine AU ?_;simp;refine CC ?_;simp[t3,t4,t6,t8]
     |false=>
      refine AU ?_;simp;refine xW fun K hK=>?_;simp[t3,t6,Gc];apply hK;refine Ag ?_;(try simp only[xQ,reduceIte]);refine⟨_,_,AJ.refl,by simp[t6],_,_,⟨rfl,g,rfl,by simp[ht0]⟩,.inl ⟨AB g,_,by simp[t6],rfl,AJ.AY 0 rfl (by simp) (by simp) (by simp)⟩⟩
   ·(repeat refine xS ?_);refine BX fun K hK=>?_;(repeat((first|refine Dp rfl ?_ ?_;(·simp[ht0])|refine Jf rfl ?_ ?_;(·simp[t2,t9,t10,ht0])|refine B7 ?_ ?_;(·simp[ht0]));simp[t9]));refine Aj (hK _ _ ?_);(try simp only[QSeq]);refine AU ?_;simp[ht0];refine CC ?_;simp[t3,t4,t6,t8]
  rintro tm S ⟨t3,t4,t6,t8,rfl,hF⟩;unfold aY;refine Az fun K hK=>?_;refine xJ ?_;simp[t3,t4];refine Bp (hset) rfl (by simp[xN]) ?_;simp;refine xJ ?_;simp[t8,AA];refine Aj (hK _ _ ?_);refine AW.ghost (AJ.B6 4 (xs:=r.map AL) rfl (by simp)) ?_;simp;(repeat refine xS ?_);refine BX fun K hK=>?_;refine xJ ?_;simp[t4,t8];refine Bp (hq) rfl (by simp[pl,Av,xN]) ?_;simp;refine xJ ?_;simp[t8];refine Aj (hK _ _ ?_);(try simp only[xQ,reduceIte]);have hp1:g.AD.length≤1073741824:=by omega
  have hp2:g.AD.length+1≤1073741824:=by omega
  have hm0:0≤maxLen:=Nat.zero_le _;refine xD [0,2,4,8,10,7,13,14,17] (by kernel_rfl) fun K hK=>?_;simp;refine xA 1 ?_;simp[t3,t8,h1m,hm0];refine xX 20 (by kernel_rfl) ?_;simp[AR,t3,t8,h1m,hm0,hp1,Af,forall_and];refine xA 1 ?_;simp;refine xX 1 (by kernel_rfl) ?_;simp[AR,t3,t8,h1m,hp2,Af,forall_and];refine xA 1 ?_;simp[t3];refine xX 7 (by kernel_rfl) ?_;simp[AR,t3];refine xM (hK _ _ ?_);refine xW fun K hK=>?_;simp[t3,t6,Gc];apply hK;refine Ag ?_;(try simp only[xQ,reduceIte]);refine⟨_,_,AJ.B6 5 (xs:=(g.AD++[q]).map AH) rfl (by simpa using BT _ ((g.AD++[q]).map AH)),by simp[t6],_,_,⟨rfl,{g with AD:=g.AD++[q]},rfl,by show _=_;rw[if_neg];simpa using hF⟩,.inl ⟨AB {g with AD:=g.AD++[q]},_,by simp[t6,asD,AB],rfl,AJ.AY 0 rfl (by simp) (by simp) (by simp)⟩⟩
theorem LF(g:AF)(x:Fu)(known:Bool)(hn:0<g.BC.length∧g.BC.length≤3)(hc:g.conds.length≤3)(hp:g.AD.length≤100)(hx1:x.DV<256)(hx2:x.mark<256):
  ∃F,(F=g∨∃q,F={g with AD:=g.AD++[q]})∧Pure prog 15 [AB g,CY x,.bool known] (AB F):=by
 obtain⟨F,h1,h2⟩:=OG g x known hn hc hp hx1 hx2;exact⟨F,h1,Ph.pure h2⟩
end Go.Koi
