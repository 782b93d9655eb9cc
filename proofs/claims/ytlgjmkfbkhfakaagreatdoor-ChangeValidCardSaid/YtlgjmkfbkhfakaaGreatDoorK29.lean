/- Part 30 of the proof that the law ChangeValid returns true for every input. -/
import Derived.Test.YtlgjmkfbkhfakaaGreatDoorK28
set_option maxHeartbeats 64000000
set_option maxRecDepth 100000
namespace Go.Koi
open Go.Proofs Tryz
def Qw:Symbol:=⟨false,0⟩
def SE(l:Int)(r:List Symbol):Bool:=decide (r.length=3)&&((r.getD 0 Qw).token&&(r.getD 2 Qw).token&&!(r.getD 1 Qw).token&&decide ((r.getD 1 Qw).index=l))
theorem O7(nm:ByteArray)(l:Int)(r:List Symbol)(c:AN)(b:Bool):Pure prog 133 [AH ⟨nm,l,r,c,b,0,[],Av⟩] (.bool (SE l r)):=by
 have hz:Av=⟨false,0,0,0,0⟩:=rfl;have vN:AAT [D.bool false,D.int .i64 0,D.int .i64 0,D.int .i64 0,D.int .i64 0] [D.bool false,D.int .i64 0,D.int .i64 0,D.int .i64 0,D.int .i64 0]=true:=rfl;by_cases h3:r.length=3
 ·obtain⟨x,y,z,rfl⟩:∃x y z,r=[x,y,z]:=by
   match r,h3 with
   |[x,y,z],_=>exact⟨x,y,z,rfl⟩
  have hb:SE l [x,y,z]=(x.token&&z.token&&!y.token&&decide (y.index=l)):=by simp[SE]
  rw[hb];have ex:=AL.eq_1 x;have ey:=AL.eq_1 y;have ez:=AL.eq_1 z;refine Pure.AI func133 (by kernel_rfl) rfl (by simp) fun wf=>?_;rw[ntmps133];refine xW fun K hK=>?_;simp;apply hK;refine xS (Az fun K hK=>?_);refine xH ?_;simp[hz,vN];refine Aj (hK _ _ ?_);(try simp only[xQ,reduceIte]);refine AU ?_;simp;refine CC ?_;cases hx:x.token with
  |false=>
   (repeat refine xS ?_);refine xE [0,2,4,6,8,10,12,14,16,18,20,22,24,26,28,30,32,34,36,38,40,42,44,46,48,50,52,54,56,58,60] (by kernel_rfl) fun K hK=>?_;simp;refine xZ ?_;simp[ex,hx];refine xM (hK _ _ ?_);(try simp only[xQ,reduceIte]);refine Ag ⟨_,_,AJ.refl,?_⟩;try simp
  |true=>
   cases uB:z.token with
   |false=>
    (repeat refine xS ?_);refine xE [0,2,4,6,8,10,12,14,16,18,20,22,24,26,28,30,32,34,36,38,40,42,44,46,48,50,52,54,56,58,60] (by kernel_rfl) fun K hK=>?_;simp;refine xZ ?_;simp[ex,ez,hx,uB];refine xM (hK _ _ ?_);(try simp only[xQ,reduceIte]);refine Ag ⟨_,_,AJ.refl,?_⟩;try simp
   |true=>
    cases hy:y.token with
    |true=>
     (repeat refine xS ?_);refine xE [0,2,4,6,8,10,12,14,16,18,20,22,24,26,28,30,32,34,36,38,40,42,44,46,48,50,52,54,56,58,60] (by kernel_rfl) fun K hK=>?_;simp;refine xZ ?_;simp[ex,ey,ez,hx,hy,uB];refine xM (hK _ _ ?_);(try simp only[xQ,reduceIte]);refine Ag ⟨_,_,AJ.refl,?_⟩;try simp
    |false=>
     (repeat refine xS ?_);refine xE [0,2,4,6,8,10,12,14,16,18,20,22,24,26,28,30,32,34,36,38,40,42,44,46,48,50,52,54,56,58,60] (by kernel_rfl) fun K hK=>?_;simp;refine xZ ?_;simp[ex,ey,ez,hx,hy,uB];refine xM (hK _ _ ?_);(try simp only[xQ,reduceIte]);refine Ag ⟨_,_,AJ.refl,?_⟩;(try simp);rw[Bool.eq_iff_iff];simp
 ·have hb:SE l r=false:=by simp[SE,h3]
  rw[hb];have j3:¬(r.length:Int)=3:=by omega
  refine Pure.AI func133 (by kernel_rfl) rfl (by simp) fun wf=>?_;rw[ntmps133];refine xW fun K hK=>?_;simp;apply hK;refine xS (Az fun K hK=>?_);(repeat((first|refine Dp rfl ?_ ?_;(·simp[j3])|refine Jf rfl ?_ ?_;(·simp[h3,j3])|refine B7 ?_ ?_;(·simp[j3]));simp));refine Aj (hK _ _ ?_);(try simp only[xQ,reduceIte]);refine AU ?_;simp[j3];refine xW fun K hK=>?_;simp;apply hK;refine Ag ⟨_,_,AJ.refl,?_⟩;try simp
open Go.Proofs Tryz
def pl(nm:ByteArray)(l:Int)(r:List Symbol)(c:AN):AT:=⟨nm,l,r,c,false,0,[],Av⟩
theorem OA(nm:ByteArray)(l:Int)(c:AN)(m:Nat):Pure prog 49 [AH (pl nm l [] c),.int .u8 m] (AH (pl nm l [] c)):=by
 refine Pure.AI func49 (by kernel_rfl) rfl (by simp) fun wf=>?_;rw[ntmps49];unfold pl;refine xW fun K hK=>?_;simp;apply hK;refine xW fun K hK=>?_;simp;apply hK;refine xS (xW fun K hK=>?_);simp;apply hK;refine AU ?_;simp;refine xW fun K hK=>?_;simp;apply hK;refine Ag ⟨_,_,AJ.refl,?_⟩;try simp
theorem Oo(nm:ByteArray)(l:Int)(r:List Symbol)(c:AN)(k:Nat)(hk:8 * k+0<256)(h0:0<r.length)(h4:r.length≤4):Pure prog 49 [AH (pl nm l r c),.int .u8 (8 * k+0:Nat)] (AH (pl nm l r c)):=by
 have hz:Av=⟨false,0,0,0,0⟩:=rfl;have iL:¬r.length=0:=by omega
 have dI:r≠[]:=by intro e;simp[e]at h0
 obtain⟨m,hm⟩:∃m,8 * k+0=m:=⟨_,rfl⟩;rw[hm];have q1:((m:Int).tmod 8)=0:=by rw[Int.tmod_eq_emod_of_nonneg (by omega)];omega
 have q2:((m:Int).tdiv 8)=k:=by rw[Int.tdiv_eq_ediv_of_nonneg (by omega)];omega
 have q3:(m:Int) / 8=k:=by omega
 have q4:(m:Int) % 8=0:=by omega
 have w1:IntKind.u8.wrap (k:Int)=k:=by simp[IntKind.wrap,IntKind.signed,IntKind.bits];omega
 have w2:IntKind.i64.wrap (k:Int)=k:=by rw[IntKind.wrap_i64];omega
 refine Pure.AI func49 (by kernel_rfl) rfl (by simp) fun wf=>?_;rw[ntmps49];unfold pl;refine xW fun K hK=>?_;simp;apply hK;refine xW fun K hK=>?_;simp;apply hK;refine xS (xW fun K hK=>?_);simp;apply hK;refine AU ?_;simp[iL];refine xK ?_;refine xW fun K hK=>?_;simp[q2,w1,w2];apply hK;refine xS (xW fun K hK=>?_);simp[q1];apply hK;refine Bw ?_;refine xW fun K hK=>?_;simp;apply hK;refine AU ?_;simp;refine xW fun K hK=>?_;simp;apply hK;refine AU ?_;simp;refine xW fun K hK=>?_;simp;apply hK;refine AU ?_;simp;refine xW fun K hK=>?_;simp;apply hK;refine AU ?_;simp;refine xW fun K hK=>?_;simp;apply hK;refine AU ?_;simp;refine xW fun K hK=>?_;simp;apply hK;refine AU ?_;simp;refine xW fun K hK=>?_;simp;apply hK;refine AU ?_;simp;refine CC ?_;refine xW fun K hK=>?_;simp;apply hK;refine Ag ⟨_,_,AJ.refl,?_⟩;try simp
theorem PS(nm:ByteArray)(l:Int)(r:List Symbol)(c:AN)(k:Nat)(hk:8 * k+1<256)(h0:0<r.length)(h4:r.length≤4):Pure prog 49 [AH (pl nm l r c),.int .u8 (8 * k+1:Nat)] (AH {pl nm l r c with Di:=1}):=by
 have hz:Av=⟨false,0,0,0,0⟩:=rfl;have iL:¬r.length=0:=by omega
 have dI:r≠[]:=by intro e;simp[e]at h0
 obtain⟨m,hm⟩:∃m,8 * k+1=m:=⟨_,rfl⟩;rw[hm];have q1:((m:Int).tmod 8)=1:=by rw[Int.tmod_eq_emod_of_nonneg (by omega)];omega
 have q2:((m:Int).tdiv 8)=k:=by rw[Int.tdiv_eq_ediv_of_nonneg (by omega)];omega
 have q3:(m:Int) / 8=k:=by omega
 have q4:(m:Int) % 8=1:=by omega
 have w1:IntKind.u8.wrap (k:Int)=k:=by simp[IntKind.wrap,IntKind.signed,IntKind.bits];omega
 have w2:IntKind.i64.wrap (k:Int)=k:=by rw[IntKind.wrap_i64];omega
 refine Pure.AI func49 (by kernel_rfl) rfl (by simp) fun wf=>?_;rw[ntmps49];unfold pl;refine xW fun K hK=>?_;simp;apply hK;refine xW fun K hK=>?_;simp;apply hK;refine xS (xW fun K hK=>?_);simp;apply hK;refine AU ?_;simp[iL];refine xK ?_;refine xW fun K hK=>?_;simp[q2,w1,w2];apply hK;refine xS (xW fun K hK=>?_);simp[q1];apply hK;refine Bw ?_;refine xW fun K hK=>?_;simp;apply hK;refine AU ?_;simp;refine xV fun K hK=>?_;simp;apply hK;refine xW fun K hK=>?_;simp;apply hK;refine Ag ⟨_,_,AJ.refl,?_⟩;(try simp);simp[AH,Av]
theorem Po(nm:ByteArray)(l:Int)(r:List Symbol)(c:AN)(k:Nat)(hk:8 * k+2<256)(h0:0<r.length)(h4:r.length≤4):Pure prog 49 [AH (pl nm l r c),.int .u8 (8 * k+2:Nat)] (AH {pl nm l r c with Di:=-1}):=by
 have hz:Av=⟨false,0,0,0,0⟩:=rfl;have iL:¬r.length=0:=by omega
 have dI:r≠[]:=by intro e;simp[e]at h0
 obtain⟨m,hm⟩:∃m,8 * k+2=m:=⟨_,rfl⟩;rw[hm];have q1:((m:Int).tmod 8)=2:=by rw[Int.tmod_eq_emod_of_nonneg (by omega)];omega
 have q2:((m:Int).tdiv 8)=k:=by rw[Int.tdiv_eq_ediv_of_nonneg (by omega)];omega
 have q3:(m:Int) / 8=k:=by omega
 have q4:(m:Int) % 8=2:=by omega
 have w1:IntKind.u8.wrap (k:Int)=k:=by simp[IntKind.wrap,IntKind.signed,IntKind.bits];omega
 have w2:IntKind.i64.wrap (k:Int)=k:=by rw[IntKind.wrap_i64];omega
 refine Pure.AI func49 (by kernel_rfl) rfl (by simp) fun wf=>?_;rw[ntmps49];unfold pl;refine xW fun K hK=>?_;simp;apply hK;refine xW fun K hK=>?_;simp;apply hK;refine xS (xW fun K hK=>?_);simp;apply hK;refine AU ?_;simp[iL];refine xK ?_;refine xW fun K hK=>?_;simp[q2,w1,w2];apply hK;refine xS (xW fun K hK=>?_);simp[q1];apply hK;refine Bw ?_;refine xW fun K hK=>?_;simp;apply hK;refine AU ?_;simp;refine xW fun K hK=>?_;simp;apply hK;refine AU ?_;simp;refine xV fun K hK=>?_;simp;apply hK;refine xW fun K hK=>?_;simp;apply hK;refine Ag ⟨_,_,AJ.refl,?_⟩;(try simp);simp[AH,Av]
theorem Pt(nm:ByteArray)(l:Int)(r:List Symbol)(c:AN)(k:Nat)(hk:8 * k+3<256)(h0:0<r.length)(h4:r.length≤4):Pure prog 49 [AH (pl nm l r c),.int .u8 (8 * k+3:Nat)] (AH {pl nm l r c with bracket:=SE l r}):=by
 have hz:Av=⟨false,0,0,0,0⟩:=rfl;have iL:¬r.length=0:=by omega
 have dI:r≠[]:=by intro e;simp[e]at h0
 obtain⟨m,hm⟩:∃m,8 * k+3=m:=⟨_,rfl⟩;rw[hm];have q1:((m:Int).tmod 8)=3:=by rw[Int.tmod_eq_emod_of_nonneg (by omega)];omega
 have q2:((m:Int).tdiv 8)=k:=by rw[Int.tdiv_eq_ediv_of_nonneg (by omega)];omega
 have q3:(m:Int) / 8=k:=by omega
 have q4:(m:Int) % 8=3:=by omega
 have w1:IntKind.u8.wrap (k:Int)=k:=by simp[IntKind.wrap,IntKind.signed,IntKind.bits];omega
 have w2:IntKind.i64.wrap (k:Int)=k:=by rw[IntKind.wrap_i64];omega
 have hb:=O7 nm l r c true;rw[hz]at hb;refine Pure.AI func49 (by kernel_rfl) rfl (by simp) fun wf=>?_;rw[ntmps49];unfold pl;refine xW fun K hK=>?_;simp;apply hK;refine xW fun K hK=>?_;simp;apply hK;refine xS (xW fun K hK=>?_);simp;apply hK;refine AU ?_;simp[iL];refine xK ?_;refine xW fun K hK=>?_;simp[q2,w1,w2];apply hK;refine xS (xW fun K hK=>?_);simp[q1];apply hK;refine Bw ?_;refine xW fun K hK=>?_;simp;apply hK;refine AU ?_;simp;refine xW fun K hK=>?_;simp;apply hK;refine AU ?_;simp;refine xW fun K hK=>?_;simp;apply hK;refine AU ?_;simp;refine xW fun K hK=>?_;simp[hz];apply hK;refine BX fun K hK=>?_;refine xJ ?_;simp;refine Bp (hb) rfl (by simp[xN]) ?_;simp;refine xJ ?_;simp;refine Aj (hK _ _ ?_);refine xW fun K hK=>?_;simp;apply hK;refine Ag ⟨_,_,AJ.refl,?_⟩;(try simp);simp[AH,Av]
theorem PK(nm:ByteArray)(l:Int)(r:List Symbol)(c:AN)(k:Nat)(hk:8 * k+4<256)(h0:0<r.length)(h4:r.length≤4):Pure prog 49 [AH (pl nm l r c),.int .u8 (8 * k+4:Nat)] (AH {pl nm l r c with layout:=[⟨1+(k % 4:Nat),(k / 4 % r.length:Nat),if k % 4=0 then 0 else(r.length:Int) - 1⟩]}):=by
 have hz:Av=⟨false,0,0,0,0⟩:=rfl;have iL:¬r.length=0:=by omega
 have dI:r≠[]:=by intro e;simp[e]at h0
 obtain⟨m,hm⟩:∃m,8 * k+4=m:=⟨_,rfl⟩;rw[hm];have q1:((m:Int).tmod 8)=4:=by rw[Int.tmod_eq_emod_of_nonneg (by omega)];omega
 have q2:((m:Int).tdiv 8)=k:=by rw[Int.tdiv_eq_ediv_of_nonneg (by omega)];omega
 have q3:(m:Int) / 8=k:=by omega
 have q4:(m:Int) % 8=4:=by omega
 have w1:IntKind.u8.wrap (k:Int)=k:=by simp[IntKind.wrap,IntKind.signed,IntKind.bits];omega
 have w2:IntKind.i64.wrap (k:Int)=k:=by rw[IntKind.wrap_i64];omega
 obtain⟨n,hn⟩:∃n,r.length=n:=⟨_,rfl⟩;obtain⟨j,hj⟩:∃j,k % 4=j:=⟨_,rfl⟩;obtain⟨d,hd⟩:∃d,k / 4=d:=⟨_,rfl⟩;obtain⟨e,he⟩:∃e,d % n=e:=⟨_,rfl⟩;have lY:e<n:=by rw[←he];exact Nat.mod_lt _ (by omega)
 have a1:((k:Int).tmod 4)=j:=by rw[Int.tmod_eq_emod_of_nonneg (by omega)];omega
 have a1':(k:Int) % 4=j:=by omega
 have a2:IntKind.i64.wrap ((1:Int)+j)=1+j:=by rw[IntKind.wrap_i64];omega
 have a3:((k:Int).tdiv 4)=d:=by rw[Int.tdiv_eq_ediv_of_nonneg (by omega)];omega
 have a3':(k:Int) / 4=d:=by omega
 have a3w:IntKind.i64.wrap (d:Int)=d:=by rw[IntKind.wrap_i64];omega
 have a4:((d:Int).tmod n)=e:=by rw[Int.tmod_eq_emod_of_nonneg (by omega),←he];simp
 have a5:IntKind.i64.wrap ((n:Int) - 1)=(n:Int) - 1:=by rw[IntKind.wrap_i64];omega
 have iR:¬n=0:=by omega
 have gm:1≤maxLen:=by unfold maxLen;omega
 rw[hj,hd,hn,he];refine Pure.AI func49 (by kernel_rfl) rfl (by simp) fun wf=>?_;rw[ntmps49];unfold pl;refine xW fun K hK=>?_;simp;apply hK;refine xW fun K hK=>?_;simp;apply hK;refine xS (xW fun K hK=>?_);simp;apply hK;refine AU ?_;simp[iL];refine xK ?_;refine xW fun K hK=>?_;simp[q2,w1,w2];apply hK;refine xS (xW fun K hK=>?_);simp[q1];apply hK;refine Bw ?_;refine xW fun K hK=>?_;simp;apply hK;refine AU ?_;simp;refine xW fun K hK=>?_;simp;apply hK;refine AU ?_;simp;refine xW fun K hK=>?_;simp;apply hK;refine AU ?_;simp;refine xW fun K hK=>?_;simp;apply hK;refine AU ?_;simp;refine Az fun K hK=>?_;(iterate 10 (refine B7 (by simp[iR]) ?_;simp[hn,a1,a2,a3,a3w,a4,a5]));((refine AS.Gi rfl ?_ ?_);(focus(simp[AA5,maxLen];done));simp);refine xJ ?_;simp;refine Aj (hK _ _ ?_);(repeat refine xS ?_);refine xV fun K hK=>?_;simp[a1];refine hK _ _ ?_;(try simp only[xQ,reduceIte]);by_cases mV:j=0
 ·refine AU ?_;simp[mV];refine xV fun K hK=>?_;simp;apply hK;refine xW fun K hK=>?_;simp;apply hK;refine Ag ?_;(try simp only[xQ,reduceIte]);refine⟨_,_,AJ.B6 2 (xs:=[A0 ⟨1+j,e,0⟩]) rfl (by simp[A0,AAi,AA0,AAn,mV]),?_⟩;simp[asD,AH,A0,Av,mV]
 ·have uC:¬(j:Int)=0:=by omega
  refine AU ?_;simp[mV];refine CC ?_;refine xW fun K hK=>?_;simp;apply hK;refine Ag ?_;(try simp only[xQ,reduceIte]);refine⟨_,_,AJ.B6 2 (xs:=[A0 ⟨1+j,e,n - 1⟩]) rfl (by simp[A0,AAi,AA0,AAn]),?_⟩;simp[asD,AH,A0,Av]
theorem Pj(nm:ByteArray)(l:Int)(r:List Symbol)(c:AN)(k:Nat)(hk:8 * k+5<256)(h0:0<r.length)(h4:r.length≤4):Pure prog 49 [AH (pl nm l r c),.int .u8 (8 * k+5:Nat)] (AH {pl nm l r c with scope:=⟨true,0,0,0,0⟩}):=by
 have hz:Av=⟨false,0,0,0,0⟩:=rfl;have iL:¬r.length=0:=by omega
 have dI:r≠[]:=by intro e;simp[e]at h0
 obtain⟨m,hm⟩:∃m,8 * k+5=m:=⟨_,rfl⟩;rw[hm];have q1:((m:Int).tmod 8)=5:=by rw[Int.tmod_eq_emod_of_nonneg (by omega)];omega
 have q2:((m:Int).tdiv 8)=k:=by rw[Int.tdiv_eq_ediv_of_nonneg (by omega)];omega
 have q3:(m:Int) / 8=k:=by omega
 have q4:(m:Int) % 8=5:=by omega
 have w1:IntKind.u8.wrap (k:Int)=k:=by simp[IntKind.wrap,IntKind.signed,IntKind.bits];omega
 have w2:IntKind.i64.wrap (k:Int)=k:=by rw[IntKind.wrap_i64];omega
 refine Pure.AI func49 (by kernel_rfl) rfl (by simp) fun wf=>?_;rw[ntmps49];unfold pl;refine xW fun K hK=>?_;simp;apply hK;refine xW fun K hK=>?_;simp;apply hK;refine xS (xW fun K hK=>?_);simp;apply hK;refine AU ?_;simp[iL];refine xK ?_;refine xW fun K hK=>?_;simp[q2,w1,w2];apply hK;refine xS (xW fun K hK=>?_);simp[q1];apply hK;refine Bw ?_;refine xW fun K hK=>?_;simp;apply hK;refine AU ?_;simp;refine xW fun K hK=>?_;simp;apply hK;refine AU ?_;simp;refine xW fun K hK=>?_;simp;apply hK;refine AU ?_;simp;refine xW fun K hK=>?_;simp;apply hK;refine AU ?_;simp;refine xW fun K hK=>?_;simp;apply hK;refine AU ?_;simp;refine xV fun K hK=>?_;simp;apply hK;refine xW fun K hK=>?_;simp;apply hK;refine Ag ⟨_,_,AJ.refl,?_⟩;(try simp);simp[AH,Av]
theorem OM(nm:ByteArray)(l:Int)(r:List Symbol)(c:AN)(k:Nat)(hk:8 * k+6<256)(h0:0<r.length)(h4:r.length≤4)(ht:(r.getD (k % r.length) Qw).token=true):Pure prog 49 [AH (pl nm l r c),.int .u8 (8 * k+6:Nat)] (AH {pl nm l r c with scope:=⟨false,(k % r.length:Nat)+1,1+(k % 2:Nat),0,0⟩}):=by
 have hz:Av=⟨false,0,0,0,0⟩:=rfl;have iL:¬r.length=0:=by omega
 have dI:r≠[]:=by intro e;simp[e]at h0
 obtain⟨m,hm⟩:∃m,8 * k+6=m:=⟨_,rfl⟩;rw[hm];have q1:((m:Int).tmod 8)=6:=by rw[Int.tmod_eq_emod_of_nonneg (by omega)];omega
 have q2:((m:Int).tdiv 8)=k:=by rw[Int.tdiv_eq_ediv_of_nonneg (by omega)];omega
 have q3:(m:Int) / 8=k:=by omega
 have q4:(m:Int) % 8=6:=by omega
 have w1:IntKind.u8.wrap (k:Int)=k:=by simp[IntKind.wrap,IntKind.signed,IntKind.bits];omega
 have w2:IntKind.i64.wrap (k:Int)=k:=by rw[IntKind.wrap_i64];omega
 obtain⟨n,hn⟩:∃n,r.length=n:=⟨_,rfl⟩;rw[hn]at ht iL h4 h0⊢;obtain⟨e,he⟩:∃e,k % n=e:=⟨_,rfl⟩;obtain⟨j,hj⟩:∃j,k % 2=j:=⟨_,rfl⟩;rw[he]at ht⊢;rw[hj];have lY:e<n:=by rw[←he];exact Nat.mod_lt _ (by omega)
 have iu:e<r.length:=by omega
 have hO:r.getD e Qw=r[e]:=by simp[iu]
 rw[hO]at ht;generalize hs:r[e]=s at *;have iB:=AL.eq_1 s;have a4:((k:Int).tmod n)=e:=by rw[Int.tmod_eq_emod_of_nonneg (by omega),←he];simp
 have a5:IntKind.i64.wrap ((e:Int)+1)=(e:Int)+1:=by rw[IntKind.wrap_i64];omega
 have a6:((k:Int).tmod 2)=j:=by rw[Int.tmod_eq_emod_of_nonneg (by omega)];omega
 have a6':(k:Int) % 2=j:=by omega
 have a7:IntKind.i64.wrap ((1:Int)+j)=1+j:=by rw[IntKind.wrap_i64];omega
 have iR:¬n=0:=by omega
 refine Pure.AI func49 (by kernel_rfl) rfl (by simp) fun wf=>?_;rw[ntmps49];unfold pl;refine xW fun K hK=>?_;simp;apply hK;refine xW fun K hK=>?_;simp;apply hK;refine xS (xW fun K hK=>?_);simp[hn];apply hK;refine AU ?_;simp[iL];refine xK ?_;refine xW fun K hK=>?_;simp[q2,w1,w2];apply hK;refine xS (xW fun K hK=>?_);simp[q1];apply hK;refine Bw ?_;refine xW fun K hK=>?_;simp;apply hK;refine AU ?_;simp;refine xW fun K hK=>?_;simp;apply hK;refine AU ?_;simp;refine xW fun K hK=>?_;simp;apply hK;refine AU ?_;simp;refine xW fun K hK=>?_;simp;apply hK;refine AU ?_;simp;refine xW fun K hK=>?_;simp;apply hK;refine AU ?_;simp;refine xW fun K hK=>?_;simp;apply hK;refine AU ?_;simp;refine xD [0,2,4,6,8,10,12,14] (by kernel_rfl) fun K hK=>?_;simp;refine xA 0 ?_;simp[hn,a4,iR,lY,hs,iB,ht];refine xM (hK _ _ ?_);refine AU ?_;simp;refine xV fun K hK=>?_;simp[a4,a5,a6,a7,iR];apply hK;refine xW fun K hK=>?_;simp;apply hK;refine Ag ⟨_,_,AJ.refl,?_⟩;(try simp);simp[AH]
theorem OH(nm:ByteArray)(l:Int)(r:List Symbol)(c:AN)(k:Nat)(hk:8 * k+6<256)(h0:0<r.length)(h4:r.length≤4)(ht:(r.getD (k % r.length) Qw).token=false):Pure prog 49 [AH (pl nm l r c),.int .u8 (8 * k+6:Nat)] (AH (pl nm l r c)):=by
 have hz:Av=⟨false,0,0,0,0⟩:=rfl;have iL:¬r.length=0:=by omega
 have dI:r≠[]:=by intro e;simp[e]at h0
 obtain⟨m,hm⟩:∃m,8 * k+6=m:=⟨_,rfl⟩;rw[hm];have q1:((m:Int).tmod 8)=6:=by rw[Int.tmod_eq_emod_of_nonneg (by omega)];omega
 have q2:((m:Int).tdiv 8)=k:=by rw[Int.tdiv_eq_ediv_of_nonneg (by omega)];omega
 have q3:(m:Int) / 8=k:=by omega
 have q4:(m:Int) % 8=6:=by omega
 have w1:IntKind.u8.wrap (k:Int)=k:=by simp[IntKind.wrap,IntKind.signed,IntKind.bits];omega
 have w2:IntKind.i64.wrap (k:Int)=k:=by rw[IntKind.wrap_i64];omega
 obtain⟨n,hn⟩:∃n,r.length=n:=⟨_,rfl⟩;rw[hn]at ht iL h4 h0;obtain⟨e,he⟩:∃e,k % n=e:=⟨_,rfl⟩;obtain⟨j,hj⟩:∃j,k % 2=j:=⟨_,rfl⟩;rw[he]at ht;have lY:e<n:=by rw[←he];exact Nat.mod_lt _ (by omega)
 have iu:e<r.length:=by omega
 have hO:r.getD e Qw=r[e]:=by simp[iu]
 rw[hO]at ht;generalize hs:r[e]=s at *;have iB:=AL.eq_1 s;have a4:((k:Int).tmod n)=e:=by rw[Int.tmod_eq_emod_of_nonneg (by omega),←he];simp
 have a5:IntKind.i64.wrap ((e:Int)+1)=(e:Int)+1:=by rw[IntKind.wrap_i64];omega
 have a6:((k:Int).tmod 2)=j:=by rw[Int.tmod_eq_emod_of_nonneg (by omega)];omega
 have a6':(k:Int) % 2=j:=by omega
 have a7:IntKind.i64.wrap ((1:Int)+j)=1+j:=by rw[IntKind.wrap_i64];omega
 have iR:¬n=0:=by omega
 refine Pure.AI func49 (by kernel_rfl) rfl (by simp) fun wf=>?_;rw[ntmps49];unfold pl;refine xW fun K hK=>?_;simp;apply hK;refine xW fun K hK=>?_;simp;apply hK;refine xS (xW fun K hK=>?_);simp[hn];apply hK;refine AU ?_;simp[iL];refine xK ?_;refine xW fun K hK=>?_;simp[q2,w1,w2];apply hK;refine xS (xW fun K hK=>?_);simp[q1];apply hK;refine Bw ?_;refine xW fun K hK=>?_;simp;apply hK;refine AU ?_;simp;refine xW fun K hK=>?_;simp;apply hK;refine AU ?_;simp;refine xW fun K hK=>?_;simp;apply hK;refine AU ?_;simp;refine xW fun K hK=>?_;simp;apply hK;refine AU ?_;simp;refine xW fun K hK=>?_;simp;apply hK;refine AU ?_;simp;refine xW fun K hK=>?_;simp;apply hK;refine AU ?_;simp;refine xD [0,2,4,6,8,10,12,14] (by kernel_rfl) fun K hK=>?_;simp;refine xA 0 ?_;simp[hn,a4,iR,lY,hs,iB,ht];refine xM (hK _ _ ?_);refine AU ?_;simp;refine CC ?_;refine xW fun K hK=>?_;simp;apply hK;refine Ag ⟨_,_,AJ.refl,?_⟩;try simp
theorem NQ(nm:ByteArray)(l:Int)(r:List Symbol)(c:AN)(k:Nat)(hk:8 * k+7<256)(h0:0<r.length)(h4:r.length≤4)(ht:(r.getD (k % r.length) Qw).token=true):Pure prog 49 [AH (pl nm l r c),.int .u8 (8 * k+7:Nat)] (AH {pl nm l r c with scope:=⟨false,0,0,(k % r.length:Nat)+1,1+(k % 7:Nat)⟩}):=by
 have hz:Av=⟨false,0,0,0,0⟩:=rfl;have iL:¬r.length=0:=by omega
 have dI:r≠[]:=by intro e;simp[e]at h0
 obtain⟨m,hm⟩:∃m,8 * k+7=m:=⟨_,rfl⟩;rw[hm];have q1:((m:Int).tmod 8)=7:=by rw[Int.tmod_eq_emod_of_nonneg (by omega)];omega
 have q2:((m:Int).tdiv 8)=k:=by rw[Int.tdiv_eq_ediv_of_nonneg (by omega)];omega
 have q3:(m:Int) / 8=k:=by omega
 have q4:(m:Int) % 8=7:=by omega
 have w1:IntKind.u8.wrap (k:Int)=k:=by simp[IntKind.wrap,IntKind.signed,IntKind.bits];omega
 have w2:IntKind.i64.wrap (k:Int)=k:=by rw[IntKind.wrap_i64];omega
 obtain⟨n,hn⟩:∃n,r.length=n:=⟨_,rfl⟩;rw[hn]at ht iL h4 h0⊢;obtain⟨e,he⟩:∃e,k % n=e:=⟨_,rfl⟩;obtain⟨j,hj⟩:∃j,k % 7=j:=⟨_,rfl⟩;rw[he]at ht⊢;rw[hj];have lY:e<n:=by rw[←he];exact Nat.mod_lt _ (by omega)
 have iu:e<r.length:=by omega
 have hO:r.getD e Qw=r[e]:=by simp[iu]
 rw[hO]at ht;generalize hs:r[e]=s at *;have iB:=AL.eq_1 s;have a4:((k:Int).tmod n)=e:=by rw[Int.tmod_eq_emod_of_nonneg (by omega),←he];simp
 have a5:IntKind.i64.wrap ((e:Int)+1)=(e:Int)+1:=by rw[IntKind.wrap_i64];omega
 have a6:((k:Int).tmod 7)=j:=by rw[Int.tmod_eq_emod_of_nonneg (by omega)];omega
 have a6':(k:Int) % 7=j:=by omega
 have a7:IntKind.i64.wrap ((1:Int)+j)=1+j:=by rw[IntKind.wrap_i64];omega
 have iR:¬n=0:=by omega
 refine Pure.AI func49 (by kernel_rfl) rfl (by simp) fun wf=>?_;rw[ntmps49];unfold pl;refine xW fun K hK=>?_;simp;apply hK;refine xW fun K hK=>?_;simp;apply hK;refine xS (xW fun K hK=>?_);simp[hn];apply hK;refine AU ?_;simp[iL];refine xK ?_;refine xW fun K hK=>?_;simp[q2,w1,w2];apply hK;refine xS (xW fun K hK=>?_);simp[q1];apply hK;refine Bw ?_;refine xW fun K hK=>?_;simp;apply hK;refine AU ?_;simp;refine xW fun K hK=>?_;simp;apply hK;refine AU ?_;simp;refine xW fun K hK=>?_;simp;apply hK;refine AU ?_;simp;refine xW fun K hK=>?_;simp;apply hK;refine AU ?_;simp;refine xW fun K hK=>?_;simp;apply hK;refine AU ?_;simp;refine xW fun K hK=>?_;simp;apply hK;refine AU ?_;simp;refine xW fun K hK=>?_;simp;apply hK;refine AU ?_;simp;refine xD [0,2,4,6,8,10,12,14] (by kernel_rfl) fun K hK=>?_;simp;refine xA 0 ?_;simp[hn,a4,iR,lY,hs,iB,ht];refine xM (hK _ _ ?_);refine AU ?_;simp;refine xV fun K hK=>?_;simp[a4,a5,a6,a7,iR];apply hK;refine xW fun K hK=>?_;simp;apply hK;refine Ag ⟨_,_,AJ.refl,?_⟩;(try simp);simp[AH]
theorem NG(nm:ByteArray)(l:Int)(r:List Symbol)(c:AN)(k:Nat)(hk:8 * k+7<256)(h0:0<r.length)(h4:r.length≤4)(ht:(r.getD (k % r.length) Qw).token=false):Pure prog 49 [AH (pl nm l r c),.int .u8 (8 * k+7:Nat)] (AH (pl nm l r c)):=by
 have hz:Av=⟨false,0,0,0,0⟩:=rfl;have iL:¬r.length=0:=by omega
 have dI:r≠[]:=by intro e;simp[e]at h0
 obtain⟨m,hm⟩:∃m,8 * k+7=m:=⟨_,rfl⟩;rw[hm];have q1:((m:Int).tmod 8)=7:=by rw[Int.tmod_eq_emod_of_nonneg (by omega)];omega
 have q2:((m:Int).tdiv 8)=k:=by rw[Int.tdiv_eq_ediv_of_nonneg (by omega)];omega
 have q3:(m:Int) / 8=k:=by omega
 have q4:(m:Int) % 8=7:=by omega
 have w1:IntKind.u8.wrap (k:Int)=k:=by simp[IntKind.wrap,IntKind.signed,IntKind.bits];omega
 have w2:IntKind.i64.wrap (k:Int)=k:=by rw[IntKind.wrap_i64];omega
 obtain⟨n,hn⟩:∃n,r.length=n:=⟨_,rfl⟩;rw[hn]at ht iL h4 h0;obtain⟨e,he⟩:∃e,k % n=e:=⟨_,rfl⟩;obtain⟨j,hj⟩:∃j,k % 7=j:=⟨_,rfl⟩;rw[he]at ht;have lY:e<n:=by rw[←he];exact Nat.mod_lt _ (by omega)
 have iu:e<r.length:=by omega
 have hO:r.getD e Qw=r[e]:=by simp[iu]
 rw[hO]at ht;generalize hs:r[e]=s at *;have iB:=AL.eq_1 s;have a4:((k:Int).tmod n)=e:=by rw[Int.tmod_eq_emod_of_nonneg (by omega),←he];simp
 have a5:IntKind.i64.wrap ((e:Int)+1)=(e:Int)+1:=by rw[IntKind.wrap_i64];omega
 have a6:((k:Int).tmod 7)=j:=by rw[Int.tmod_eq_emod_of_nonneg (by omega)];omega
 have a6':(k:Int) % 7=j:=by omega
 have a7:IntKind.i64.wrap ((1:Int)+j)=1+j:=by rw[IntKind.wrap_i64];omega
 have iR:¬n=0:=by omega
 refine Pure.AI func49 (by kernel_rfl) rfl (by simp) fun wf=>?_;rw[ntmps49];unfold pl;refine xW fun K hK=>?_;simp;apply hK;refine xW fun K hK=>?_;simp;apply hK;refine xS (xW fun K hK=>?_);simp[hn];apply hK;refine AU ?_;simp[iL];refine xK ?_;refine xW fun K hK=>?_;simp[q2,w1,w2];apply hK;refine xS (xW fun K hK=>?_);simp[q1];apply hK;refine Bw ?_;refine xW fun K hK=>?_;simp;apply hK;refine AU ?_;simp;refine xW fun K hK=>?_;simp;apply hK;refine AU ?_;simp;refine xW fun K hK=>?_;simp;apply hK;refine AU ?_;simp;refine xW fun K hK=>?_;simp;apply hK;refine AU ?_;simp;refine xW fun K hK=>?_;simp;apply hK;refine AU ?_;simp;refine xW fun K hK=>?_;simp;apply hK;refine AU ?_;simp;refine xW fun K hK=>?_;simp;apply hK;refine AU ?_;simp;refine xD [0,2,4,6,8,10,12,14] (by kernel_rfl) fun K hK=>?_;simp;refine xA 0 ?_;simp[hn,a4,iR,lY,hs,iB,ht];refine xM (hK _ _ ?_);refine AU ?_;simp;refine CC ?_;refine xW fun K hK=>?_;simp;apply hK;refine Ag ⟨_,_,AJ.refl,?_⟩;try simp
open Go.Proofs
section
variable {P:Program} {n b:Nat} {ops:Array Oper} {o:Oper} {tm:Tm} {S:Sg} {K:Tm→Sg→Prop}
def Gr(i:Int):ByteArray:=ByteArray.empty.push (UInt8.ofNat i.toNat)
theorem Hm(i:Int):(Gr i).size=1:=by simp[Gr,ByteArray.size_push]
theorem Jc{T U E:TypeId}{x:Operand}{i:Int}{t e:TI}(ho:o.op=.convert T U x)(hx:need (ev tm x))(ex:strip (ev tm x)=.full [.int .u8 i])
  (ht:ti P T=some t) (hu:P.underlying U=some .string) (he:ti P E=some e) (kt:t.kind=.slice E) (ke:e.kind=.int .u8):Bv P n o tm S (.d (.str (Gr i))) S:=.pure fun G w a st=>by
 have h1:=(BH st x).strip hx;rw[ex]at h1;obtain⟨d,hd,gv⟩:=Ai ht w;have lO:(underlying U).run P w=.ok .string w:=by simp[underlying,hu]
 obtain⟨d3,sJ,qv⟩:=Ai he w;have:d=.slice E:=by rw[kt]at gv;cases d<;>simp[tk]at gv⊢;exact gv
 subst this;have:d3=.int .u8:=by rw[ke]at qv;cases d3<;>simp[tk]at qv⊢;exact qv
 subst this;generalize hB:a.eval x=B at h1;cases h1 with
 |full _ base hc=>
  cases hc with
  |sl sz _ b off cap vs hI hl kB g1 g2=>
   have q0:=g1 0 (by simp);simp only[List.getElem_cons_zero]at q0;have q1:vs 0=.int .u8 i:=by generalize vs 0=u at q0;cases q0;rfl
   obtain⟨r1,r2⟩:=g2 0 (by simp);have gp:sz=1:=by rw[←r1,q1];rfl
   have xg:(loadCells ⟨b,off,none⟩ 1).run P w=.ok #[.int .u8 i] w:=run_loadCells _ rfl fun j hj=>by
    have:=r2 j (by omega);rw[q1,show(Value.int IntKind.u8 i).cells=#[.int .u8 i]from rfl]at this;have mV:j=0:=by omega
    subst mV;simpa using this
   refine⟨.string (Gr i),?_,.d _ _ (.str _ (by rw[Hm];unfold maxLen;omega))⟩;simp only[execOp,ho,convert,hB,hd,lO,sJ,Sem.run_bind,Result.andThen_ok,Conv.bytesToString];simp[xg,Gr]
theorem AS.KJ{rest:List Oper}{T U:TypeId}{x:Operand}(E:TypeId)(i:Int)(ho:o.op=.convert T U x)(hp:o.guard=none∧A6 n o.dst∧need (ev tm x)∧strip (ev tm x)=.full [.int .u8 i]∧AAH P T=some E∧intKind P E=some .u8)
  (hu:P.underlying U=some .string) (h2:AS P n b ops rest (put tm o.dst (.d (.str (Gr i)))) S K):AS P n b ops (o::rest) tm S K:=by
 obtain⟨h3,h4,h5,h6,h7,h8⟩:=hp;obtain⟨t,t1,t2⟩:=BA h7;obtain⟨e,e1,e2⟩:=GQ h8;exact AS.Rm ⟨h3,h4⟩ (Jc ho h5 h6 t1 hu e1 t2 e2) h2
theorem Ae.KJ{B:List (Nat×(Sg→Prop))}{k:Nat}{rest:List (Nat×Bool×Oper)}{T U:TypeId}{x:Operand}(E:TypeId)(i:Int)(ho:o.op=.convert T U x)(hp:o.guard=none∧A6 n o.dst∧need (ev tm x)∧strip (ev tm x)=.full [.int .u8 i]∧AAH P T=some E∧intKind P E=some .u8)
  (hu:P.underlying U=some .string) (h2:Ae P n b ops ((k,fun _=>True)::B) rest (put tm o.dst (.d (.str (Gr i)))) S K):Ae P n b ops B ((k,true,o)::rest) tm S K:=by
 obtain⟨h3,h4,h5,h6,h7,h8⟩:=hp;obtain⟨t,t1,t2⟩:=BA h7;obtain⟨e,e1,e2⟩:=GQ h8;refine Ae.quiet (fun _=>True) trivial (fun hi S' _=>fun tm' hh=>?_) h2;have h1:ev tm' x=ev tm x:=Fy hh x (by rw[ho];simp[Op.operands]);exact Step.Hd hi h4 h3 (Jc ho (by rw[h1];exact h5) (by rw[h1];exact h6) t1 hu e1 t2 e2)
theorem Ae.AEh{B:List (Nat×(Sg→Prop))}{i:Nat}{rest:List (Nat×Bool×Oper)}{c:Call}{f:FuncId}{args:List V}{v:V}(h:AE P f args [] v [])(ho:o.op=.call c)
  (hp:o.guard=none∧A6 n o.dst∧A5 tm c∧AA2 tm c f args∧args.all (AAB 0)=true∧AAB 0 v=true) (h2:Ae P n b ops ((i,fun _=>True)::B) rest (put tm o.dst v) S K):Ae P n b ops B ((i,true,o)::rest) tm S K:=by
 obtain⟨h3,h4,h5,h6,h7,h8⟩:=hp;exact Ae.quiet (fun _=>True) trivial (fun hi S' _=>A7.call hi ho h3 h4 (D6 h6) h5 (h.M5 h8 h7)) h2
end
open Go.Proofs Tryz
def OB(n:ByteArray)(l:Int):V:=.agg [.d (.str n),.d (.int .i64 l),.full [],.d (.sl []),.d (.int .i64 1),.d (.bool false),.d (.int .i64 0),.full [],.d (.bool false),.d (.int .i64 0),.d (.int .i64 0),.d (.int .i64 0),.d (.int .i64 0)]
theorem Ud(n:ByteArray)(l:Int):AE prog 15 [.d (.str n),.d (.int .i64 l),.full []] [] (OB n l) [.row true 13 [OB n l]]:=by
 have h1:=Bi true;simp at h1;refine AE.AI func15 (by kernel_rfl) rfl (by simp) fun wf _=>?_;rw[ntmps15];refine xW fun K hK=>?_;simp;apply hK;(repeat refine xS ?_);refine BX fun K hK=>?_;refine xJ ?_;simp;refine Bp (h1) rfl (by simp) ?_;simp;refine xJ ?_;simp[AA];refine Aj (hK _ _ ?_);(try simp only[xQ,reduceIte]);refine Ag ?_;(try simp only[xQ,reduceIte]);refine⟨_,AJ.refl,?_⟩;simp[Am,OB]
theorem Rb(n:ByteArray)(l:Int):AE prog 15 [.d (.str n),.d (.int .i64 l),.full []] [] (OB n l) []:=
 (Ud n l).ghost fun tm h0=>⟨_,AJ.drop 0 (Nat.le_refl _) (by simp) (by simp),by simp[clean,h0,OB,AAB,AAI]⟩
structure Fu where
 left:Nat
 right:List Nat
 DV:Nat
 mark:Nat
def CY(x:Fu):D:=.agg [D.int .u8 (x.left:Nat),D.sl (x.right.map fun(k:Nat)=>D.int .u8 k),D.int .u8 (x.DV:Nat),D.int .u8 (x.mark:Nat)]
@[simp] theorem WE(x:Fu):AAF (.d (CY x))=[.d (D.int .u8 (x.left:Nat)),.d (D.sl (x.right.map fun(k:Nat)=>D.int .u8 k)),.d (D.int .u8 (x.DV:Nat)),.d (D.int .u8 (x.mark:Nat))]:=rfl
@[simp] theorem U3(x:Fu):Ar (.d (CY x))=true:=rfl
@[simp] theorem XG(x:Fu):AAW (.d (CY x))=false:=rfl
@[simp] theorem WK(x:Fu):AAL (CY x)=[D.int .u8 (x.left:Nat),D.sl (x.right.map fun(k:Nat)=>D.int .u8 k),D.int .u8 (x.DV:Nat),D.int .u8 (x.mark:Nat)]:=rfl
@[simp] theorem YA(x:Fu):AAe.oneD (CY x)=true:=rfl
@[simp] theorem Zt(x:Fu):WFD (CY x)=AAY [D.int .u8 (x.left:Nat),D.sl (x.right.map fun(k:Nat)=>D.int .u8 k),D.int .u8 (x.DV:Nat),D.int .u8 (x.mark:Nat)]:=rfl
@[simp] theorem W1(S:Sg)(x:Fu):AAr S (.d (CY x))=some [D.int .u8 (x.left:Nat),D.sl (x.right.map fun(k:Nat)=>D.int .u8 k),D.int .u8 (x.DV:Nat),D.int .u8 (x.mark:Nat)]:=rfl
end Go.Koi
