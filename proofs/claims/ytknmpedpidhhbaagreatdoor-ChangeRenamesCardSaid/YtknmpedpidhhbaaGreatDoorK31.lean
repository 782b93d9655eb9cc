/-
  Part 32 of the proof that the law ChangeRenames of the package koinelaw31 returns true for every input.
-/
import Derived.Test.YtknmpedpidhhbaaGreatDoorK30
set_option maxHeartbeats 64000000
set_option maxRecDepth 100000
namespace Go.Koi
open Go.Proofs Tryz
def OB(n:ByteArray)(l:Int):V:=.agg [.d (.str n),.d (.int .i64 l),.full [],.d (.sl []),.d (.int .i64 1),.d (.bool false),.d (.int .i64 0),.full [],.d (.bool false),.d (.int .i64 0),.d (.int .i64 0),.d (.int .i64 0),.d (.int .i64 0)]
theorem Ud(n:ByteArray)(l:Int):AE prog 11 [.d (.str n),.d (.int .i64 l),.full []] [] (OB n l) [.row true 13 [OB n l]]:=by
 have h1:=Bi true;simp at h1;refine AE.AI func11 (by kernel_rfl) rfl (by simp) fun wf _=>?_;rw[ntmps11];refine xW fun K hK=>?_;simp;apply hK;(repeat refine xS ?_);refine BX fun K hK=>?_;refine xJ ?_;simp;refine Bp (h1) rfl (by simp) ?_;simp;refine xJ ?_;simp[AA];refine Aj (hK _ _ ?_);(try simp only[xQ,reduceIte]);refine Ag ?_;(try simp only[xQ,reduceIte]);refine⟨_,AJ.refl,?_⟩;simp[Am,OB]
theorem Rb(n:ByteArray)(l:Int):AE prog 11 [.d (.str n),.d (.int .i64 l),.full []] [] (OB n l) []:=
 (Ud n l).ghost fun tm h0=>⟨_,AJ.drop 0 (Nat.le_refl _) (by simp) (by simp),by simp[clean,h0,OB,AAB,AAG]⟩
structure Fu where
 left:Nat
 right:List Nat
 DV:Nat
 mark:Nat
def CY(x:Fu):D:=.agg [D.int .u8 (x.left:Nat),D.sl (x.right.map fun(k:Nat)=>D.int .u8 k),D.int .u8 (x.DV:Nat),D.int .u8 (x.mark:Nat)]
@[simp] theorem WE(x:Fu):AAD (.d (CY x))=[.d (D.int .u8 (x.left:Nat)),.d (D.sl (x.right.map fun(k:Nat)=>D.int .u8 k)),.d (D.int .u8 (x.DV:Nat)),.d (D.int .u8 (x.mark:Nat))]:=rfl
@[simp] theorem U3(x:Fu):Ar (.d (CY x))=true:=rfl
@[simp] theorem XG(x:Fu):AAV (.d (CY x))=false:=rfl
@[simp] theorem WK(x:Fu):AAL (CY x)=[D.int .u8 (x.left:Nat),D.sl (x.right.map fun(k:Nat)=>D.int .u8 k),D.int .u8 (x.DV:Nat),D.int .u8 (x.mark:Nat)]:=rfl
@[simp] theorem YA(x:Fu):AAe.oneD (CY x)=true:=rfl
@[simp] theorem Zt(x:Fu):WFD (CY x)=AAY [D.int .u8 (x.left:Nat),D.sl (x.right.map fun(k:Nat)=>D.int .u8 k),D.int .u8 (x.DV:Nat),D.int .u8 (x.mark:Nat)]:=rfl
@[simp] theorem W1(S:Sg)(x:Fu):AAs S (.d (CY x))=some [D.int .u8 (x.left:Nat),D.sl (x.right.map fun(k:Nat)=>D.int .u8 k),D.int .u8 (x.DV:Nat),D.int .u8 (x.mark:Nat)]:=rfl
open Go.Proofs Tryz
def bz(n k:Nat):Symbol:=if k % 14<9 then⟨true,(k % 14:Nat)⟩else⟨false,((k % 14 - 9) % n:Nat)⟩
def KA(n:Nat)(x:Fu)(i:Nat):List Symbol:=(x.right.take i).map (bz n)
def Gc:V:=.agg [.full [],.full [],.d (.int .i64 0),.full [],.full [],.full [],.d (.int .i64 0),.full [],.full []]
def aY(g:AF)(x:Fu)(nm:ByteArray)(lf:Nat)(r:List Symbol)(w:Bool):Sg:=
 [.row true 9 [.d (AB g)],.row true 4 [.d (CY x)],.row true 9 [Gc],.row true 13 [.agg [.d (.str nm),.d (.int .i64 lf),.row 4 r.length,.d (.sl []),.d (.int .i64 1),.d (.bool false),.d (.int .i64 0),.full [],.d (.bool false),.d (.int .i64 0),.d (.int .i64 0),.d (.int .i64 0),.d (.int .i64 0)]],.row w 2 (r.map fun s=>.d (AL s))]
def W5(n:Nat)(x:Fu):Nat→Int
 |0=>0
 |i+1=>if x.right.getD i 0 % 14<9 then IntKind.i64.wrap (W5 n x i+1)else W5 n x i
def Tj(n lf:Nat)(x:Fu):Nat→Bool
 |0=>true
 |i+1=>if x.right.getD i 0 % 14<9 then Tj n lf x i else Tj n lf x i&&decide (lf<(x.right.getD i 0 % 14 - 9) % n)
theorem SM{n i:Nat}{x:Fu}(h:i<x.right.length):KA n x (i+1)=KA n x i++[bz n x.right[i]]:=by
 unfold KA;rw[List.take_succ_eq_append_getElem h,List.map_append];rfl
theorem NK{n i:Nat}{x:Fu}(h:i≤x.right.length):(KA n x i).length=i:=by
 unfold KA;rw[List.length_map,List.length_take];omega
structure MkQ(nm:ByteArray)(l:Int)(r:List Symbol)(c:AN)(q:AT):Prop where
 name:q.name=nm
 left:q.left=l
 right:q.right=r
 cond:q.cond=c
 r1:-1≤q.Di
 r2:q.Di≤1
 det:ABQ q=true
 lay:q.layout.length≤1
theorem ADF(nm:ByteArray)(l:Int)(r:List Symbol)(c:AN)(k:Int)(h1:-1≤k)(h2:k≤1):MkQ nm l r c {pl nm l r c with Di:=k}:=
 ⟨rfl,rfl,rfl,rfl,h1,h2,by simp[pl,ABQ,AAm,Av],by simp[pl]⟩
theorem ABn(nm:ByteArray)(l:Int)(r:List Symbol)(c:AN):MkQ nm l r c (pl nm l r c):=ADF nm l r c 0 (by omega) (by omega)
theorem AD8(nm:ByteArray)(l:Int)(r:List Symbol)(c:AN):MkQ nm l r c {pl nm l r c with bracket:=SE l r}:=by
 refine⟨rfl,rfl,rfl,rfl,by simp[pl],by simp[pl],?_,by simp[pl]⟩;cases hb:SE l r with
 |false=>simp[pl,ABQ,AAm,Av]
 |true=>
  simp only[SE,Bool.and_eq_true,decide_eq_true_eq,Bool.not_eq_true']at hb;obtain⟨h0,h1,h2⟩:=hb;match r,h0 with
  |[a,b,d],_=>
   simp only[List.getD_cons_zero,List.getD_cons_succ]at h1 h2;obtain⟨bt,bi⟩:=b;simp only at h1 h2;simp[pl,ABQ,AAm,Av,h1.1.1,h1.1.2,h1.2,h2]
theorem ADw(nm:ByteArray)(l:Int)(r:List Symbol)(c:AN)(k:Nat)(h0:0<r.length):MkQ nm l r c {pl nm l r c with layout:=[⟨1+(k % 4:Nat),(k / 4 % r.length:Nat),if k % 4=0 then 0 else(r.length:Int) - 1⟩]}:=by
 refine⟨rfl,rfl,rfl,rfl,by simp[pl],by simp[pl],?_,by simp⟩;have h1:k / 4 % r.length<r.length:=Nat.mod_lt _ h0;have h2:k % 4<4:=Nat.mod_lt _ (by omega);generalize k / 4 % r.length=a at *;generalize k % 4=m at *;have h3:(a:Int)<r.length:=by omega
 by_cases hm:m=0
 ·subst hm;simp[pl,ABQ,AAm,Av,Kl,Mc,h3,h0]
 ·have:(m:Int)≠0:=by omega
  simp[pl,ABQ,AAm,Av,Kl,Mc,h3,hm];omega
theorem ADl(nm:ByteArray)(l:Int)(r:List Symbol)(c:AN):MkQ nm l r c {pl nm l r c with scope:=⟨true,0,0,0,0⟩}:=
 ⟨rfl,rfl,rfl,rfl,by simp[pl],by simp[pl],by simp[pl,ABQ,AAm],by simp[pl]⟩
theorem ACw{p:AT}{k:Nat}(hk:k<p.right.length)(ht:(p.right.getD k Qw).token=true)(v lo hi:Int)(h1:lo≤v)(h2:v≤hi):AAm p ((k:Int)+1) v lo hi=true:=by
 have e:(p.right.getD k Qw)=p.right[k]:=by simp[List.getD,hk]
 rw[e]at ht;have h3:¬((k:Int)+1=0):=by omega
 have h4:((k:Int)+1 - 1).toNat=k:=by omega
 have h5:(0:Int)<(k:Int)+1:=by omega
 have h6:(k:Int)+1≤p.right.length:=by omega
 simp only[AAm,if_neg h3,h4,List.getElem?_eq_getElem hk,ht,h1,h2,h5,h6,decide_true,Bool.and_self]
theorem ADk(nm:ByteArray)(l:Int)(r:List Symbol)(c:AN)(k:Nat)(h0:0<r.length)(ht:(r.getD (k % r.length) Qw).token=true):MkQ nm l r c {pl nm l r c with scope:=⟨false,(k % r.length:Nat)+1,1+(k % 2:Nat),0,0⟩}:=by
 refine⟨rfl,rfl,rfl,rfl,by simp[pl],by simp[pl],?_,by simp[pl]⟩;have h1:k % r.length<r.length:=Nat.mod_lt _ h0;have h2:k % 2<2:=Nat.mod_lt _ (by omega);have h3:=ACw (p:={pl nm l r c with scope:=⟨false,(k % r.length:Nat)+1,1+(k % 2:Nat),0,0⟩}) h1 ht (1+(k % 2:Nat)) 1 7 (by omega) (by omega);unfold ABQ;simp only[h3];simp[pl,AAm]
theorem AD3(nm:ByteArray)(l:Int)(r:List Symbol)(c:AN)(k:Nat)(h0:0<r.length)(ht:(r.getD (k % r.length) Qw).token=true):MkQ nm l r c {pl nm l r c with scope:=⟨false,0,0,(k % r.length:Nat)+1,1+(k % 7:Nat)⟩}:=by
 refine⟨rfl,rfl,rfl,rfl,by simp[pl],by simp[pl],?_,by simp[pl]⟩;have h1:k % r.length<r.length:=Nat.mod_lt _ h0;have h2:k % 7<7:=Nat.mod_lt _ (by omega);have h3:=ACw (p:={pl nm l r c with scope:=⟨false,0,0,(k % r.length:Nat)+1,1+(k % 7:Nat)⟩}) h1 ht (1+(k % 7:Nat)) 0 255 (by omega) (by omega);unfold ABQ;simp only[h3];simp[pl,AAm]
theorem ACu{n:Nat}{x:Fu}:∀{i:Nat},i≤x.right.length→i≤4→0≤W5 n x i∧W5 n x i≤i∧(W5 n x i=0↔EC (KA n x i)=false)
 |0,_,_=>⟨by simp[W5],by simp[W5],by simp[W5,KA,EC]⟩
 |i+1,h,h4=>by
  obtain⟨h1,h2,h3⟩:=ACu (n:=n) (x:=x) (i:=i) (by omega) (by omega);have hg:x.right.getD i 0=x.right[i]:=by simp[show i<x.right.length by omega]
  have hany:EC (KA n x (i+1))=(EC (KA n x i)||(bz n x.right[i]).token):=by
   rw[SM (by omega)];simp[EC]
  rw[hany];unfold W5;rw[hg];by_cases hk:x.right[i] % 14<9
  ·rw[if_pos hk];have hw:IntKind.i64.wrap (W5 n x i+1)=W5 n x i+1:=by rw[IntKind.wrap_i64];omega
   rw[hw];refine⟨by omega,by omega,?_⟩;simp[bz,hk];omega
  ·rw[if_neg hk];refine⟨h1,by omega,?_⟩;simp[bz,hk,h3]
theorem ABu{n lf:Nat}{x:Fu}:∀{i:Nat},i≤x.right.length→Tj n lf x i=true→∀s∈KA n x i,s.token=false→(lf:Int)<s.index
 |0,_,_=>fun s hs=>by simp[KA]at hs
 |i+1,h,hl=>by
  have hg:x.right.getD i 0=x.right[i]:=by simp[show i<x.right.length by omega]
  unfold Tj at hl;rw[hg]at hl;intro s hs ht;rw[SM (by omega)]at hs;by_cases hk:x.right[i] % 14<9
  ·rw[if_pos hk]at hl;rcases List.mem_append.1 hs with hs|hs
   ·exact ABu (by omega) hl s hs ht
   ·simp only[List.mem_singleton]at hs;subst hs;simp[bz,hk]at ht
  ·rw[if_neg hk]at hl;simp only[Bool.and_eq_true,decide_eq_true_eq]at hl;rcases List.mem_append.1 hs with hs|hs
   ·exact ABu (by omega) hl.1 s hs ht
   ·simp only[List.mem_singleton]at hs;subst hs;have:=hl.2;simp[bz,hk];omega
theorem ADS{n i:Nat}{x:Fu}(hn:0<n):∀s∈KA n x i,(s.token=true∧∃k:Nat,k<9∧s.index=k)∨(s.token=false∧∃k:Nat,k<n∧s.index=k):=fun s hs=>by
 obtain⟨k,_,rfl⟩:=List.mem_map.1 hs;unfold bz;split
 ·exact .inl ⟨rfl,k % 14,by omega,rfl⟩
 ·exact .inr ⟨rfl,(k % 14 - 9) % n,Nat.mod_lt _ hn,rfl⟩
def ABg(k:Nat):ByteArray:=⟨#[112]⟩++Gr (IntKind.u8.wrap (97+(k:Int)))
structure ACl(g:AF)(known:Bool)(q:AT):Prop where
 name:q.name=ABg g.AD.length
 left:∃lf:Nat,lf<g.BC.length∧q.left=lf
 len:q.right.length≤4
 syms:∀s∈q.right,(s.token=true∧∃k:Nat,k<9∧s.index=k)∨(s.token=false∧∃k:Nat,k<g.BC.length∧s.index=k)
 fits:DS q.cond g.conds.length=true
 r1:-1≤q.Di
 r2:q.Di≤1
 det:ABQ q=true
 lay:q.layout.length≤1
 later:EC q.right=false→known=false∧∀s∈q.right,q.left<s.index
def Ph(p:AF→Prop)(v:V)(S':Sg):Prop:=S'=[]∧∃g,v=.d (AB g)∧p g
theorem SH(nm:ByteArray)(l:Int)(r:List Symbol)(c:AN)(m:Nat)(hm:m<256)(h4:r.length≤4):∃q,Pure prog 47 [AH (pl nm l r c),.int .u8 m] (AH q)∧MkQ nm l r c q:=by
 by_cases h0:r=[]
 ·subst h0;exact⟨_,OA nm l c m,ABn nm l [] c⟩
 have h1:0<r.length:=List.length_pos_iff.2 h0;have e:m=8 * (m / 8)+m % 8:=by omega
 have h8:m % 8<8:=Nat.mod_lt _ (by omega);generalize m / 8=k at *;match hq:m % 8,h8 with
 |0,_=>rw[hq]at e;subst e;exact⟨_,Oo nm l r c k hm h1 h4,ABn nm l r c⟩
 |1,_=>rw[hq]at e;subst e;exact⟨_,PS nm l r c k hm h1 h4,ADF nm l r c 1 (by omega) (by omega)⟩
 |2,_=>rw[hq]at e;subst e;exact⟨_,Po nm l r c k hm h1 h4,ADF nm l r c (-1) (by omega) (by omega)⟩
 |3,_=>rw[hq]at e;subst e;exact⟨_,Pt nm l r c k hm h1 h4,AD8 nm l r c⟩
 |4,_=>rw[hq]at e;subst e;exact⟨_,PK nm l r c k hm h1 h4,ADw nm l r c k h1⟩
 |5,_=>rw[hq]at e;subst e;exact⟨_,Pj nm l r c k hm h1 h4,ADl nm l r c⟩
 |6,_=>
  rw[hq]at e;subst e;cases ht:(r.getD (k % r.length) Qw).token with
  |true=>exact⟨_,OM nm l r c k hm h1 h4 ht,ADk nm l r c k h1 ht⟩
  |false=>exact⟨_,OH nm l r c k hm h1 h4 ht,ABn nm l r c⟩
 |7,_=>
  rw[hq]at e;subst e;cases ht:(r.getD (k % r.length) Qw).token with
  |true=>exact⟨_,NQ nm l r c k hm h1 h4 ht,AD3 nm l r c k h1 ht⟩
  |false=>exact⟨_,NG nm l r c k hm h1 h4 ht,ABn nm l r c⟩
theorem Ph.pure{f:FuncId}{ds:List D}{F:AF}(h:At prog f (ds.map .d) [] (Ph fun g'=>g'=F)):Pure prog f ds (AB F):=
 At.cZ (h.mono fun v S' ⟨h1,g,h2,h3⟩=>by subst h3;exact⟨h2,h1⟩)
theorem OG(g:AF)(x:Fu)(known:Bool)(hn:0<g.BC.length∧g.BC.length≤3)(hc:g.conds.length≤3)(hp:g.AD.length≤100)(hx1:x.DV<256)(hx2:x.mark<256):
  ∃F,(F=g∨∃q,ACl g known q∧F={g with AD:=g.AD++[q]})∧At prog 14 [.d (AB g),.d (CY x),.d (.bool known)] [] (Ph fun g'=>g'=F):=by
 obtain⟨n,hnn⟩:∃n,g.BC.length=n:=⟨_,rfl⟩;rw[hnn]at hn;obtain⟨lf,hlf⟩:∃lf,x.left % n=lf:=⟨_,rfl⟩;have u1:IntKind.i64.wrap (97+(g.AD.length:Int))=97+(g.AD.length:Int):=by rw[IntKind.wrap_i64];omega
 have hu9:prog.underlying 9=some .string:=by kernel_rfl
 have h2m:2≤maxLen:=by unfold maxLen;omega
 have h1m:1≤maxLen:=by unfold maxLen;omega
 obtain⟨N,hN⟩:∃N,min x.right.length 4=N:=⟨_,rfl⟩;have hset:=Cx x.DV g.conds.length hx1 (by omega);have hsl4:(KA n x N).length≤4:=by rw[NK (by omega)];omega
 have hfs:=AAy hx1 (show g.conds.length<4 by omega);obtain⟨q,hq,hmq⟩:=SH (⟨#[112]⟩++Gr (IntKind.u8.wrap (97+g.AD.length))) lf (KA n x N) (E7 x.DV g.conds.length) x.mark hx2 hsl4;generalize hset0:E7 x.DV g.conds.length=d at *;refine⟨if decide (W5 n x N=0)&&(known||!Tj n lf x N)then g else {g with AD:=g.AD++[q]},?_,?_⟩
 ·split
  ·exact .inl rfl
  ·next hcase=>
   have hNl:N≤x.right.length:=by omega
   have hN4:N≤4:=by omega
   refine .inr ⟨q,⟨hmq.name,⟨lf,by rw[←hlf,hnn];exact Nat.mod_lt _ hn.1,hmq.left⟩,by rw[hmq.right];exact hsl4,by rw[hmq.right,hnn];exact ADS hn.1,by rw[hmq.cond];exact hfs,hmq.r1,hmq.r2,hmq.det,hmq.lay,fun ha=>?_⟩,rfl⟩;rw[hmq.right]at ha;have h0:=(ACu (n:=n) hNl hN4).2.2.2 ha;simp only[h0,decide_true,Bool.true_and,Bool.or_eq_true,not_or,Bool.not_eq_true,Bool.not_eq_true']at hcase;obtain⟨hc1,hc2⟩:=hcase;refine⟨hc1,fun s hs=>?_⟩;rw[hmq.right]at hs;rw[hmq.left];exact ABu hNl (by simpa using hc2) s hs (ABv ha s hs)
 refine At.AI func14 (by kernel_rfl) rfl (by simp) fun wf _=>?_;have hll:x.left<256:=by have:=wf.2.1;simp[WFV,WFD,AAY,rng]at this;omega
 have u2:IntKind.i64.wrap (x.left:Int)=x.left:=by rw[IntKind.wrap_i64];omega
 have u3:((x.left:Int).tmod n)=lf:=by rw[Int.tmod_eq_emod_of_nonneg (by omega),←hlf];simp
 have hnz:¬n=0:=by omega
 rw[ntmps14];refine xW fun K hK=>?_;simp;apply hK;refine xW fun K hK=>?_;simp[hnn];apply hK;(repeat refine xS ?_);refine xE [0,2,4,6,8,10,12,14,16,18,20,22,24,26,29,31] (by kernel_rfl) fun K hK=>?_;simp;(repeat(refine xG ?_ ?_;(·simp[h1m]);simp[u1]));refine Ae.KJ 5 (IntKind.u8.wrap (97+g.AD.length)) rfl (by simp) hu9 ?_;simp;refine xA 1 ?_;simp[h1m,h2m,u2,u3,hnz,Hm];refine Ae.al (Rb (⟨#[112]⟩++Gr (IntKind.u8.wrap (97+g.AD.length))) lf) rfl (by simp[OB,AAB,AAG];try rfl) ?_;simp;refine xA 1 ?_;simp;refine xX 0 (by kernel_rfl) ?_;simp[AR,OB];refine xA 1 ?_;simp;refine xX 16383 (by kernel_rfl) ?_;simp[AR];refine xM (hK _ _ ?_);(try simp only[xQ,reduceIte]);generalize({data:=#[112]}:ByteArray)++Gr (IntKind.u8.wrap (97+g.AD.length))=nm at *;refine AW.ghost (AJ.Lb 3 0 2 2 (xs:=[]) rfl rfl rfl) ?_;simp;refine xW fun K hK=>?_;simp;apply hK;refine xW fun K hK=>?_;simp;apply hK;refine AW.El (R:=fun tm S=>tm 2=.d (.bool known)∧tm 3=.ptr 0 1 0 0∧tm 4=.ptr 1 1 0 0∧tm 6=.ptr 2 1 0 0∧tm 8=.ptr 3 1 0 0∧tm 9=.d (.int .i64 (W5 n x N))∧tm 10=.d (.bool (Tj n lf x N))∧∃w,S=aY g x nm lf (KA n x N) w) ?_ ?_
 ·refine xW fun K hK=>?_;simp;apply hK;refine Bw ?_;refine DC N (fun i tm S=>tm 2=.d (.bool known)∧tm 3=.ptr 0 1 0 0∧tm 4=.ptr 1 1 0 0∧tm 6=.ptr 2 1 0 0∧tm 7=.d (.int .i64 n)∧tm 8=.ptr 3 1 0 0∧tm 9=.d (.int .i64 (W5 n x i))∧tm 10=.d (.bool (Tj n lf x i))∧tm 11=.d (.int .i64 i)∧∃w,S=aY g x nm lf (KA n x i) w) (Nat.zero_le _) ?_ ?_
  ·simp[KA,aY,Gc,W5,Tj]
  rintro i tm S hi ⟨t2,t3,t4,t6,t7,t8,t9,t10,t11,w,rfl⟩;unfold aY;refine xS (xW fun K hK=>?_);simp[t4,t11];apply hK;(repeat refine xS ?_);refine AW.BD (t:=decide (i<x.right.length)&&decide (i<4)) ?_ (fun hb=>?_) (fun hb=>?_)
  ·simp;rw[Bool.eq_iff_iff];simp;intro _;omega
  ·simp only[Bool.and_eq_true,decide_eq_true_eq]at hb;obtain⟨hlt,hi4⟩:=hb;have hk:x.right[i] <256:=by
    have:=wf.2.1;simp[WFV,WFD,AAY,DM]at this;have:=this.2.1.2 _ (List.getElem_mem hlt);omega
   have hsl:=NK (n:=n) (Nat.le_of_lt hlt);have hss:=SM (n:=n) hlt;have hgk:x.right.getD i 0=x.right[i]:=by simp[hlt]
   have hlt1:W5 n x (i+1)=if x.right[i] % 14<9 then IntKind.i64.wrap (W5 n x i+1)else W5 n x i:=by rw[←hgk];rfl
   have hll1:Tj n lf x (i+1)=if x.right[i] % 14<9 then Tj n lf x i else Tj n lf x i&&decide (lf<(x.right[i] % 14 - 9) % n):=by rw[←hgk];rfl
   generalize hkk:x.right[i]=kk at *;obtain⟨m,hm⟩:∃m,kk % 14=m:=⟨_,rfl⟩;rw[hm]at hlt1 hll1;have v1:IntKind.i64.wrap (kk:Int)=kk:=by rw[IntKind.wrap_i64];omega
   have v2:((kk:Int).tmod 14)=m:=by rw[Int.tmod_eq_emod_of_nonneg (by omega),←hm];simp
   have v3:(kk:Int) % 14=m:=by omega
   have hl1:i+1≤1073741824:=by omega
   have hwi:IntKind.i64.wrap ((i:Int)+1)=(i+1:Nat):=by rw[IntKind.wrap_i64];omega
   refine xK ?_;refine xB ?_;refine xW fun K hK=>?_;simp[t4,t11,hlt,hkk,v1,v2];apply hK;refine xS (xW fun K hK=>?_);simp;apply hK;refine AU ?_;simp;refine⟨fun h9=>?_,fun h9=>?_⟩
   ·have hs9:bz n kk=⟨true,m⟩:=by
     have h9':m<9:=by omega
     simp[bz,hm,h9']
    refine xD [0,2,4,6,8,11,12,15] (by kernel_rfl) fun K hK=>?_;simp;refine xA 1 ?_;simp[t8];refine Ae.CA (Cp m) rfl (by simp[xN]) ?_;simp;refine xA 1 ?_;simp[h1m];refine xX 11 (by kernel_rfl) ?_;simp[AR,hsl,hl1,h1m,Af,forall_and,t8];refine xA 1 ?_;simp[t8];refine xX 7 (by kernel_rfl) ?_;simp[AR,t8];refine xM (hK _ _ ?_);refine xW fun K hK=>?_;simp[t9];apply hK;refine Cu ?_;refine xV fun K hK=>?_;simp[t11];apply hK;refine⟨by omega,_,_,AJ.refl,?_⟩;have h9n:m<9:=by omega
    rw[if_pos h9n]at hlt1 hll1;simp[t2,t3,t4,t6,t7,t8,t10,hwi,hss,hs9,hsl,hlt1,hll1]
   ·have hs9:bz n kk=⟨false,((m - 9) % n:Nat)⟩:=by
     have h9':¬m<9:=by omega
     simp[bz,hm,h9']
    obtain⟨e,he⟩:∃e,(m - 9) % n=e:=⟨_,rfl⟩;have h9n:¬m<9:=by omega
    rw[if_neg h9n]at hlt1 hll1;rw[he]at hs9 hll1;have v4:IntKind.i64.wrap ((m:Int) - 9)=(m - 9:Nat):=by rw[IntKind.wrap_i64];omega
    have v5:(((m - 9:Nat):Int).tmod n)=e:=by rw[Int.tmod_eq_emod_of_nonneg (by omega),←he];simp
    generalize m - 9=m9 at *;refine xK ?_;(repeat refine xS ?_);refine xE [0,2,4,6,8,10,12,14,17,18,21] (by kernel_rfl) fun K hK=>?_;simp;refine xA 1 ?_;simp[t7,t8,v4,v5,hnz];refine Ae.CA (Dh e) rfl (by simp[xN]) ?_;simp;refine xA 1 ?_;simp[h1m];refine xX 67 (by kernel_rfl) ?_;simp[AR,hsl,hl1,h1m,Af,forall_and,t7,t8,v4,v5,hnz];refine xA 1 ?_;simp[t8];refine xX 63 (by kernel_rfl) ?_;simp[AR,t8];refine xM (hK _ _ ?_);(try simp only[xQ,reduceIte]);cases hli:Tj n lf x i with
    |true=>
     rw[hli]at t10 hll1;refine xE [0,2,4,6,8,10,12,14,16,18,20] (by kernel_rfl) fun K hK=>?_;simp;refine xZ ?_;simp[t7,t8,t10,v4,v5,hnz];refine xM (hK _ _ ?_);refine xV fun K hK=>?_;simp[t11];apply hK;refine⟨by omega,_,_,AJ.refl,?_⟩;simp[t2,t3,t4,t6,t7,t8,t9,hwi,hss,hs9,hsl,hlt1,hll1]
    |false=>
     rw[hli]at t10 hll1;refine xE [0,2,4,6,8,10,12,14,16,18,20] (by kernel_rfl) fun K hK=>?_;simp;refine xZ ?_;simp[t10];refine xM (hK _ _ ?_);refine xV fun K hK=>?_;simp[t11];apply hK;refine⟨by omega,_,_,AJ.refl,?_⟩;simp[t2,t3,t4,t6,t7,t8,t9,hwi,hss,hs9,hsl,hlt1,hll1]
  ·have e:i=N:=by simp at hb;omega
   subst e;refine Cu ?_;simp[t2,t3,t4,t6,t8,t9,t10]
 ·rintro tm S ⟨t2,t3,t4,t6,t8,t9,t10,w,rfl⟩;generalize W5 n x N=t at *;generalize Tj n lf x N=l at *;generalize KA n x N=r at *;refine AW.El (R:=fun tm S=>tm 3=.ptr 0 1 0 0∧tm 4=.ptr 1 1 0 0∧tm 6=.ptr 2 1 0 0∧tm 8=.ptr 3 1 0 0∧S=aY g x nm lf r w∧(decide (t=0)&&(known||!l))=false) ?_ ?_
  ·unfold aY;by_cases ht0:t=0
   ·cases known with
    |true=>
     refine Az fun K hK=>?_;refine xH ?_;simp[t2,t9,ht0];refine Aj (hK _ _ ?_);refine AU ?_;simp;refine xW fun K hK=>?_;simp[t3,t6,Gc];apply hK;refine Ag ?_;(try simp only[xQ,reduceIte]);refine⟨_,_,AJ.refl,by simp[t6],_,_,⟨rfl,g,rfl,by simp[ht0]⟩,.inl ⟨AB g,_,by simp[t6],rfl,AJ.AY 0 rfl (by simp) (by simp) (by simp)⟩⟩
    |false=>
     (repeat refine xS ?_);refine BX fun K hK=>?_;refine xH ?_;simp[t2,t9,t10,ht0];refine Aj (hK _ _ ?_);(try simp only[xQ,reduceIte]);cases l with
     |true=>
      refine AU ?_;simp;refine CC ?_;simp[t3,t4,t6,t8]
     |false=>
      refine AU ?_;simp;refine xW fun K hK=>?_;simp[t3,t6,Gc];apply hK;refine Ag ?_;(try simp only[xQ,reduceIte]);refine⟨_,_,AJ.refl,by simp[t6],_,_,⟨rfl,g,rfl,by simp[ht0]⟩,.inl ⟨AB g,_,by simp[t6],rfl,AJ.AY 0 rfl (by simp) (by simp) (by simp)⟩⟩
   ·(repeat refine xS ?_);refine BX fun K hK=>?_;(repeat((first|refine Dp rfl ?_ ?_;(·simp[ht0])|refine Jf rfl ?_ ?_;(·simp[t2,t9,t10,ht0])|refine B7 ?_ ?_;(·simp[ht0]));simp[t9]));refine Aj (hK _ _ ?_);(try simp only[AAo]);refine AU ?_;simp[ht0];refine CC ?_;simp[t3,t4,t6,t8]
  rintro tm S ⟨t3,t4,t6,t8,rfl,hF⟩;unfold aY;refine Az fun K hK=>?_;refine xJ ?_;simp[t3,t4];refine Bp (hset) rfl (by simp[xN]) ?_;simp;refine xJ ?_;simp[t8,AA];refine Aj (hK _ _ ?_);refine AW.ghost (AJ.B6 4 (xs:=r.map AL) rfl (by simp)) ?_;simp;(repeat refine xS ?_);refine BX fun K hK=>?_;refine xJ ?_;simp[t4,t8];refine Bp (hq) rfl (by simp[pl,Av,xN]) ?_;simp;refine xJ ?_;simp[t8];refine Aj (hK _ _ ?_);(try simp only[xQ,reduceIte]);have hp1:g.AD.length≤1073741824:=by omega
  have hp2:g.AD.length+1≤1073741824:=by omega
  have hm0:0≤maxLen:=Nat.zero_le _;refine xD [0,2,4,8,10,7,13,14,17] (by kernel_rfl) fun K hK=>?_;simp;refine xA 1 ?_;simp[t3,t8,h1m,hm0];refine xX 20 (by kernel_rfl) ?_;simp[AR,t3,t8,h1m,hm0,hp1,Af,forall_and];refine xA 1 ?_;simp;refine xX 1 (by kernel_rfl) ?_;simp[AR,t3,t8,h1m,hp2,Af,forall_and];refine xA 1 ?_;simp[t3];refine xX 7 (by kernel_rfl) ?_;simp[AR,t3];refine xM (hK _ _ ?_);refine xW fun K hK=>?_;simp[t3,t6,Gc];apply hK;refine Ag ?_;(try simp only[xQ,reduceIte]);refine⟨_,_,AJ.B6 5 (xs:=(g.AD++[q]).map AH) rfl (by simpa using BT _ ((g.AD++[q]).map AH)),by simp[t6],_,_,⟨rfl,{g with AD:=g.AD++[q]},rfl,by show _=_;rw[if_neg];simpa using hF⟩,.inl ⟨AB {g with AD:=g.AD++[q]},_,by simp[t6,asD,AB],rfl,AJ.AY 0 rfl (by simp) (by simp) (by simp)⟩⟩
theorem LF(g:AF)(x:Fu)(known:Bool)(hn:0<g.BC.length∧g.BC.length≤3)(hc:g.conds.length≤3)(hp:g.AD.length≤100)(hx1:x.DV<256)(hx2:x.mark<256):
  ∃F,(F=g∨∃q,ACl g known q∧F={g with AD:=g.AD++[q]})∧Pure prog 14 [AB g,CY x,.bool known] (AB F):=by
 obtain⟨F,h1,h2⟩:=OG g x known hn hc hp hx1 hx2;exact⟨F,h1,Ph.pure h2⟩
end Go.Koi
