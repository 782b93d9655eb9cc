/- Part 31 of the proof that the law ChangeValid returns true for every input. -/
import Derived.Test.YtlgjmkfbkhfakaaGreatDoorK29
set_option maxHeartbeats 64000000
set_option maxRecDepth 100000
namespace Go.Koi
open Go.Proofs Tryz
def bz(n k:Nat):Symbol:=if k % 14<9 then⟨true,(k % 14:Nat)⟩else⟨false,((k % 14 - 9) % n:Nat)⟩
def KA(n:Nat)(x:Fu)(i:Nat):List Symbol:=(x.right.take i).map (bz n)
def Gc:V:=.agg [.full [],.full [],.d (.int .i64 0),.full [],.full [],.full [],.d (.int .i64 0),.full [],.full []]
def aY(g:AF)(x:Fu)(nm:ByteArray)(lf:Nat)(r:List Symbol)(w:Bool):Sg:=
 [.row true 9 [.d (AB g)],.row true 4 [.d (CY x)],.row true 9 [Gc],.row true 13 [.agg [.d (.str nm),.d (.int .i64 lf),.row 4 r.length,.d (.sl []),.d (.int .i64 1),.d (.bool false),.d (.int .i64 0),.full [],.d (.bool false),.d (.int .i64 0),.d (.int .i64 0),.d (.int .i64 0),.d (.int .i64 0)]],.row w 2 (r.map fun s=>.d (AL s))]
def W5(n:Nat)(x:Fu):Nat→Int
 |0=>0
 |i+1=>if x.right.getD i 0 % 14<9 then IntKind.i64.wrap (W5 n x i+1)else W5 n x i
def Tj(n lf:Nat)(x:Fu):Nat→Bool
 |0=>true
 |i+1=>if x.right.getD i 0 % 14<9 then Tj n lf x i else Tj n lf x i&&decide (lf<(x.right.getD i 0 % 14 - 9) % n)
theorem SM{n i:Nat}{x:Fu}(h:i<x.right.length):KA n x (i+1)=KA n x i++[bz n x.right[i]]:=by
 unfold KA;rw[List.take_succ_eq_append_getElem h,List.map_append];rfl
theorem NK{n i:Nat}{x:Fu}(h:i≤x.right.length):(KA n x i).length=i:=by
 unfold KA;rw[List.length_map,List.length_take];omega
structure MkQ(nm:ByteArray)(l:Int)(r:List Symbol)(c:AN)(q:AT):Prop where
 name:q.name=nm
 left:q.left=l
 right:q.right=r
 cond:q.cond=c
 r1:-1≤q.Di
 r2:q.Di≤1
 det:ABW q=true
 lay:q.layout.length≤1
theorem ADn(nm:ByteArray)(l:Int)(r:List Symbol)(c:AN)(k:Int)(h1:-1≤k)(h2:k≤1):MkQ nm l r c {pl nm l r c with Di:=k}:=
 ⟨rfl,rfl,rfl,rfl,h1,h2,by simp[pl,ABW,AAo,Av],by simp[pl]⟩
theorem ABx(nm:ByteArray)(l:Int)(r:List Symbol)(c:AN):MkQ nm l r c (pl nm l r c):=ADn nm l r c 0 (by omega) (by omega)
theorem AEg(nm:ByteArray)(l:Int)(r:List Symbol)(c:AN):MkQ nm l r c {pl nm l r c with bracket:=SE l r}:=by
 refine⟨rfl,rfl,rfl,rfl,by simp[pl],by simp[pl],?_,by simp[pl]⟩;cases hb:SE l r with
 |false=>simp[pl,ABW,AAo,Av]
 |true=>
  simp only[SE,Bool.and_eq_true,decide_eq_true_eq,Bool.not_eq_true']at hb;obtain⟨h0,h1,h2⟩:=hb;match r,h0 with
  |[a,b,d],_=>
   simp only[List.getD_cons_zero,List.getD_cons_succ]at h1 h2;obtain⟨bt,bi⟩:=b;simp only at h1 h2;simp[pl,ABW,AAo,Av,h1.1.1,h1.1.2,h1.2,h2]
theorem AEi(nm:ByteArray)(l:Int)(r:List Symbol)(c:AN)(k:Nat)(h0:0<r.length):MkQ nm l r c {pl nm l r c with layout:=[⟨1+(k % 4:Nat),(k / 4 % r.length:Nat),if k % 4=0 then 0 else(r.length:Int) - 1⟩]}:=by
 refine⟨rfl,rfl,rfl,rfl,by simp[pl],by simp[pl],?_,by simp⟩;have h1:k / 4 % r.length<r.length:=Nat.mod_lt _ h0;have h2:k % 4<4:=Nat.mod_lt _ (by omega);generalize k / 4 % r.length=a at *;generalize k % 4=m at *;have h3:(a:Int)<r.length:=by omega
 by_cases hm:m=0
 ·subst hm;simp[pl,ABW,AAo,Av,Kl,Mc,h3,h0]
 ·have:(m:Int)≠0:=by omega
  simp[pl,ABW,AAo,Av,Kl,Mc,h3,hm];omega
theorem AEL(nm:ByteArray)(l:Int)(r:List Symbol)(c:AN):MkQ nm l r c {pl nm l r c with scope:=⟨true,0,0,0,0⟩}:=
 ⟨rfl,rfl,rfl,rfl,by simp[pl],by simp[pl],by simp[pl,ABW,AAo],by simp[pl]⟩
theorem ADO{p:AT}{k:Nat}(hk:k<p.right.length)(ht:(p.right.getD k Qw).token=true)(v lo hi:Int)(h1:lo≤v)(h2:v≤hi):AAo p ((k:Int)+1) v lo hi=true:=by
 have e:(p.right.getD k Qw)=p.right[k]:=by simp[List.getD,hk]
 rw[e]at ht;have h3:¬((k:Int)+1=0):=by omega
 have h4:((k:Int)+1 - 1).toNat=k:=by omega
 have h5:(0:Int)<(k:Int)+1:=by omega
 have h6:(k:Int)+1≤p.right.length:=by omega
 simp only[AAo,if_neg h3,h4,List.getElem?_eq_getElem hk,ht,h1,h2,h5,h6,decide_true,Bool.and_self]
theorem AEQ(nm:ByteArray)(l:Int)(r:List Symbol)(c:AN)(k:Nat)(h0:0<r.length)(ht:(r.getD (k % r.length) Qw).token=true):MkQ nm l r c {pl nm l r c with scope:=⟨false,(k % r.length:Nat)+1,1+(k % 2:Nat),0,0⟩}:=by
 refine⟨rfl,rfl,rfl,rfl,by simp[pl],by simp[pl],?_,by simp[pl]⟩;have h1:k % r.length<r.length:=Nat.mod_lt _ h0;have h2:k % 2<2:=Nat.mod_lt _ (by omega);have h3:=ADO (p:={pl nm l r c with scope:=⟨false,(k % r.length:Nat)+1,1+(k % 2:Nat),0,0⟩}) h1 ht (1+(k % 2:Nat)) 1 7 (by omega) (by omega);unfold ABW;simp only[h3];simp[pl,AAo]
theorem AEk(nm:ByteArray)(l:Int)(r:List Symbol)(c:AN)(k:Nat)(h0:0<r.length)(ht:(r.getD (k % r.length) Qw).token=true):MkQ nm l r c {pl nm l r c with scope:=⟨false,0,0,(k % r.length:Nat)+1,1+(k % 7:Nat)⟩}:=by
 refine⟨rfl,rfl,rfl,rfl,by simp[pl],by simp[pl],?_,by simp[pl]⟩;have h1:k % r.length<r.length:=Nat.mod_lt _ h0;have h2:k % 7<7:=Nat.mod_lt _ (by omega);have h3:=ADO (p:={pl nm l r c with scope:=⟨false,0,0,(k % r.length:Nat)+1,1+(k % 7:Nat)⟩}) h1 ht (1+(k % 7:Nat)) 0 255 (by omega) (by omega);unfold ABW;simp only[h3];simp[pl,AAo]
theorem ADL{n:Nat}{x:Fu}:∀{i:Nat},i≤x.right.length→i≤4→0≤W5 n x i∧W5 n x i≤i∧(W5 n x i=0↔EC (KA n x i)=false)
 |0,_,_=>⟨by simp[W5],by simp[W5],by simp[W5,KA,EC]⟩
 |i+1,h,h4=>by
  obtain⟨h1,h2,h3⟩:=ADL (n:=n) (x:=x) (i:=i) (by omega) (by omega);have hg:x.right.getD i 0=x.right[i]:=by simp[show i<x.right.length by omega]
  have p8:EC (KA n x (i+1))=(EC (KA n x i)||(bz n x.right[i]).token):=by
   rw[SM (by omega)];simp[EC]
  rw[p8];unfold W5;rw[hg];by_cases hk:x.right[i] % 14<9
  ·rw[if_pos hk];have hw:IntKind.i64.wrap (W5 n x i+1)=W5 n x i+1:=by rw[IntKind.wrap_i64];omega
   rw[hw];refine⟨by omega,by omega,?_⟩;simp[bz,hk];omega
  ·rw[if_neg hk];refine⟨h1,by omega,?_⟩;simp[bz,hk,h3]
theorem AB8{n lf:Nat}{x:Fu}:∀{i:Nat},i≤x.right.length→Tj n lf x i=true→∀s∈KA n x i,s.token=false→(lf:Int)<s.index
 |0,_,_=>fun s hs=>by simp[KA]at hs
 |i+1,h,hl=>by
  have hg:x.right.getD i 0=x.right[i]:=by simp[show i<x.right.length by omega]
  unfold Tj at hl;rw[hg]at hl;intro s hs ht;rw[SM (by omega)]at hs;by_cases hk:x.right[i] % 14<9
  ·rw[if_pos hk]at hl;rcases List.mem_append.1 hs with hs|hs
   ·exact AB8 (by omega) hl s hs ht
   ·simp only[List.mem_singleton]at hs;subst hs;simp[bz,hk]at ht
  ·rw[if_neg hk]at hl;simp only[Bool.and_eq_true,decide_eq_true_eq]at hl;rcases List.mem_append.1 hs with hs|hs
   ·exact AB8 (by omega) hl.1 s hs ht
   ·simp only[List.mem_singleton]at hs;subst hs;have:=hl.2;simp[bz,hk];omega
theorem AD6{n i:Nat}{x:Fu}(hn:0<n):∀s∈KA n x i,(s.token=true∧∃k:Nat,k<9∧s.index=k)∨(s.token=false∧∃k:Nat,k<n∧s.index=k):=fun s hs=>by
 obtain⟨k,_,rfl⟩:=List.mem_map.1 hs;unfold bz;split
 ·exact .inl ⟨rfl,k % 14,by omega,rfl⟩
 ·exact .inr ⟨rfl,(k % 14 - 9) % n,Nat.mod_lt _ hn,rfl⟩
def ABv(k:Nat):ByteArray:=⟨#[112]⟩++Gr (IntKind.u8.wrap (97+(k:Int)))
structure AC7(g:AF)(known:Bool)(q:AT):Prop where
 name:q.name=ABv g.AD.length
 left:∃lf:Nat,lf<g.BC.length∧q.left=lf
 len:q.right.length≤4
 syms:∀s∈q.right,(s.token=true∧∃k:Nat,k<9∧s.index=k)∨(s.token=false∧∃k:Nat,k<g.BC.length∧s.index=k)
 fits:DS q.cond g.conds.length=true
 r1:-1≤q.Di
 r2:q.Di≤1
 det:ABW q=true
 lay:q.layout.length≤1
 later:EC q.right=false→known=false∧∀s∈q.right,q.left<s.index
def Ph(p:AF→Prop)(v:V)(S':Sg):Prop:=S'=[]∧∃g,v=.d (AB g)∧p g
theorem SH(nm:ByteArray)(l:Int)(r:List Symbol)(c:AN)(m:Nat)(hm:m<256)(h4:r.length≤4):∃q,Pure prog 49 [AH (pl nm l r c),.int .u8 m] (AH q)∧MkQ nm l r c q:=by
 by_cases h0:r=[]
 ·subst h0;exact⟨_,OA nm l c m,ABx nm l [] c⟩
 have h1:0<r.length:=List.length_pos_iff.2 h0;have e:m=8 * (m / 8)+m % 8:=by omega
 have h8:m % 8<8:=Nat.mod_lt _ (by omega);generalize m / 8=k at *;match hq:m % 8,h8 with
 |0,_=>rw[hq]at e;subst e;exact⟨_,Oo nm l r c k hm h1 h4,ABx nm l r c⟩
 |1,_=>rw[hq]at e;subst e;exact⟨_,PS nm l r c k hm h1 h4,ADn nm l r c 1 (by omega) (by omega)⟩
 |2,_=>rw[hq]at e;subst e;exact⟨_,Po nm l r c k hm h1 h4,ADn nm l r c (-1) (by omega) (by omega)⟩
 |3,_=>rw[hq]at e;subst e;exact⟨_,Pt nm l r c k hm h1 h4,AEg nm l r c⟩
 |4,_=>rw[hq]at e;subst e;exact⟨_,PK nm l r c k hm h1 h4,AEi nm l r c k h1⟩
 |5,_=>rw[hq]at e;subst e;exact⟨_,Pj nm l r c k hm h1 h4,AEL nm l r c⟩
 |6,_=>
  rw[hq]at e;subst e;cases ht:(r.getD (k % r.length) Qw).token with
  |true=>exact⟨_,OM nm l r c k hm h1 h4 ht,AEQ nm l r c k h1 ht⟩
  |false=>exact⟨_,OH nm l r c k hm h1 h4 ht,ABx nm l r c⟩
 |7,_=>
  rw[hq]at e;subst e;cases ht:(r.getD (k % r.length) Qw).token with
  |true=>exact⟨_,NQ nm l r c k hm h1 h4 ht,AEk nm l r c k h1 ht⟩
  |false=>exact⟨_,NG nm l r c k hm h1 h4 ht,ABx nm l r c⟩
theorem Ph.pure{f:FuncId}{ds:List D}{F:AF}(h:At prog f (ds.map .d) [] (Ph fun g'=>g'=F)):Pure prog f ds (AB F):=
 At.cZ (h.mono fun v S' ⟨h1,g,h2,h3⟩=>by subst h3;exact⟨h2,h1⟩)
theorem OG(g:AF)(x:Fu)(known:Bool)(hn:0<g.BC.length∧g.BC.length≤3)(hc:g.conds.length≤3)(hp:g.AD.length≤100)(mU:x.DV<256)(rS:x.mark<256):
  ∃F,(F=g∨∃q,AC7 g known q∧F={g with AD:=g.AD++[q]})∧At prog 18 [.d (AB g),.d (CY x),.d (.bool known)] [] (Ph fun g'=>g'=F):=by
 obtain⟨n,jK⟩:∃n,g.BC.length=n:=⟨_,rfl⟩;rw[jK]at hn;obtain⟨lf,rT⟩:∃lf,x.left % n=lf:=⟨_,rfl⟩;have u1:IntKind.i64.wrap (97+(g.AD.length:Int))=97+(g.AD.length:Int):=by rw[IntKind.wrap_i64];omega
 have uD:prog.underlying 9=some .string:=by kernel_rfl
 have xh:2≤maxLen:=by unfold maxLen;omega
 have gm:1≤maxLen:=by unfold maxLen;omega
 obtain⟨N,hN⟩:∃N,min x.right.length 4=N:=⟨_,rfl⟩;have iF:=Cx x.DV g.conds.length mU (by omega);have rU:(KA n x N).length≤4:=by rw[NK (by omega)];omega
 have xi:=AAx mU (show g.conds.length<4 by omega);obtain⟨q,hq,mR⟩:=SH (⟨#[112]⟩++Gr (IntKind.u8.wrap (97+g.AD.length))) lf (KA n x N) (E7 x.DV g.conds.length) x.mark rS rU;generalize vO:E7 x.DV g.conds.length=d at *;refine⟨if decide (W5 n x N=0)&&(known||!Tj n lf x N)then g else {g with AD:=g.AD++[q]},?_,?_⟩
 ·split
  ·exact .inl rfl
  ·next jO=>
   have hNl:N≤x.right.length:=by omega
   have hN4:N≤4:=by omega
   refine .inr ⟨q,⟨mR.name,⟨lf,by rw[←rT,jK];exact Nat.mod_lt _ hn.1,mR.left⟩,by rw[mR.right];exact rU,by rw[mR.right,jK];exact AD6 hn.1,by rw[mR.cond];exact xi,mR.r1,mR.r2,mR.det,mR.lay,fun ha=>?_⟩,rfl⟩;rw[mR.right]at ha;have h0:=(ADL (n:=n) hNl hN4).2.2.2 ha;simp only[h0,decide_true,Bool.true_and,Bool.or_eq_true,not_or,Bool.not_eq_true,Bool.not_eq_true']at jO;obtain⟨iW,gx⟩:=jO;refine⟨iW,fun s hs=>?_⟩;rw[mR.right]at hs;rw[mR.left];exact AB8 hNl (by simpa using gx) s hs (ACB ha s hs)
 refine At.AI func18 (by kernel_rfl) rfl (by simp) fun wf _=>?_;have py:x.left<256:=by have:=wf.2.1;simp[WFV,WFD,AAY,rng]at this;omega
 have u2:IntKind.i64.wrap (x.left:Int)=x.left:=by rw[IntKind.wrap_i64];omega
 have u3:((x.left:Int).tmod n)=lf:=by rw[Int.tmod_eq_emod_of_nonneg (by omega),←rT];simp
 have iR:¬n=0:=by omega
 rw[ntmps18];refine xW fun K hK=>?_;simp;apply hK;refine xW fun K hK=>?_;simp[jK];apply hK;(repeat refine xS ?_);refine xE [0,2,4,6,8,10,12,14,16,18,20,22,24,26,29,31] (by kernel_rfl) fun K hK=>?_;simp;(repeat(refine xG ?_ ?_;(·simp[gm]);simp[u1]));refine Ae.KJ 5 (IntKind.u8.wrap (97+g.AD.length)) rfl (by simp) uD ?_;simp;refine xA 1 ?_;simp[gm,xh,u2,u3,iR,Hm];refine Ae.AEh (Rb (⟨#[112]⟩++Gr (IntKind.u8.wrap (97+g.AD.length))) lf) rfl (by simp[OB,AAB,AAI];try rfl) ?_;simp;refine xA 1 ?_;simp;refine xX 0 (by kernel_rfl) ?_;simp[AR,OB];refine xA 1 ?_;simp;refine xX 16383 (by kernel_rfl) ?_;simp[AR];refine xM (hK _ _ ?_);(try simp only[xQ,reduceIte]);generalize({data:=#[112]}:ByteArray)++Gr (IntKind.u8.wrap (97+g.AD.length))=nm at *;refine AW.ghost (AJ.Lb 3 0 2 2 (xs:=[]) rfl rfl rfl) ?_;simp;refine xW fun K hK=>?_;simp;apply hK;refine xW fun K hK=>?_;simp;apply hK;refine AW.El (R:=fun tm S=>tm 2=.d (.bool known)∧tm 3=.ptr 0 1 0 0∧tm 4=.ptr 1 1 0 0∧tm 6=.ptr 2 1 0 0∧tm 8=.ptr 3 1 0 0∧tm 9=.d (.int .i64 (W5 n x N))∧tm 10=.d (.bool (Tj n lf x N))∧∃w,S=aY g x nm lf (KA n x N) w) ?_ ?_
 ·refine xW fun K hK=>?_;simp;apply hK;refine Bw ?_;refine DC N (fun i tm S=>tm 2=.d (.bool known)∧tm 3=.ptr 0 1 0 0∧tm 4=.ptr 1 1 0 0∧tm 6=.ptr 2 1 0 0∧tm 7=.d (.int .i64 n)∧tm 8=.ptr 3 1 0 0∧tm 9=.d (.int .i64 (W5 n x i))∧tm 10=.d (.bool (Tj n lf x i))∧tm 11=.d (.int .i64 i)∧∃w,S=aY g x nm lf (KA n x i) w) (Nat.zero_le _) ?_ ?_
  ·simp[KA,aY,Gc,W5,Tj]
  rintro i tm S hi ⟨t2,t3,t4,t6,t7,t8,t9,t10,t11,w,rfl⟩;unfold aY;refine xS (xW fun K hK=>?_);simp[t4,t11];apply hK;(repeat refine xS ?_);refine AW.BD (t:=decide (i<x.right.length)&&decide (i<4)) ?_ (fun hb=>?_) (fun hb=>?_)
  ·simp;rw[Bool.eq_iff_iff];simp;intro _;omega
  ·simp only[Bool.and_eq_true,decide_eq_true_eq]at hb;obtain⟨cx,xj⟩:=hb;have hk:x.right[i] <256:=by
    have:=wf.2.1;simp[WFV,WFD,AAY,DM]at this;have:=this.2.1.2 _ (List.getElem_mem cx);omega
   have mO:=NK (n:=n) (Nat.le_of_lt cx);have mA:=SM (n:=n) cx;have vP:x.right.getD i 0=x.right[i]:=by simp[cx]
   have mB:W5 n x (i+1)=if x.right[i] % 14<9 then IntKind.i64.wrap (W5 n x i+1)else W5 n x i:=by rw[←vP];rfl
   have kF:Tj n lf x (i+1)=if x.right[i] % 14<9 then Tj n lf x i else Tj n lf x i&&decide (lf<(x.right[i] % 14 - 9) % n):=by rw[←vP];rfl
   generalize n9:x.right[i]=kk at *;obtain⟨m,hm⟩:∃m,kk % 14=m:=⟨_,rfl⟩;rw[hm]at mB kF;have v1:IntKind.i64.wrap (kk:Int)=kk:=by rw[IntKind.wrap_i64];omega
   have v2:((kk:Int).tmod 14)=m:=by rw[Int.tmod_eq_emod_of_nonneg (by omega),←hm];simp
   have v3:(kk:Int) % 14=m:=by omega
   have jc:i+1≤1073741824:=by omega
   have ji:IntKind.i64.wrap ((i:Int)+1)=(i+1:Nat):=by rw[IntKind.wrap_i64];omega
   refine xK ?_;refine xB ?_;refine xW fun K hK=>?_;simp[t4,t11,cx,n9,v1,v2];apply hK;refine xS (xW fun K hK=>?_);simp;apply hK;refine AU ?_;simp;refine⟨fun h9=>?_,fun h9=>?_⟩
   ·have rV:bz n kk=⟨true,m⟩:=by
     have uE:m<9:=by omega
     simp[bz,hm,uE]
    refine xD [0,2,4,6,8,11,12,15] (by kernel_rfl) fun K hK=>?_;simp;refine xA 1 ?_;simp[t8];refine Ae.CA (Cp m) rfl (by simp[xN]) ?_;simp;refine xA 1 ?_;simp[gm];refine xX 11 (by kernel_rfl) ?_;simp[AR,mO,jc,gm,Af,forall_and,t8];refine xA 1 ?_;simp[t8];refine xX 7 (by kernel_rfl) ?_;simp[AR,t8];refine xM (hK _ _ ?_);refine xW fun K hK=>?_;simp[t9];apply hK;refine Cu ?_;refine xV fun K hK=>?_;simp[t11];apply hK;refine⟨by omega,_,_,AJ.refl,?_⟩;have uF:m<9:=by omega
    rw[if_pos uF]at mB kF;simp[t2,t3,t4,t6,t7,t8,t10,ji,mA,rV,mO,mB,kF]
   ·have rV:bz n kk=⟨false,((m - 9) % n:Nat)⟩:=by
     have uE:¬m<9:=by omega
     simp[bz,hm,uE]
    obtain⟨e,he⟩:∃e,(m - 9) % n=e:=⟨_,rfl⟩;have uF:¬m<9:=by omega
    rw[if_neg uF]at mB kF;rw[he]at rV kF;have v4:IntKind.i64.wrap ((m:Int) - 9)=(m - 9:Nat):=by rw[IntKind.wrap_i64];omega
    have v5:(((m - 9:Nat):Int).tmod n)=e:=by rw[Int.tmod_eq_emod_of_nonneg (by omega),←he];simp
    generalize m - 9=m9 at *;refine xK ?_;(repeat refine xS ?_);refine xE [0,2,4,6,8,10,12,14,17,18,21] (by kernel_rfl) fun K hK=>?_;simp;refine xA 1 ?_;simp[t7,t8,v4,v5,iR];refine Ae.CA (Dh e) rfl (by simp[xN]) ?_;simp;refine xA 1 ?_;simp[gm];refine xX 67 (by kernel_rfl) ?_;simp[AR,mO,jc,gm,Af,forall_and,t7,t8,v4,v5,iR];refine xA 1 ?_;simp[t8];refine xX 63 (by kernel_rfl) ?_;simp[AR,t8];refine xM (hK _ _ ?_);(try simp only[xQ,reduceIte]);cases mz:Tj n lf x i with
    |true=>
     rw[mz]at t10 kF;refine xE [0,2,4,6,8,10,12,14,16,18,20] (by kernel_rfl) fun K hK=>?_;simp;refine xZ ?_;simp[t7,t8,t10,v4,v5,iR];refine xM (hK _ _ ?_);refine xV fun K hK=>?_;simp[t11];apply hK;refine⟨by omega,_,_,AJ.refl,?_⟩;simp[t2,t3,t4,t6,t7,t8,t9,ji,mA,rV,mO,mB,kF]
    |false=>
     rw[mz]at t10 kF;refine xE [0,2,4,6,8,10,12,14,16,18,20] (by kernel_rfl) fun K hK=>?_;simp;refine xZ ?_;simp[t10];refine xM (hK _ _ ?_);refine xV fun K hK=>?_;simp[t11];apply hK;refine⟨by omega,_,_,AJ.refl,?_⟩;simp[t2,t3,t4,t6,t7,t8,t9,ji,mA,rV,mO,mB,kF]
  ·have e:i=N:=by simp at hb;omega
   subst e;refine Cu ?_;simp[t2,t3,t4,t6,t8,t9,t10]
 ·rintro tm S ⟨t2,t3,t4,t6,t8,t9,t10,w,rfl⟩;generalize W5 n x N=t at *;generalize Tj n lf x N=l at *;generalize KA n x N=r at *;refine AW.El (R:=fun tm S=>tm 3=.ptr 0 1 0 0∧tm 4=.ptr 1 1 0 0∧tm 6=.ptr 2 1 0 0∧tm 8=.ptr 3 1 0 0∧S=aY g x nm lf r w∧(decide (t=0)&&(known||!l))=false) ?_ ?_
  ·unfold aY;by_cases nU:t=0
   ·cases known with
    |true=>
     refine Az fun K hK=>?_;refine xH ?_;simp[t2,t9,nU];refine Aj (hK _ _ ?_);refine AU ?_;simp;refine xW fun K hK=>?_;simp[t3,t6,Gc];apply hK;refine Ag ?_;(try simp only[xQ,reduceIte]);refine⟨_,_,AJ.refl,by simp[t6],_,_,⟨rfl,g,rfl,by simp[nU]⟩,.inl ⟨AB g,_,by simp[t6],rfl,AJ.AY 0 rfl (by simp) (by simp) (by simp)⟩⟩
    |false=>
     (repeat refine xS ?_);refine BX fun K hK=>?_;refine xH ?_;simp[t2,t9,t10,nU];refine Aj (hK _ _ ?_);(try simp only[xQ,reduceIte]);cases l with
     |true=>
      refine AU ?_;simp;refine CC ?_;simp[t3,t4,t6,t8]
     |false=>
      refine AU ?_;simp;refine xW fun K hK=>?_;simp[t3,t6,Gc];apply hK;refine Ag ?_;(try simp only[xQ,reduceIte]);refine⟨_,_,AJ.refl,by simp[t6],_,_,⟨rfl,g,rfl,by simp[nU]⟩,.inl ⟨AB g,_,by simp[t6],rfl,AJ.AY 0 rfl (by simp) (by simp) (by simp)⟩⟩
   ·(repeat refine xS ?_);refine BX fun K hK=>?_;(repeat((first|refine Dp rfl ?_ ?_;(·simp[nU])|refine Jf rfl ?_ ?_;(·simp[t2,t9,t10,nU])|refine B7 ?_ ?_;(·simp[nU]));simp[t9]));refine Aj (hK _ _ ?_);(try simp only[AAE]);refine AU ?_;simp[nU];refine CC ?_;simp[t3,t4,t6,t8]
  rintro tm S ⟨t3,t4,t6,t8,rfl,hF⟩;unfold aY;refine Az fun K hK=>?_;refine xJ ?_;simp[t3,t4];refine Bp (iF) rfl (by simp[xN]) ?_;simp;refine xJ ?_;simp[t8,AA];refine Aj (hK _ _ ?_);refine AW.ghost (AJ.B6 4 (xs:=r.map AL) rfl (by simp)) ?_;simp;(repeat refine xS ?_);refine BX fun K hK=>?_;refine xJ ?_;simp[t4,t8];refine Bp (hq) rfl (by simp[pl,Av,xN]) ?_;simp;refine xJ ?_;simp[t8];refine Aj (hK _ _ ?_);(try simp only[xQ,reduceIte]);have mv:g.AD.length≤1073741824:=by omega
  have oJ:g.AD.length+1≤1073741824:=by omega
  have ib:0≤maxLen:=Nat.zero_le _;refine xD [0,2,4,8,10,7,13,14,17] (by kernel_rfl) fun K hK=>?_;simp;refine xA 1 ?_;simp[t3,t8,gm,ib];refine xX 20 (by kernel_rfl) ?_;simp[AR,t3,t8,gm,ib,mv,Af,forall_and];refine xA 1 ?_;simp;refine xX 1 (by kernel_rfl) ?_;simp[AR,t3,t8,gm,oJ,Af,forall_and];refine xA 1 ?_;simp[t3];refine xX 7 (by kernel_rfl) ?_;simp[AR,t3];refine xM (hK _ _ ?_);refine xW fun K hK=>?_;simp[t3,t6,Gc];apply hK;refine Ag ?_;(try simp only[xQ,reduceIte]);refine⟨_,_,AJ.B6 5 (xs:=(g.AD++[q]).map AH) rfl (by simpa using BT _ ((g.AD++[q]).map AH)),by simp[t6],_,_,⟨rfl,{g with AD:=g.AD++[q]},rfl,by show _=_;rw[if_neg];simpa using hF⟩,.inl ⟨AB {g with AD:=g.AD++[q]},_,by simp[t6,asD,AB],rfl,AJ.AY 0 rfl (by simp) (by simp) (by simp)⟩⟩
theorem LF(g:AF)(x:Fu)(known:Bool)(hn:0<g.BC.length∧g.BC.length≤3)(hc:g.conds.length≤3)(hp:g.AD.length≤100)(mU:x.DV<256)(rS:x.mark<256):
  ∃F,(F=g∨∃q,AC7 g known q∧F={g with AD:=g.AD++[q]})∧Pure prog 18 [AB g,CY x,.bool known] (AB F):=by
 obtain⟨F,h1,h2⟩:=OG g x known hn hc hp mU rS;exact⟨F,h1,Ph.pure h2⟩
end Go.Koi
