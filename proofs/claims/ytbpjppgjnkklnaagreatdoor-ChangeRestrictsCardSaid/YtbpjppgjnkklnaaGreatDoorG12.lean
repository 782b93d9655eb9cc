/-
  Part 13 of the proof that the law ChangeRestricts returns true for every input.
-/
import Derived.Test.YtbpjppgjnkklnaaGreatDoorG11
set_option maxHeartbeats 64000000
set_option maxRecDepth 100000
open List renaming length->Z,map->o4,replicate->lw,range->i6
open Go.IntKind renaming wrap->b8
open Bool renaming true->J,false->ap
open ByteArray renaming empty->h9
namespace Go.Koi
open Go renaming maxLen->a8
open Go.Proofs Tryz
def be(n k:Nat):Symbol:=if k % 14<9 then⟨J,(k % 14:Nat)⟩else⟨ap,((k % 14 - 9) % n:Nat)⟩
def JL(n:Nat)(x:HY)(i:Nat):List Symbol:=(x.right.take i).map (be n)
def Jv:V:=.agg [.full [],.full [],.d (.int .i64 0),.full [],.full [],.full [],.d (.int .i64 0),.full [],.full []]
def qO(g:AE)(x:HY)(nm:ByteArray)(lf:Nat)(r:List Symbol)(w:Bool):Sg:=
 [.row J 9 [.d (AA g)],.row J 4 [.d (Cd x)],.row J 9 [Jv],.row J 13 [.agg [.d (.str nm),.d (.int .i64 lf),.row 4 (Z r),.d (.sl []),.d (.int .i64 1),.d (.bool ap),.d (.int .i64 0),.full [],.d (.bool ap),.d (.int .i64 0),.d (.int .i64 0),.d (.int .i64 0),.d (.int .i64 0)]],.row w 2 (r.map λs=>.d (AH s))]
def Sq(n:Nat)(x:HY):Nat->Int
 |0=>0
 |i+1=>if x.right.getD i 0 % 14<9 then b8 .i64 (Sq n x i+1)else Sq n x i
def Zg(n lf:Nat)(x:HY):Nat->Bool
 |0=>J
 |i+1=>if x.right.getD i 0 % 14<9 then Zg n lf x i else Zg n lf x i&&decide (lf<(x.right.getD i 0 % 14 - 9) % n)
theorem Ms{n i:Nat}{x:HY}(h:i<Z x.right):JL n x (i+1)=JL n x i++[be n x.right[i]]:=by
 unfold JL;rw[pt h,abZ];rfl
theorem UL{n i:Nat}{x:HY}(h:i<=Z x.right):Z (JL n x i)=i:=by
 unfold JL;rw[y3,ac2];omega
structure oo(nm:ByteArray)(l:Int)(r:List Symbol)(c:AL)(q:AO):Prop where
 name:q.name=nm
 left:q.left=l
 right:q.right=r
 cond:q.cond=c
 r1:-1<=q.EB
 r2:q.EB<=1
 xb:IQ q=J
 lay:Z q.layout<=1
theorem iu(nm:ByteArray)(l:Int)(r:List Symbol)(c:AL)(k:Int)(g:-1<=k)(h:k<=1):oo nm l r c {pl nm l r c with EB:=k}:=
 ⟨rfl,rfl,rfl,rfl,g,h,by simp[pl,IQ,Dj,Ay],by simp[pl]⟩
theorem Mj(nm:ByteArray)(l:Int)(r:List Symbol)(c:AL):oo nm l r c (pl nm l r c):=iu nm l r c 0 (by omega) (by omega)
theorem sF(nm:ByteArray)(l:Int)(r:List Symbol)(c:AL):oo nm l r c {pl nm l r c with bracket:=TE l r}:=by
 refine⟨rfl,rfl,rfl,rfl,by simp[pl],by simp[pl],?_,by simp[pl]⟩;cases hb:TE l r with
 |false=>simp[pl,IQ,Dj,Ay]
 |true=>
  simp[TE]at hb;obtain⟨h0,g,h⟩:=hb;match r,h0 with
  |[a,b,d],_=>
   simp at g h;obtain⟨i,j⟩:=b;simp only at g h;simp[pl,IQ,Dj,Ay,g.1.1,g.1.2,g.2,h]
theorem qS(nm:ByteArray)(l:Int)(r:List Symbol)(c:AL)(k:Nat)(h0:0<Z r):oo nm l r c {pl nm l r c with layout:=[⟨1+(k % 4:Nat),(k / 4 % Z r:Nat),if k % 4=0 then 0 else(Z r:Int) - 1⟩]}:=by
 refine⟨rfl,rfl,rfl,rfl,by simp[pl],by simp[pl],?_,by simp⟩;have i:k / 4 % Z r<Z r:=i7 _ h0;have j:k % 4<4:=i7 _ (by omega);generalize k / 4 % Z r=a at *;generalize k % 4=m at *;have g:(a:Int)<Z r:=by omega
 by_cases h:m=0
 .subst h;simp[pl,IQ,Dj,Ay,Lq,My,g,h0]
 .have:(m:Int)≠0:=by omega
  simp[pl,IQ,Dj,Ay,Lq,My,g,h];omega
theorem nV(nm:ByteArray)(l:Int)(r:List Symbol)(c:AL):oo nm l r c {pl nm l r c with scope:=⟨J,0,0,0,0⟩}:=
 ⟨rfl,rfl,rfl,rfl,by simp[pl],by simp[pl],by simp[pl,IQ,Dj],by simp[pl]⟩
theorem XL{p:AO}{k:Nat}(g:k<Z p.right)(h:(p.right.getD k TW).token=J)(v lo hi:Int)(i:lo<=v)(j:v<=hi):Dj p ((k:Int)+1) v lo hi=true:=by
 have e:(p.right.getD k TW)=p.right[k]:=by simp[List.getD,g]
 rw[e]at h;have m:¬((k:Int)+1=0):=by omega
 have o:((k:Int)+1 - 1).toNat=k:=by omega
 have q:(0:Int)<(k:Int)+1:=by omega
 have u:(k:Int)+1<=Z p.right:=by omega
 simp[Dj,bv m,ej g,h,i,j,q,u]
theorem lu(nm:ByteArray)(l:Int)(r:List Symbol)(c:AL)(k:Nat)(h0:0<Z r)(g:(r.getD (k % Z r) TW).token=J):oo nm l r c {pl nm l r c with scope:=⟨ap,(k % Z r:Nat)+1,1+(k % 2:Nat),0,0⟩}:=by
 refine⟨rfl,rfl,rfl,rfl,by simp[pl],by simp[pl],?_,by simp[pl]⟩;have h:k % Z r<Z r:=i7 _ h0;have j:k % 2<2:=i7 _ (by omega);have i:=XL (p:={pl nm l r c with scope:=⟨ap,(k % Z r:Nat)+1,1+(k % 2:Nat),0,0⟩}) h g (1+(k % 2:Nat)) 1 7 (by omega) (by omega);unfold IQ;simp only[i];simp[pl,Dj]
theorem rS(nm:ByteArray)(l:Int)(r:List Symbol)(c:AL)(k:Nat)(h0:0<Z r)(g:(r.getD (k % Z r) TW).token=J):oo nm l r c {pl nm l r c with scope:=⟨ap,0,0,(k % Z r:Nat)+1,1+(k % 7:Nat)⟩}:=by
 refine⟨rfl,rfl,rfl,rfl,by simp[pl],by simp[pl],?_,by simp[pl]⟩;have h:k % Z r<Z r:=i7 _ h0;have j:k % 7<7:=i7 _ (by omega);have i:=XL (p:={pl nm l r c with scope:=⟨ap,0,0,(k % Z r:Nat)+1,1+(k % 7:Nat)⟩}) h g (1+(k % 7:Nat)) 0 255 (by omega) (by omega);unfold IQ;simp only[i];simp[pl,Dj]
theorem XO{n:Nat}{x:HY}:∀{i:Nat},i<=Z x.right->i<=4->0<=Sq n x i/\Sq n x i<=i/\(Sq n x i=0↔DO (JL n x i)=ap)
 |0,_,_=>⟨by simp[Sq],by simp[Sq],by simp[Sq,JL,DO]⟩
 |i+1,h,u=>by
  obtain⟨k,v,m⟩:=XO (n:=n) (x:=x) (i:=i) (by omega) (by omega);have o:x.right.getD i 0=x.right[i]:=by simp[show i<Z x.right by omega]
  have g:DO (JL n x (i+1))=(DO (JL n x i)||(be n x.right[i]).token):=by
   rw[Ms (by omega)];simp[DO]
  rw[g];unfold Sq;rw[o];by_cases j:x.right[i] % 14<9
  .rw[ca j];have q:b8 .i64 (Sq n x i+1)=Sq n x i+1:=by rw[c8];omega
   rw[q];refine⟨by omega,by omega,?_⟩;simp[be,j];omega
  .rw[bv j];refine⟨k,by omega,?_⟩;simp[be,j,m]
theorem Mo{n lf:Nat}{x:HY}:∀{i:Nat},i<=Z x.right->Zg n lf x i=J->∀s∈JL n x i,s.token=ap->(lf:Int)<s.index
 |0,_,_=>λs g=>by simp[JL]at g
 |i+1,h,j=>by
  have o:x.right.getD i 0=x.right[i]:=by simp[show i<Z x.right by omega]
  unfold Zg at j;rw[o]at j;intro s g m;rw[Ms (by omega)]at g;by_cases k:x.right[i] % 14<9
  .rw[ca k]at j;rcases fi.1 g with g|g
   .exact Mo (by omega) j s g m
   .simp at g;subst g;simp[be,k]at m
  .rw[bv k]at j;simp at j;rcases fi.1 g with g|g
   .exact Mo (by omega) j.1 s g m
   .simp at g;subst g;have:=j.2;simp[be,k];omega
theorem jv{n i:Nat}{x:HY}(g:0<n):∀s∈JL n x i,(s.token=J/\∃k:Nat,k<9/\s.index=k)\/(s.token=ap/\∃k:Nat,k<n/\s.index=k):=λs h=>by
 obtain⟨k,_,rfl⟩:=g7.1 h;unfold be;split
 .exact .inl ⟨rfl,k % 14,by omega,rfl⟩
 .exact .inr ⟨rfl,(k % 14 - 9) % n,i7 _ g,rfl⟩
def JV(k:Nat):ByteArray:=⟨#[112]⟩++JI (b8 .u8 (97+(k:Int)))
structure T9(g:AE)(known:Bool)(q:AO):Prop where
 name:q.name=JV (Z g.AD)
 left:∃lf:Nat,lf<Z g.A0/\q.left=lf
 len:Z q.right<=4
 syms:∀s∈q.right,(s.token=J/\∃k:Nat,k<9/\s.index=k)\/(s.token=ap/\∃k:Nat,k<Z g.A0/\s.index=k)
 fits:B1 q.cond (Z g.conds)=J
 r1:-1<=q.EB
 r2:q.EB<=1
 xb:IQ q=J
 lay:Z q.layout<=1
 later:DO q.right=ap->known=ap/\∀s∈q.right,q.left<s.index
def Vj(p:AE->Prop)(v:V)(S':Sg):Prop:=S'=[]/\∃g,v=.d (AA g)/\p g
theorem Y3(nm:ByteArray)(l:Int)(r:List Symbol)(c:AL)(m:Nat)(h:m<256)(i:Z r<=4):∃q,Pure prog 144 [AF (pl nm l r c),.int .u8 m] (AF q)/\oo nm l r c q:=by
 by_cases h0:r=[]
 .subst h0;exact⟨_,T7 nm l c m,Mj nm l [] c⟩
 have g:0<Z r:=adH.2 h0;have e:m=8 * (m / 8)+m % 8:=by omega
 have u:m % 8<8:=i7 _ (by omega);generalize m / 8=k at *;match j:m % 8,u with
 |0,_=>rw[j]at e;subst e;exact⟨_,XK nm l r c k h g i,Mj nm l r c⟩
 |1,_=>rw[j]at e;subst e;exact⟨_,Wp nm l r c k h g i,iu nm l r c 1 (by omega) (by omega)⟩
 |2,_=>rw[j]at e;subst e;exact⟨_,VR nm l r c k h g i,iu nm l r c (-1) (by omega) (by omega)⟩
 |3,_=>rw[j]at e;subst e;exact⟨_,WG nm l r c k h g i,sF nm l r c⟩
 |4,_=>rw[j]at e;subst e;exact⟨_,W9 nm l r c k h g i,qS nm l r c k g⟩
 |5,_=>rw[j]at e;subst e;exact⟨_,WX nm l r c k h g i,nV nm l r c⟩
 |6,_=>
  rw[j]at e;subst e;cases o:(r.getD (k % Z r) TW).token with
  |true=>exact⟨_,Tw nm l r c k h g i o,lu nm l r c k g o⟩
  |false=>exact⟨_,U9 nm l r c k h g i o,Mj nm l r c⟩
 |7,_=>
  rw[j]at e;subst e;cases o:(r.getD (k % Z r) TW).token with
  |true=>exact⟨_,Ty nm l r c k h g i o,rS nm l r c k g o⟩
  |false=>exact⟨_,UM nm l r c k h g i o,Mj nm l r c⟩
theorem Vj.pure{f:FuncId}{ds:List D}{F:AE}(h:BH prog f (ds.map .d) [] (Vj λi=>i=F)):Pure prog f ds (AA F):=
 BH.aA (h.mono λv o ⟨j,g,k,m⟩=>by subst m;exact⟨k,j⟩)
theorem Td(g:AE)(x:HY)(j:Bool)(hn:0<Z g.A0/\Z g.A0<=3)(hc:Z g.conds<=3)(hp:Z g.AD<=100)(W:x.Ew<256)(hx2:x.mark<256):
  ∃F,(F=g\/∃q,T9 g j q/\F={g with AD:=g.AD++[q]})/\BH prog 47 [.d (AA g),.d (Cd x),.d (.bool j)] [] (Vj λg'=>g'=F):=by
 obtain⟨n,H⟩:=ce (Z g.A0);rw[H]at hn;obtain⟨lf,X⟩:=ce (x.left % n);have u1:b8 .i64 (97+(Z g.AD:Int))=97+(Z g.AD:Int):=by rw[c8];omega
 have hu9:prog.underlying 9=some .string:=by kernel_rfl
 have h2m:2<=maxLen:=by unfold maxLen;omega
 have A:1<=maxLen:=by unfold maxLen;omega
 obtain⟨N,hN⟩:=ce (min (Z x.right) 4);have Y:=GO x.Ew (Z g.conds) W (by omega);have L:Z (JL n x N)<=4:=by rw[UL (by omega)];omega
 have hfs:=Ec W (show Z g.conds<4 by omega);obtain⟨q,hq,o⟩:=Y3 (⟨#[112]⟩++JI (b8 .u8 (97+Z g.AD))) lf (JL n x N) (Iv x.Ew (Z g.conds)) x.mark hx2 L;generalize hset0:Iv x.Ew (Z g.conds)=d at *;refine⟨if decide (Sq n x N=0)&&(j||!Zg n lf x N)then g else {g with AD:=g.AD++[q]},?_,?_⟩
 .split
  .exact .inl rfl
  .next B=>
   have hNl:N<=Z x.right:=by omega
   have hN4:N<=4:=by omega
   refine .inr ⟨q,⟨o.name,⟨lf,by rw[<-X,H];exact i7 _ hn.1,o.left⟩,by rw[o.right];exact L,by rw[o.right,H];exact jv hn.1,by rw[o.cond];exact hfs,o.r1,o.r2,o.xb,o.lay,λha=>?_⟩,rfl⟩;rw[o.right]at ha;have h0:=(XO (n:=n) hNl hN4).2.2.2 ha;simp only[h0,acQ,rx,ru,va,adw,ol]at B;obtain⟨hc1,zt⟩:=B;refine⟨hc1,λs hs=>?_⟩;rw[o.right]at hs;rw[o.left];exact Mo hNl (by simpa using zt) s hs (NF ha s hs)
 refine BH.Aw func47 (by kernel_rfl) rfl (by simp) λwf _=>?_;have hll:x.left<256:=by have:=wf.2.1;simp[Ij,DY,Bm,GZ]at this;omega
 have u2:b8 .i64 (x.left:Int)=x.left:=by rw[c8];omega
 have u3:((x.left:Int).tmod n)=lf:=by rw[ge (by omega),<-X];simp
 have C:¬n=0:=by omega
 rw[ntmps47];refine xW λK h=>?_;simp;apply h;refine xW λK h=>?_;simp[H];apply h;(repeat refine xS ?_);refine xE (A7 14 [29,31]) (by kernel_rfl) λK h=>?_;simp;(repeat(refine xG ?_ ?_;(·simp[A]);simp[u1]));refine Ab.T3 5 (b8 .u8 (97+Z g.AD)) rfl (by simp) hu9 ?_;simp;refine xA 1 ?_;simp[A,h2m,u2,u3,C,Hm];refine Ab.qM (ah (⟨#[112]⟩++JI (b8 .u8 (97+Z g.AD))) lf) rfl (by simp[Ue,AJ,Au];try rfl) ?_;simp;refine xA 1 ?_;simp;refine xX 0 (by kernel_rfl) ?_;simp[AY,Ue];refine xA 1 ?_;simp;refine xX 16383 (by kernel_rfl) ?_;simp[AY];refine xM (h _ _ ?_);(try simp only[xQ,reduceIte]);generalize({data:=#[112]}:ByteArray)++JI (b8 .u8 (97+Z g.AD))=nm at *;refine gs (AI.Lr 3 0 2 2 (xs:=[]) rfl rfl rfl) ?_;simp;refine xW λK h=>?_;simp;apply h;refine xW λK h=>?_;simp;apply h;refine m7 (R:=λtm S=>tm 2=.d (.bool j)/\tm 3=.ptr 0 1 0 0/\tm 4=.ptr 1 1 0 0/\tm 6=.ptr 2 1 0 0/\tm 8=.ptr 3 1 0 0/\tm 9=.d (encI (Sq n x N))/\tm 10=.d (.bool (Zg n lf x N))/\∃w,S=qO g x nm lf (JL n x N) w) ?_ ?_
 .refine xW λK h=>?_;simp;apply h;refine Bo ?_;refine FO N (λi tm S=>tm 2=.d (.bool j)/\tm 3=.ptr 0 1 0 0/\tm 4=.ptr 1 1 0 0/\tm 6=.ptr 2 1 0 0/\tm 7=.d (encI n)/\tm 8=.ptr 3 1 0 0/\tm 9=.d (encI (Sq n x i))/\tm 10=.d (.bool (Zg n lf x i))/\tm 11=.d (encI i)/\∃w,S=qO g x nm lf (JL n x i) w) (er _) ?_ ?_
  .simp[JL,qO,Jv,Sq,Zg]
  rintro i tm S hi ⟨t2,t3,t4,t6,t7,t8,t9,t10,t11,w,rfl⟩;unfold qO;refine xS (xW λK h=>?_);simp[t4,t11];apply h;(repeat refine xS ?_);refine m8 (t:=decide (i<Z x.right)&&decide (i<4)) ?_ (λhb=>?_) (λhb=>?_)
  .simp;rw[gI];simp;intro _;omega
  .simp only[cF,fc]at hb;obtain⟨zg,hi4⟩:=hb;have hk:x.right[i] <256:=by
    have:=wf.2.1;simp[Ij,DY,Bm,Di]at this;have:=this.2.1.2 _ (cL zg);omega
   have E:=UL (n:=n) (Nat.le_of_lt zg);have M:=Ms (n:=n) zg;have hgk:x.right.getD i 0=x.right[i]:=by simp[zg]
   have v:Sq n x (i+1)=if x.right[i] % 14<9 then b8 .i64 (Sq n x i+1)else Sq n x i:=by rw[<-hgk];rfl
   have k:Zg n lf x (i+1)=if x.right[i] % 14<9 then Zg n lf x i else Zg n lf x i&&decide (lf<(x.right[i] % 14 - 9) % n):=by rw[<-hgk];rfl
   generalize hkk:x.right[i]=P at *;obtain⟨m,hm⟩:=ce (P % 14);rw[hm]at v k;have v1:b8 .i64 (P:Int)=P:=by rw[c8];omega
   have v2:((P:Int).tmod 14)=m:=by rw[ge (by omega),<-hm];simp
   have v3:(P:Int) % 14=m:=by omega
   have hl1:i+1<=1073741824:=by omega
   have Q:b8 .i64 ((i:Int)+1)=(i+1:Nat):=by rw[c8];omega
   refine xK ?_;refine xB ?_;refine xW λK h=>?_;simp[t4,t11,zg,hkk,v1,v2];apply h;refine xS (xW λK h=>?_);simp;apply h;refine AP ?_;simp;refine⟨λh9=>?_,λh9=>?_⟩
   .have G:be n P=⟨J,m⟩:=by
     have T:m<9:=by omega
     simp[be,hm,T]
    refine xD (A7 5 [11,12,15]) (by kernel_rfl) λK h=>?_;simp;refine xA 1 ?_;simp[t8];refine j0 (Ds m) rfl (by simp[xN]) ?_;simp;refine xA 1 ?_;simp[A];refine xX 11 (by kernel_rfl) ?_;simp[AY,E,hl1,A,Ac,kw,t8];refine xA 1 ?_;simp[t8];refine xX 7 (by kernel_rfl) ?_;simp[AY,t8];refine xM (h _ _ ?_);refine xW λK h=>?_;simp[t9];apply h;refine Ci ?_;refine xV λK h=>?_;simp[t11];apply h;refine⟨by omega,_,_,a9,?_⟩;have U:m<9:=by omega
    rw[ca U]at v k;simp[t2,t3,t4,t6,t7,t8,t10,Q,M,G,E,v,k]
   .have G:be n P=⟨ap,((m - 9) % n:Nat)⟩:=by
     have T:¬m<9:=by omega
     simp[be,hm,T]
    obtain⟨e,he⟩:=ce ((m - 9) % n);have U:¬m<9:=by omega
    rw[bv U]at v k;rw[he]at G k;have v4:b8 .i64 ((m:Int) - 9)=(m - 9:Nat):=by rw[c8];omega
    have v5:(((m - 9:Nat):Int).tmod n)=e:=by rw[ge (by omega),<-he];simp
    generalize m - 9=m9 at *;refine xK ?_;(repeat refine xS ?_);refine xE (A7 8 [17,18,21]) (by kernel_rfl) λK h=>?_;simp;refine xA 1 ?_;simp[t7,t8,v4,v5,C];refine j0 (E9 e) rfl (by simp[xN]) ?_;simp;refine xA 1 ?_;simp[A];refine xX 67 (by kernel_rfl) ?_;simp[AY,E,hl1,A,Ac,kw,t7,t8,v4,v5,C];refine xA 1 ?_;simp[t8];refine xX 63 (by kernel_rfl) ?_;simp[AY,t8];refine xM (h _ _ ?_);(try simp only[xQ,reduceIte]);cases hli:Zg n lf x i with
    |true=>
     rw[hli]at t10 k;refine xE (A7 11 []) (by kernel_rfl) λK h=>?_;simp;refine xZ ?_;simp[t7,t8,t10,v4,v5,C];refine xM (h _ _ ?_);refine xV λK h=>?_;simp[t11];apply h;refine⟨by omega,_,_,a9,?_⟩;simp[t2,t3,t4,t6,t7,t8,t9,Q,M,G,E,v,k]
    |false=>
     rw[hli]at t10 k;refine xE (A7 11 []) (by kernel_rfl) λK h=>?_;simp;refine xZ ?_;simp[t10];refine xM (h _ _ ?_);refine xV λK h=>?_;simp[t11];apply h;refine⟨by omega,_,_,a9,?_⟩;simp[t2,t3,t4,t6,t7,t8,t9,Q,M,G,E,v,k]
  .have e:i=N:=by simp at hb;omega
   subst e;refine Ci ?_;simp[t2,t3,t4,t6,t8,t9,t10]
 .rintro tm S ⟨t2,t3,t4,t6,t8,t9,t10,w,rfl⟩;generalize Sq n x N=t at *;generalize Zg n lf x N=l at *;generalize JL n x N=r at *;refine m7 (R:=λtm S=>tm 3=.ptr 0 1 0 0/\tm 4=.ptr 1 1 0 0/\tm 6=.ptr 2 1 0 0/\tm 8=.ptr 3 1 0 0/\S=qO g x nm lf r w/\(decide (t=0)&&(j||!l))=ap) ?_ ?_
  .unfold qO;by_cases u:t=0
   .cases j with
    |true=>
     refine E5 λK h=>?_;refine xH ?_;simp[t2,t9,u];refine BY (h _ _ ?_);refine AP ?_;simp;refine xW λK h=>?_;simp[t3,t6,Jv];apply h;refine Aj ?_;(try simp only[xQ,reduceIte]);refine⟨_,_,a9,by simp[t6],_,_,⟨rfl,g,rfl,by simp[u]⟩,.inl ⟨AA g,_,by simp[t6],rfl,gc 0 rfl (by simp)⟩⟩
    |false=>
     (repeat refine xS ?_);refine FG λK h=>?_;refine xH ?_;simp[t2,t9,t10,u];refine BY (h _ _ ?_);(try simp only[xQ,reduceIte]);cases l with
     |true=>
      refine AP ?_;simp;refine CF ?_;simp[t3,t4,t6,t8]
     |false=>
      refine AP ?_;simp;refine xW λK h=>?_;simp[t3,t6,Jv];apply h;refine Aj ?_;(try simp only[xQ,reduceIte]);refine⟨_,_,a9,by simp[t6],_,_,⟨rfl,g,rfl,by simp[u]⟩,.inl ⟨AA g,_,by simp[t6],rfl,gc 0 rfl (by simp)⟩⟩
   ·(repeat refine xS ?_);refine FG λK h=>?_;(repeat((first|refine FI rfl ?_ ?_;(·simp[u])|refine Pe rfl ?_ ?_;(·simp[t2,t9,t10,u])|refine Cc ?_ ?_;(·simp[u]));simp[t9]));refine BY (h _ _ ?_);(try simp only[B5]);refine AP ?_;simp[u];refine CF ?_;simp[t3,t4,t6,t8]
  rintro tm S ⟨t3,t4,t6,t8,rfl,hF⟩;unfold qO;refine E5 λK h=>?_;refine xJ ?_;simp[t3,t4];refine Bq (Y) rfl (by simp[xN]) ?_;simp;refine xJ ?_;simp[t8,AB];refine BY (h _ _ ?_);refine gs (gl 4 (xs:=r.map AH) rfl (by simp)) ?_;simp;(repeat refine xS ?_);refine FG λK h=>?_;refine xJ ?_;simp[t4,t8];refine Bq (hq) rfl (by simp[pl,Ay,xN]) ?_;simp;refine xJ ?_;simp[t8];refine BY (h _ _ ?_);(try simp only[xQ,reduceIte]);have hp1:Z g.AD<=1073741824:=by omega
  have hp2:Z g.AD+1<=1073741824:=by omega
  have hm0:0<=maxLen:=er _;refine xD (A7 3 [8,10,7,13,14,17]) (by kernel_rfl) λK h=>?_;simp;refine xA 1 ?_;simp[t3,t8,A,hm0];refine xX 20 (by kernel_rfl) ?_;simp[AY,t3,t8,A,hm0,hp1,Ac,kw];refine xA 1 ?_;simp;refine xX 1 (by kernel_rfl) ?_;simp[AY,t3,t8,A,hp2,Ac,kw];refine xA 1 ?_;simp[t3];refine xX 7 (by kernel_rfl) ?_;simp[AY,t3];refine xM (h _ _ ?_);refine xW λK h=>?_;simp[t3,t6,Jv];apply h;refine Aj ?_;(try simp only[xQ,reduceIte]);refine⟨_,_,gl 5 (xs:=(g.AD++[q]).map AF) rfl (by simpa using CM _ ((g.AD++[q]).map AF)),by simp[t6],_,_,⟨rfl,{g with AD:=g.AD++[q]},rfl,by show _=_;rw[bv];simpa using hF⟩,.inl ⟨AA {g with AD:=g.AD++[q]},_,by simp[t6,BO,AA],rfl,gc 0 rfl (by simp)⟩⟩
theorem Qf(g:AE)(x:HY)(h:Bool)(k:0<Z g.A0/\Z g.A0<=3)(m:Z g.conds<=3)(o:Z g.AD<=100)(i:x.Ew<256)(j:x.mark<256):
  ∃F,(F=g\/∃q,T9 g h q/\F={g with AD:=g.AD++[q]})/\Pure prog 47 [AA g,Cd x,.bool h] (AA F):=by
 obtain⟨F,u,v⟩:=Td g x h k m o i j;exact⟨F,u,Vj.pure v⟩
end Go.Koi
open Go.Koi.D renaming int->br
namespace Go.Koi
open Go renaming maxLen->a8
open Go.Proofs Tryz
structure Hv where
 kind:Nat
 a:Nat
 b:Nat
 c:Nat
 Ew:Nat
def Br(x:Hv):D:=.agg [br .u8 (x.kind:Nat),br .u8 (x.a:Nat),br .u8 (x.b:Nat),br .u8 (x.c:Nat),br .u8 (x.Ew:Nat)]
@[simp] theorem dB(x:Hv):Ae (.d (Br x))=[.d (br .u8 (x.kind:Nat)),.d (br .u8 (x.a:Nat)),.d (br .u8 (x.b:Nat)),.d (br .u8 (x.c:Nat)),.d (br .u8 (x.Ew:Nat))]:=rfl
@[simp] theorem eJ(x:Hv):Ap (.d (Br x))=true:=rfl
@[simp] theorem oR(x:Hv):Bp (.d (Br x))=false:=rfl
@[simp] theorem eR(x:Hv):BE (Br x)=[br .u8 (x.kind:Nat),br .u8 (x.a:Nat),br .u8 (x.b:Nat),br .u8 (x.c:Nat),br .u8 (x.Ew:Nat)]:=rfl
@[simp] theorem oH(x:Hv):CL.oneD (Br x)=true:=rfl
@[simp] theorem qG(x:Hv):DY (Br x)=Bm [br .u8 (x.kind:Nat),br .u8 (x.a:Nat),br .u8 (x.b:Nat),br .u8 (x.c:Nat),br .u8 (x.Ew:Nat)]:=rfl
@[simp] theorem kQ(S:Sg)(x:Hv):DS S (.d (Br x))=some [br .u8 (x.kind:Nat),br .u8 (x.a:Nat),br .u8 (x.b:Nat),br .u8 (x.c:Nat),br .u8 (x.Ew:Nat)]:=rfl
def Ia(g g':AE):Prop:=g'=g\/(∃l,zF g l/\g'={g with levels:=g.levels++[l]})\/(∃f,yk g f/\g'={g with AR:=g.AR++[f]})\/∃t,zN g t/\g'={g with AT:=t}
structure ID(g:AE)(x:Hv):Prop where
 p0:0<Z g.AD
 p1:Z g.AD<=100
 n0:0<Z g.A0
 n1:Z g.A0<=100
 c1:Z g.conds<=3
 t1:Z g.AT=11
 l1:Z g.levels<=100
 l2:∀l∈g.levels,Z l.AD<=100
 f1:Z g.AR<=100
 k1:x.kind<256
 k2:x.a<256
 k3:x.b<256
 k4:x.c<256
 k5:x.Ew<256
abbrev ac3:=@List.getElem_set
theorem jL(g:AE)(x:Hv)(h:ID g x)(hr:x.kind % 8=7):∃F,Ia g F/\BH prog 48 [.d (AA g),.d (Br x)] [] (Vj λN=>N=F):=by
 obtain⟨p0,p1,n0,n1,c1,P,Q,R,f1,k1,k2,k3,k4,k5⟩:=h;have m:=GO x.Ew (Z g.conds) k5 (by omega);have H:=(E8 k5 (show Z g.conds<4 by omega)).2;have q:=Ec k5 (show Z g.conds<4 by omega);generalize Iv x.Ew (Z g.conds)=d at *;obtain⟨A,K⟩:=ce (x.a % Z g.AD);have S:A<Z g.AD:=by rw[<-K];exact i7 _ p0
 obtain⟨B,L⟩:=ce (x.b % Z g.AD);have T:B<Z g.AD:=by rw[<-L];exact i7 _ p0
 have U:((x.kind:Int).tmod 8)=7:=by rw[ge (by omega)];omega
 have u:(x.kind:Int) % 8=7:=by omega
 have W:((x.a:Int).tmod (Z g.AD))=A:=by rw[ge (by omega),<-K];simp
 have qb:((x.b:Int).tmod (Z g.AD))=B:=by rw[ge (by omega),<-L];simp
 have w8:b8 .u8 (7:Int)=7:=by decide
 have M:b8 .i64 (x.a:Int)=x.a:=by rw[c8];omega
 have wb:b8 .i64 (x.b:Int)=x.b:=by rw[c8];omega
 have wc:b8 .i64 (x.c:Int)=x.c:=by rw[c8];omega
 have v:¬Z g.AD=0:=by omega
 have w:g.AD≠[]:=by intro e;simp[e]at p0
 have X:g.A0≠[]:=by intro e;simp[e]at n0
 have Y:¬Z g.A0=0:=by omega
 have zs:1<=a8:=by unfold a8;omega
 have C:0<=a8:=er _;obtain⟨e,he⟩:=ce (x.a % 9);have j:e<Z g.AT:=by omega
 have qe:((x.a:Int).tmod 9)=e:=by rw[ge (by omega),<-he];simp
 have E:(x.a:Int) % 9=e:=by omega
 have G:Z g.AT<=1073741824:=by omega
 generalize k:g.AT[e]=tk;have zh:=AX.eq_1 tk;have o:g.AT.isEmpty=false:=by cases h:g.AT<;>simp[h]at j⊢
 have hcl:(g.AT.set e {tk with cond:=d}).map (·.cls)=g.AT.map (·.cls):=by
  rw[g9];apply xv (by simp);intro i h1 h2;rw[ac3];split
  .rename_i hi;subst hi;simp[k]
  .rfl
 refine⟨{g with AT:=g.AT.set e {tk with cond:=d}},.inr (.inr (.inr ⟨_,⟨e,d,q,j,by rw[k]⟩,rfl⟩)),?_⟩;refine zR func48 156 rfl λwf _=>?_;apply yW;simp;apply yS;apply yJ;simp;refine Bq (m) rfl (by simp[xN]) (yJ ?_);simp;apply yW;simp[M,W,v];apply yW;simp;refine xS (yW ?_);simp[U];apply Bo;refine xS (yW ?_);simp;apply AP;simp;apply yV;simp;apply AP;simp;refine xS (yW ?_);simp;apply AP;simp;apply yV;simp;apply AP;simp;refine xS (yW ?_);simp;apply AP;simp;apply yV;simp;apply AP;simp;apply yW;simp;apply AP;simp;apply yW;simp[C,G,o];apply yW;simp[M,qe,j,k,zh];apply yW;simp;apply yW;simp;refine gs (j2 5 (xs:=(g.AT.set e {tk with cond:=d}).map AX) rfl ?_) ?_
 .rw[CH,g9,m0,g9,g9,m0];congr 1
 simp;apply Aj;refine⟨_,_,gl 5 (xs:=(g.AT.set e {tk with cond:=d}).map AX) rfl (by simpa using CM _ ((g.AT.set e {tk with cond:=d}).map AX)),by simp,_,_,⟨rfl,{g with AT:=g.AT.set e {tk with cond:=d}},rfl,rfl⟩,.inl ⟨AA {g with AT:=g.AT.set e {tk with cond:=d}},_,by simp[BO,AA],rfl,gc 0 rfl (by simp)⟩⟩
theorem eA(g:AE)(x:Hv)(h:ID g x)(W:x.kind % 8=6):∃F,Ia g F/\BH prog 48 [.d (AA g),.d (Br x)] [] (Vj λH=>H=F):=by
 obtain⟨p0,p1,n0,n1,c1,K,L,M,f1,k1,k2,k3,k4,k5⟩:=h;have j:=GO x.Ew (Z g.conds) k5 (by omega);have k:=(E8 k5 (show Z g.conds<4 by omega)).2;have o:=Ec k5 (show Z g.conds<4 by omega);generalize Iv x.Ew (Z g.conds)=d at *;obtain⟨A,E⟩:=ce (x.a % Z g.AD);have N:A<Z g.AD:=by rw[<-E];exact i7 _ p0
 obtain⟨B,G⟩:=ce (x.b % Z g.AD);have P:B<Z g.AD:=by rw[<-G];exact i7 _ p0
 have Q:((x.kind:Int).tmod 8)=6:=by rw[ge (by omega)];omega
 have q:(x.kind:Int) % 8=6:=by omega
 have R:((x.a:Int).tmod (Z g.AD))=A:=by rw[ge (by omega),<-E];simp
 have X:((x.b:Int).tmod (Z g.AD))=B:=by rw[ge (by omega),<-G];simp
 have Y:b8 .u8 (6:Int)=6:=by decide
 have S:b8 .i64 (x.a:Int)=x.a:=by rw[c8];omega
 have wb:b8 .i64 (x.b:Int)=x.b:=by rw[c8];omega
 have wc:b8 .i64 (x.c:Int)=x.c:=by rw[c8];omega
 have u:¬Z g.AD=0:=by omega
 have v:g.AD≠[]:=by intro e;simp[e]at p0
 have T:g.A0≠[]:=by intro e;simp[e]at n0
 have U:¬Z g.A0=0:=by omega
 have m:1<=a8:=by unfold a8;omega
 have i:0<=a8:=er _;obtain⟨w,C⟩:=fp g 5 d (by omega) k;refine⟨if w then {g with AR:=g.AR++[(⟨5,0,0,0,0,0,[5],d⟩:Filter)]}else g,by cases w;exact .inl rfl;exact .inr (.inr (.inl ⟨_,⟨d,o,.inr (.inr rfl)⟩,rfl⟩)),?_⟩;refine zR func48 156 rfl λwf _=>?_;apply yW;simp;apply yS;apply yJ;simp;refine Bq (j) rfl (by simp[xN]) (yJ ?_);simp;apply yW;simp[S,R,u];apply yW;simp;refine xS (yW ?_);simp[Q];apply Bo;refine xS (yW ?_);simp;apply AP;simp;apply yV;simp;apply AP;simp;refine xS (yW ?_);simp;apply AP;simp;apply yV;simp;apply AP;simp;refine xS (yW ?_);simp;apply AP;simp;apply yV;simp;apply AP;simp;apply yW;simp;apply AP;simp;apply yW;simp;apply yV;simp[m];refine xS (yS ?_);apply yJ;simp;refine Bq (C) rfl (by simp[xN]) (yJ ?_);simp;cases w with
 |true=>
  apply AP;simp;refine gs (j2 4 (xs:=[AM (⟨5,0,0,0,0,0,[5],d⟩:Filter)]) rfl (by simp[Df,DL,B4,AM])) ?_;simp;have f2:Z g.AR<=1073741824:=by omega
  have f3:Z g.AR+1<=1073741824:=by omega
  refine yE (A7 3 [8,10,7,13,14,17]) (by kernel_rfl) ?_;simp;apply yA 1;simp[m,i];apply xX 20 (by kernel_rfl);simp[AY,m,i,f2,Ac,kw];apply yA 1;simp;apply xX 1 (by kernel_rfl);simp[AY,m,f3,Ac,kw];apply yA 1;simp;apply xX 7 (by kernel_rfl);simp[AY];apply xM;apply yW;simp;apply Aj;refine⟨_,_,gl 5 (xs:=(g.AR++[(⟨5,0,0,0,0,0,[5],d⟩:Filter)]).map AM) rfl (by simpa using CM _ ((g.AR++[(⟨5,0,0,0,0,0,[5],d⟩:Filter)]).map AM)),by simp,_,_,⟨rfl,{g with AR:=g.AR++[(⟨5,0,0,0,0,0,[5],d⟩:Filter)]},rfl,by simp⟩,.inl ⟨AA {g with AR:=g.AR++[(⟨5,0,0,0,0,0,[5],d⟩:Filter)]},_,by simp[BO,AA],rfl,gc 0 rfl (by simp)⟩⟩
 |false=>
  apply AP;simp;apply xK;apply yW;simp;apply Aj;refine⟨_,_,a9,by simp,_,_,⟨rfl,g,rfl,by simp⟩,.inl ⟨AA g,_,by simp,rfl,gc 0 rfl (by simp)⟩⟩
theorem jD(g:AE)(x:Hv)(h:ID g x)(hr:x.kind % 8=2):∃F,Ia g F/\BH prog 48 [.d (AA g),.d (Br x)] [] (Vj λR=>R=F):=by
 obtain⟨p0,p1,n0,n1,c1,S,T,U,f1,k1,k2,k3,k4,k5⟩:=h;have j:=GO x.Ew (Z g.conds) k5 (by omega);have k:=(E8 k5 (show Z g.conds<4 by omega)).2;have H:=Ec k5 (show Z g.conds<4 by omega);generalize Iv x.Ew (Z g.conds)=d at *;obtain⟨A,N⟩:=ce (x.a % Z g.AD);have m:A<Z g.AD:=by rw[<-N];exact i7 _ p0
 obtain⟨B,P⟩:=ce (x.b % Z g.AD);have o:B<Z g.AD:=by rw[<-P];exact i7 _ p0
 have Q:((x.kind:Int).tmod 8)=2:=by rw[ge (by omega)];omega
 have q:(x.kind:Int) % 8=2:=by omega
 have W:((x.a:Int).tmod (Z g.AD))=A:=by rw[ge (by omega),<-N];simp
 have X:((x.b:Int).tmod (Z g.AD))=B:=by rw[ge (by omega),<-P];simp
 have w8:b8 .u8 (2:Int)=2:=by decide
 have Y:b8 .i64 (x.a:Int)=x.a:=by rw[c8];omega
 have wb:b8 .i64 (x.b:Int)=x.b:=by rw[c8];omega
 have wc:b8 .i64 (x.c:Int)=x.c:=by rw[c8];omega
 have u:¬Z g.AD=0:=by omega
 have v:g.AD≠[]:=by intro e;simp[e]at p0
 have hnn:g.A0≠[]:=by intro e;simp[e]at n0
 have hnz:¬Z g.A0=0:=by omega
 have G:1<=a8:=by unfold a8;omega
 have i:0<=a8:=er _;obtain⟨C,hC⟩:=ce (x.c % 16);have qc:((x.c:Int).tmod 16)=C:=by rw[ge (by omega),<-hC];simp
 have K:(x.c:Int) % 16=C:=by omega
 have w:=iE g A C B d m o k;obtain⟨L,E⟩:=ce (Nx g A C B);rw[E]at w;refine⟨if L then {g with AR:=g.AR++[(⟨1,A,C,B,0,0,[],d⟩:Filter)]}else g,by cases M:L;exact .inl rfl;exact .inr (.inr (.inl ⟨_,⟨d,H,.inl ⟨A,C,B,1,by simp,m,o,E.trans M,rfl⟩⟩,rfl⟩)),?_⟩;refine zR func48 156 rfl λwf _=>?_;apply yW;simp;apply yS;apply yJ;simp;refine Bq (j) rfl (by simp[xN]) (yJ ?_);simp;apply yW;simp[Y,W,u];apply yW;simp;refine xS (yW ?_);simp[Q];apply Bo;have z1:b8 .i64 1=1:=by decide
 have z2:b8 .i64 2=2:=by decide
 have z3:b8 .i64 3=3:=by decide
 have z4:b8 .i64 4=4:=by decide
 have z5:b8 .i64 5=5:=by decide
 have z7:b8 .i64 7=7:=by decide
 have z8:b8 .i64 8=8:=by decide
 refine xS (yW ?_);simp;apply AP;simp;apply yV;simp;apply AP;simp;refine xS (yW ?_);simp;apply AP;simp;apply xK;apply AP;simp;apply yW;simp[Q,z1,z2,z3];apply yW;simp;apply yW;simp[wc,qc];apply yV;simp[wb,X,u];refine xS (yS ?_);apply yJ;simp;refine Bq (w) rfl (by simp[xN]) (yJ ?_);simp;cases L with
 |true=>
  apply AP;simp;refine gs (j2 4 (xs:=[AM (⟨1,A,C,B,0,0,[],d⟩:Filter)]) rfl (by simp[Df,DL,B4,AM])) ?_;simp;have f2:Z g.AR<=1073741824:=by omega
  have f3:Z g.AR+1<=1073741824:=by omega
  refine yE (A7 3 [8,10,7,13,14,17]) (by kernel_rfl) ?_;simp;apply yA 1;simp[G,i];apply xX 20 (by kernel_rfl);simp[AY,G,i,f2,Ac,kw];apply yA 1;simp;apply xX 1 (by kernel_rfl);simp[AY,G,f3,Ac,kw];apply yA 1;simp;apply xX 7 (by kernel_rfl);simp[AY];apply xM;apply yW;simp;apply Aj;refine⟨_,_,gl 5 (xs:=(g.AR++[(⟨1,A,C,B,0,0,[],d⟩:Filter)]).map AM) rfl (by simpa using CM _ ((g.AR++[(⟨1,A,C,B,0,0,[],d⟩:Filter)]).map AM)),by simp,_,_,⟨rfl,{g with AR:=g.AR++[(⟨1,A,C,B,0,0,[],d⟩:Filter)]},rfl,by simp⟩,.inl ⟨AA {g with AR:=g.AR++[(⟨1,A,C,B,0,0,[],d⟩:Filter)]},_,by simp[BO,AA],rfl,gc 0 rfl (by simp)⟩⟩
 |false=>
  apply AP;simp;apply xK;apply yW;simp;apply Aj;refine⟨_,_,a9,by simp,_,_,⟨rfl,g,rfl,by simp⟩,.inl ⟨AA g,_,by simp,rfl,gc 0 rfl (by simp)⟩⟩
theorem iU(g:AE)(x:Hv)(h:ID g x)(hr:x.kind % 8=3):∃F,Ia g F/\BH prog 48 [.d (AA g),.d (Br x)] [] (Vj λR=>R=F):=by
 obtain⟨p0,p1,n0,n1,c1,S,T,U,f1,k1,k2,k3,k4,k5⟩:=h;have j:=GO x.Ew (Z g.conds) k5 (by omega);have k:=(E8 k5 (show Z g.conds<4 by omega)).2;have H:=Ec k5 (show Z g.conds<4 by omega);generalize Iv x.Ew (Z g.conds)=d at *;obtain⟨A,N⟩:=ce (x.a % Z g.AD);have m:A<Z g.AD:=by rw[<-N];exact i7 _ p0
 obtain⟨B,P⟩:=ce (x.b % Z g.AD);have o:B<Z g.AD:=by rw[<-P];exact i7 _ p0
 have Q:((x.kind:Int).tmod 8)=3:=by rw[ge (by omega)];omega
 have q:(x.kind:Int) % 8=3:=by omega
 have W:((x.a:Int).tmod (Z g.AD))=A:=by rw[ge (by omega),<-N];simp
 have X:((x.b:Int).tmod (Z g.AD))=B:=by rw[ge (by omega),<-P];simp
 have w8:b8 .u8 (3:Int)=3:=by decide
 have Y:b8 .i64 (x.a:Int)=x.a:=by rw[c8];omega
 have wb:b8 .i64 (x.b:Int)=x.b:=by rw[c8];omega
 have wc:b8 .i64 (x.c:Int)=x.c:=by rw[c8];omega
 have u:¬Z g.AD=0:=by omega
 have v:g.AD≠[]:=by intro e;simp[e]at p0
 have hnn:g.A0≠[]:=by intro e;simp[e]at n0
 have hnz:¬Z g.A0=0:=by omega
 have G:1<=a8:=by unfold a8;omega
 have i:0<=a8:=er _;obtain⟨C,hC⟩:=ce (x.c % 16);have qc:((x.c:Int).tmod 16)=C:=by rw[ge (by omega),<-hC];simp
 have K:(x.c:Int) % 16=C:=by omega
 have w:=gU g A C B d m o k;obtain⟨L,E⟩:=ce (Nx g A C B);rw[E]at w;refine⟨if L then {g with AR:=g.AR++[(⟨2,A,C,B,0,0,[],d⟩:Filter)]}else g,by cases M:L;exact .inl rfl;exact .inr (.inr (.inl ⟨_,⟨d,H,.inl ⟨A,C,B,2,by simp,m,o,E.trans M,rfl⟩⟩,rfl⟩)),?_⟩;refine zR func48 156 rfl λwf _=>?_;apply yW;simp;apply yS;apply yJ;simp;refine Bq (j) rfl (by simp[xN]) (yJ ?_);simp;apply yW;simp[Y,W,u];apply yW;simp;refine xS (yW ?_);simp[Q];apply Bo;have z1:b8 .i64 1=1:=by decide
 have z2:b8 .i64 2=2:=by decide
 have z3:b8 .i64 3=3:=by decide
 have z4:b8 .i64 4=4:=by decide
 have z5:b8 .i64 5=5:=by decide
 have z7:b8 .i64 7=7:=by decide
 have z8:b8 .i64 8=8:=by decide
 refine xS (yW ?_);simp;apply AP;simp;apply yV;simp;apply AP;simp;refine xS (yW ?_);simp;apply AP;simp;apply yV;simp;apply AP;simp;apply yW;simp[Q,z2,z3,z4];apply yW;simp;apply yW;simp[wc,qc];apply yV;simp[wb,X,u];refine xS (yS ?_);apply yJ;simp;refine Bq (w) rfl (by simp[xN]) (yJ ?_);simp;cases L with
 |true=>
  apply AP;simp;refine gs (j2 4 (xs:=[AM (⟨2,A,C,B,0,0,[],d⟩:Filter)]) rfl (by simp[Df,DL,B4,AM])) ?_;simp;have f2:Z g.AR<=1073741824:=by omega
  have f3:Z g.AR+1<=1073741824:=by omega
  refine yE (A7 3 [8,10,7,13,14,17]) (by kernel_rfl) ?_;simp;apply yA 1;simp[G,i];apply xX 20 (by kernel_rfl);simp[AY,G,i,f2,Ac,kw];apply yA 1;simp;apply xX 1 (by kernel_rfl);simp[AY,G,f3,Ac,kw];apply yA 1;simp;apply xX 7 (by kernel_rfl);simp[AY];apply xM;apply yW;simp;apply Aj;refine⟨_,_,gl 5 (xs:=(g.AR++[(⟨2,A,C,B,0,0,[],d⟩:Filter)]).map AM) rfl (by simpa using CM _ ((g.AR++[(⟨2,A,C,B,0,0,[],d⟩:Filter)]).map AM)),by simp,_,_,⟨rfl,{g with AR:=g.AR++[(⟨2,A,C,B,0,0,[],d⟩:Filter)]},rfl,by simp⟩,.inl ⟨AA {g with AR:=g.AR++[(⟨2,A,C,B,0,0,[],d⟩:Filter)]},_,by simp[BO,AA],rfl,gc 0 rfl (by simp)⟩⟩
 |false=>
  apply AP;simp;apply xK;apply yW;simp;apply Aj;refine⟨_,_,a9,by simp,_,_,⟨rfl,g,rfl,by simp⟩,.inl ⟨AA g,_,by simp,rfl,gc 0 rfl (by simp)⟩⟩
theorem fw(g:AE)(x:Hv)(h:ID g x)(hr:x.kind % 8=4):∃F,Ia g F/\BH prog 48 [.d (AA g),.d (Br x)] [] (Vj λT=>T=F):=by
 obtain⟨p0,p1,n0,n1,c1,U,W,X,f1,k1,k2,k3,k4,k5⟩:=h;have j:=GO x.Ew (Z g.conds) k5 (by omega);have k:=(E8 k5 (show Z g.conds<4 by omega)).2;have v:=Ec k5 (show Z g.conds<4 by omega);generalize Iv x.Ew (Z g.conds)=d at *;obtain⟨A,N⟩:=ce (x.a % Z g.AD);have Y:A<Z g.AD:=by rw[<-N];exact i7 _ p0
 obtain⟨B,P⟩:=ce (x.b % Z g.AD);have hBl:B<Z g.AD:=by rw[<-P];exact i7 _ p0
 have Q:((x.kind:Int).tmod 8)=4:=by rw[ge (by omega)];omega
 have m:(x.kind:Int) % 8=4:=by omega
 have qa:((x.a:Int).tmod (Z g.AD))=A:=by rw[ge (by omega),<-N];simp
 have qb:((x.b:Int).tmod (Z g.AD))=B:=by rw[ge (by omega),<-P];simp
 have w8:b8 .u8 (4:Int)=4:=by decide
 have R:b8 .i64 (x.a:Int)=x.a:=by rw[c8];omega
 have wb:b8 .i64 (x.b:Int)=x.b:=by rw[c8];omega
 have wc:b8 .i64 (x.c:Int)=x.c:=by rw[c8];omega
 have w:¬Z g.AD=0:=by omega
 have C:g.AD≠[]:=by intro e;simp[e]at p0
 have G:g.A0≠[]:=by intro e;simp[e]at n0
 have H:¬Z g.A0=0:=by omega
 have o:1<=a8:=by unfold a8;omega
 have i:0<=a8:=er _;obtain⟨L,S⟩:=ce (x.a % Z g.A0);have q:L<Z g.A0:=by rw[<-S];exact i7 _ n0
 have ql:((x.a:Int).tmod (Z g.A0))=L:=by rw[ge (by omega),<-S];simp
 obtain⟨E,hE⟩:=ce (x.b % 9);have qe:((x.b:Int).tmod 9)=E:=by rw[ge (by omega),<-hE];simp
 have K:(x.b:Int) % 9=E:=by omega
 have u:=ie g L E d q (by omega) k;generalize(!(bC g.AT[E] false))=M at u;refine⟨if M then {g with AR:=g.AR++[(⟨3,0,0,0,L,0,[(E:Int)],d⟩:Filter)]}else g,by cases M;exact .inl rfl;exact .inr (.inr (.inl ⟨_,⟨d,v,.inr (.inl ⟨L,E,3,by simp,q,by omega,rfl⟩)⟩,rfl⟩)),?_⟩;refine zR func48 156 rfl λwf _=>?_;apply yW;simp;apply yS;apply yJ;simp;refine Bq (j) rfl (by simp[xN]) (yJ ?_);simp;apply yW;simp[R,qa,w];apply yW;simp;refine xS (yW ?_);simp[Q];apply Bo;have z1:b8 .i64 1=1:=by decide
 have z2:b8 .i64 2=2:=by decide
 have z3:b8 .i64 3=3:=by decide
 have z4:b8 .i64 4=4:=by decide
 have z5:b8 .i64 5=5:=by decide
 have z7:b8 .i64 7=7:=by decide
 have z8:b8 .i64 8=8:=by decide
 refine xS (yW ?_);simp;apply AP;simp;apply yV;simp;apply AP;simp;refine xS (yW ?_);simp;apply AP;simp;apply yV;simp;apply AP;simp;refine xS (yW ?_);simp;apply AP;simp;apply xK;apply AP;simp;apply yW;simp[Q,z3,z4,z7];apply yW;simp[R,ql,H];apply yV;simp[wb,qe,o];refine xS (yS ?_);apply yJ;simp;refine Bq (u) rfl (by simp[xN]) (yJ ?_);simp;cases M with
 |true=>
  apply AP;simp;refine gs (j2 4 (xs:=[AM (⟨3,0,0,0,L,0,[(E:Int)],d⟩:Filter)]) rfl (by simp[Df,DL,B4,AM])) ?_;simp;have f2:Z g.AR<=1073741824:=by omega
  have f3:Z g.AR+1<=1073741824:=by omega
  refine yE (A7 3 [8,10,7,13,14,17]) (by kernel_rfl) ?_;simp;apply yA 1;simp[o,i];apply xX 20 (by kernel_rfl);simp[AY,o,i,f2,Ac,kw];apply yA 1;simp;apply xX 1 (by kernel_rfl);simp[AY,o,f3,Ac,kw];apply yA 1;simp;apply xX 7 (by kernel_rfl);simp[AY];apply xM;apply yW;simp;apply Aj;refine⟨_,_,gl 5 (xs:=(g.AR++[(⟨3,0,0,0,L,0,[(E:Int)],d⟩:Filter)]).map AM) rfl (by simpa using CM _ ((g.AR++[(⟨3,0,0,0,L,0,[(E:Int)],d⟩:Filter)]).map AM)),by simp,_,_,⟨rfl,{g with AR:=g.AR++[(⟨3,0,0,0,L,0,[(E:Int)],d⟩:Filter)]},rfl,by simp⟩,.inl ⟨AA {g with AR:=g.AR++[(⟨3,0,0,0,L,0,[(E:Int)],d⟩:Filter)]},_,by simp[BO,AA],rfl,gc 0 rfl (by simp)⟩⟩
 |false=>
  apply AP;simp;apply xK;apply yW;simp;apply Aj;refine⟨_,_,a9,by simp,_,_,⟨rfl,g,rfl,by simp⟩,.inl ⟨AA g,_,by simp,rfl,gc 0 rfl (by simp)⟩⟩
theorem dw(g:AE)(x:Hv)(h:ID g x)(hr:x.kind % 8=5):∃F,Ia g F/\BH prog 48 [.d (AA g),.d (Br x)] [] (Vj λT=>T=F):=by
 obtain⟨p0,p1,n0,n1,c1,U,W,X,f1,k1,k2,k3,k4,k5⟩:=h;have j:=GO x.Ew (Z g.conds) k5 (by omega);have k:=(E8 k5 (show Z g.conds<4 by omega)).2;have v:=Ec k5 (show Z g.conds<4 by omega);generalize Iv x.Ew (Z g.conds)=d at *;obtain⟨A,N⟩:=ce (x.a % Z g.AD);have Y:A<Z g.AD:=by rw[<-N];exact i7 _ p0
 obtain⟨B,P⟩:=ce (x.b % Z g.AD);have hBl:B<Z g.AD:=by rw[<-P];exact i7 _ p0
 have Q:((x.kind:Int).tmod 8)=5:=by rw[ge (by omega)];omega
 have m:(x.kind:Int) % 8=5:=by omega
 have qa:((x.a:Int).tmod (Z g.AD))=A:=by rw[ge (by omega),<-N];simp
 have qb:((x.b:Int).tmod (Z g.AD))=B:=by rw[ge (by omega),<-P];simp
 have w8:b8 .u8 (5:Int)=5:=by decide
 have R:b8 .i64 (x.a:Int)=x.a:=by rw[c8];omega
 have wb:b8 .i64 (x.b:Int)=x.b:=by rw[c8];omega
 have wc:b8 .i64 (x.c:Int)=x.c:=by rw[c8];omega
 have w:¬Z g.AD=0:=by omega
 have C:g.AD≠[]:=by intro e;simp[e]at p0
 have G:g.A0≠[]:=by intro e;simp[e]at n0
 have H:¬Z g.A0=0:=by omega
 have o:1<=a8:=by unfold a8;omega
 have i:0<=a8:=er _;obtain⟨L,S⟩:=ce (x.a % Z g.A0);have q:L<Z g.A0:=by rw[<-S];exact i7 _ n0
 have ql:((x.a:Int).tmod (Z g.A0))=L:=by rw[ge (by omega),<-S];simp
 obtain⟨E,hE⟩:=ce (x.b % 9);have qe:((x.b:Int).tmod 9)=E:=by rw[ge (by omega),<-hE];simp
 have K:(x.b:Int) % 9=E:=by omega
 have u:=fT g L E d q (by omega) k;generalize(!(bC g.AT[E] false))=M at u;refine⟨if M then {g with AR:=g.AR++[(⟨4,0,0,0,L,0,[(E:Int)],d⟩:Filter)]}else g,by cases M;exact .inl rfl;exact .inr (.inr (.inl ⟨_,⟨d,v,.inr (.inl ⟨L,E,4,by simp,q,by omega,rfl⟩)⟩,rfl⟩)),?_⟩;refine zR func48 156 rfl λwf _=>?_;apply yW;simp;apply yS;apply yJ;simp;refine Bq (j) rfl (by simp[xN]) (yJ ?_);simp;apply yW;simp[R,qa,w];apply yW;simp;refine xS (yW ?_);simp[Q];apply Bo;have z1:b8 .i64 1=1:=by decide
 have z2:b8 .i64 2=2:=by decide
 have z3:b8 .i64 3=3:=by decide
 have z4:b8 .i64 4=4:=by decide
 have z5:b8 .i64 5=5:=by decide
 have z7:b8 .i64 7=7:=by decide
 have z8:b8 .i64 8=8:=by decide
 refine xS (yW ?_);simp;apply AP;simp;apply yV;simp;apply AP;simp;refine xS (yW ?_);simp;apply AP;simp;apply yV;simp;apply AP;simp;refine xS (yW ?_);simp;apply AP;simp;apply yV;simp;apply AP;simp;apply yW;simp[Q,z4,z5,z8];apply yW;simp[R,ql,H];apply yV;simp[wb,qe,o];refine xS (yS ?_);apply yJ;simp;refine Bq (u) rfl (by simp[xN]) (yJ ?_);simp;cases M with
 |true=>
  apply AP;simp;refine gs (j2 4 (xs:=[AM (⟨4,0,0,0,L,0,[(E:Int)],d⟩:Filter)]) rfl (by simp[Df,DL,B4,AM])) ?_;simp;have f2:Z g.AR<=1073741824:=by omega
  have f3:Z g.AR+1<=1073741824:=by omega
  refine yE (A7 3 [8,10,7,13,14,17]) (by kernel_rfl) ?_;simp;apply yA 1;simp[o,i];apply xX 20 (by kernel_rfl);simp[AY,o,i,f2,Ac,kw];apply yA 1;simp;apply xX 1 (by kernel_rfl);simp[AY,o,f3,Ac,kw];apply yA 1;simp;apply xX 7 (by kernel_rfl);simp[AY];apply xM;apply yW;simp;apply Aj;refine⟨_,_,gl 5 (xs:=(g.AR++[(⟨4,0,0,0,L,0,[(E:Int)],d⟩:Filter)]).map AM) rfl (by simpa using CM _ ((g.AR++[(⟨4,0,0,0,L,0,[(E:Int)],d⟩:Filter)]).map AM)),by simp,_,_,⟨rfl,{g with AR:=g.AR++[(⟨4,0,0,0,L,0,[(E:Int)],d⟩:Filter)]},rfl,by simp⟩,.inl ⟨AA {g with AR:=g.AR++[(⟨4,0,0,0,L,0,[(E:Int)],d⟩:Filter)]},_,by simp[BO,AA],rfl,gc 0 rfl (by simp)⟩⟩
 |false=>
  apply AP;simp;apply xK;apply yW;simp;apply Aj;refine⟨_,_,a9,by simp,_,_,⟨rfl,g,rfl,by simp⟩,.inl ⟨AA g,_,by simp,rfl,gc 0 rfl (by simp)⟩⟩
theorem iT(g:AE)(x:Hv)(h:ID g x)(hr:x.kind % 8=0):∃F,Ia g F/\BH prog 48 [.d (AA g),.d (Br x)] [] (Vj λg'=>g'=F):=by
 obtain⟨p0,p1,n0,n1,c1,tk1,lv1,S,f1,k1,k2,k3,k4,k5⟩:=h;have E:=GO x.Ew (Z g.conds) k5 (by omega);have X:=(E8 k5 (show Z g.conds<4 by omega)).2;have G:=Ec k5 (show Z g.conds<4 by omega);generalize Iv x.Ew (Z g.conds)=d at *;obtain⟨A,Y⟩:=ce (x.a % Z g.AD);have hAl:A<Z g.AD:=by rw[<-Y];exact i7 _ p0
 obtain⟨B,hB⟩:=ce (x.b % Z g.AD);have hBl:B<Z g.AD:=by rw[<-hB];exact i7 _ p0
 have q0:((x.kind:Int).tmod 8)=0:=by rw[ge (by omega)];omega
 have T:(x.kind:Int) % 8=0:=by omega
 have qa:((x.a:Int).tmod (Z g.AD))=A:=by rw[ge (by omega),<-Y];simp
 have qb:((x.b:Int).tmod (Z g.AD))=B:=by rw[ge (by omega),<-hB];simp
 have w8:b8 .u8 (0:Int)=0:=by decide
 have wa:b8 .i64 (x.a:Int)=x.a:=by rw[c8];omega
 have wb:b8 .i64 (x.b:Int)=x.b:=by rw[c8];omega
 have wc:b8 .i64 (x.c:Int)=x.c:=by rw[c8];omega
 have H:¬Z g.AD=0:=by omega
 have L:g.AD≠[]:=by intro e;simp[e]at p0
 have hnn:g.A0≠[]:=by intro e;simp[e]at n0
 have hnz:¬Z g.A0=0:=by omega
 have o:1<=a8:=by unfold a8;omega
 have m:0<=a8:=er _;obtain⟨C,hC⟩:=ce (x.c % 4);have qc:((x.c:Int).tmod 4)=C:=by rw[ge (by omega),<-hC];simp
 have U:(x.c:Int) % 4=C:=by omega
 have wC:b8 .i64 (C:Int)=C:=by rw[c8];omega
 have u:Z g.levels<=1073741824:=by omega
 have v:Z g.levels+1<=1073741824:=by omega
 have M:∀l∈g.levels,Z l.AD<=a8:=λl hl=>by have:=S l hl;unfold a8;omega
 have N:=I1 g A (by unfold a8;omega) M;have P:=I1 g B (by unfold a8;omega) M;obtain⟨W,w⟩:=ce (Sf g A);obtain⟨lb,Q⟩:=ce (Sf g B);rw[w]at N;rw[Q]at P;refine⟨if W then g else if B=A\/lb=true then {g with levels:=g.levels++[(⟨[(A:Int)],C,d⟩:Level)]}else {g with levels:=g.levels++[(⟨[(A:Int),(B:Int)],C,d⟩:Level)]},?_,?_⟩
 .cases W
  .simp only[ob,jw];have hC4:C<=3:=by omega
   split
   .refine .inr (.inl ⟨_,⟨by simp,by simp,by simp;omega,G,by simp,λp R=>?_⟩,rfl⟩);simp only[go]at R;subst R;exact⟨by omega,by omega,w⟩
   .next hn=>
    simp only[va,adw]at hn;refine .inr (.inl ⟨_,⟨by simp,by simp,by simp;omega,G,by simp;omega,λp R=>?_⟩,rfl⟩);simp only[ke,acp,ad4]at R;rcases R with rfl|rfl
    .exact⟨by omega,by omega,w⟩
    .exact⟨by omega,by omega,Q.trans hn.2⟩
  .exact .inl rfl
 refine BH.Aw func48 (by kernel_rfl) rfl (by simp) λwf _=>?_;rw[ntmps48];refine xW λK j=>?_;simp;apply j;refine E5 λK j=>?_;refine xJ ?_;simp;refine Bq (E) rfl (by simp[xN]) ?_;simp;refine xJ ?_;simp;refine BY (j _ _ ?_);refine xW λK j=>?_;simp[wa,qa,H];apply j;refine xW λK j=>?_;simp;apply j;refine xS (xW λK j=>?_);simp[q0];apply j;refine Bo ?_;refine xS (xW λK j=>?_);simp;apply j;refine AP ?_;simp;refine xK ?_;refine AP ?_;simp;refine xS (E5 λK j=>?_);refine xJ ?_;simp;refine Bq (N) rfl (by simp[xN]) ?_;simp;refine xJ ?_;simp;refine BY (j _ _ ?_);(try simp only[xQ,reduceIte]);cases W with
 |true=>
  refine AP ?_;simp;refine xK ?_;refine xW λK j=>?_;simp;apply j;refine Aj ?_;(try simp only[xQ,reduceIte]);refine⟨_,_,a9,by simp,_,_,⟨rfl,g,rfl,by simp⟩,.inl ⟨AA g,_,by simp,rfl,gc 0 rfl (by simp)⟩⟩
 |false=>
  refine AP ?_;simp;refine xW λK j=>?_;simp[qc,wC,o];apply j;(repeat refine xS ?_);refine xV λK j=>?_;simp[wb,qb,H];refine j _ _ ?_;(try simp only[xQ,reduceIte]);by_cases k:B=A
  .have q:=k;have i:(B:Int)=A:=by omega
   refine xS (E5 λK j=>?_);refine xH ?_;simp[k];refine BY (j _ _ ?_);(try simp only[xQ,reduceIte]);refine AP ?_;simp[k];refine xK ?_;refine gs (j2 5 (xs:=[Af (⟨[(A:Int)],C,d⟩:Level)]) rfl (by simp[Df,DL,B4,Af])) ?_;simp;refine xE (A7 3 [8,10,7,13,14,17]) (by kernel_rfl) λK j=>?_;simp;refine xA 1 ?_;simp[o,m];refine xX 20 (by kernel_rfl) ?_;simp[AY,o,m,u,Ac,kw];refine xA 1 ?_;simp;refine xX 1 (by kernel_rfl) ?_;simp[AY,o,v,Ac,kw];refine xA 1 ?_;simp;refine xX 7 (by kernel_rfl) ?_;simp[AY];refine xM (j _ _ ?_);refine xW λK j=>?_;simp;apply j;refine Aj ?_;(try simp only[xQ,reduceIte]);refine⟨_,_,gl 6 (xs:=(g.levels++[(⟨[(A:Int)],C,d⟩:Level)]).map Af) rfl (by simpa using CM _ ((g.levels++[(⟨[(A:Int)],C,d⟩:Level)]).map Af)),by simp,_,_,⟨rfl,{g with levels:=g.levels++[(⟨[(A:Int)],C,d⟩:Level)]},rfl,by simp⟩,.inl ⟨AA {g with levels:=g.levels++[(⟨[(A:Int)],C,d⟩:Level)]},_,by simp[BO,AA],rfl,gc 0 rfl (by simp)⟩⟩
  .have q:=k;have i:¬(B:Int)=A:=by omega
   refine xS (E5 λK j=>?_);(repeat((first|refine FI rfl ?_ ?_;(·simp[i])|refine Pe rfl ?_ ?_;(·simp[i])|refine Cc ?_ ?_;(·simp[i]));simp));refine li (P) rfl rfl (by simp[i,AB,AA];try rfl) ?_;simp;(repeat((first|refine FI rfl ?_ ?_;(·simp[i])|refine Pe rfl ?_ ?_;(·simp[i])|refine Cc ?_ ?_;(·simp));simp));refine BY (j _ _ ?_);(try simp only[B5,A2,reduceIte]);cases lb with
   |true=>
    refine AP ?_;simp[k];refine xK ?_;refine gs (j2 5 (xs:=[Af (⟨[(A:Int)],C,d⟩:Level)]) rfl (by simp[Df,DL,B4,Af])) ?_;simp;refine xE (A7 3 [8,10,7,13,14,17]) (by kernel_rfl) λK j=>?_;simp;refine xA 1 ?_;simp[o,m];refine xX 20 (by kernel_rfl) ?_;simp[AY,o,m,u,Ac,kw];refine xA 1 ?_;simp;refine xX 1 (by kernel_rfl) ?_;simp[AY,o,v,Ac,kw];refine xA 1 ?_;simp;refine xX 7 (by kernel_rfl) ?_;simp[AY];refine xM (j _ _ ?_);refine xW λK j=>?_;simp;apply j;refine Aj ?_;(try simp only[xQ,reduceIte]);refine⟨_,_,gl 6 (xs:=(g.levels++[(⟨[(A:Int)],C,d⟩:Level)]).map Af) rfl (by simpa using CM _ ((g.levels++[(⟨[(A:Int)],C,d⟩:Level)]).map Af)),by simp,_,_,⟨rfl,{g with levels:=g.levels++[(⟨[(A:Int)],C,d⟩:Level)]},rfl,by simp⟩,.inl ⟨AA {g with levels:=g.levels++[(⟨[(A:Int)],C,d⟩:Level)]},_,by simp[BO,AA],rfl,gc 0 rfl (by simp)⟩⟩
   |false=>
    refine AP ?_;simp[k,i];refine xV λK j=>?_;simp[o,Ac];apply j;refine gs (gl 6 (xs:=[.int .i64 A,.int .i64 B]) rfl (by simp[Df,B4])) ?_;simp;refine gs (j2 5 (xs:=[Af (⟨[(A:Int),(B:Int)],C,d⟩:Level)]) rfl (by simp[Df,DL,B4,Af])) ?_;simp;refine xE (A7 3 [8,10,7,13,14,17]) (by kernel_rfl) λK j=>?_;simp;refine xA 1 ?_;simp[o,m];refine xX 20 (by kernel_rfl) ?_;simp[AY,o,m,u,Ac,kw];refine xA 1 ?_;simp;refine xX 1 (by kernel_rfl) ?_;simp[AY,o,v,Ac,kw];refine xA 1 ?_;simp;refine xX 7 (by kernel_rfl) ?_;simp[AY];refine xM (j _ _ ?_);refine xW λK j=>?_;simp;apply j;refine Aj ?_;(try simp only[xQ,reduceIte]);refine⟨_,_,gl 7 (xs:=(g.levels++[(⟨[(A:Int),(B:Int)],C,d⟩:Level)]).map Af) rfl (by simpa using CM _ ((g.levels++[(⟨[(A:Int),(B:Int)],C,d⟩:Level)]).map Af)),by simp,_,_,⟨rfl,{g with levels:=g.levels++[(⟨[(A:Int),(B:Int)],C,d⟩:Level)]},rfl,by simp⟩,.inl ⟨AA {g with levels:=g.levels++[(⟨[(A:Int),(B:Int)],C,d⟩:Level)]},_,by simp[BO,AA],rfl,gc 0 rfl (by simp)⟩⟩
theorem jX(g:AE)(x:Hv)(h:ID g x)(hr:x.kind % 8=1):∃F,Ia g F/\BH prog 48 [.d (AA g),.d (Br x)] [] (Vj λg'=>g'=F):=by
 obtain⟨p0,p1,n0,n1,c1,tk1,lv1,S,f1,k1,k2,k3,k4,k5⟩:=h;have E:=GO x.Ew (Z g.conds) k5 (by omega);have X:=(E8 k5 (show Z g.conds<4 by omega)).2;have G:=Ec k5 (show Z g.conds<4 by omega);generalize Iv x.Ew (Z g.conds)=d at *;obtain⟨A,Y⟩:=ce (x.a % Z g.AD);have hAl:A<Z g.AD:=by rw[<-Y];exact i7 _ p0
 obtain⟨B,hB⟩:=ce (x.b % Z g.AD);have hBl:B<Z g.AD:=by rw[<-hB];exact i7 _ p0
 have q0:((x.kind:Int).tmod 8)=1:=by rw[ge (by omega)];omega
 have T:(x.kind:Int) % 8=1:=by omega
 have qa:((x.a:Int).tmod (Z g.AD))=A:=by rw[ge (by omega),<-Y];simp
 have qb:((x.b:Int).tmod (Z g.AD))=B:=by rw[ge (by omega),<-hB];simp
 have w8:b8 .u8 (1:Int)=1:=by decide
 have wa:b8 .i64 (x.a:Int)=x.a:=by rw[c8];omega
 have wb:b8 .i64 (x.b:Int)=x.b:=by rw[c8];omega
 have wc:b8 .i64 (x.c:Int)=x.c:=by rw[c8];omega
 have H:¬Z g.AD=0:=by omega
 have L:g.AD≠[]:=by intro e;simp[e]at p0
 have hnn:g.A0≠[]:=by intro e;simp[e]at n0
 have hnz:¬Z g.A0=0:=by omega
 have o:1<=a8:=by unfold a8;omega
 have m:0<=a8:=er _;obtain⟨C,hC⟩:=ce (x.c % 4);have qc:((x.c:Int).tmod 4)=C:=by rw[ge (by omega),<-hC];simp
 have U:(x.c:Int) % 4=C:=by omega
 have wC:b8 .i64 (C:Int)=C:=by rw[c8];omega
 have u:Z g.levels<=1073741824:=by omega
 have v:Z g.levels+1<=1073741824:=by omega
 have M:∀l∈g.levels,Z l.AD<=a8:=λl hl=>by have:=S l hl;unfold a8;omega
 have N:=I1 g A (by unfold a8;omega) M;have P:=I1 g B (by unfold a8;omega) M;obtain⟨W,w⟩:=ce (Sf g A);obtain⟨lb,Q⟩:=ce (Sf g B);rw[w]at N;rw[Q]at P;refine⟨if W then g else if B=A\/lb=true then {g with levels:=g.levels++[(⟨[(A:Int)],C,d⟩:Level)]}else {g with levels:=g.levels++[(⟨[(A:Int),(B:Int)],C,d⟩:Level)]},?_,?_⟩
 .cases W
  .simp only[ob,jw];have hC4:C<=3:=by omega
   split
   .refine .inr (.inl ⟨_,⟨by simp,by simp,by simp;omega,G,by simp,λp R=>?_⟩,rfl⟩);simp only[go]at R;subst R;exact⟨by omega,by omega,w⟩
   .next hn=>
    simp only[va,adw]at hn;refine .inr (.inl ⟨_,⟨by simp,by simp,by simp;omega,G,by simp;omega,λp R=>?_⟩,rfl⟩);simp only[ke,acp,ad4]at R;rcases R with rfl|rfl
    .exact⟨by omega,by omega,w⟩
    .exact⟨by omega,by omega,Q.trans hn.2⟩
  .exact .inl rfl
 refine BH.Aw func48 (by kernel_rfl) rfl (by simp) λwf _=>?_;rw[ntmps48];refine xW λK j=>?_;simp;apply j;refine E5 λK j=>?_;refine xJ ?_;simp;refine Bq (E) rfl (by simp[xN]) ?_;simp;refine xJ ?_;simp;refine BY (j _ _ ?_);refine xW λK j=>?_;simp[wa,qa,H];apply j;refine xW λK j=>?_;simp;apply j;refine xS (xW λK j=>?_);simp[q0];apply j;refine Bo ?_;refine xS (xW λK j=>?_);simp;apply j;refine AP ?_;simp;refine xV λK j=>?_;simp;apply j;refine AP ?_;simp;refine xS (E5 λK j=>?_);refine xJ ?_;simp;refine Bq (N) rfl (by simp[xN]) ?_;simp;refine xJ ?_;simp;refine BY (j _ _ ?_);(try simp only[xQ,reduceIte]);cases W with
 |true=>
  refine AP ?_;simp;refine xK ?_;refine xW λK j=>?_;simp;apply j;refine Aj ?_;(try simp only[xQ,reduceIte]);refine⟨_,_,a9,by simp,_,_,⟨rfl,g,rfl,by simp⟩,.inl ⟨AA g,_,by simp,rfl,gc 0 rfl (by simp)⟩⟩
 |false=>
  refine AP ?_;simp;refine xW λK j=>?_;simp[qc,wC,o];apply j;(repeat refine xS ?_);refine xV λK j=>?_;simp[wb,qb,H];refine j _ _ ?_;(try simp only[xQ,reduceIte]);by_cases k:B=A
  .have q:=k;have i:(B:Int)=A:=by omega
   refine xS (E5 λK j=>?_);refine xH ?_;simp[k];refine BY (j _ _ ?_);(try simp only[xQ,reduceIte]);refine AP ?_;simp[k];refine xK ?_;refine gs (j2 5 (xs:=[Af (⟨[(A:Int)],C,d⟩:Level)]) rfl (by simp[Df,DL,B4,Af])) ?_;simp;refine xE (A7 3 [8,10,7,13,14,17]) (by kernel_rfl) λK j=>?_;simp;refine xA 1 ?_;simp[o,m];refine xX 20 (by kernel_rfl) ?_;simp[AY,o,m,u,Ac,kw];refine xA 1 ?_;simp;refine xX 1 (by kernel_rfl) ?_;simp[AY,o,v,Ac,kw];refine xA 1 ?_;simp;refine xX 7 (by kernel_rfl) ?_;simp[AY];refine xM (j _ _ ?_);refine xW λK j=>?_;simp;apply j;refine Aj ?_;(try simp only[xQ,reduceIte]);refine⟨_,_,gl 6 (xs:=(g.levels++[(⟨[(A:Int)],C,d⟩:Level)]).map Af) rfl (by simpa using CM _ ((g.levels++[(⟨[(A:Int)],C,d⟩:Level)]).map Af)),by simp,_,_,⟨rfl,{g with levels:=g.levels++[(⟨[(A:Int)],C,d⟩:Level)]},rfl,by simp⟩,.inl ⟨AA {g with levels:=g.levels++[(⟨[(A:Int)],C,d⟩:Level)]},_,by simp[BO,AA],rfl,gc 0 rfl (by simp)⟩⟩
  .have q:=k;have i:¬(B:Int)=A:=by omega
   refine xS (E5 λK j=>?_);(repeat((first|refine FI rfl ?_ ?_;(·simp[i])|refine Pe rfl ?_ ?_;(·simp[i])|refine Cc ?_ ?_;(·simp[i]));simp));refine li (P) rfl rfl (by simp[i,AB,AA];try rfl) ?_;simp;(repeat((first|refine FI rfl ?_ ?_;(·simp[i])|refine Pe rfl ?_ ?_;(·simp[i])|refine Cc ?_ ?_;(·simp));simp));refine BY (j _ _ ?_);(try simp only[B5,A2,reduceIte]);cases lb with
   |true=>
    refine AP ?_;simp[k];refine xK ?_;refine gs (j2 5 (xs:=[Af (⟨[(A:Int)],C,d⟩:Level)]) rfl (by simp[Df,DL,B4,Af])) ?_;simp;refine xE (A7 3 [8,10,7,13,14,17]) (by kernel_rfl) λK j=>?_;simp;refine xA 1 ?_;simp[o,m];refine xX 20 (by kernel_rfl) ?_;simp[AY,o,m,u,Ac,kw];refine xA 1 ?_;simp;refine xX 1 (by kernel_rfl) ?_;simp[AY,o,v,Ac,kw];refine xA 1 ?_;simp;refine xX 7 (by kernel_rfl) ?_;simp[AY];refine xM (j _ _ ?_);refine xW λK j=>?_;simp;apply j;refine Aj ?_;(try simp only[xQ,reduceIte]);refine⟨_,_,gl 6 (xs:=(g.levels++[(⟨[(A:Int)],C,d⟩:Level)]).map Af) rfl (by simpa using CM _ ((g.levels++[(⟨[(A:Int)],C,d⟩:Level)]).map Af)),by simp,_,_,⟨rfl,{g with levels:=g.levels++[(⟨[(A:Int)],C,d⟩:Level)]},rfl,by simp⟩,.inl ⟨AA {g with levels:=g.levels++[(⟨[(A:Int)],C,d⟩:Level)]},_,by simp[BO,AA],rfl,gc 0 rfl (by simp)⟩⟩
   |false=>
    refine AP ?_;simp[k,i];refine xV λK j=>?_;simp[o,Ac];apply j;refine gs (gl 6 (xs:=[.int .i64 A,.int .i64 B]) rfl (by simp[Df,B4])) ?_;simp;refine gs (j2 5 (xs:=[Af (⟨[(A:Int),(B:Int)],C,d⟩:Level)]) rfl (by simp[Df,DL,B4,Af])) ?_;simp;refine xE (A7 3 [8,10,7,13,14,17]) (by kernel_rfl) λK j=>?_;simp;refine xA 1 ?_;simp[o,m];refine xX 20 (by kernel_rfl) ?_;simp[AY,o,m,u,Ac,kw];refine xA 1 ?_;simp;refine xX 1 (by kernel_rfl) ?_;simp[AY,o,v,Ac,kw];refine xA 1 ?_;simp;refine xX 7 (by kernel_rfl) ?_;simp[AY];refine xM (j _ _ ?_);refine xW λK j=>?_;simp;apply j;refine Aj ?_;(try simp only[xQ,reduceIte]);refine⟨_,_,gl 7 (xs:=(g.levels++[(⟨[(A:Int),(B:Int)],C,d⟩:Level)]).map Af) rfl (by simpa using CM _ ((g.levels++[(⟨[(A:Int),(B:Int)],C,d⟩:Level)]).map Af)),by simp,_,_,⟨rfl,{g with levels:=g.levels++[(⟨[(A:Int),(B:Int)],C,d⟩:Level)]},rfl,by simp⟩,.inl ⟨AA {g with levels:=g.levels++[(⟨[(A:Int),(B:Int)],C,d⟩:Level)]},_,by simp[BO,AA],rfl,gc 0 rfl (by simp)⟩⟩
theorem Uq(g:AE)(x:Hv)(h:ID g x):∃F,Ia g F/\Pure prog 48 [AA g,Br x] (AA F):=by
 have key:∃F,Ia g F/\BH prog 48 [.d (AA g),.d (Br x)] [] (Vj λj=>j=F):=by
  have k:x.kind % 8<8:=i7 _ (by omega);match i:x.kind % 8,k with
  |0,_=>exact iT g x h i
  |1,_=>exact jX g x h i
  |2,_=>exact jD g x h i
  |3,_=>exact iU g x h i
  |4,_=>exact fw g x h i
  |5,_=>exact dw g x h i
  |6,_=>exact eA g x h i
  |7,_=>exact jL g x h i
 obtain⟨F,m,o⟩:=key;exact⟨F,m,Vj.pure o⟩
def Dg:AL:=⟨[],1⟩
def V7(s:ByteArray):Token:=⟨s,0,s,[],h9,Dg⟩
def fE:Token:=⟨⟨#[105,100]⟩,0,h9,[⟨1,97,122,0,0⟩,⟨1,97,122,0,0⟩,⟨4,0,0,1,0⟩,⟨2,0,0,0,2⟩],⟨#[120]⟩,Dg⟩
def U0:Token:=⟨⟨#[115,112,97,99,101]⟩,1,h9,[⟨1,9,10,0,0⟩,⟨1,32,32,0,0⟩,⟨3,0,0,0,1⟩,⟨1,9,10,0,0⟩,⟨1,32,32,0,0⟩,⟨3,0,0,3,4⟩,⟨4,0,0,5,0⟩,⟨2,0,0,2,6⟩],h9,Dg⟩
def pO:Token:=⟨⟨#[114,101,109,97,114,107]⟩,2,h9,[⟨1,37,37,0,0⟩,⟨1,97,122,0,0⟩,⟨1,32,32,0,0⟩,⟨3,0,0,1,2⟩,⟨4,0,0,3,0⟩,⟨2,0,0,0,4⟩],h9,Dg⟩
def JF:List ByteArray:=[⟨#[43]⟩,⟨#[42]⟩,⟨#[40]⟩,⟨#[41]⟩,⟨#[105,102]⟩,⟨#[101,108,115,101]⟩,⟨#[59]⟩,⟨#[94]⟩]
def QA(i:Nat):List Token:=fE::(JF.take i).map V7
def De:List Token:=QA 8++[U0,pO]
theorem Y1{i:Nat}(h:i<Z JF):QA (i+1)=QA i++[V7 JF[i]]:=by
 unfold QA;rw[pt h,abZ];rfl
theorem Uh{i:Nat}(h:i<=8):Z (QA i)=i+1:=by
 have:Z JF=8:=rfl;unfold QA;rw[gr,y3,ac2];omega
theorem gx:∀s∈JF,s.size<=a8:=by
 intro s g;have:JF.all (λs=>decide (s.size<=4))=true:=by decide
 have:=ed.1 this s g;simp at this;unfold a8;omega
theorem Zm:Pure prog 136 [] (Cm De):=by
 have w:=B8 J;simp at w;have A:1<=a8:=by unfold a8;omega
 have F:4<=a8:=by unfold a8;omega
 have G:6<=a8:=by unfold a8;omega
 have H:8<=a8:=by unfold a8;omega
 have o:Z JF=8:=rfl;refine zP func136 67 rfl λwf=>?_;apply yW;simp;apply yS;apply yJ;simp;refine Bq (w) rfl (by simp) (yJ ?_);simp;apply yS;(iterate 2 (refine Cc (by simp[a8]) ?_;simp[a8]));((refine AS.J7 rfl ?_ ?_);(focus(simp[F2,a8,a8];done));simp[a8]);apply yJ;simp;apply yS;apply yJ;simp;refine Bq (HC 97 122) rfl (by simp[xN]) (yJ ?_);simp;refine Bq (HC 97 122) rfl (by simp[xN]) (yJ ?_);simp;refine Bq (EW 4 1 0) rfl (by simp[xN]) (yJ ?_);simp;refine Bq (EW 2 0 2) rfl (by simp[xN]) (yJ ?_);simp[a8];refine gs (j2 1 (xs:=[AX fE]) rfl (by simp[Df,DL,B4,AX,fE,Dg,AQ])) ?_;simp;apply yW;simp[a8];refine gs (AI.wJ 3 (d:=.sl (JF.map D.str)) (by simp[BO,JF])) ?_;refine xS (yW ?_);simp;apply Bo;refine FO 8 (λi tm S=>tm 1=.ptr 0 1 0 0/\tm 2=.row 1 (i+1)/\tm 3=.d (.sl (JF.map D.str))/\tm 4=.d (encI i)/\S=[.row J 2 [.d (AB Dg)],.row J 7 ((QA i).map λt=>.d (AX t))]) (er _) (by simp[QA,Dg]) ?_;rintro i tm S hi ⟨t1,t2,t3,t4,rfl⟩;refine xS (yW ?_);simp[t3,t4,o];apply AP;simp;refine⟨λk=>?_,λL=>?_⟩
 .have h:(i:Int)<8:=k;have k:i<8:=by omega
  have m:i<Z JF:=by omega
  have Kx:=Y1 m;have g:=Uh (Nat.le_of_lt k);have q:b8 .i64 ((i:Int)+1)=(i+1:Nat):=by rw[c8];omega
  have j:i+1+1<=1073741824:=by omega
  have B:=gx _ (cL m);generalize C:JF[i]=s at *;apply xK;apply xB;refine yE (A7 12 [25,26]) (by kernel_rfl) ?_;simp;apply yA 1;simp[t1,t2,t3,t4,k,h,C,A,o];apply xX 2049 (by kernel_rfl);simp[AY,t1,t2,t3,t4,k,h,C,A,o,g,j,Ac,kw];apply yA 1;simp;apply yV;simp[t4,q];refine⟨k,_,_,a9,?_⟩;simp[t1,t3,Kx,V7,Dg,AB,AX]
 .have e:i=8:=by omega
  subst e;have g:=Uh (c9 8);apply Ci;apply yS;apply yJ;simp;refine Bq (HC 9 10) rfl (by simp[xN]) (yJ ?_);simp;refine Bq (HC 32 32) rfl (by simp[xN]) (yJ ?_);simp;refine Bq (EW 3 0 1) rfl (by simp[xN]) (yJ ?_);simp;refine Bq (HC 9 10) rfl (by simp[xN]) (yJ ?_);simp;refine Bq (HC 32 32) rfl (by simp[xN]) (yJ ?_);simp;refine Bq (EW 3 3 4) rfl (by simp[xN]) (yJ ?_);simp;refine Bq (EW 4 5 0) rfl (by simp[xN]) (yJ ?_);simp;refine Bq (EW 2 2 6) rfl (by simp[xN]) (yJ ?_);simp[a8];(repeat apply xS);apply yT;apply yJ;simp;refine Bq (HC 37 37) rfl (by simp[xN]) (yJ ?_);simp;refine Bq (HC 97 122) rfl (by simp[xN]) (yJ ?_);simp;refine Bq (HC 32 32) rfl (by simp[xN]) (yJ ?_);simp;refine Bq (EW 3 1 2) rfl (by simp[xN]) (yJ ?_);simp;refine Bq (EW 4 3 0) rfl (by simp[xN]) (yJ ?_);simp;refine Bq (EW 2 0 4) rfl (by simp[xN]) (yJ ?_);simp[a8];have j:8+1+1<=1073741824:=by omega
  have u:8+1+1+1<=1073741824:=by omega
  have v:Z (QA 8++[U0])=10:=by simp[g]
  have E:AX U0=.agg [.str ⟨#[115,112,97,99,101]⟩,.int .i64 1,.str h9,.sl [AQ ⟨1,9,10,0,0⟩,AQ ⟨1,32,32,0,0⟩,AQ ⟨3,0,0,0,1⟩,AQ ⟨1,9,10,0,0⟩,AQ ⟨1,32,32,0,0⟩,AQ ⟨3,0,0,3,4⟩,AQ ⟨4,0,0,5,0⟩,AQ ⟨2,0,0,2,6⟩],.str h9,.sl [],.int .i64 1]:=rfl;have K:AX pO=.agg [.str ⟨#[114,101,109,97,114,107]⟩,.int .i64 2,.str h9,.sl [AQ ⟨1,37,37,0,0⟩,AQ ⟨1,97,122,0,0⟩,AQ ⟨1,32,32,0,0⟩,AQ ⟨3,0,0,1,2⟩,AQ ⟨4,0,0,3,0⟩,AQ ⟨2,0,0,0,4⟩],.str h9,.sl [],.int .i64 1]:=rfl;apply yW;simp[t1,t2,a8,g,j,Ac,kw];refine gs (j2 1 (xs:=(QA 8++[U0]).map AX) rfl ?_) ?_
  .have:=CM [] ((QA 8++[U0]).map AX);rw[CH];simp[E,Dg]
  simp;apply yW;simp[t1,a8,g,u,Ac,ld,kw];apply Aj;refine⟨_,_,gl 1 (xs:=De.map AX) rfl ?_,?_⟩
  .rw[CH];simp[De,E,K,Dg]
  simp[BO];rfl
def IV(A0:List ByteArray):V:=.agg [.full [.str ⟨#[65]⟩,.str ⟨#[66]⟩],.d (.sl []),.d (.int .i64 1),.d (Cm De),.d (By A0),.full [],.d (.int .i64 0),.full [],.full []]
theorem jf(A0:List ByteArray):AG prog 40 [.d (By A0)] [] (IV A0) [.row J 9 [IV A0],.row J 2 [.d (AB Dg)]]:=by
 have g:=B8 J;simp at g;refine zC func40 10 rfl λwf _=>?_;apply yW;simp;apply yS;apply yJ;simp;refine Bq (g) rfl (by simp) (yJ ?_);simp;(repeat apply xS);refine yE (A7 5 [11]) (by kernel_rfl) ?_;simp;apply yA 1;simp[a8];refine j0 (Zm) rfl (by simp[xN]) ?_;simp;apply yA 1;simp;apply xX 31 (by kernel_rfl);simp[AY,AB];apply xM;apply Aj;refine⟨_,a9,?_⟩;simp[Aq,IV]
theorem H2(A0:List ByteArray):AG prog 40 [.d (By A0)] [] (IV A0) []:=
 (jf A0).ghost λtm h0=>⟨_,AI.drop 0 (c9 _) (by simp) (by simp),by simp[clean,h0,IV,AJ,Au]⟩
section
variable {P:Program} {n b:Nat} {ops:Array Oper} {o:Oper} {tm:Tm} {S:Sg} {K:Tm->Sg->Prop}
theorem Ab.J7{B:List (Nat×(Sg->Prop))}{i:Nat}{rest:List (Nat×Bool×Oper)}{T:TypeId}{len:Nat}{parts:Array (Nat×Operand)}(ws:List Bool)(k:B.map (λp=>waits ops i p.1)=ws)(q:o.op=.buildSlice T len parts)
  (h:o.guard=none/\A6 n o.dst/\Na P T len parts tm/\okB ws B S (S++[.row J (Kv P T) ((Cl tm parts).map (·.2))]))
  (v:Ab P n b ops (FL ws B) rest (put tm o.dst (.row (Z S) len)) (S++[.row J (Kv P T) ((Cl tm parts).map (·.2))]) K):Ab P n b ops B ((i,ap,o)::rest) tm S K:=by
 refine Ab.ry ws k (λhi=>λg w=>?_) h.2.2.2 v;have j:∀p∈parts.toList,ev g p.2=ev tm p.2:=λp h=>Hj w p.2 (by rw[q];simp only[Op.operands];exact adu.2 (g7.2 ⟨p,h,rfl⟩));have A:=I6 j;have u:Cl g parts=Cl tm parts:=AC λp m=>by rw[j p m]
 have m:Na P T len parts g:=by
  have:=h.2.2.1;unfold Na at this⊢;rw[A,u];exact this
 have:=Do (b:=b) hi h.2.1 h.1 (ML (n:=n) (S:=S) q m);rw[u]at this;exact this
end
theorem Dw(v:Int)(h:0<=v/\v<=1):PL (Ar v)=some ⟨[⟨v,1,0⟩],2⟩:=by
 have:v=0\/v=1:=by omega
 rcases this with rfl|rfl<;>decide+kernel
def VI:AE:=⟨[⟨#[65]⟩,⟨#[66]⟩],Dg,De,[⟨#[69]⟩],[⟨⟨#[97,100,100]⟩,0,[⟨ap,0⟩,⟨J,1⟩,⟨ap,0⟩],Dg,ap,0,[],Ay⟩,⟨⟨#[109,117,108]⟩,0,[⟨ap,0⟩,⟨J,2⟩,⟨ap,0⟩],Dg,ap,0,[],Ay⟩,⟨⟨#[98,114,97,99,107,101,116]⟩,0,[⟨J,3⟩,⟨ap,0⟩,⟨J,4⟩],Dg,J,0,[],Ay⟩,⟨⟨#[110,97,109,101]⟩,0,[⟨J,0⟩],Dg,ap,0,[],Ay⟩,⟨⟨#[112,111,119]⟩,0,[⟨ap,0⟩,⟨J,8⟩,⟨ap,0⟩],⟨[⟨1,0,1⟩],2⟩,ap,0,[],Ay⟩],0,[⟨[4],2,Dg⟩,⟨[1],1,Dg⟩,⟨[0],1,⟨[⟨0,1,0⟩],2⟩⟩],[]⟩
theorem fH:Pure prog 137 [] (AA VI):=by
 have j:=B8 J;simp at j;have g:=(H2 [⟨#[69]⟩]).Fg (args':=[.full [.str ⟨#[69]⟩]]) rfl λi h u=>by
  match i,h with
  |0,_=>exact .inr ⟨By [⟨#[69]⟩],by simp[BO],rfl⟩
 have q:h9=(⟨#[]⟩:ByteArray):=rfl;have c0:=CU 0;have c1:=CU 1;have k:Ar 0=⟨[⟨0,0,1⟩],2⟩:=rfl;have m:Ar 1=⟨[⟨1,0,1⟩],2⟩:=rfl;rw[k]at c0;rw[m]at c1;have o:=DI _ _ (Dw 0 (by omega));have k1:=DI _ _ (Dw 1 (by omega));rw[k]at o;rw[m]at k1;refine zP func137 76 rfl λwf=>?_;apply yW;simp;apply yS;apply yJ;simp[a8];refine xF (g) [] rfl ?_;simp;apply yJ;simp[IV];apply yS;apply yJ;simp;refine Bq (j) rfl (by simp) (yJ ?_);simp[AB];refine yD (A7 8 [17,18,21]) (by kernel_rfl) ?_;simp;apply yA 1;simp;refine B6 (E9 0) rfl (by simp[a8]) ?_;simp;refine B6 (Ds 1) rfl (by simp[a8,xN]) ?_;simp;refine B6 (E9 0) rfl (by simp[a8,xN]) ?_;simp;apply yA 1;simp[a8];refine B6 (Bn ⟨#[97,100,100]⟩ 0 [⟨ap,0⟩,⟨J,1⟩,⟨ap,0⟩]) rfl (by simp[a8,xN]) ?_;simp;apply yA 1;simp[a8];apply xX 67 (by kernel_rfl);simp[AY,Ak,a8,Ac];apply yA 1;simp;apply xX 63 (by kernel_rfl);simp[AY,Ak,a8];apply xM;refine yD (A7 8 [17,18,21]) (by kernel_rfl) ?_;simp;apply yA 1;simp;refine B6 (E9 0) rfl (by simp[a8,xN]) ?_;simp;refine B6 (Ds 2) rfl (by simp[a8,xN]) ?_;simp;refine B6 (E9 0) rfl (by simp[a8,xN]) ?_;simp;apply yA 1;simp[a8];refine B6 (Bn ⟨#[109,117,108]⟩ 0 [⟨ap,0⟩,⟨J,2⟩,⟨ap,0⟩]) rfl (by simp[a8,xN]) ?_;simp;apply yA 1;simp[a8];apply xX 67 (by kernel_rfl);simp[AY,Ak,a8,Ac];apply yA 1;simp;apply xX 63 (by kernel_rfl);simp[AY,Ak,a8];apply xM;refine yD (A7 8 [17,18,21]) (by kernel_rfl) ?_;simp;apply yA 1;simp;refine B6 (Ds 3) rfl (by simp[a8,xN]) ?_;simp;refine B6 (E9 0) rfl (by simp[a8,xN]) ?_;simp;refine B6 (Ds 4) rfl (by simp[a8,xN]) ?_;simp;apply yA 1;simp[a8];refine B6 (Bn ⟨#[98,114,97,99,107,101,116]⟩ 0 [⟨J,3⟩,⟨ap,0⟩,⟨J,4⟩]) rfl (by simp[a8,xN]) ?_;simp;apply yA 1;simp[a8];apply xX 67 (by kernel_rfl);simp[AY,Ak,a8,Ac];apply yA 1;simp;apply xX 63 (by kernel_rfl);simp[AY,Ak,a8];apply xM;refine yD (A7 6 [13,14,17]) (by kernel_rfl) ?_;simp;apply yA 1;simp;refine B6 (Ds 0) rfl (by simp[a8,xN]) ?_;simp;apply yA 1;simp[a8];refine B6 (Bn ⟨#[110,97,109,101]⟩ 0 [⟨J,0⟩]) rfl (by simp[a8,xN]) ?_;simp;apply yA 1;simp[a8];apply xX 19 (by kernel_rfl);simp[AY,Ak,a8,Ac];apply yA 1;simp;apply xX 15 (by kernel_rfl);simp[AY,Ak,a8];apply xM;refine yD (A7 8 [17,18,21]) (by kernel_rfl) ?_;simp;apply yA 1;simp;refine B6 (E9 0) rfl (by simp[a8,xN]) ?_;simp;refine B6 (Ds 8) rfl (by simp[a8,xN]) ?_;simp;refine B6 (E9 0) rfl (by simp[a8,xN]) ?_;simp;apply yA 1;simp[a8];refine B6 (Bn ⟨#[112,111,119]⟩ 0 [⟨ap,0⟩,⟨J,8⟩,⟨ap,0⟩]) rfl (by simp[a8,xN]) ?_;simp;apply yA 1;simp[a8];apply xX 67 (by kernel_rfl);simp[AY,Ak,a8,Ac];apply yA 1;simp;apply xX 63 (by kernel_rfl);simp[AY,Ak,a8];apply xM;apply yW;simp;refine yD (A7 5 [11]) (by kernel_rfl) ?_;simp;apply yA 1;simp;refine B6 (c1) rfl (by simp[a8,xN]) ?_;simp;apply yA 1;simp[AB];apply xX 29 (by kernel_rfl);simp[AY,Ak,a8];apply xM;refine yD (A7 12 [25]) (by kernel_rfl) ?_;simp;apply yA 1;simp[a8];refine B6 (c0) rfl (by simp[a8,xN]) ?_;simp;refine B6 (o) rfl (by simp[a8,xN]) ?_;simp;apply yA 1;simp[a8,AB];apply xX 4095 (by kernel_rfl);simp[AY,Ak,a8];apply xM;apply yW;simp;apply Aj;refine⟨_,_,gl 3 (xs:=VI.AD.map AF) rfl ?_,?_⟩
 .rw[CH];simp[VI,AF,Ay,Dg]
 simp[BO,AA,VI,AF,Af,Ay,Dg]
def O3:AE:=⟨[⟨#[65]⟩,⟨#[66]⟩],Dg,De,[⟨#[83]⟩,⟨#[67]⟩],[⟨⟨#[98,111,116,104]⟩,0,[⟨J,5⟩,⟨ap,1⟩,⟨ap,0⟩,⟨J,6⟩,⟨ap,0⟩],Dg,ap,0,[],Ay⟩,⟨⟨#[116,104,101,110]⟩,0,[⟨J,5⟩,⟨ap,1⟩,⟨ap,0⟩],Dg,ap,0,[],Ay⟩,⟨⟨#[99,97,108,108]⟩,0,[⟨ap,1⟩,⟨J,7⟩],Dg,ap,0,[],Ay⟩,⟨⟨#[98,108,111,99,107]⟩,0,[⟨J,3⟩,⟨ap,0⟩,⟨J,4⟩],Dg,J,0,[],Ay⟩,⟨⟨#[119,111,114,100]⟩,1,[⟨J,0⟩],Dg,ap,0,[],Ay⟩],0,[],[⟨2,0,2,1,0,0,[],⟨[⟨0,0,1⟩],2⟩⟩,⟨5,0,0,0,0,0,[5,6],⟨[⟨1,0,1⟩],2⟩⟩]⟩
theorem iq:Pure prog 138 [] (AA O3):=by
 have j:=B8 J;simp at j;have g:=(H2 [⟨#[83]⟩,⟨#[67]⟩]).Fg (args':=[.full [.str ⟨#[83]⟩,.str ⟨#[67]⟩]]) rfl λi h u=>by
  match i,h with
  |0,_=>exact .inr ⟨By [⟨#[83]⟩,⟨#[67]⟩],by simp[BO],rfl⟩
 have o:h9=(⟨#[]⟩:ByteArray):=rfl;have c0:=CU 0;have c1:=CU 1;have k:Ar 0=⟨[⟨0,0,1⟩],2⟩:=rfl;have m:Ar 1=⟨[⟨1,0,1⟩],2⟩:=rfl;rw[k]at c0;rw[m]at c1;have q:=DI _ _ (Dw 0 (by omega));have k1:=DI _ _ (Dw 1 (by omega));rw[k]at q;rw[m]at k1;refine zP func138 72 rfl λwf=>?_;apply yW;simp;apply yS;apply yJ;simp[a8];refine xF (g) [] rfl ?_;simp;apply yJ;simp[IV];apply yS;apply yJ;simp;refine Bq (j) rfl (by simp) (yJ ?_);simp[AB];refine yD (A7 10 [21,22,25]) (by kernel_rfl) ?_;simp;apply yA 1;simp;refine B6 (Ds 5) rfl (by simp[a8]) ?_;simp;refine B6 (E9 1) rfl (by simp[a8,xN]) ?_;simp;refine B6 (E9 0) rfl (by simp[a8,xN]) ?_;simp;refine B6 (Ds 6) rfl (by simp[a8,xN]) ?_;simp;refine B6 (E9 0) rfl (by simp[a8,xN]) ?_;simp;apply yA 1;simp[a8];refine B6 (Bn ⟨#[98,111,116,104]⟩ 0 [⟨J,5⟩,⟨ap,1⟩,⟨ap,0⟩,⟨J,6⟩,⟨ap,0⟩]) rfl (by simp[a8,xN]) ?_;simp;apply yA 1;simp[a8];apply xX 259 (by kernel_rfl);simp[AY,Ak,a8,Ac];apply yA 1;simp;apply xX 255 (by kernel_rfl);simp[AY,Ak,a8];apply xM;refine yD (A7 8 [17,18,21]) (by kernel_rfl) ?_;simp;apply yA 1;simp;refine B6 (Ds 5) rfl (by simp[a8,xN]) ?_;simp;refine B6 (E9 1) rfl (by simp[a8,xN]) ?_;simp;refine B6 (E9 0) rfl (by simp[a8,xN]) ?_;simp;apply yA 1;simp[a8];refine B6 (Bn ⟨#[116,104,101,110]⟩ 0 [⟨J,5⟩,⟨ap,1⟩,⟨ap,0⟩]) rfl (by simp[a8,xN]) ?_;simp;apply yA 1;simp[a8];apply xX 67 (by kernel_rfl);simp[AY,Ak,a8,Ac];apply yA 1;simp;apply xX 63 (by kernel_rfl);simp[AY,Ak,a8];apply xM;refine yD (A7 7 [15,16,19]) (by kernel_rfl) ?_;simp;apply yA 1;simp;refine B6 (E9 1) rfl (by simp[a8,xN]) ?_;simp;refine B6 (Ds 7) rfl (by simp[a8,xN]) ?_;simp;apply yA 1;simp[a8];refine B6 (Bn ⟨#[99,97,108,108]⟩ 0 [⟨ap,1⟩,⟨J,7⟩]) rfl (by simp[a8,xN]) ?_;simp;apply yA 1;simp[a8];apply xX 35 (by kernel_rfl);simp[AY,Ak,a8,Ac];apply yA 1;simp;apply xX 31 (by kernel_rfl);simp[AY,Ak,a8];apply xM;refine yD (A7 8 [17,18,21]) (by kernel_rfl) ?_;simp;apply yA 1;simp;refine B6 (Ds 3) rfl (by simp[a8,xN]) ?_;simp;refine B6 (E9 0) rfl (by simp[a8,xN]) ?_;simp;refine B6 (Ds 4) rfl (by simp[a8,xN]) ?_;simp;apply yA 1;simp[a8];refine B6 (Bn ⟨#[98,108,111,99,107]⟩ 0 [⟨J,3⟩,⟨ap,0⟩,⟨J,4⟩]) rfl (by simp[a8,xN]) ?_;simp;apply yA 1;simp[a8];apply xX 67 (by kernel_rfl);simp[AY,Ak,a8,Ac];apply yA 1;simp;apply xX 63 (by kernel_rfl);simp[AY,Ak,a8];apply xM;refine yD (A7 6 [13,14,17]) (by kernel_rfl) ?_;simp;apply yA 1;simp;refine B6 (Ds 0) rfl (by simp[a8,xN]) ?_;simp;apply yA 1;simp[a8];refine B6 (Bn ⟨#[119,111,114,100]⟩ 1 [⟨J,0⟩]) rfl (by simp[a8,xN]) ?_;simp;apply yA 1;simp[a8];apply xX 19 (by kernel_rfl);simp[AY,Ak,a8,Ac];apply yA 1;simp;apply xX 15 (by kernel_rfl);simp[AY,Ak,a8];apply xM;apply yW;simp;refine yD (A7 5 [11,12,15]) (by kernel_rfl) ?_;simp;refine B6 (c0) rfl (by simp[a8,xN]) ?_;simp;apply yA 1;simp[a8,AB];((refine Ab.J7 (xT [1,0,0,1,0]) (by kernel_rfl) rfl ?_ ?_);(focus(simp[F2,a8,AY,Ak,a8];done));simp[a8]);apply yA 1;simp;apply xX 15 (by kernel_rfl);simp[AY,Ak,a8];apply xM;refine yD (A7 5 [11]) (by kernel_rfl) ?_;simp;apply yA 1;simp;refine B6 (c1) rfl (by simp[a8,xN]) ?_;simp;apply yA 1;simp[AB];apply xX 29 (by kernel_rfl);simp[AY,Ak,a8];apply xM;apply yW;simp;refine gs (gl 4 (xs:=O3.AR.map AM) rfl ?_) ?_
 .rw[CH];simp[O3,AM,Dg]
 simp;apply Aj;refine⟨_,_,gl 3 (xs:=O3.AD.map AF) rfl ?_,?_⟩
 .rw[CH];simp[O3,AF,Ay,Dg]
 simp[BO,AA,O3,AF,AM,Ay,Dg]
def UI:AE:=⟨[⟨#[65]⟩,⟨#[66]⟩],Dg,De,[⟨#[76]⟩,⟨#[73]⟩],[⟨⟨#[101,109,112,116,121]⟩,0,[],Dg,ap,0,[],Ay⟩,⟨⟨#[109,111,114,101]⟩,0,[⟨ap,0⟩,⟨ap,1⟩],Dg,ap,0,[],Ay⟩,⟨⟨#[116,121,112,101]⟩,1,[⟨J,1⟩,⟨J,0⟩,⟨J,7⟩],Dg,ap,0,[],⟨ap,2,1,0,0⟩⟩,⟨⟨#[112,111,105,110,116,101,114]⟩,1,[⟨J,0⟩,⟨J,2⟩,⟨J,0⟩,⟨J,7⟩],Dg,ap,0,[],⟨ap,3,2,1,2⟩⟩,⟨⟨#[112,114,111,100,117,99,116]⟩,1,[⟨J,0⟩,⟨J,2⟩,⟨J,0⟩,⟨J,7⟩],Dg,ap,-1,[],⟨ap,0,0,1,5⟩⟩,⟨⟨#[105,110,110,101,114]⟩,1,[⟨J,3⟩,⟨ap,0⟩,⟨J,4⟩],Dg,ap,0,[],⟨J,0,0,0,0⟩⟩,⟨⟨#[115,116,114,105,99,116]⟩,1,[⟨J,0⟩,⟨J,7⟩],⟨[⟨0,0,1⟩],2⟩,ap,0,[],⟨ap,0,0,1,6⟩⟩],0,[],[]⟩
theorem fe:Pure prog 139 [] (AA UI):=by
 have m:=B8 J;simp at m;have g:=(H2 [⟨#[76]⟩,⟨#[73]⟩]).Fg (args':=[.full [.str ⟨#[76]⟩,.str ⟨#[73]⟩]]) rfl λi h u=>by
  match i,h with
  |0,_=>exact .inr ⟨By [⟨#[76]⟩,⟨#[73]⟩],by simp[BO],rfl⟩
 have o:h9=(⟨#[]⟩:ByteArray):=rfl;have c0:=CU 0;have c1:=CU 1;have j:Ar 0=⟨[⟨0,0,1⟩],2⟩:=rfl;have k:Ar 1=⟨[⟨1,0,1⟩],2⟩:=rfl;rw[j]at c0;rw[k]at c1;have q:=DI _ _ (Dw 0 (by omega));have k1:=DI _ _ (Dw 1 (by omega));rw[j]at q;rw[k]at k1;refine zP func139 106 rfl λwf=>?_;apply yW;simp;apply yS;apply yJ;simp[a8];refine xF (g) [] rfl ?_;simp;apply yJ;simp[IV];refine yD (A7 5 [11,12,15]) (by kernel_rfl) ?_;simp;apply yA 1;simp[a8];refine B6 (Bn ⟨#[101,109,112,116,121]⟩ 0 []) rfl (by simp[a8]) ?_;simp;apply yA 1;simp[a8];apply xX 11 (by kernel_rfl);simp[AY,Ak,a8,Ac];apply yA 1;simp;apply xX 7 (by kernel_rfl);simp[AY,a8];apply xM;refine yD (A7 7 [15,16,19]) (by kernel_rfl) ?_;simp;apply yA 1;simp;refine B6 (E9 0) rfl (by simp[a8,xN]) ?_;simp;refine B6 (E9 1) rfl (by simp[a8,xN]) ?_;simp;apply yA 1;simp[a8];refine B6 (Bn ⟨#[109,111,114,101]⟩ 0 [⟨ap,0⟩,⟨ap,1⟩]) rfl (by simp[a8,xN]) ?_;simp;apply yA 1;simp[a8];apply xX 35 (by kernel_rfl);simp[AY,Ak,a8,Ac];apply yA 1;simp;apply xX 31 (by kernel_rfl);simp[AY,Ak,a8];apply xM;refine yD (A7 8 [17,18,21]) (by kernel_rfl) ?_;simp;apply yA 1;simp;refine B6 (Ds 1) rfl (by simp[a8,xN]) ?_;simp;refine B6 (Ds 0) rfl (by simp[a8,xN]) ?_;simp;refine B6 (Ds 7) rfl (by simp[a8,xN]) ?_;simp;apply yA 1;simp[a8];refine B6 (Bn ⟨#[116,121,112,101]⟩ 1 [⟨J,1⟩,⟨J,0⟩,⟨J,7⟩]) rfl (by simp[a8,xN]) ?_;simp;apply yA 1;simp[a8];apply xX 67 (by kernel_rfl);simp[AY,Ak,a8,Ac];apply yA 1;simp;apply xX 63 (by kernel_rfl);simp[AY,Ak,a8];apply xM;refine yD (A7 9 [19,20,23]) (by kernel_rfl) ?_;simp;apply yA 1;simp;refine B6 (Ds 0) rfl (by simp[a8,xN]) ?_;simp;refine B6 (Ds 2) rfl (by simp[a8,xN]) ?_;simp;refine B6 (Ds 0) rfl (by simp[a8,xN]) ?_;simp;refine B6 (Ds 7) rfl (by simp[a8,xN]) ?_;simp;apply yA 1;simp[a8];refine B6 (Bn ⟨#[112,111,105,110,116,101,114]⟩ 1 [⟨J,0⟩,⟨J,2⟩,⟨J,0⟩,⟨J,7⟩]) rfl (by simp[a8,xN]) ?_;simp;apply yA 1;simp[a8];apply xX 131 (by kernel_rfl);simp[AY,Ak,a8,Ac];apply yA 1;simp;apply xX 127 (by kernel_rfl);simp[AY,Ak,a8];apply xM;refine yD (A7 9 [19,20,23]) (by kernel_rfl) ?_;simp;apply yA 1;simp;refine B6 (Ds 0) rfl (by simp[a8,xN]) ?_;simp;refine B6 (Ds 2) rfl (by simp[a8,xN]) ?_;simp;refine B6 (Ds 0) rfl (by simp[a8,xN]) ?_;simp;refine B6 (Ds 7) rfl (by simp[a8,xN]) ?_;simp;apply yA 1;simp[a8];refine B6 (Bn ⟨#[112,114,111,100,117,99,116]⟩ 1 [⟨J,0⟩,⟨J,2⟩,⟨J,0⟩,⟨J,7⟩]) rfl (by simp[a8,xN]) ?_;simp;apply yA 1;simp[a8];apply xX 131 (by kernel_rfl);simp[AY,Ak,a8,Ac];apply yA 1;simp;apply xX 127 (by kernel_rfl);simp[AY,Ak,a8];apply xM;refine yD (A7 8 [17,18,21]) (by kernel_rfl) ?_;simp;apply yA 1;simp;refine B6 (Ds 3) rfl (by simp[a8,xN]) ?_;simp;refine B6 (E9 0) rfl (by simp[a8,xN]) ?_;simp;refine B6 (Ds 4) rfl (by simp[a8,xN]) ?_;simp;apply yA 1;simp[a8];refine B6 (Bn ⟨#[105,110,110,101,114]⟩ 1 [⟨J,3⟩,⟨ap,0⟩,⟨J,4⟩]) rfl (by simp[a8,xN]) ?_;simp;apply yA 1;simp[a8];apply xX 67 (by kernel_rfl);simp[AY,Ak,a8,Ac];apply yA 1;simp;apply xX 63 (by kernel_rfl);simp[AY,Ak,a8];apply xM;refine yD (A7 7 [15,16,19]) (by kernel_rfl) ?_;simp;apply yA 1;simp;refine B6 (Ds 0) rfl (by simp[a8,xN]) ?_;simp;refine B6 (Ds 7) rfl (by simp[a8,xN]) ?_;simp;apply yA 1;simp[a8];refine B6 (Bn ⟨#[115,116,114,105,99,116]⟩ 1 [⟨J,0⟩,⟨J,7⟩]) rfl (by simp[a8,xN]) ?_;simp;apply yA 1;simp[a8];apply xX 35 (by kernel_rfl);simp[AY,Ak,a8,Ac];apply yA 1;simp;apply xX 31 (by kernel_rfl);simp[AY,Ak,a8];apply xM;apply yW;simp[a8];apply yW;simp[a8];apply yW;simp[a8];apply yW;simp[a8];apply yW;simp[a8];apply yW;simp;refine yD (A7 5 [11]) (by kernel_rfl) ?_;simp;apply yA 1;simp;refine B6 (c0) rfl (by simp[a8,xN]) ?_;simp;apply yA 1;simp[AB];apply xX 29 (by kernel_rfl);simp[AY,Ak,a8];apply xM;apply yW;simp;apply Aj;refine⟨_,_,gl 2 (xs:=UI.AD.map AF) rfl ?_,?_⟩
 .rw[CH];simp[UI,AF,Ay,Dg]
 simp[BO,AA,UI,AF,Ay,Dg]
def Tj:AE:=⟨[⟨#[65]⟩,⟨#[66]⟩],Dg,De,[⟨#[66]⟩,⟨#[73]⟩],[⟨⟨#[111,110,101]⟩,0,[⟨ap,1⟩],Dg,ap,0,[],Ay⟩,⟨⟨#[108,105,115,116]⟩,0,[⟨ap,0⟩,⟨ap,1⟩],Dg,ap,0,[⟨2,0,1⟩],Ay⟩,⟨⟨#[119,111,114,100]⟩,1,[⟨J,0⟩],Dg,ap,0,[],Ay⟩,⟨⟨#[104,101,97,100]⟩,1,[⟨J,5⟩,⟨J,0⟩,⟨ap,0⟩],Dg,ap,0,[⟨3,0,2⟩,⟨1,2,0⟩],Ay⟩,⟨⟨#[108,105,110,101]⟩,1,[⟨J,5⟩,⟨ap,0⟩],⟨[⟨0,0,1⟩],2⟩,ap,0,[⟨4,0,1⟩],Ay⟩],0,[],[]⟩
theorem ew:Pure prog 140 [] (AA Tj):=by
 have m:=B8 J;simp at m;have g:=(H2 [⟨#[66]⟩,⟨#[73]⟩]).Fg (args':=[.full [.str ⟨#[66]⟩,.str ⟨#[73]⟩]]) rfl λi h u=>by
  match i,h with
  |0,_=>exact .inr ⟨By [⟨#[66]⟩,⟨#[73]⟩],by simp[BO],rfl⟩
 have o:h9=(⟨#[]⟩:ByteArray):=rfl;have c0:=CU 0;have c1:=CU 1;have j:Ar 0=⟨[⟨0,0,1⟩],2⟩:=rfl;have k:Ar 1=⟨[⟨1,0,1⟩],2⟩:=rfl;rw[j]at c0;rw[k]at c1;have q:=DI _ _ (Dw 0 (by omega));have k1:=DI _ _ (Dw 1 (by omega));rw[j]at q;rw[k]at k1;refine zP func140 73 rfl λwf=>?_;apply yW;simp;apply yS;apply yJ;simp[a8];refine xF (g) [] rfl ?_;simp;apply yJ;simp[IV];refine yD (A7 6 [13,14,17]) (by kernel_rfl) ?_;simp;apply yA 1;simp;refine B6 (E9 1) rfl (by simp[a8]) ?_;simp;apply yA 1;simp[a8];refine B6 (Bn ⟨#[111,110,101]⟩ 0 [⟨ap,1⟩]) rfl (by simp[a8,xN]) ?_;simp;apply yA 1;simp[a8];apply xX 19 (by kernel_rfl);simp[AY,Ak,a8,Ac];apply yA 1;simp;apply xX 15 (by kernel_rfl);simp[AY,Ak,a8];apply xM;refine yD (A7 7 [15,16,19]) (by kernel_rfl) ?_;simp;apply yA 1;simp;refine B6 (E9 0) rfl (by simp[a8,xN]) ?_;simp;refine B6 (E9 1) rfl (by simp[a8,xN]) ?_;simp;apply yA 1;simp[a8];refine B6 (Bn ⟨#[108,105,115,116]⟩ 0 [⟨ap,0⟩,⟨ap,1⟩]) rfl (by simp[a8,xN]) ?_;simp;apply yA 1;simp[a8];apply xX 35 (by kernel_rfl);simp[AY,Ak,a8,Ac];apply yA 1;simp;apply xX 31 (by kernel_rfl);simp[AY,Ak,a8];apply xM;refine yD (A7 6 [13,14,17]) (by kernel_rfl) ?_;simp;apply yA 1;simp;refine B6 (Ds 0) rfl (by simp[a8,xN]) ?_;simp;apply yA 1;simp[a8];refine B6 (Bn ⟨#[119,111,114,100]⟩ 1 [⟨J,0⟩]) rfl (by simp[a8,xN]) ?_;simp;apply yA 1;simp[a8];apply xX 19 (by kernel_rfl);simp[AY,Ak,a8,Ac];apply yA 1;simp;apply xX 15 (by kernel_rfl);simp[AY,Ak,a8];apply xM;refine yD (A7 8 [17,18,21]) (by kernel_rfl) ?_;simp;apply yA 1;simp;refine B6 (Ds 5) rfl (by simp[a8,xN]) ?_;simp;refine B6 (Ds 0) rfl (by simp[a8,xN]) ?_;simp;refine B6 (E9 0) rfl (by simp[a8,xN]) ?_;simp;apply yA 1;simp[a8];refine B6 (Bn ⟨#[104,101,97,100]⟩ 1 [⟨J,5⟩,⟨J,0⟩,⟨ap,0⟩]) rfl (by simp[a8,xN]) ?_;simp;apply yA 1;simp[a8];apply xX 67 (by kernel_rfl);simp[AY,Ak,a8,Ac];apply yA 1;simp;apply xX 63 (by kernel_rfl);simp[AY,Ak,a8];apply xM;refine yD (A7 7 [15,16,19]) (by kernel_rfl) ?_;simp;apply yA 1;simp;refine B6 (Ds 5) rfl (by simp[a8,xN]) ?_;simp;refine B6 (E9 0) rfl (by simp[a8,xN]) ?_;simp;apply yA 1;simp[a8];refine B6 (Bn ⟨#[108,105,110,101]⟩ 1 [⟨J,5⟩,⟨ap,0⟩]) rfl (by simp[a8,xN]) ?_;simp;apply yA 1;simp[a8];apply xX 35 (by kernel_rfl);simp[AY,Ak,a8,Ac];apply yA 1;simp;apply xX 31 (by kernel_rfl);simp[AY,Ak,a8];apply xM;apply yW;simp[a8];apply yW;simp[a8];apply yW;simp[a8];refine yD (A7 5 [11]) (by kernel_rfl) ?_;simp;apply yA 1;simp;refine B6 (c0) rfl (by simp[a8,xN]) ?_;simp;apply yA 1;simp[AB];apply xX 29 (by kernel_rfl);simp[AY,Ak,a8];apply xM;apply yW;simp;apply Aj;refine⟨_,_,gl 2 (xs:=Tj.AD.map AF) rfl ?_,?_⟩
 .rw[CH];simp[Tj,AF,Ay,Dg,BC]
 simp[BO,AA,Tj,AF,Ay,Dg]
def Uu:AE:=⟨[⟨#[65]⟩,⟨#[66]⟩],Dg,De,[⟨#[83]⟩,⟨#[87]⟩,⟨#[86]⟩],[⟨⟨#[112,97,105,114]⟩,0,[⟨ap,1⟩,⟨ap,2⟩],Dg,ap,0,[],Ay⟩,⟨⟨#[115,105,110,103,108,101]⟩,1,[⟨J,0⟩],Dg,ap,-1,[],Ay⟩,⟨⟨#[100,111,117,98,108,101]⟩,1,[⟨J,0⟩,⟨J,0⟩],Dg,ap,0,[],Ay⟩,⟨⟨#[110,111,110,101]⟩,2,[],Dg,ap,0,[],Ay⟩,⟨⟨#[110,101,120,116]⟩,2,[⟨J,0⟩,⟨ap,2⟩],Dg,ap,0,[],Ay⟩,⟨⟨#[109,97,114,107]⟩,2,[⟨J,1⟩,⟨ap,2⟩],⟨[⟨1,0,1⟩],2⟩,ap,0,[],Ay⟩],0,[],[⟨3,0,0,0,1,0,[0],⟨[⟨0,0,1⟩],2⟩⟩,⟨4,0,0,0,2,0,[1],⟨[⟨1,1,0⟩],2⟩⟩]⟩
theorem di:Pure prog 141 [] (AA Uu):=by
 have m:=B8 J;simp at m;have g:=(H2 [⟨#[83]⟩,⟨#[87]⟩,⟨#[86]⟩]).Fg (args':=[.full [.str ⟨#[83]⟩,.str ⟨#[87]⟩,.str ⟨#[86]⟩]]) rfl λi h u=>by
  match i,h with
  |0,_=>exact .inr ⟨By [⟨#[83]⟩,⟨#[87]⟩,⟨#[86]⟩],by simp[BO],rfl⟩
 have o:h9=(⟨#[]⟩:ByteArray):=rfl;have c0:=CU 0;have c1:=CU 1;have j:Ar 0=⟨[⟨0,0,1⟩],2⟩:=rfl;have k:Ar 1=⟨[⟨1,0,1⟩],2⟩:=rfl;rw[j]at c0;rw[k]at c1;have q:=DI _ _ (Dw 0 (by omega));have k1:=DI _ _ (Dw 1 (by omega));rw[j]at q;rw[k]at k1;refine zP func141 74 rfl λwf=>?_;apply yW;simp;apply yS;apply yJ;simp[a8];refine xF (g) [] rfl ?_;simp;apply yJ;simp[IV];refine yD (A7 7 [15,16,19]) (by kernel_rfl) ?_;simp;apply yA 1;simp;refine B6 (E9 1) rfl (by simp[a8]) ?_;simp;refine B6 (E9 2) rfl (by simp[a8,xN]) ?_;simp;apply yA 1;simp[a8];refine B6 (Bn ⟨#[112,97,105,114]⟩ 0 [⟨ap,1⟩,⟨ap,2⟩]) rfl (by simp[a8,xN]) ?_;simp;apply yA 1;simp[a8];apply xX 35 (by kernel_rfl);simp[AY,Ak,a8,Ac];apply yA 1;simp;apply xX 31 (by kernel_rfl);simp[AY,Ak,a8];apply xM;refine yD (A7 6 [13,14,17]) (by kernel_rfl) ?_;simp;apply yA 1;simp;refine B6 (Ds 0) rfl (by simp[a8,xN]) ?_;simp;apply yA 1;simp[a8];refine B6 (Bn ⟨#[115,105,110,103,108,101]⟩ 1 [⟨J,0⟩]) rfl (by simp[a8,xN]) ?_;simp;apply yA 1;simp[a8];apply xX 19 (by kernel_rfl);simp[AY,Ak,a8,Ac];apply yA 1;simp;apply xX 15 (by kernel_rfl);simp[AY,Ak,a8];apply xM;refine yD (A7 7 [15,16,19]) (by kernel_rfl) ?_;simp;apply yA 1;simp;refine B6 (Ds 0) rfl (by simp[a8,xN]) ?_;simp;refine B6 (Ds 0) rfl (by simp[a8,xN]) ?_;simp;apply yA 1;simp[a8];refine B6 (Bn ⟨#[100,111,117,98,108,101]⟩ 1 [⟨J,0⟩,⟨J,0⟩]) rfl (by simp[a8,xN]) ?_;simp;apply yA 1;simp[a8];apply xX 35 (by kernel_rfl);simp[AY,Ak,a8,Ac];apply yA 1;simp;apply xX 31 (by kernel_rfl);simp[AY,Ak,a8];apply xM;refine yD (A7 5 [11,12,15]) (by kernel_rfl) ?_;simp;apply yA 1;simp[a8];refine B6 (Bn ⟨#[110,111,110,101]⟩ 2 []) rfl (by simp[a8,xN]) ?_;simp;apply yA 1;simp[a8];apply xX 11 (by kernel_rfl);simp[AY,Ak,a8,Ac];apply yA 1;simp;apply xX 7 (by kernel_rfl);simp[AY,a8];apply xM;refine yD (A7 7 [15,16,19]) (by kernel_rfl) ?_;simp;apply yA 1;simp;refine B6 (Ds 0) rfl (by simp[a8,xN]) ?_;simp;refine B6 (E9 2) rfl (by simp[a8,xN]) ?_;simp;apply yA 1;simp[a8];refine B6 (Bn ⟨#[110,101,120,116]⟩ 2 [⟨J,0⟩,⟨ap,2⟩]) rfl (by simp[a8,xN]) ?_;simp;apply yA 1;simp[a8];apply xX 35 (by kernel_rfl);simp[AY,Ak,a8,Ac];apply yA 1;simp;apply xX 31 (by kernel_rfl);simp[AY,Ak,a8];apply xM;refine yD (A7 7 [15,16,19]) (by kernel_rfl) ?_;simp;apply yA 1;simp;refine B6 (Ds 1) rfl (by simp[a8,xN]) ?_;simp;refine B6 (E9 2) rfl (by simp[a8,xN]) ?_;simp;apply yA 1;simp[a8];refine B6 (Bn ⟨#[109,97,114,107]⟩ 2 [⟨J,1⟩,⟨ap,2⟩]) rfl (by simp[a8,xN]) ?_;simp;apply yA 1;simp[a8];apply xX 35 (by kernel_rfl);simp[AY,Ak,a8,Ac];apply yA 1;simp;apply xX 31 (by kernel_rfl);simp[AY,Ak,a8];apply xM;apply yW;simp;refine yD (A7 5 [11]) (by kernel_rfl) ?_;simp;apply yA 1;simp;refine B6 (c1) rfl (by simp[a8,xN]) ?_;simp;apply yA 1;simp[AB];apply xX 29 (by kernel_rfl);simp[AY,Ak,a8];apply xM;apply yS;apply yJ;simp[a8];refine Bq (c0) rfl (by simp[xN]) (yJ ?_);simp[a8,AB];refine Bq (c1) rfl (by simp[xN]) (yJ ?_);simp[AB];refine Bq (k1) rfl (by simp[xN]) (yJ ?_);simp[a8,AB];apply yW;simp;apply Aj;refine⟨_,_,gl 2 (xs:=Uu.AD.map AF) rfl ?_,?_⟩
 .rw[CH];simp[Uu,AF,Ay,Dg]
 simp[BO,AA,Uu,AF,AM,Ay,Dg]
def QD:AE:=⟨[⟨#[65]⟩,⟨#[66]⟩],Dg,De,[⟨#[83]⟩,⟨#[79]⟩,⟨#[80]⟩],[⟨⟨#[97,108,108]⟩,0,[⟨ap,1⟩,⟨J,0⟩,⟨ap,1⟩,⟨ap,2⟩],Dg,ap,0,[],Ay⟩,⟨⟨#[110,111]⟩,1,[],Dg,ap,0,[],Ay⟩,⟨⟨#[121,101,115]⟩,1,[⟨J,1⟩],Dg,ap,0,[],Ay⟩,⟨⟨#[101,110,100]⟩,2,[],Dg,ap,0,[],Ay⟩,⟨⟨#[114,101,115,116]⟩,2,[⟨J,1⟩,⟨ap,2⟩],⟨[⟨0,0,1⟩],2⟩,ap,0,[],Ay⟩],0,[],[]⟩
theorem gm:Pure prog 142 [] (AA QD):=by
 have m:=B8 J;simp at m;have g:=(H2 [⟨#[83]⟩,⟨#[79]⟩,⟨#[80]⟩]).Fg (args':=[.full [.str ⟨#[83]⟩,.str ⟨#[79]⟩,.str ⟨#[80]⟩]]) rfl λi h u=>by
  match i,h with
  |0,_=>exact .inr ⟨By [⟨#[83]⟩,⟨#[79]⟩,⟨#[80]⟩],by simp[BO],rfl⟩
 have o:h9=(⟨#[]⟩:ByteArray):=rfl;have c0:=CU 0;have c1:=CU 1;have j:Ar 0=⟨[⟨0,0,1⟩],2⟩:=rfl;have k:Ar 1=⟨[⟨1,0,1⟩],2⟩:=rfl;rw[j]at c0;rw[k]at c1;have q:=DI _ _ (Dw 0 (by omega));have k1:=DI _ _ (Dw 1 (by omega));rw[j]at q;rw[k]at k1;refine zP func142 52 rfl λwf=>?_;apply yW;simp;apply yS;apply yJ;simp[a8];refine xF (g) [] rfl ?_;simp;apply yJ;simp[IV];refine yD (A7 9 [19,20,23]) (by kernel_rfl) ?_;simp;apply yA 1;simp;refine B6 (E9 1) rfl (by simp[a8]) ?_;simp;refine B6 (Ds 0) rfl (by simp[a8,xN]) ?_;simp;refine B6 (E9 1) rfl (by simp[a8,xN]) ?_;simp;refine B6 (E9 2) rfl (by simp[a8,xN]) ?_;simp;apply yA 1;simp[a8];refine B6 (Bn ⟨#[97,108,108]⟩ 0 [⟨ap,1⟩,⟨J,0⟩,⟨ap,1⟩,⟨ap,2⟩]) rfl (by simp[a8,xN]) ?_;simp;apply yA 1;simp[a8];apply xX 131 (by kernel_rfl);simp[AY,Ak,a8,Ac];apply yA 1;simp;apply xX 127 (by kernel_rfl);simp[AY,Ak,a8];apply xM;refine yD (A7 5 [11,12,15]) (by kernel_rfl) ?_;simp;apply yA 1;simp[a8];refine B6 (Bn ⟨#[110,111]⟩ 1 []) rfl (by simp[a8,xN]) ?_;simp;apply yA 1;simp[a8];apply xX 11 (by kernel_rfl);simp[AY,Ak,a8,Ac];apply yA 1;simp;apply xX 7 (by kernel_rfl);simp[AY,a8];apply xM;refine yD (A7 6 [13,14,17]) (by kernel_rfl) ?_;simp;apply yA 1;simp;refine B6 (Ds 1) rfl (by simp[a8,xN]) ?_;simp;apply yA 1;simp[a8];refine B6 (Bn ⟨#[121,101,115]⟩ 1 [⟨J,1⟩]) rfl (by simp[a8,xN]) ?_;simp;apply yA 1;simp[a8];apply xX 19 (by kernel_rfl);simp[AY,Ak,a8,Ac];apply yA 1;simp;apply xX 15 (by kernel_rfl);simp[AY,Ak,a8];apply xM;refine yD (A7 5 [11,12,15]) (by kernel_rfl) ?_;simp;apply yA 1;simp[a8];refine B6 (Bn ⟨#[101,110,100]⟩ 2 []) rfl (by simp[a8,xN]) ?_;simp;apply yA 1;simp[a8];apply xX 11 (by kernel_rfl);simp[AY,Ak,a8,Ac];apply yA 1;simp;apply xX 7 (by kernel_rfl);simp[AY,a8];apply xM;refine yD (A7 7 [15,16,19]) (by kernel_rfl) ?_;simp;apply yA 1;simp;refine B6 (Ds 1) rfl (by simp[a8,xN]) ?_;simp;refine B6 (E9 2) rfl (by simp[a8,xN]) ?_;simp;apply yA 1;simp[a8];refine B6 (Bn ⟨#[114,101,115,116]⟩ 2 [⟨J,1⟩,⟨ap,2⟩]) rfl (by simp[a8,xN]) ?_;simp;apply yA 1;simp[a8];apply xX 35 (by kernel_rfl);simp[AY,Ak,a8,Ac];apply yA 1;simp;apply xX 31 (by kernel_rfl);simp[AY,Ak,a8];apply xM;refine yD (A7 5 [11]) (by kernel_rfl) ?_;simp;apply yA 1;simp;refine B6 (c0) rfl (by simp[a8,xN]) ?_;simp;apply yA 1;simp[AB];apply xX 29 (by kernel_rfl);simp[AY,Ak,a8];apply xM;apply yW;simp;apply Aj;refine⟨_,_,gl 2 (xs:=QD.AD.map AF) rfl ?_,?_⟩
 .rw[CH];simp[QD,AF,Ay,Dg]
 simp[BO,AA,QD,AF,Ay,Dg]
open Go.Proofs
theorem ei(l:List Int){k:Nat}(h:k<8):W5 l k=W5 [l.getD 0 0] k:=by
 have e:k / 8=0:=by omega
 have em:k % 8=k:=by omega
 unfold W5;rw[e,em];cases l with
 |nil=>
  simp;have:k=0\/k=1\/k=2\/k=3\/k=4\/k=5\/k=6\/k=7:=by omega
  rcases this with rfl|rfl|rfl|rfl|rfl|rfl|rfl|rfl<;>decide
 |cons a l=>simp
theorem VK(l:List Int)(n:Nat)(i:n<=3):∀f v k,v<=n->k<2 ^ v->JQ l n f v k=JQ [l.getD 0 0] n f v k:=by
 intro f;induction f with
 |zero=>intro v k _ _;rfl
 |succ f h=>
  intro v k j m;have o:2 ^ v<=8:=ms (aby (by omega) (show v<=3 by omega)) (by decide);unfold JQ;rw[ei l (show k<8 by omega)];by_cases g:v=n
  .rw[ca g,ca g]
  .have q:2 ^ (v+1)=2 ^ v+2 ^ v:=by rw[Nat.pow_succ];omega
   rw[bv g,bv g,h (v+1) (k+2 ^ v) (by omega) (by omega),h (v+1) k (by omega) (by omega)]
theorem iP:((List.range 256).all λc=>(List.range 4).all λn=>(JQ [(c:Int)] n 8 0 0).isSome)=true:=by decide+kernel
theorem aG(l:List Nat)(g:∀k∈l,k<256)(n:Nat)(i:n<=3):∃d,JQ (l.map λ(k:Nat)=>(k:Int)) n 8 0 0=some d:=by
 rw[VK _ n i 8 0 0 (er _) (by simp)];have h:=iP;simp at h;cases l with
 |nil=>exact md.1 (h 0 (by omega) n (by omega))
 |cons a l=>exact md.1 (by simpa using h a (g a (by simp)) n (by omega))
theorem aR(l:List Nat)(h:∀k∈l,k<256)(n:Nat)(i:n<=3){d:AL}(g:JQ (l.map λ(k:Nat)=>(k:Int)) n 8 0 0=some d):B1 d n=true:=by
 rw[VK _ n i 8 0 0 (er _) (by simp)]at g;cases l with
 |nil=>exact Qs (b:=0) (by omega) (by omega) (by simpa using g)
 |cons a l=>exact Qs (b:=a) (h a (by simp)) (by omega) (by simpa using g)
end Go.Koi
open Go.Koi.D renaming int->br,sl->j4
namespace Go.Koi
open Go renaming maxLen->a8
open Go.Proofs Tryz
def LG(r:Nat):AE:=match r with|0=>VI|1=>O3|2=>UI|3=>Tj|4=>Uu|_=>QD
theorem iS(k:Nat)(j:k<256):Pure prog 44 [.int .u8 k] (AA (LG (k % 6))):=by
 obtain⟨r,g⟩:=ce (k % 6);rw[g];have m:r<6:=by omega
 have q:((k:Int).tmod 6)=r:=by rw[ge (by omega),<-g];simp
 have i:(k:Int) % 6=r:=by omega
 refine zP func44 21 rfl λwf=>?_;apply yW;simp;refine xS (yW ?_);simp[q];apply Bo;have h:r=0\/r=1\/r=2\/r=3\/r=4\/r=5:=by omega
 rcases h with rfl|rfl|rfl|rfl|rfl|rfl
 .apply yW;simp;apply AP;simp;(repeat apply xS);apply yT;apply yJ;simp;refine Bq (fH) rfl (by simp) (yJ ?_);simp;refine Aj ⟨_,_,a9,?_⟩;(try simp);rfl
 .apply yW;simp;apply AP;simp;apply yW;simp;apply AP;simp;(repeat apply xS);apply yT;apply yJ;simp;refine Bq (iq) rfl (by simp) (yJ ?_);simp;refine Aj ⟨_,_,a9,?_⟩;(try simp);rfl
 .apply yW;simp;apply AP;simp;apply yW;simp;apply AP;simp;apply yW;simp;apply AP;simp;(repeat apply xS);apply yT;apply yJ;simp;refine Bq (fe) rfl (by simp) (yJ ?_);simp;refine Aj ⟨_,_,a9,?_⟩;(try simp);rfl
 .apply yW;simp;apply AP;simp;apply yW;simp;apply AP;simp;apply yW;simp;apply AP;simp;apply yW;simp;apply AP;simp;(repeat apply xS);apply yT;apply yJ;simp;refine Bq (ew) rfl (by simp) (yJ ?_);simp;refine Aj ⟨_,_,a9,?_⟩;(try simp);rfl
 .apply yW;simp;apply AP;simp;apply yW;simp;apply AP;simp;apply yW;simp;apply AP;simp;apply yW;simp;apply AP;simp;apply yW;simp;apply AP;simp;(repeat apply xS);apply yT;apply yJ;simp;refine Bq (di) rfl (by simp) (yJ ?_);simp;refine Aj ⟨_,_,a9,?_⟩;(try simp);rfl
 .apply yW;simp;apply AP;simp;apply yW;simp;apply AP;simp;apply yW;simp;apply AP;simp;apply yW;simp;apply AP;simp;apply yW;simp;apply AP;simp;apply CF;(repeat apply xS);apply yT;apply yJ;simp;refine Bq (gm) rfl (by simp) (yJ ?_);simp;apply zT;(try simp);rfl
structure Raw where
 base:Nat
 n:Nat
 fam:List Nat
 lines:List HY
 rules:List Hv
def Gq(x:Raw):D:=.agg [br .u8 (x.base:Nat),br .u8 (x.n:Nat),j4 (x.fam.map λ(k:Nat)=>br .u8 k),j4 (x.lines.map Cd),j4 (x.rules.map Br)]
@[simp] theorem kO(x:Raw):Ae (.d (Gq x))=[.d (br .u8 (x.base:Nat)),.d (br .u8 (x.n:Nat)),.d (j4 (x.fam.map λ(k:Nat)=>br .u8 k)),.d (j4 (x.lines.map Cd)),.d (j4 (x.rules.map Br))]:=rfl
@[simp] theorem kG(x:Raw):Ap (.d (Gq x))=true:=rfl
@[simp] theorem ou(x:Raw):Bp (.d (Gq x))=false:=rfl
@[simp] theorem kb(x:Raw):BE (Gq x)=[br .u8 (x.base:Nat),br .u8 (x.n:Nat),j4 (x.fam.map λ(k:Nat)=>br .u8 k),j4 (x.lines.map Cd),j4 (x.rules.map Br)]:=rfl
@[simp] theorem p8(x:Raw):CL.oneD (Gq x)=true:=rfl
@[simp] theorem uK(x:Raw):DY (Gq x)=Bm [br .u8 (x.base:Nat),br .u8 (x.n:Nat),j4 (x.fam.map λ(k:Nat)=>br .u8 k),j4 (x.lines.map Cd),j4 (x.rules.map Br)]:=rfl
@[simp] theorem mQ(S:Sg)(x:Raw):DS S (.d (Gq x))=some [br .u8 (x.base:Nat),br .u8 (x.n:Nat),j4 (x.fam.map λ(k:Nat)=>br .u8 k),j4 (x.lines.map Cd),j4 (x.rules.map Br)]:=rfl
structure MG(g:AE)(p l:Nat):Prop where
 c1:Z g.conds<=3
 n0:0<Z g.A0
 n1:Z g.A0<=3
 t1:Z g.AT=11
 o1:(0:Int)∈g.AT.map (·.cls)
 p0:0<Z g.AD
 p1:Z g.AD<=12+p
 l1:Z g.levels<=4+l
 l2:∀x∈g.levels,Z x.AD<=2
 f1:Z g.AR<=4+l
theorem eB(r:Nat):MG (LG r) 0 0:=by
 unfold LG;split<;>exact⟨by decide,by decide,by decide,rfl,by decide,by decide,by decide,by decide,by decide,by decide⟩
def Pq:AO:=⟨⟨#[102,105,114,115,116]⟩,0,[⟨J,0⟩],Dg,ap,0,[],Ay⟩
def JG(m c:Nat):AE:=⟨[⟨#[65]⟩,⟨#[66]⟩,⟨#[67]⟩].take c,Dg,De,[⟨#[83]⟩,⟨#[80]⟩,⟨#[81]⟩].take (1+m),[Pq],0,[],[]⟩
theorem oJ(m c:Nat)(g:m<3)(h:c<4):MG (JG m c) 0 0:=by
 refine⟨?_,?_,?_,rfl,(by show(0:Int)∈De.map (·.cls);decide),Nat.zero_lt_one,by simp[JG],by simp[JG],by simp[JG],by simp[JG]⟩<;>simp[JG]<;>omega
theorem oO{g F:AE}{p l:Nat}(h:MG g p l){kn:Bool}(A:F=g\/∃q,T9 g kn q/\F={g with AD:=g.AD++[q]}):MG F (p+1) l:=by
 obtain⟨i,j,k,m,o,B,C,u,v,w⟩:=h;rcases A with rfl|⟨q,_,rfl⟩
 .exact⟨i,j,k,m,o,B,by omega,u,v,w⟩
 .exact⟨i,j,k,m,o,by simp,by simp;omega,u,v,w⟩
theorem mh{g F:AE}{p l:Nat}(h:MG g p l)(C:Ia g F):MG F p (l+1):=by
 obtain⟨k,m,o,q,u,v,w,H,A,K⟩:=h;rcases C with rfl|⟨x,E,rfl⟩|⟨f,_,rfl⟩|⟨t,⟨e,d,_,G,rfl⟩,rfl⟩
 .exact⟨k,m,o,q,u,v,w,by omega,A,by omega⟩
 .refine⟨k,m,o,q,u,v,w,by simp;omega,?_,by simp;omega⟩;intro y j;rcases fi.1 j with j|j
  .exact A y j
  .rw[go.1 j];exact E.1
 .exact⟨k,m,o,q,u,v,w,by simp;omega,A,by simp;omega⟩
 .have B:(g.AT.set e {g.AT[e]with cond:=d}).map (·.cls)=g.AT.map (·.cls):=by
   rw[g9];apply xv (by simp);intro i L M;rw[ac3];split
   .next hi=>subst hi;simp
   .rfl
  exact⟨k,m,o,by simpa using q,by rw[B];exact u,v,w,by simp;omega,A,by simp;omega⟩
open Go.Proofs DT
theorem GD{d:AL}{n:Int}(h:B1 d n=J):Iq d:=by
 simp only[B1,cF,fc]at h;have g:=h.1;unfold F7 at g;unfold Iq;split at g
 .cases g
 .omega
theorem Ui:∀(N:Nat) (l:List Int),l.Nodup->(∀y∈l,0<=y/\y<N)->Z l<=N:=by
 intro N;induction N with
 |zero=>
  intro l _ h;cases l with
  |nil=>simp
  |cons a l=>have:=h a (by simp);omega
 |succ N j=>
  intro l i h;by_cases k:(N:Int)∈l
  .have m:=j (l.erase N) (i.erase _) (λy g=>by
    have o:=h y (List.mem_of_mem_erase g);have q:y≠N:=λe=>by subst e;exact(List.Nodup.mem_erase_iff i).1 g |>.1 rfl
    omega)
   have:=List.length_erase_of_mem k;omega
  .have m:=j l i (λy g=>by
    have o:=h y g;have q:y≠N:=λe=>by subst e;exact k g
    omega)
   omega
theorem YQ{N:Nat}:∀{i u v:List Int},Ch N u i=some v->u.Nodup->(∀y∈u,0<=y/\y<N)->v.Nodup/\(∀y∈v,0<=y/\y<N)/\Z v=Z u+Z i
 |[],u,v,h,j,k=>by simp only[Ch,j3]at h;subst h;exact⟨j,k,by simp⟩
 |p::i,u,v,h,j,k=>by
  unfold Ch at h;split at h
  .cases h
  .rename_i o;have m:0<=p/\p<N/\p∉u:=by
    refine⟨by omega,?_,λq=>o (.inr (.inr q))⟩;by_cases e:(N:Int)<=p
    .exact absurd (.inr (.inl e)) o
    .omega
   obtain⟨w,A,B⟩:=YQ h (by
    rw[Ks];exact⟨j,by simp,λa ha b hb=>by rw[go.1 hb];intro e;subst e;exact m.2.2 ha⟩) (λy g=>by
    rcases fi.1 g with g|g
    .exact k y g
    .rw[go.1 g];exact⟨m.1,m.2.1⟩)
   exact⟨w,A,by simp at B;simp;omega⟩
theorem Oy{g:AE}:∀{i:List Level} {u:List Int},EH g u i=J->u.Nodup->(∀y∈u,0<=y/\y<Z g.AD)->∀l∈i,Z l.AD<=Z g.AD/\Iq l.cond
 |[],_,_,_,_=>λl k=>by cases k
 |l::i,u,h,w,A=>by
  unfold EH at h;split at h
  .rename_i m;split at h
   .cases h
   .rename_i v B;obtain⟨o,q,C⟩:=YQ B w A;have k:=Ui _ _ o q;intro y j;rcases ke.1 j with rfl|j
    .refine⟨by omega,?_⟩;simp only[cF]at m;exact GD m.2
    .exact Oy h o q y j
  .cases h
theorem RU{g:AE}{kind:Token->Bool}{l:List Int}(h:Gn g kind l=J):Z l<=Z g.AT:=by
 simp only[Gn,cF,ed,rv,fc]at h;obtain⟨j,q⟩:=h;have key:∀i,i<Z l->(i:Int)<=l.getD i 0:=by
  intro i;induction i with
  |zero=>
   intro hi;have:=j 0 hi;simp only[FZ,cF,fc]at this;exact this.1.1.1
  |succ i m=>
   intro hi;have o:=m (by omega);have:=j (i+1) hi;simp only[FZ,cF,fc,ol,ads,Pi,Nat.add_sub_cancel]at this;have k:=this.1.2;omega
 have o:=key (Z l - 1) (by omega);have k:=j (Z l - 1) (by omega);simp only[FZ,cF,fc]at k;have:=k.1.1.2;omega
theorem IW(g:AE)(h:B3 g=0):Pt g:=by
 obtain⟨q,u,v,F,w,A,m⟩:=Bx h;simp only[Cq,SS,Pi,tg]at q;obtain⟨⟨⟨⟨⟨⟨l1,l2⟩,G⟩,H⟩,K⟩,L⟩,B⟩:=q;refine⟨by omega,?_,by omega,⟨by omega,λt k=>?_⟩,⟨by omega,λp k=>?_⟩,⟨by omega,λl k=>?_⟩,⟨by omega,λf k=>?_⟩⟩
 .simp only[En,cF]at u;exact GD u.1.2
 .simp only[Eh,cF,ed]at v;have i:=v.2 t k;simp only[Hg,cF]at i;refine⟨?_,GD i.1.2⟩;have j:=i.2;unfold Kr at j;split at j
  .split at j
   .rename_i o;unfold D8 at o;split at o
    .cases o
    .omega
   .cases j
  .simp only[cF,fc]at j;rw[j.2];simp
 .have i:=(Eu w p k).2;simp only[HR,cF]at i;have j:=B p k;simp only[MB,ru,fc,va]at j;exact⟨by omega,by omega,GD i.1.1.1⟩
 .obtain⟨i,j⟩:=Oy A (by simp) (λy C=>by cases C) l k;exact⟨by omega,j⟩
 .simp only[Du,ed]at m;have i:=m f k;simp only[Ek,cF]at i;obtain⟨i,j⟩:=i;unfold FB at i;unfold Ej at j;split at i
  .rename_i E;rw[ca E]at j;simp only[Lz,cF,fc]at i j;exact⟨by rw[j.2];simp,GD i.1⟩
  .split at i
   .simp only[cF]at i;have:=RU i.2;exact⟨by omega,GD i.1.1.1⟩
   .split at i
    .simp only[cF]at i;have:=RU i.1.2;exact⟨by omega,GD i.1.1⟩
    .cases i
theorem D9{g:AE}(h:B3 g=0):∀p∈g.AD,Z p.right<=16:=by
 obtain⟨i,_⟩:=Bx h;simp only[Cq,SS,Pi,tg]at i;obtain⟨_,j⟩:=i;intro p k;have m:=j p k;simp only[MB,ru,fc,va]at m;omega
theorem oC{g:AE}(h:B3 g=0):∀p∈g.AD,∀q∈p.right,Fi g q=true:=by
 obtain⟨_,_,_,_,j,_⟩:=Bx h;intro p k q m;have i:=(Eu j p k).1;simp only[Es,cF,ed]at i;exact i.2 q m
open Go.Proofs Tryz DT
def Sr(t:Token)(s:ByteArray):Bool:=if t.literal=⟨#[]⟩then He t.pattern s else decide (t.literal=s)
theorem Ze(t:Token)(s:ByteArray):Pure prog 180 [AX t,BQ s] (.bool (Sr t s)):=by
 have g:=AX.eq_1 t;have h:ByteArray.empty=(⟨#[]⟩:ByteArray):=rfl;refine zP func180 16 rfl λwf=>?_;unfold Sr;by_cases i:t.literal=⟨#[]⟩
 .rw[ca i];apply yW;simp;refine xS (yW ?_);simp[g,i];apply AP;simp;apply xK;(repeat apply xS);apply yT;apply yJ;simp;refine Bq (QJ t.pattern s) rfl (by simp) (yJ ?_);simp;apply zT;try simp
 .rw[bv i];apply yW;simp;refine xS (yW ?_);simp[g,i];apply AP;simp;apply yW;simp;refine Aj ⟨_,_,a9,?_⟩;try simp
def Nh(f:Symbol->List C9->List Bool->Bool×List C9×List Bool):List Symbol->List C9->List Bool->Bool×List C9×List Bool
 |[],g,h=>(J,g,h)
 |s::l,g,h=>if(f s g h).1=J then Nh f l (f s g h).2.1 (f s g h).2.2 else f s g h
def pD(h:AE)(s:Symbol)(t:C9):Bool:=decide (t.prod= -1)&&(decide (t.token=s.index)&&Sr (h.AT.getD s.index.toNat OO) t.text)
def Qx(h:AE)(s:Symbol)(t:C9):Bool:=
 decide (t.token= -1)&&(decide (t.text=⟨#[]⟩)&&(decide (0<=t.prod)&&(decide (t.prod<Z h.AD)&&decide ((h.AD.getD t.prod.toNat G9).left=s.index))))
def JP(h:AE)(j:List Symbol):Nat->Symbol->List C9->List Bool->Bool×List C9×List Bool
 |0,_,g,i=>(ap,g,i)
 |n+1,s,g,i=>match g with
  |[]=>(ap,[],i)
  |t::g=>if 0<=t.hole then
    (if t.hole<Z j/\t=Dp t.hole/\i[t.hole.toNat]?=some ap/\j[t.hole.toNat]?=some s then(J,g,i.set t.hole.toNat J)else(ap,g,i))
   else if t.hole= -1 then
    (if s.token=J then(pD h s t,g,i)else if Qx h s t=J then Nh (JP h j n) (h.AD.getD t.prod.toNat G9).right g i else(ap,g,i))
   else(ap,g,i)
theorem NK{f:Symbol->List C9->List Bool->Bool×List C9×List Bool}(i:∀s g h,Z (f s g h).2.1<=Z g/\Z (f s g h).2.2=Z h):
  ∀(l:List Symbol) (g:List C9) (h:List Bool),Z (Nh f l g h).2.1<=Z g/\Z (Nh f l g h).2.2=Z h
 |[],g,h=>⟨c9 _,rfl⟩
 |s::l,g,h=>by
  unfold Nh;have j:=i s g h;split
  .have k:=NK i l (f s g h).2.1 (f s g h).2.2;exact⟨by omega,by omega⟩
  .exact j
theorem MP(h:AE)(j:List Symbol):∀(n:Nat) (s:Symbol) (g:List C9) (i:List Bool),Z (JP h j n s g i).2.1<=Z g/\Z (JP h j n s g i).2.2=Z i
 |0,s,g,i=>⟨c9 _,rfl⟩
 |n+1,s,g,i=>by
  cases g with
  |nil=>exact⟨c9 _,rfl⟩
  |cons t g=>
   have k:=NK (MP h j n) (h.AD.getD t.prod.toNat G9).right g i;unfold JP;simp only;split
   .split<;>simp
   .split
    .split
     .simp
     .split
      .exact⟨by simp only[gr];omega,k.2⟩
      .simp
    .simp
theorem nj{h:AE}{g:List Symbol}{n:Nat}{s:Symbol}{ts:List C9}{us:List Bool}(i:(JP h g n s ts us).1=J):Z (JP h g n s ts us).2.1<Z ts:=by
 cases n with
 |zero=>simp[JP]at i
 |succ n=>
  cases ts with
  |nil=>simp[JP]at i
  |cons t ts=>
   have j:=NK (MP h g n) (h.AD.getD t.prod.toNat G9).right ts us;unfold JP;simp only;split
   .split<;>simp
   .split
    .split
     .simp
     .split
      .simp only[gr];omega
      .simp
    .simp
def rM(h:AE)(s:Symbol):Prop:=s.token=J->0<=s.index/\s.index<Z h.AT
def tN(h:AE):Prop:=∀p∈h.AD,∀q∈p.right,rM h q
def bo:List V:=[.ptr 0 1 0 0,.ptr 1 1 0 0,.ptr 2 1 0 0,.ptr 3 1 0 0,.ptr 4 1 0 0]
def Zc(h:AE)(g:List Symbol)(ts:List C9)(us:List Bool):Sg:=
 [.row J 1 [.d (CQ ts)],.row J 1 [.d (Ax g)],.row J 1 [.row 5 (Z us)],.row J 9 [.d (AA h)],.row J 1 [.fn (.func 179) [] bo],.row J 1 (us.map λb=>.d (.bool b))]
theorem ny(h:AE)(H:List Symbol)(hr:tN h)(hpl:∀p∈h.AD,Z p.right<=maxLen):∀(n:Nat) (s:Symbol) (C:List C9) (F:List Bool),Z C<n->Z F=Z H->rM h s->AG prog 179 (.d (AH s)::bo) (Zc h H C F) (.d (.bool (JP h H n s C F).1)) (Zc h H (JP h H n s C F).2.1 (JP h H n s C F).2.2):=by
 intro n;induction n with
 |zero=>intro s C F hl;omega
 |succ n ih=>
  intro s C F hn hul hrs;cases C with
  |nil=>
   have hq:JP h H (n+1) s [] F=(ap,[],F):=rfl;rw[hq];refine AG.Gp func179 (by kernel_rfl) rfl (by simp[bo]) λwf _=>?_;rw[ntmps179];unfold Zc bo;refine xW λK g=>?_;simp;apply g;refine xS (xW λK g=>?_);simp;apply g;refine AP ?_;simp;(repeat refine xS ?_);refine xV λK g=>?_;simp;refine g _ _ ?_;(try simp only[xQ,reduceIte]);(refine Aj ?_;(try simp only[xQ,reduceIte]);refine⟨_,_,_,a9,?_,?_,fd 6 (S':=_) (by simp) (by simp) (by simp) (by simp)⟩<;>simp[BO])
  |cons t C=>
   have m:=A5.eq_1 t;have v:ByteArray.empty=(⟨#[]⟩:ByteArray):=rfl;obtain⟨R,hR⟩:=ce (JP h H (n+1) s (t::C) F);have j:=hR;rw[hR];unfold JP at j;simp only at j;refine AG.Gp func179 (by kernel_rfl) rfl (by simp[bo]) λwf _=>?_;rw[ntmps179];unfold Zc bo at *;have hl0:¬((Z C:Int)+1=0):=by omega
   have hd:C=[]\/(Z (BE ((Option.map A5 C[0]?).getD (.bool ap)))=4/\CL.oneD ((Option.map A5 C[0]?).getD (.bool ap))=J):=by cases C<;>simp
   have M:List.take (Z C) (o4 A5 C)=o4 A5 C:=PP (by simp);have hl1:(1:Int)<=Z C+1:=by omega
   refine xW λK g=>?_;simp;apply g;refine xS (xW λK g=>?_);simp;apply g;refine AP ?_;simp[hl0];refine xK ?_;refine xW λK g=>?_;simp;apply g;(repeat refine xS ?_);refine xV λK g=>?_;simp[hl1,hd,M];refine g _ _ ?_;(try simp only[xQ,reduceIte]);refine xB ?_;by_cases hh:0<=t.hole
   .rw[ca hh]at j;obtain⟨k,E⟩:∃k:Nat,t.hole=k:=⟨t.hole.toNat,by omega⟩;refine xW λK g=>?_;simp[m,E];apply g;refine AP ?_;simp;rw[E]at j;simp only[ne]at j;by_cases e1:t=Dp k;case neg=>
     rw[bv (λh=>e1 h.2.1)]at j;subst j;have U:¬(t.prod= -1/\t.token= -1/\t.text=⟨#[]⟩):=λ⟨a1,a2,a3⟩=>e1 (by cases t;simp only at E a1 a2 a3;subst E;subst a1;subst a2;subst a3;rfl);refine xS ?_;refine xD (A7 28 []) (by kernel_rfl) λK g=>?_;simp;(repeat((first|refine PW rfl rfl ?_ ?_;(·simp[U])|refine gT rfl rfl ?_ ?_;(·simp[U])|refine Hs ?_ ?_;(·simp[v,U]));simp[v,CT,DZ]));refine xM (g _ _ ?_);(try simp only[]);refine AP ?_;simp[U];refine λ_=>?_;(repeat refine xS ?_);refine xV λK g=>?_;simp;refine g _ _ ?_;(try simp only[xQ,reduceIte]);(refine Aj ?_;(try simp only[xQ,reduceIte]);refine⟨_,_,_,a9,?_,?_,fd 6 (S':=_) (by simp) (by simp) (by simp) (by simp)⟩<;>simp[BO])
    subst e1;by_cases A:k<Z H;case neg=>
     rw[bv (λh=>A (by omega))]at j;subst j;have u:Z H<=k:=by omega
     refine xS ?_;refine xD (A7 28 []) (by kernel_rfl) λK g=>?_;simp;refine xZ ?_;simp[Dp,CT,DZ,u];refine xM (g _ _ ?_);(try simp only[]);refine AP ?_;simp;(repeat refine xS ?_);refine xV λK g=>?_;simp;refine g _ _ ?_;(try simp only[xQ,reduceIte]);(refine Aj ?_;(try simp only[xQ,reduceIte]);refine⟨_,_,_,a9,?_,?_,fd 6 (S':=_) (by simp) (by simp) (by simp) (by simp)⟩<;>simp[BO])
    have u:¬Z H<=k:=by omega
    have o:k<Z F:=by omega
    by_cases B:F[k]=ap;case neg=>
     rw[bv (λh=>B (gq.1 h.2.2.1).2)]at j;subst j;have e3':F[k]=true:=by simpa using B
     refine xS ?_;refine xD (A7 28 []) (by kernel_rfl) λK g=>?_;simp;refine xZ ?_;simp[Dp,u,o,e3',CT,DZ];refine xM (g _ _ ?_);(try simp only[]);refine AP ?_;simp;(repeat refine xS ?_);refine xV λK g=>?_;simp;refine g _ _ ?_;(try simp only[xQ,reduceIte]);(refine Aj ?_;(try simp only[xQ,reduceIte]);refine⟨_,_,_,a9,?_,?_,fd 6 (S':=_) (by simp) (by simp) (by simp) (by simp)⟩<;>simp[BO])
    by_cases L:H[k]=s;case neg=>
     rw[bv (λh=>L (gq.1 h.2.2.2).2)]at j;subst j;have P:=AH.eq_1 s;generalize Q:H[k]=q at *;refine xS ?_;refine xD (A7 28 []) (by kernel_rfl) λK g=>?_;simp;(repeat((first|refine PW rfl rfl ?_ ?_;(·simp)|refine gT rfl rfl ?_ ?_;(·simp[A,o,B])|refine Hs ?_ ?_;(·simp[Dp]));simp[Dp,A,u,o,B,CT,DZ]));(repeat(first|((refine PW rfl rfl ?_ ?_);(focus(simp[P,Q];done));simp[A,o,B,L,P,Q])|((refine gT rfl rfl ?_ ?_);(focus(simp[P,Q];done));simp[L,P,Q])|((refine Hs ?_ ?_);(focus(simp;done));simp)));refine xM (g _ _ ?_);(try simp only[]);refine AP ?_;simp;(repeat refine xS ?_);refine xV λK g=>?_;simp;refine g _ _ ?_;(try simp only[xQ,reduceIte]);(refine Aj ?_;(try simp only[xQ,reduceIte]);refine⟨_,_,_,a9,?_,?_,fd 6 (S':=_) (by simp) (by simp) (by simp) (by simp)⟩<;>simp[BO])
    rw[ca ⟨by omega,rfl,gq.2 ⟨o,B⟩,gq.2 ⟨A,L⟩⟩]at j;subst j;refine xS ?_;refine xD (A7 28 []) (by kernel_rfl) λK g=>?_;simp;(repeat((first|refine PW rfl rfl ?_ ?_;(·simp)|refine gT rfl rfl ?_ ?_;(·simp[A,o,B])|refine Hs ?_ ?_;(·simp[Dp]));simp[Dp,A,u,o,B,CT,DZ]));(repeat(first|((refine PW rfl rfl ?_ ?_);(focus(simp[L,AH];done));simp[A,o,B,L,AH,CT,DZ])|((refine gT rfl rfl ?_ ?_);(focus(simp[L,AH];done));simp[L,AH,CT,DZ])|((refine Hs ?_ ?_);(focus(simp;done));simp)));refine xM (g _ _ ?_);(try simp only[]);refine AP ?_;simp;refine xK ?_;refine xW λK g=>?_;simp[o];apply g;(repeat refine xS ?_);refine xV λK g=>?_;simp;refine g _ _ ?_;(try simp only[xQ,reduceIte]);have es:(F.map λb=>V.d (.bool b)).set k (.d (.bool J))=(F.set k J).map λb=>V.d (D.bool b):=by rw[g9]
    have hbv:Au 6 ((F.map λb=>V.d (.bool b)).set k (.d (.bool J)))=true:=by rw[es];simp[-List.map_set]
    (refine Aj ?_;(try simp only[xQ,reduceIte]);refine⟨_,_,_,a9,?_,?_,fd 6 (S':=_) (by simp) (by simp) (by simp) (by simp[hbv])⟩<;>simp[BO])
   .rw[bv hh]at j;refine xW λK g=>?_;simp[m,hh];apply g;refine AP ?_;simp;by_cases h1:t.hole= -1;case neg=>
     rw[bv h1]at j;subst j;refine xW λK g=>?_;simp;apply g;refine AP ?_;simp[h1];(repeat refine xS ?_);refine xV λK g=>?_;simp;refine g _ _ ?_;(try simp only[xQ,reduceIte]);(refine Aj ?_;(try simp only[xQ,reduceIte]);refine⟨_,_,_,a9,?_,?_,fd 6 (S':=_) (by simp) (by simp) (by simp) (by simp)⟩<;>simp[BO])
    rw[ca h1]at j;refine xW λK g=>?_;simp[h1];apply g;refine AP ?_;simp;cases zn:s.token with
    |true=>
     rw[ca zn]at j;subst j;obtain⟨hi1,hi2⟩:=hrs zn;refine xW λK g=>?_;simp[zn];apply g;refine AP ?_;simp;unfold pD;by_cases l1:t.prod= -1;case neg=>
      (repeat refine xS ?_);refine xE (A7 22 []) (by kernel_rfl) λK g=>?_;simp;(repeat((first|refine PW rfl rfl ?_ ?_;(·simp[l1])|refine gT rfl rfl ?_ ?_;(·simp[m,l1])|refine Hs ?_ ?_;(·simp[l1]));simp));refine xM (g _ _ ?_);(try simp only[xQ,reduceIte]);(refine Aj ?_;(try simp only[xQ,reduceIte]);refine⟨_,_,_,a9,?_,?_,fd 6 (S':=_) (by simp) (by simp) (by simp) (by simp)⟩<;>simp[BO,l1])
     by_cases l2:t.token=s.index;case neg=>
      (repeat refine xS ?_);refine xE (A7 22 []) (by kernel_rfl) λK g=>?_;simp;(repeat((first|refine PW rfl rfl ?_ ?_;(·simp[l2])|refine gT rfl rfl ?_ ?_;(·simp)|refine Hs ?_ ?_;(·simp[l1,l2]));simp[l1]));refine xM (g _ _ ?_);(try simp only[B5]);(refine Aj ?_;(try simp only[xQ,reduceIte]);refine⟨_,_,_,a9,?_,?_,fd 6 (S':=_) (by simp) (by simp) (by simp) (by simp)⟩<;>simp[BO,l1,l2])
     obtain⟨k,E⟩:∃k:Nat,s.index=k:=⟨s.index.toNat,by omega⟩;have w:k<Z h.AT:=by omega
     have hkg:h.AT.getD s.index.toNat OO=h.AT[k]:=by rw[E];simp[w]
     rw[hkg];have hsp:=Ze h.AT[k] t.text;generalize M:h.AT[k]=tk at *;have N:=AX.eq_1 tk;(repeat refine xS ?_);refine xE (A7 22 []) (by kernel_rfl) λK g=>?_;simp;refine xZ ?_;simp[l1,l2,E,w,M,N];refine Ab.C0 (ds:=[AX tk,BQ t.text]) rfl rfl (by simp;rfl) (λ_=>hsp) (by simp[E,N,xN]) ?_;simp;refine xZ ?_;simp;refine xM (g _ _ ?_);(try simp only[xQ,reduceIte]);(refine Aj ?_;(try simp only[xQ,reduceIte]);refine⟨_,_,_,a9,?_,?_,fd 6 (S':=_) (by simp) (by simp) (by simp) (by simp)⟩<;>simp[BO,l1,l2])
    |false=>
     rw[bv (by simp[zn])]at j;refine xW λK g=>?_;simp[zn];apply g;refine AP ?_;simp;refine CF ?_;by_cases n1:t.token= -1;case neg=>
      rw[bv (by simp[Qx,n1])]at j;subst j;refine xS ?_;refine xD (A7 33 []) (by kernel_rfl) λK g=>?_;simp;(repeat((first|refine PW rfl rfl ?_ ?_;(·simp[n1])|refine gT rfl rfl ?_ ?_;(·simp[m,n1])|refine Hs ?_ ?_;(·simp[n1]));simp));refine xM (g _ _ ?_);(try simp only[]);refine AP ?_;simp[n1];(repeat refine xS ?_);refine xV λK g=>?_;simp;refine g _ _ ?_;(try simp only[xQ,reduceIte]);(refine Aj ?_;(try simp only[xQ,reduceIte]);refine⟨_,_,_,a9,?_,?_,fd 6 (S':=_) (by simp) (by simp) (by simp) (by simp)⟩<;>simp[BO])
     by_cases T:t.text=⟨#[]⟩;case neg=>
      rw[bv (by simp[Qx,T])]at j;subst j;refine xS ?_;refine xD (A7 33 []) (by kernel_rfl) λK g=>?_;simp;refine xZ ?_;simp[n1,T];refine xM (g _ _ ?_);(try simp only[]);refine AP ?_;simp;(repeat refine xS ?_);refine xV λK g=>?_;simp;refine g _ _ ?_;(try simp only[xQ,reduceIte]);(refine Aj ?_;(try simp only[xQ,reduceIte]);refine⟨_,_,_,a9,?_,?_,fd 6 (S':=_) (by simp) (by simp) (by simp) (by simp)⟩<;>simp[BO])
     by_cases n3:0<=t.prod;case neg=>
      rw[bv (by simp[Qx,n3])]at j;subst j;have W:t.prod<0:=by omega
      refine xS ?_;refine xD (A7 33 []) (by kernel_rfl) λK g=>?_;simp;refine xZ ?_;simp[n1,T,W];refine xM (g _ _ ?_);(try simp only[]);refine AP ?_;simp;(repeat refine xS ?_);refine xV λK g=>?_;simp;refine g _ _ ?_;(try simp only[xQ,reduceIte]);(refine Aj ?_;(try simp only[xQ,reduceIte]);refine⟨_,_,_,a9,?_,?_,fd 6 (S':=_) (by simp) (by simp) (by simp) (by simp)⟩<;>simp[BO])
     have W:¬t.prod<0:=by omega
     by_cases n4:t.prod<Z h.AD;case neg=>
      rw[bv (by simp[Qx,n4])]at j;subst j;have n4':(Z h.AD:Int)<=t.prod:=by omega
      refine xS ?_;refine xD (A7 33 []) (by kernel_rfl) λK g=>?_;simp;refine xZ ?_;simp[n1,T,W,n4'];refine xM (g _ _ ?_);(try simp only[]);refine AP ?_;simp;(repeat refine xS ?_);refine xV λK g=>?_;simp;refine g _ _ ?_;(try simp only[xQ,reduceIte]);(refine Aj ?_;(try simp only[xQ,reduceIte]);refine⟨_,_,_,a9,?_,?_,fd 6 (S':=_) (by simp) (by simp) (by simp) (by simp)⟩<;>simp[BO])
     obtain⟨k,E⟩:∃k:Nat,t.prod=k:=⟨t.prod.toNat,by omega⟩;have w:k<Z h.AD:=by omega
     have Y:¬Z h.AD<=k:=by omega
     have hkn:¬(k:Int)<0:=by omega
     have hkg:h.AD.getD t.prod.toNat G9=h.AD[k]:=by rw[E];simp[w]
     have hpr:=hr _ (cL w);have a1:=hpl _ (cL w);unfold Qx at j;rw[hkg]at j;generalize hpk:h.AD[k]=p at *;have hep:=AF.eq_1 p;by_cases n5:p.left=s.index;case neg=>
      rw[bv (by simp[n5])]at j;subst j;refine xS ?_;refine xD (A7 33 []) (by kernel_rfl) λK g=>?_;simp;refine xZ ?_;simp[n1,T,E,hkn,w,Y,hpk,hep];refine xM (g _ _ ?_);(try simp only[]);refine AP ?_;simp[n5];(repeat refine xS ?_);refine xV λK g=>?_;simp;refine g _ _ ?_;(try simp only[xQ,reduceIte]);(refine Aj ?_;(try simp only[xQ,reduceIte]);refine⟨_,_,_,a9,?_,?_,fd 6 (S':=_) (by simp) (by simp) (by simp) (by simp)⟩<;>simp[BO])
     rw[ca (by simp[n1,T,n3,n4,n5])]at j;refine xS ?_;refine xD (A7 33 []) (by kernel_rfl) λK g=>?_;simp;refine xZ ?_;simp[n1,T,E,hkn,w,Y,hpk,hep,n5];refine xM (g _ _ ?_);(try simp only[xQ,reduceIte]);refine AP ?_;simp;refine CF ?_;(repeat refine xS ?_);refine xV λK g=>?_;simp[w,hpk,hep];refine g _ _ ?_;(try simp only[xQ,reduceIte]);refine Bo ?_;refine FO (Z p.right) (λi tm S=>tm 122=.d (Ax p.right)/\tm 123=.d (encI (Z p.right))/\tm 124=.d (encI i)/\tm 5=.ptr 4 1 0 0/\∃C F,Nh (JP h H n) (p.right.drop i) C F=R/\Z C<n/\Z F=Z H/\S=Zc h H C F++[.row J 2 [.d (AH s)],.row J 4 [.d (A5 t)]]) (er _) ⟨by simp,by simp,by simp,by simp,C,F,by simpa using j,by simpa using hn,hul,by simp[Zc,bo,m,h1,E,n1,T]⟩ ?_;rintro i tm S hi ⟨t122,t123,t124,t5,ts1,us1,G,hn1,o,rfl⟩;(repeat refine xS ?_);refine xV λK g=>?_;simp[t123,t124];refine g _ _ ?_;(try simp only[xQ,reduceIte]);(repeat refine xS ?_);refine AP ?_;simp;refine⟨λzg=>?_,λzu=>?_⟩
     .rw[Hh zg]at G;simp only[Nh]at G;have X:=MP h H n p.right[i] ts1 us1;have hltq:=@nj h H n p.right[i] ts1 us1;have hcl:=ih p.right[i] ts1 us1 hn1 o (hpr _ (cL zg));generalize hqe:p.right[i]=q at *;generalize JP h H n q ts1 us1=r at *;obtain⟨b,ts2,us2⟩:=r;simp only at X hltq hcl G;refine CF ?_;(repeat refine xS ?_);refine Bo ?_;unfold Zc bo;(repeat refine xS ?_);refine xV λK g=>?_;simp[t122,t124,zg,hqe];refine g _ _ ?_;(try simp only[xQ,reduceIte]);(repeat refine xS ?_);refine FG λK g=>?_;refine xJ ?_;simp[t5];refine xY (hcl) _ rfl rfl ?_;simp[AH];refine xJ ?_;simp;refine BY (g _ _ ?_);(try simp only[xQ,reduceIte]);cases b with
      |false=>
       rw[bv (by simp)]at G;subst G;refine AP ?_;simp;(repeat refine xS ?_);refine xV λK g=>?_;simp;refine g _ _ ?_;(try simp only[xQ,reduceIte]);(refine Aj ?_;(try simp only[xQ,reduceIte]);refine⟨_,_,_,a9,?_,?_,fd 6 (S':=_) (by simp) (by simp) (by simp) (by simp[X.2])⟩<;>simp[BO])
      |true=>
       rw[ca rfl]at G;refine AP ?_;simp;refine CF ?_;have hwi:b8 .i64 ((i:Int)+1)=(i+1:Nat):=AK zg a1;(repeat refine xS ?_);refine xV λK g=>?_;simp[t124,hwi];refine g _ _ ?_;(try simp only[xQ,reduceIte]);refine⟨zg,_,_,n8 8 (S':=Zc h H ts2 us2++[.row J 2 [.d (AH s)],.row J 4 [.d (A5 t)]]) (by simp[Zc,bo,AH,X.2]) (by simp) (by simp) (by simp[Zc,bo]),?_⟩;refine⟨by simp[clean,AJ,t122],by simp[clean,AJ,t123],by simp[clean,AJ],by simp[clean,AJ,t5],ts2,us2,G,by have:=hltq rfl;omega,by omega,rfl⟩
     .have e:i=Z p.right:=by omega
      subst e;rw[List.drop_length]at G;simp only[Nh]at G;subst G;refine Ci ?_;unfold Zc bo;(repeat refine xS ?_);refine xV λK g=>?_;simp;refine g _ _ ?_;(try simp only[]);(refine Aj ?_;(try simp only[xQ,reduceIte]);refine⟨_,_,_,a9,?_,?_,fd 6 (S':=_) (by simp) (by simp) (by simp) (by simp)⟩<;>simp[BO])
def CB(g:AE)(i:Int):AO:=g.AD.getD i.toNat G9
def Fy(g:AE)(r:Rewrite):List Symbol:=
 if r.at_<0 then(CB g r.prod).right else(CB g r.prod).right.take r.at_.toNat++((CB g r.child).right++(CB g r.prod).right.drop (r.at_.toNat+1))
def Jb(g:AE)(r:Rewrite):Bool:=
 if r.at_= -1 then decide (r.child= -1)else decide (0<=r.at_)&&(decide (r.at_<Z (CB g r.prod).right)&&(decide (0<=r.child)&&(decide (r.child<Z g.AD)&&
  decide ((CB g r.prod).right[r.at_.toNat]?=some ⟨ap,(CB g r.child).left⟩))))
def Vy(g:AE)(r:Rewrite):Bool:=decide (0<=r.prod)&&(decide (r.prod<Z g.AD)&&(decide (Z r.BI<=512)&&Jb g r))
theorem Xn{g:AE}{r:Rewrite}(u:∀p∈g.AD,Z p.right<=65536)(h:Vy g r=J):∃j:Nat,∃hj:j<Z g.AD,r.prod=j/\CB g r.prod=g.AD[j]/\Z r.BI<=512/\Z g.AD[j].right<=65536/\((r.at_= -1/\r.child= -1/\Fy g r=g.AD[j].right)\/∃a c:Nat,∃q:c<Z g.AD,∃ha:a<Z g.AD[j].right,r.at_=a/\r.child=c/\g.AD[j].right[a]=⟨ap,g.AD[c].left⟩/\Z g.AD[c].right<=65536/\Fy g r=g.AD[j].right.take a++(g.AD[c].right++g.AD[j].right.drop (a+1))):=by
 simp[Vy]at h;obtain⟨C,E,B,m⟩:=h;obtain⟨j,hj⟩:∃j:Nat,r.prod=j:=⟨r.prod.toNat,by omega⟩;have i:j<Z g.AD:=by omega
 have o:CB g r.prod=g.AD[j]:=by simp[CB,hj,i]
 unfold Jb at m;rw[o]at m;refine⟨j,i,hj,o,B,u _ (cL i),?_⟩;split at m
 .rename_i ha;exact .inl ⟨ha,by simpa using m,by simp[Fy,ha,o]⟩
 .simp at m;obtain⟨k1,_,k2,k3,k5⟩:=m;obtain⟨a,ha⟩:∃a:Nat,r.at_=a:=⟨r.at_.toNat,by omega⟩;obtain⟨c,q⟩:∃c:Nat,r.child=c:=⟨r.child.toNat,by omega⟩;have k:c<Z g.AD:=by omega
  have v:CB g r.child=g.AD[c]:=by simp[CB,q,k]
  rw[ha,v]at k5;obtain⟨w,A⟩:=gq.1 k5;simp at w A;exact .inr ⟨a,c,k,w,ha,q,A,u _ (cL k),by simp[Fy,ha,o,v];omega⟩
theorem Zu(g:AE)(r:Rewrite)(N:∀p∈g.AD,Z p.right<=65536)(h:Vy g r=J):Pure prog 178 [AA g,Aa r] (Ax (Fy g r)):=by
 obtain⟨j,hj,E,-,-,P,u⟩:=Xn N h;have i:=Aa.eq_1 r;refine zP func178 35 rfl λwf=>?_;generalize F:g.AD[j]=o at *;have G:=AF.eq_1 o;apply yW;simp;(repeat apply xS);apply yV;simp[hj,E,F,G,i];rcases u with⟨ha,-,H⟩|⟨a,c,M,Q,ha,A,-,R,H⟩
 .refine xS (yW ?_);simp[ha];apply AP;simp;(repeat apply xS);apply yV;simp;rw[H];refine Aj ⟨_,_,a9,?_⟩;try simp
 .rw[H];generalize B:g.AD[c]=q at *;have C:=AF.eq_1 q;have v:=NO [o.right.take a,q.right,o.right.drop (a+1)] (by simp;omega);have K:[o.right.take a,q.right,o.right.drop (a+1)].flatten=o.right.take a++(q.right++o.right.drop (a+1)):=by simp
  rw[K]at v;have L:¬(a:Int)<0:=by omega
  refine xS (yW ?_);simp[ha];apply AP;simp[L];apply CF;have w:b8 .i64 ((a:Int)+1)=(a+1:Nat):=by rw[c8];omega
  have d1:a<=Z o.right:=by omega
  have m:List.take (Z o.right) (o4 AH o.right)=o4 AH o.right:=PP (by simp);have S:∀k,List.take k (o4 AH o.right)=o4 AH (o.right.take k):=λk=>by rw[pb]
  have d7:(a:Int)+1<=Z o.right:=by omega
  have d9:(0:Int)<=a+1:=by omega
  have d8:a+1<=Z o.right:=by omega
  by_cases d5:a+1<Z o.right
  .skip;(repeat apply xS);refine yE (A7 19 []) (by kernel_rfl) ?_;simp;apply yA 1;simp[A,B,M,C,w,maxLen,d1,d5,d7,d9];refine j0 (v) rfl (by simp[m,xN]) ?_;simp[m];apply yA 1;simp;apply Aj;refine⟨_,_,a9,?_⟩;simp[BO]
  .have d6:a+1=Z o.right:=by omega
   (repeat apply xS);refine yE (A7 19 []) (by kernel_rfl) ?_;simp;apply yA 1;simp[A,B,M,C,w,maxLen,d1,d6];refine j0 (v) rfl (by simp[d6,xN]) ?_;simp[d6];apply yA 1;simp;apply Aj;refine⟨_,_,a9,?_⟩;simp[BO];omega
def VH(g h:AE)(r:Rewrite):Bool×List C9×List Bool:=JP h (Fy g r) (Z r.BI+1) ⟨ap,(CB g r.prod).left⟩ r.BI (lw (Z (Fy g r)) ap)
def K9(g h:AE)(r:Rewrite):Bool:=Vy g r&&((VH g h r).1&&decide (Z (VH g h r).2.1=0))
abbrev ab9:=@decide_eq_true
abbrev acG:=@Bool.and_false
theorem aU(g h:AE)(hg:∀p∈g.AD,Z p.right<=65536)(hr:tN h)(r:Rewrite):Pure prog 110 [AA g,AA h,Aa r] (.bool (K9 g h r)):=by
 have k:=Aa.eq_1 r;refine hW func110 rfl rfl (by simp) λwf=>?_;have hpl:∀p∈h.AD,Z p.right<=maxLen:=by
  have:=wf.2.1;simp[DY,Bm,Di]at this;intro p hp;exact(this.2.2.2.2.2.1.2 p hp).2.2.1.1
 rw[ntmps110];unfold K9 Vy;by_cases p1:0<=r.prod;case neg=>
  have E:r.prod<0:=by omega
  apply yW;simp;refine xS (yS ?_);apply yH;simp[k,E];apply AP;simp;apply yW;simp;refine Aj ⟨_,_,a9,?_⟩;(try simp);simp[p1]
 by_cases p2:r.prod<Z g.AD;case neg=>
  have E:¬r.prod<0:=by omega
  have p2':(Z g.AD:Int)<=r.prod:=by omega
  apply yW;simp;refine xS (yS ?_);apply yH;simp[k,E,p2'];apply AP;simp;apply yW;simp;refine Aj ⟨_,_,a9,?_⟩;(try simp);simp[p2]
 obtain⟨j,v⟩:∃j:Nat,r.prod=j:=⟨r.prod.toNat,by omega⟩;have hj:j<Z g.AD:=by omega
 have L:¬Z g.AD<=j:=by omega
 have M:¬(j:Int)<0:=by omega
 by_cases p3:Z r.BI<=512;case neg=>
  have p3':(512:Int)<Z r.BI:=by omega
  apply yW;simp;refine xS (yS ?_);apply yH;simp[k,v,L,M,p3'];apply AP;simp[v];apply yW;simp;refine Aj ⟨_,_,a9,?_⟩;(try simp);simp[p3]
 have hn2:¬(512:Int)<Z r.BI:=by omega
 have hpa:CB g r.prod=g.AD[j]:=by simp[CB,v,hj]
 have N:(decide (0<=r.prod)&&(decide (r.prod<Z g.AD)&&(decide (Z r.BI<=512)&&Jb g r)))=Jb g r:=by simp[p1,p2,p3]
 rw[N];have P:Jb g r=J->_:=λh=>Zu g r hg (by rw[Vy,N];exact h);have T:Jb g r=J->Z (Fy g r)<=1073741823:=λh=>by
  obtain⟨j',hj',_,_,_,_,h6⟩:=Xn hg (r:=r) (by rw[Vy,N];exact h);rcases h6 with⟨_,_,hh⟩|⟨a,c,F,ha,_,_,_,hl2,hh⟩
  .rw[hh];have:=hg _ (cL hj');omega
  .rw[hh];have:=hg _ (cL hj');simp;omega
 have A:=ny h (Fy g r) hr hpl (Z r.BI+1) ⟨ap,(CB g r.prod).left⟩ r.BI (lw (Z (Fy g r)) ap) (by omega) (by simp) (by simp[rM]);have hsl:=MP h (Fy g r) (Z r.BI+1) ⟨ap,(CB g r.prod).left⟩ r.BI (lw (Z (Fy g r)) ap);change AG _ _ _ _ (.d (.bool (VH g h r).1)) (Zc h (Fy g r) (VH g h r).2.1 (VH g h r).2.2)at A;change Z (VH g h r).2.1<=_/\Z (VH g h r).2.2=_ at hsl;generalize VH g h r=Q at *;obtain⟨qb,qt,qu⟩:=Q;simp only at A hsl⊢;rw[hpa]at A;obtain⟨cb,X⟩:=ce (Jb g r);have m:=X;unfold Jb at m;rw[hpa]at m;rw[X];rw[X]at P T;clear N;generalize Fy g r=H at *;generalize hpj:g.AD[j]=o at *;have u:=AF.eq_1 o;unfold Zc bo at A;have hsd2:=A.Fg (args':=[.agg [.d (.bool ap),.d (.int .i64 o.left)],.ptr 0 1 0 0,.ptr 1 1 0 0,.ptr 2 1 0 0,.ptr 3 1 0 0,.ptr 4 1 0 0]) rfl λi h h'=>by
  match i,h with
  |0,_=>exact .inr ⟨AH ⟨ap,o.left⟩,by simp[BO,AH],rfl⟩
  |1,_=>exact .inl rfl
  |2,_=>exact .inl rfl
  |3,_=>exact .inl rfl
  |4,_=>exact .inl rfl
  |5,_=>exact .inl rfl
 clear A;apply yW;simp;refine xS (yS ?_);apply yH;simp[k,v,L,hn2,M];apply AP;simp;apply xK;apply yW;simp[hj,hpj,u];refine AW.Jp (R:=λtm S=>cb=J/\tm 3=.ptr 0 1 0 0/\tm 4=.ptr 1 1 0 0/\tm 5=.ptr 2 1 0 0/\tm 7=.ptr 3 1 0 0/\S=[.row J 9 [.d (AA g)],.row J 9 [.d (AA h)],.row J 4 [.d (Aa r)],.row J 13 [.d (AF o)]]) ?_ ?_
 .by_cases B:r.at_= -1
  .rw[ca B]at m;by_cases U:r.child= -1;case neg=>
    rw[WP U]at m;subst m;apply Bo;apply yW;simp[B];apply AP;simp[k,B];apply yW;simp;apply AP;simp[U];apply yW;simp;refine Aj ⟨_,_,a9,?_⟩;try simp
   rw[ab9 U]at m;subst m;apply Bo;apply yW;simp[B,U];apply AP;simp[k,B,U];apply yW;simp;apply AP;simp;apply CF;exact⟨_,_,a9,by simp,by simp,by simp,by simp,by simp[u,v]⟩
  rw[bv B]at m;by_cases b1:0<=r.at_;case neg=>
   have G:r.at_<0:=by omega
   rw[WP b1,W1]at m;subst m;apply Bo;apply yW;simp;apply AP;simp[k,B];apply yS;apply yH;simp[G];apply AP;simp;apply yW;simp;refine Aj ⟨_,_,a9,?_⟩;try simp
  by_cases b2:r.at_<Z o.right;case neg=>
   have G:¬r.at_<0:=by omega
   have b2':(Z o.right:Int)<=r.at_:=by omega
   rw[WP b2,W1,acG]at m;subst m;apply Bo;apply yW;simp;apply AP;simp[k,B];apply yS;apply yH;simp[G,b2'];apply AP;simp;apply yW;simp;refine Aj ⟨_,_,a9,?_⟩;try simp
  obtain⟨a,ha⟩:∃a:Nat,r.at_=a:=⟨r.at_.toNat,by omega⟩;have C:¬(a:Int)= -1:=by omega
  have m2:¬(a:Int)<0:=by omega
  have W:¬Z o.right<=a:=by omega
  have Y:a<Z o.right:=by omega
  by_cases b3:0<=r.child;case neg=>
   have K:r.child<0:=by omega
   rw[WP b3,W1,acG,acG]at m;subst m;apply Bo;apply yW;simp[ha];apply AP;simp[k,ha,C];apply yS;apply yH;simp[m2,W,K];apply AP;simp;apply yW;simp;refine Aj ⟨_,_,a9,?_⟩;try simp
  by_cases b4:r.child<Z g.AD;case neg=>
   have K:¬r.child<0:=by omega
   have b4':(Z g.AD:Int)<=r.child:=by omega
   rw[WP b4,W1,acG,acG,acG]at m;subst m;apply Bo;apply yW;simp[ha];apply AP;simp[k,ha,C];apply yS;apply yH;simp[m2,W,K,b4'];apply AP;simp;apply yW;simp;refine Aj ⟨_,_,a9,?_⟩;try simp
  obtain⟨c,F⟩:∃c:Nat,r.child=c:=⟨r.child.toNat,by omega⟩;have m4:¬(c:Int)<0:=by omega
  have m5:¬Z g.AD<=c:=by omega
  have hcl:c<Z g.AD:=by omega
  rw[ab9 b1,ab9 b2,ab9 b3,ab9 b4,rx,rx,rx,rx,ha,F]at m;have hpc':CB g (c:Int)=g.AD[c]:=by simp[CB,hcl]
  rw[hpc']at m;generalize hpc:g.AD[c]=q at *;have heq:=AF.eq_1 q;have w:decide (o.right[a]=⟨ap,q.left⟩)=cb:=by
   rw[<-m];simp[Y]
  generalize hsy:o.right[a]=y at *;have hey:=AH.eq_1 y;by_cases b5:y=⟨ap,q.left⟩;case neg=>
   rw[WP b5]at w;subst w;have b5':¬(y.token=ap/\y.index=q.left):=λ⟨z1,z2⟩=>b5 (by cases y;simp only at z1 z2;subst z1;subst z2;rfl);apply Bo;apply yW;simp[ha,F];apply AP;simp[k,ha,F,C];apply yS;apply yH;simp[m2,W,m4,m5];apply AP;simp;refine yD (A7 16 []) (by kernel_rfl) ?_;simp;apply yZ;simp[Y,hsy,hcl,hpc,heq,hey,CT,DZ];apply AP;simp[b5'];refine λ_=>?_;apply yW;simp;refine Aj ⟨_,_,a9,?_⟩;try simp
  rw[ab9 b5]at w;subst w;subst b5;apply Bo;apply yW;simp[ha,F];apply AP;simp[k,ha,F,C];apply yS;apply yH;simp[m2,W,m4,m5];apply AP;simp;refine yD (A7 16 []) (by kernel_rfl) ?_;simp;apply yZ;simp[Y,hsy,hcl,hpc,heq,AH,CT,DZ];apply AP;simp;apply CF;exact⟨_,_,a9,by simp,by simp,by simp,by simp,by simp[u,v]⟩
 rintro tm S ⟨hct,t3,t4,t5,t7,rfl⟩;subst hct;have T:=T rfl;have P:=P rfl;(repeat apply xS);apply yT;apply yJ;simp[t3,t5];refine Bq (P) rfl (by simp[xN]) (yJ ?_);simp;have hH2:(Z H:Int)<=1073741824:=by omega
 apply yW;simp[hH2];apply yW;simp[t5,k];apply yW;simp;apply yW;simp[t4];(repeat apply xS);apply yT;apply yJ;simp[t7,u];refine xF (hsd2) [7,4,6,1,8,5] rfl ?_;simp;cases qb with
 |false=>
  apply yH;simp;apply zT;try simp
 |true=>
  apply yH;simp;apply zT;(try simp);cases qt<;>simp<;>omega
def UR(p i q:Int)(x:Rewrite):Bool:=x.prod==p&&(x.at_==i&&(decide (i<0)||x.child==q))
def VX(m:List Rewrite)(p:Int):Sg:=[.row J 1 [.d (Bb m)],.row J 1 [.d (encI p)]]
def ju(m:List Rewrite)(p i q:Int):Sg:=VX m p++[.row J 1 [.d (encI i)],.row J 1 [.d (encI q)]]
theorem qy(m:List Rewrite)(p i q:Int)(x:Rewrite):AG prog 183 [.d (Aa x),.ptr 1 1 0 0,.ptr 2 1 0 0,.ptr 3 1 0 0] (ju m p i q) (.d (.bool (UR p i q x))) (ju m p i q):=by
 have g:=Aa.eq_1 x;unfold ju VX UR;refine zD func183 26 rfl λwf _=>?_;by_cases h:x.prod=p
 .by_cases j:x.at_=i
  .by_cases k:i<0
   .skip;apply yW;simp[g,h,j];(repeat apply xS);apply yV;simp[k];(apply Aj;refine⟨_,_,_,a9,?_,?_,j1 4 (by simp)⟩<;>simp[BO,h,j,k])
   .skip;apply yW;simp[g,h,j];(repeat apply xS);apply yV;simp[k];(apply Aj;refine⟨_,_,_,a9,?_,?_,j1 4 (by simp)⟩<;>simp[BO,h,j,k])
  .skip;apply yW;simp[g,h];(repeat apply xS);apply yV;simp[j];(apply Aj;refine⟨_,_,_,a9,?_,?_,j1 4 (by simp)⟩<;>simp[BO,h])
 .skip;apply yW;simp[g];(repeat apply xS);apply yV;simp[h];(apply Aj;refine⟨_,_,_,a9,?_,?_,j1 4 (by simp)⟩<;>simp[BO,ac1])
theorem gV(m:List Rewrite)(p i q:Int):AG prog 181 [.d (encI i),.d (encI q),.ptr 0 1 0 0,.ptr 1 1 0 0] (VX m p) (.d (.bool (m.any (UR p i q)))) (VX m p):=by
 have g:=JT m (UR p i q) 183 [.ptr 1 1 0 0,.ptr 2 1 0 0,.ptr 3 1 0 0] (ju m p i q) (λx _=>qy m p i q x);unfold ju VX at g;unfold VX;refine zD func181 10 rfl λwf _=>?_;apply yW;simp;(repeat apply xS);apply yT;apply yJ;simp;refine i9 rfl rfl (by simp) (f:=182) (args:=[.d (.sl (m.map Aa)),.fn (.func 183) [] [.ptr 1 1 0 0,.ptr 2 1 0 0,.ptr 3 1 0 0]]) (by simp[callee];try rfl) (by simp) g (yJ ?_);simp;(apply Aj;refine⟨_,_,_,a9,?_,?_,j1 2 (by simp)⟩<;>simp[BO])
def Qe(g:AE)(m:List Rewrite)(p i:Int)(s:Symbol)(k:Nat):Bool:=(i6 k).all λq=>!decide ((g.AD.getD q G9).left=s.index)||m.any (UR p i q)
theorem Y7(g:AE)(m:List Rewrite)(p i:Int)(s:Symbol)(k:Nat):Qe g m p i s (k+1)=(Qe g m p i s k&&(!decide ((g.AD.getD k G9).left=s.index)||m.any (UR p i k))):=by
 simp[Qe,acf]
def nT(g:AE)(m:List Rewrite)(j i:Nat):Bool:=!((g.AD.getD j G9).right.getD i ⟨J,0⟩).token&&Qe g m j i ((g.AD.getD j G9).right.getD i ⟨J,0⟩) (Z g.AD)
def PX(g:AE)(m:List Rewrite)(j:Nat):Bool:=m.any (UR j (-1) 0)||(i6 (Z (g.AD.getD j G9).right)).any λi=>nT g m j i
theorem aP(g:AE)(m:List Rewrite)(j:Nat)(hj:j<Z g.AD)(hr:Z (g.AD.getD j G9).right<=2 ^ 20):Pure prog 112 [AA g,Bb m,encI j] (.bool (PX g m j)):=by
 have h0:=gV m j (-1) 0;have W:=λ(i q:Nat)=>gV m j i q;unfold VX at h0 W;have ti:∀i,nT g m j i=(!((g.AD.getD j G9).right.getD i ⟨J,0⟩).token&&Qe g m j i ((g.AD.getD j G9).right.getD i ⟨J,0⟩) (Z g.AD)):=λi=>rfl;have eo:g.AD.getD j G9=g.AD[j]:=by simp[hj]
 obtain⟨X,hb⟩:=ce (PX g m j);rw[hb];unfold PX at hb;rw[eo]at hb ti hr;refine hW func112 (by kernel_rfl) rfl (by simp) λwf=>?_;have L:Z g.AD<=a8:=by have:=wf.1;simp[DY,Bm]at this;exact this.2.2.2.2.2.1.1
 have Y:Z g.AD[j].right<=a8:=by unfold a8;omega
 clear wf;generalize M:g.AD[j]=o at *;have N:=AF.eq_1 o;rw[ntmps112];refine xW λK h=>?_;simp;apply h;refine xW λK h=>?_;simp;apply h;refine xS (E5 λK h=>?_);refine xJ ?_;simp;refine xF (h0) [1,2] rfl ?_;simp;refine xJ ?_;simp;refine BY (h _ _ ?_);(try simp only[xQ,reduceIte]);cases H:m.any (UR j (-1) 0)with
 |true=>
  rw[H,Bool.true_or]at hb;subst hb;refine AP ?_;simp;refine xW λK h=>?_;simp;apply h;refine Aj ⟨_,_,a9,?_⟩;try simp
 |false=>
  rw[H,acX]at hb;refine AP ?_;simp;refine xK ?_;refine xS (xW λK h=>?_);simp[hj,M,N];apply h;refine Bo ?_;refine FO (Z o.right) (λi tm S=>tm 3=.ptr 0 1 0 0/\tm 7=.fn (.func 181) [] [.ptr 1 1 0 0,.ptr 2 1 0 0]/\tm 20=.d (Ax o.right)/\tm 21=.d (encI (Z o.right))/\tm 22=.d (encI i)/\(∀k,k<i->nT g m j k=ap)/\S=[.row J 9 [.d (AA g)],.row J 1 [.d (Bb m)],.row J 1 [.d (encI j)]]) (er _) (by simp) ?_;rintro i tm S hi ⟨t3,t7,t20,t21,t22,P,rfl⟩;refine xW λK h=>?_;simp[t21,t22];apply h;refine xC ?_;simp;refine⟨λF=>?_,λzu=>?_⟩
  .have A:=ti i;have eg:o.right.getD i ⟨J,0⟩=o.right[i]:=by simp[F]
   rw[eg]at A;generalize hs:o.right[i]=s at *;have w:=AH.eq_1 s;refine xK ?_;refine xB ?_;refine xW λK h=>?_;simp[t20,t22,F,hs,w];apply h;refine xS (xW λK h=>?_);simp;apply h;cases G:s.token with
   |true=>
    rw[G]at A;refine AP ?_;simp;refine Ci ?_;refine xV λK h=>?_;simp[t22];apply h;refine⟨F,_,_,n8 3 (S':=[.row J 9 [.d (AA g)],.row J 1 [.d (Bb m)],.row J 1 [.d (encI j)]]) rfl (by simp) (by simp) (by simp),?_⟩;simp[clean,AJ,Au,t3,t7,t20,t21,AK F Y];intro k hk;by_cases e:k=i
    .subst e;simpa using A
    .exact P k (by omega)
   |false=>
    rw[G]at A;refine AP ?_;simp;refine xK ?_;refine xW λK h=>?_;simp;apply h;refine m7 (R:=λtm S=>tm 3=.ptr 0 1 0 0/\tm 7=.fn (.func 181) [] [.ptr 1 1 0 0,.ptr 2 1 0 0]/\tm 10=.d (.bool (Qe g m j i s (Z g.AD)))/\tm 20=.d (Ax o.right)/\tm 21=.d (encI (Z o.right))/\tm 22=.d (encI i)/\S=[.row J 9 [.d (AA g)],.row J 1 [.d (Bb m)],.row J 1 [.d (encI j)],.row J 2 [.d (AH s)]]) ?_ ?_
    .refine xW λK h=>?_;simp[t3];apply h;refine Bo ?_;refine FO (Z g.AD) (λq tm S=>tm 3=.ptr 0 1 0 0/\tm 7=.fn (.func 181) [] [.ptr 1 1 0 0,.ptr 2 1 0 0]/\tm 8=.d (encI i)/\tm 9=.ptr 3 1 0 0/\tm 10=.d (.bool (Qe g m j i s q))/\tm 20=.d (Ax o.right)/\tm 21=.d (encI (Z o.right))/\tm 22=.d (encI i)/\tm 31=.d (encI (Z g.AD))/\tm 32=.d (encI q)/\S=[.row J 9 [.d (AA g)],.row J 1 [.d (Bb m)],.row J 1 [.d (encI j)],.row J 2 [.d (AH s)]]) (er _) (by simp[t3,t7,t20,t21,t22,w,G,Qe]) ?_;rintro q tm S hqi ⟨t3,t7,t8,t9,t10,t20,t21,t22,t31,t32,rfl⟩;refine xW λK h=>?_;simp[t31,t32];apply h;refine xC ?_;simp;refine⟨λv=>?_,λhgq=>?_⟩
     .have E:=Y7 g m j i s q;have eq:g.AD.getD q G9=g.AD[q]:=by simp[v]
      rw[eq]at E;generalize B:g.AD[q]=u at *;have C:=AF.eq_1 u;have Q:=W i q;refine xK ?_;refine xB ?_;(repeat refine xS ?_);refine xV λK h=>?_;simp[t32];refine h _ _ ?_;(try simp only[xQ,reduceIte]);cases ha:Qe g m j i s q with
      |false=>
       rw[ha]at t10 E;refine xE (A7 19 []) (by kernel_rfl) λK h=>?_;simp;refine xZ ?_;simp[t10];refine xM (h _ _ ?_);refine xV λK h=>?_;simp[t32];apply h;refine⟨v,_,_,a9,?_⟩;simp[t3,t7,t8,t9,t20,t21,t22,t31,E,AK v L]
      |true=>
       rw[ha]at t10 E;by_cases e:u.left=s.index
       .refine xE (A7 19 []) (by kernel_rfl) λK h=>?_;simp;refine xZ ?_;simp[t3,t9,t10,v,B,C,w,e,t7,t8];refine Ab.Ob Q [1,2] rfl rfl (by simp;try rfl) ?_;simp;refine xZ ?_;simp;refine xM (h _ _ ?_);refine xV λK h=>?_;simp[t32];apply h;refine⟨v,_,_,a9,?_⟩;simp[t3,t7,t8,t9,t20,t21,t22,t31,E,e,w,AK v L]
       ·(repeat refine xS ?_);refine xE (A7 19 []) (by kernel_rfl) λK h=>?_;simp;(repeat((first|refine PW rfl rfl ?_ ?_;(·simp[e])|refine gT rfl rfl ?_ ?_;(·simp[t3,t9,v,B,C,e])|refine Hs ?_ ?_;(·simp[w]));simp[t3,t9,t10,v,B,C,w]));refine xM (h _ _ ?_);(try simp only[B5,A2]);refine xV λK h=>?_;simp[t32];apply h;refine⟨v,_,_,a9,?_⟩;simp[t3,t7,t8,t9,t20,t21,t22,t31,E,e,w,AK v L]
     .have e:q=Z g.AD:=by omega
      subst e;refine Ci ?_;simp[t3,t7,t10,t20,t21,t22]
    rintro tm S ⟨t3,t7,t10,t20,t21,t22,rfl⟩;(repeat refine xS ?_);refine xV λK h=>?_;simp[t10];refine h _ _ ?_;(try simp only[xQ,reduceIte]);cases ha:Qe g m j i s (Z g.AD) with
    |true=>
     rw[ha]at A;have T:X=true:=by
      rw[<-hb,abT];exact⟨i,rv.2 F,by simpa using A⟩
     subst T;refine AP ?_;simp;refine xW λK h=>?_;simp;apply h;refine Aj ⟨_,_,a9,?_⟩;try simp
    |false=>
     rw[ha]at A;refine AP ?_;simp;refine CF ?_;refine xV λK h=>?_;simp[t22];apply h;refine⟨F,_,_,n8 3 (S':=[.row J 9 [.d (AA g)],.row J 1 [.d (Bb m)],.row J 1 [.d (encI j)]]) rfl (by simp) (by simp) (by simp),?_⟩;simp[clean,AJ,Au,t3,t7,t20,t21,AK F Y];intro k hk;by_cases e:k=i
     .subst e;simpa using A
     .exact P k (by omega)
  .have e:i=Z o.right:=by omega
   subst e;have U:X=false:=by
    rw[<-hb];cases hx:(i6 (Z o.right)).any λi=>nT g m j i with
    |false=>rfl
    |true=>
     obtain⟨i0,h1,h2⟩:=abT.1 hx;rw[P i0 (rv.1 h1)]at h2;cases h2
   subst U;refine Ci ?_;refine xW λK h=>?_;simp;apply h;refine Aj ⟨_,_,a9,?_⟩;try simp
def okF(g:AE):Prop:=B3 g=0/\¬Rw g
theorem D0{g:AE}:MD g=0↔okF g:=by
 unfold MD pB okF;by_cases h:B3 g=0
 .rw[bv (by simpa using h)];by_cases i:Rw g
  .rw[ca i];simp[h,i]
  .rw[bv i];simp[h,i]
 .rw[ca h];simp[h]
theorem Hd(g:AE)(i:Z g.conds<=12):Pure prog 22 [AA g] (encI (MD g)):=
 BH.aA ((SF g i).mono λ_ _ h=>⟨h.2,h.1⟩)
theorem mR{g:AE}(h:B3 g=0):tN g:=λp k q m o=>by
 have i:=oC h p k q m;unfold Fi at i;rw[ca o]at i;simp at i;obtain⟨i,j⟩:=i;split at j
 .rename_i t u;have:=(gq.1 u).1;exact⟨i,by omega⟩
 .cases j
def Jg(g h:AE)(p:Nat):Bool:=decide (p<Z h.AD)&&(decide ((h.AD.getD p G9).left=(g.AD.getD p G9).left)&&decide ((h.AD.getD p G9).right=(g.AD.getD p G9).right))
noncomputable def cE(g h:AE)(m:List Rewrite):Int:=
 if MD g≠0 then MD g else if MD h≠0 then MD h else if Z h.AT<Z g.AT\/Z h.A0<Z g.A0 then 92
 else if m.all (K9 g h)=J/\((i6 (Z g.AD)).all λp=>Jg g h p||PX g m p)=J then 0 else 92
theorem TJ(g h:AE)(m:List Rewrite)(hg:Z g.conds<=12)(hh:Z h.conds<=12):Pure prog 26 [AA g,AA h,Bb m] (encI (cE g h m)):=by
 have fg:=Hd g hg;have fh:=Hd h hh;have hgz:MD g=0->B3 g=0:=λe=>(D0.1 e).1;have hhz:MD h=0->B3 h=0:=λe=>(D0.1 e).1;obtain⟨E,v⟩:=ce (cE g h m);rw[v];unfold cE at v;generalize MD g=eg at *;generalize MD h=eh at *;refine AG.Gp func26 (by kernel_rfl) rfl (by simp) λwf _=>?_;have Y:Z g.AD<=a8:=by have:=wf.1;simp[Ij,DY,Bm]at this;exact this.2.2.2.2.2.1.1
 have a2:Z m<=a8:=by have:=wf.2.2.1;simp[Ij,DY]at this;exact this.1
 clear wf;have z1:b8 .i64 1=1:=by decide
 have z2:b8 .i64 2=2:=by decide
 rw[ntmps26];refine xW λK j=>?_;simp;apply j;refine m7 (R:=λtm S=>tm 2=.d (Bb m)/\tm 3=.ptr 0 1 0 0/\tm 4=.ptr 1 1 0 0/\eg=0/\eh=0/\S=[.row J 9 [.d (AA g)],.row J 9 [.d (AA h)]]) ?_ ?_
 .refine xW λK j=>?_;simp[a8];apply j;refine Bo ?_;refine FO 2 (λi tm S=>tm 2=.d (Bb m)/\tm 3=.ptr 0 1 0 0/\tm 4=.ptr 1 1 0 0/\tm 16=.full [AA g,AA h]/\tm 17=.d (encI 2)/\tm 18=.d (encI i)/\(i≠0->eg=0)/\(i=2->eh=0)/\S=[.row J 9 [.d (AA g)],.row J 9 [.d (AA h)]]) (er _) (by simp) ?_;rintro i tm S hi ⟨t2,t3,t4,t16,t17,t18,g1,g2,rfl⟩;have h3:i=0\/i=1\/i=2:=by omega
  rcases h3 with rfl|rfl|rfl
  .refine xW λK j=>?_;simp[t17,t18];apply j;refine xC ?_;simp;refine xK ?_;refine xB ?_;refine xW λK j=>?_;simp[t16,t18];apply j;(repeat refine xS ?_);refine FG λK j=>?_;refine xJ ?_;simp;refine Bq (fg) rfl (by simp[xN]) ?_;simp;refine xJ ?_;simp;refine BY (j _ _ ?_);(try simp only[xQ,reduceIte]);by_cases F:eg=0
   .refine xW λK j=>?_;simp[F];apply j;refine AP ?_;simp[F];refine CF ?_;refine xV λK j=>?_;simp[t18];apply j;refine⟨_,_,n8 2 (S':=[.row J 9 [.d (AA g)],.row J 9 [.d (AA h)]]) rfl (by simp) (by simp) (by simp),?_⟩;simp[clean,AJ,t2,t3,t4,t16,t17,z1]
   .refine xW λK j=>?_;simp;apply j;refine AP ?_;simp[F];rw[ca F]at v;subst v;refine xW λK j=>?_;simp;apply j;(refine Aj ?_;(try simp only[xQ,reduceIte]);refine⟨_,_,_,a9,?_,?_,gc 0 (S':=[]) rfl (by simp)⟩<;>simp[BO])
  .refine xW λK j=>?_;simp[t17,t18];apply j;refine xC ?_;simp;refine xK ?_;refine xB ?_;refine xW λK j=>?_;simp[t16,t18];apply j;(repeat refine xS ?_);refine FG λK j=>?_;refine xJ ?_;simp;refine Bq (fh) rfl (by simp[xN]) ?_;simp;refine xJ ?_;simp;refine BY (j _ _ ?_);(try simp only[xQ,reduceIte]);by_cases F:eh=0
   .refine xW λK j=>?_;simp[F];apply j;refine AP ?_;simp[F];refine CF ?_;refine xV λK j=>?_;simp[t18];apply j;refine⟨_,_,n8 2 (S':=[.row J 9 [.d (AA g)],.row J 9 [.d (AA h)]]) rfl (by simp) (by simp) (by simp),?_⟩;simp[clean,AJ,t2,t3,t4,t16,t17,z2,g1 (by decide)]
   .refine xW λK j=>?_;simp;apply j;refine AP ?_;simp[F];rw[bv (by simpa using g1 (by decide)),ca F]at v;subst v;refine xW λK j=>?_;simp;apply j;(refine Aj ?_;(try simp only[xQ,reduceIte]);refine⟨_,_,_,a9,?_,?_,gc 0 (S':=[]) rfl (by simp)⟩<;>simp[BO])
  .refine xW λK j=>?_;simp[t17,t18];apply j;refine xC ?_;simp;refine Ci ?_;simp[t2,t3,t4,g1 (by decide),g2 rfl]
 rintro tm S ⟨t2,t3,t4,rfl,rfl,rfl⟩;rw[bv (by simp),bv (by simp)]at v;have hg0:=hgz rfl;have hh0:=hhz rfl;have U:=D9 hg0;have hs:=aU g h (λp N=>by have:=U p N;omega) (mR hh0);have N:∀p,p<Z g.AD->_:=λp N=>aP g m p N (by
  have:=U _ (cL N);simp[N];omega)
 by_cases c1:Z h.AT<Z g.AT;case pos=>
  rw[ca (.inl c1)]at v;subst v;have B:(Z h.AT:Int)<Z g.AT:=by omega
  refine xS (E5 λK j=>?_);refine xH ?_;simp[t3,t4,B];refine BY (j _ _ ?_);(try simp only[xQ,reduceIte]);refine AP ?_;simp;(repeat refine xS ?_);refine xV λK j=>?_;simp;refine j _ _ ?_;(try simp only[xQ,reduceIte]);(refine Aj ?_;(try simp only[xQ,reduceIte]);refine⟨_,_,_,a9,?_,?_,gc 0 (S':=[]) rfl (by simp)⟩<;>simp[BO])
 have B:¬(Z h.AT:Int)<Z g.AT:=by omega
 by_cases W:Z h.A0<Z g.A0;case pos=>
  rw[ca (.inr W)]at v;subst v;have H:(Z h.A0:Int)<Z g.A0:=by omega
  refine xS (E5 λK j=>?_);refine xH ?_;simp[t3,t4,B,H];refine BY (j _ _ ?_);(try simp only[xQ,reduceIte]);refine AP ?_;simp;(repeat refine xS ?_);refine xV λK j=>?_;simp;refine j _ _ ?_;(try simp only[xQ,reduceIte]);(refine Aj ?_;(try simp only[xQ,reduceIte]);refine⟨_,_,_,a9,?_,?_,gc 0 (S':=[]) rfl (by simp)⟩<;>simp[BO])
 have H:¬(Z h.A0:Int)<Z g.A0:=by omega
 rw[bv (by omega)]at v;refine xS (E5 λK j=>?_);refine xH ?_;simp[t3,t4,B,H];refine BY (j _ _ ?_);(try simp only[xQ,reduceIte]);refine AP ?_;simp;refine xK ?_;refine m7 (R:=λtm S=>tm 2=.d (Bb m)/\tm 3=.ptr 0 1 0 0/\tm 4=.ptr 1 1 0 0/\(∀x∈m,K9 g h x=J)/\S=[.row J 9 [.d (AA g)],.row J 9 [.d (AA h)]]) ?_ ?_
 .refine xW λK j=>?_;simp[t2];apply j;refine Bo ?_;refine FO (Z m) (λi tm S=>tm 2=.d (Bb m)/\tm 3=.ptr 0 1 0 0/\tm 4=.ptr 1 1 0 0/\tm 44=.d (Bb m)/\tm 45=.d (encI (Z m))/\tm 46=.d (encI i)/\(∀x∈m.take i,K9 g h x=J)/\S=[.row J 9 [.d (AA g)],.row J 9 [.d (AA h)]]) (er _) (by simp[t2,t3,t4]) ?_;rintro i tm S hi ⟨t2,t3,t4,t44,t45,t46,T,rfl⟩;refine xW λK j=>?_;simp[t45,t46];apply j;refine xC ?_;simp;refine⟨λw=>?_,λzu=>?_⟩
  .have hsx:=hs m[i];have htk:=pt w;have X:=cL w;generalize hx:m[i]=x at *;have zh:=Aa.eq_1 x;refine xK ?_;refine xB ?_;refine xW λK j=>?_;simp[t44,t46,w,hx,zh];apply j;refine E5 λK j=>?_;refine xJ ?_;simp[t3,t4];refine Bq (hsx) rfl (by simp[xN]) ?_;simp;refine xJ ?_;simp;refine BY (j _ _ ?_);cases P:K9 g h x with
   |false=>
    rw[bv (λhc=>by have:=ed.1 hc.1 x X;rw[P]at this;cases this)]at v;subst v;refine AP ?_;simp;(repeat refine xS ?_);refine xV λK j=>?_;simp;refine j _ _ ?_;(try simp only[xQ,reduceIte]);(refine Aj ?_;(try simp only[xQ,reduceIte]);refine⟨_,_,_,a9,?_,?_,gc 0 (S':=[]) rfl (by simp)⟩<;>simp[BO])
   |true=>
    refine AP ?_;simp;refine CF ?_;refine xV λK j=>?_;simp[t46];apply j;refine⟨w,_,_,n8 2 (S':=[.row J 9 [.d (AA g)],.row J 9 [.d (AA h)]]) rfl (by simp) (by simp) (by simp),?_⟩;refine⟨by simp[clean,AJ,t2],by simp[clean,AJ,t3],by simp[clean,AJ,t4],by simp[clean,AJ,t44],by simp[clean,AJ,t45],by simp[clean,AJ,AK w a2],?_,rfl⟩;intro y A;rw[htk]at A;rcases fi.1 A with A|A
    .exact T y A
    .rw[go.1 A];exact P
  .have e:i=Z m:=by omega
   subst e;rw[ns]at T;refine Ci ?_;(try simp only[B5,A2,reduceIte]);exact⟨t2,t3,t4,T,trivial⟩
 rintro tm S ⟨t2,t3,t4,hms,rfl⟩;refine m7 (R:=λtm S=>∀p,p<Z g.AD->Jg g h p=J\/PX g m p=J) ?_ ?_
 .refine xW λK j=>?_;simp[t3];apply j;refine Bo ?_;refine FO (Z g.AD) (λi tm S=>tm 2=.d (Bb m)/\tm 3=.ptr 0 1 0 0/\tm 4=.ptr 1 1 0 0/\tm 57=.d (CJ g.AD)/\tm 58=.d (encI (Z g.AD))/\tm 59=.d (encI i)/\(∀p,p<i->Jg g h p=J\/PX g m p=J)/\S=[.row J 9 [.d (AA g)],.row J 9 [.d (AA h)]]) (er _) (by simp[t2,t3,t4]) ?_;rintro i tm S hi ⟨t2,t3,t4,t57,t58,t59,T,rfl⟩;refine xW λK j=>?_;simp[t58,t59];apply j;refine xC ?_;simp;refine⟨λw=>?_,λzu=>?_⟩
  .have Q:=N i w;have o:Jg g h i=_:=Jg.eq_1 g h i;have hgi:g.AD.getD i G9=g.AD[i]:=by simp[w]
   rw[hgi]at o;have u:(Jg g h i=J\/PX g m i=J)->∀p,p<i+1->Jg g h p=J\/PX g m p=true:=λhb p N=>by
    by_cases e:p=i
    .subst e;exact hb
    .exact T p (by omega)
   have L:(Jg g h i||PX g m i)=ap->E=92:=λhb=>by
    rw[bv (λhc=>by have:=ed.1 hc.2 i (rv.2 w);rw[hb]at this;cases this)]at v;exact v.symm
   refine xK ?_;refine xB ?_;generalize hx:g.AD[i]=x at *;have zh:=AF.eq_1 x;generalize Jg g h i=sb at *;generalize PX g m i=tb at *;(repeat refine xS ?_);refine xV λK j=>?_;simp[t57,t59,w,hx,zh];refine j _ _ ?_;(try simp only[xQ,reduceIte]);by_cases C:i<Z h.AD
   .have q:(i:Int)<Z h.AD:=by omega
    have hhi:h.AD.getD i G9=h.AD[i]:=by simp[C]
    rw[hhi,ab9 C,rx]at o;generalize A:h.AD[i]=y at *;have k:=AF.eq_1 y;by_cases G:y.left=x.left
    .have heq:=Sj y.right x.right;rw[ab9 G,rx]at o;refine xS ?_;refine xD (A7 27 []) (by kernel_rfl) λK j=>?_;simp;refine xZ ?_;simp[t4,C,q,A,k,G];refine Ab.C0 (ds:=[Ax y.right,Ax x.right]) rfl rfl (by simp;rfl) (λ_=>heq) (by simp[xN]) ?_;simp;refine xZ ?_;simp;refine xM (j _ _ ?_);(try simp only[xQ,reduceIte]);by_cases e3:y.right=x.right
     .rw[ab9 e3]at o;subst o;refine AP ?_;simp[e3];refine Ci ?_;refine xV λK j=>?_;simp[t59];apply j;refine⟨w,_,_,n8 2 (S':=[.row J 9 [.d (AA g)],.row J 9 [.d (AA h)]]) rfl (by simp) (by simp) (by simp),?_⟩;exact⟨by simp[clean,AJ,t2],by simp[clean,AJ,t3],by simp[clean,AJ,t4],by simp[clean,AJ,t57],by simp[clean,AJ,t58],by simp[clean,AJ,AK w Y],u (by simp),rfl⟩
     .rw[WP e3]at o;subst o;refine AP ?_;simp[e3];refine xK ?_;refine E5 λK j=>?_;refine xJ ?_;simp[t2,t3];refine Bq (Q) rfl (by simp[xN]) ?_;simp;refine xJ ?_;simp;refine BY (j _ _ ?_);cases tb with
      |true=>
       refine AP ?_;simp;refine CF ?_;refine xV λK j=>?_;simp[t59];apply j;refine⟨w,_,_,n8 2 (S':=[.row J 9 [.d (AA g)],.row J 9 [.d (AA h)]]) rfl (by simp) (by simp) (by simp),?_⟩;exact⟨by simp[clean,AJ,t2],by simp[clean,AJ,t3],by simp[clean,AJ,t4],by simp[clean,AJ,t57],by simp[clean,AJ,t58],by simp[clean,AJ,AK w Y],u (by simp),rfl⟩
      |false=>
       have M:=L rfl;subst M;refine AP ?_;simp;(repeat refine xS ?_);refine xV λK j=>?_;simp;refine j _ _ ?_;(try simp only[xQ,reduceIte]);(refine Aj ?_;(try simp only[xQ,reduceIte]);refine⟨_,_,_,a9,?_,?_,gc 0 (S':=[]) rfl (by simp)⟩<;>simp[BO])
    .rw[WP G,W1]at o;subst o;refine xS ?_;refine xD (A7 27 []) (by kernel_rfl) λK j=>?_;simp;(repeat((first|refine PW rfl rfl ?_ ?_;(·simp[G])|refine gT rfl rfl ?_ ?_;(·simp[t4,C,q,A,k])|refine Hs ?_ ?_;(·simp[t4,G]));simp[t4,C,q,A,k]));refine xM (j _ _ ?_);(try simp only[B5,A2,reduceIte]);refine AP ?_;simp;refine xK ?_;refine E5 λK j=>?_;refine xJ ?_;simp[t2,t3];refine Bq (Q) rfl (by simp[xN]) ?_;simp;refine xJ ?_;simp;refine BY (j _ _ ?_);cases tb with
     |true=>
      refine AP ?_;simp;refine CF ?_;refine xV λK j=>?_;simp[t59];apply j;refine⟨w,_,_,n8 2 (S':=[.row J 9 [.d (AA g)],.row J 9 [.d (AA h)]]) rfl (by simp) (by simp) (by simp),?_⟩;exact⟨by simp[clean,AJ,t2],by simp[clean,AJ,t3],by simp[clean,AJ,t4],by simp[clean,AJ,t57],by simp[clean,AJ,t58],by simp[clean,AJ,AK w Y],u (by simp),rfl⟩
     |false=>
      have M:=L rfl;subst M;refine AP ?_;simp;(repeat refine xS ?_);refine xV λK j=>?_;simp;refine j _ _ ?_;(try simp only[xQ,reduceIte]);(refine Aj ?_;(try simp only[xQ,reduceIte]);refine⟨_,_,_,a9,?_,?_,gc 0 (S':=[]) rfl (by simp)⟩<;>simp[BO])
   .have q:¬(i:Int)<Z h.AD:=by omega
    rw[WP C,W1]at o;subst o;refine xS ?_;refine xD (A7 27 []) (by kernel_rfl) λK j=>?_;simp;refine xZ ?_;simp[t4,q];refine xM (j _ _ ?_);(try simp only[xQ,reduceIte]);refine AP ?_;simp;refine xK ?_;refine E5 λK j=>?_;refine xJ ?_;simp[t2,t3];refine Bq (Q) rfl (by simp[xN]) ?_;simp;refine xJ ?_;simp;refine BY (j _ _ ?_);cases tb with
    |true=>
     refine AP ?_;simp;refine CF ?_;refine xV λK j=>?_;simp[t59];apply j;refine⟨w,_,_,n8 2 (S':=[.row J 9 [.d (AA g)],.row J 9 [.d (AA h)]]) rfl (by simp) (by simp) (by simp),?_⟩;exact⟨by simp[clean,AJ,t2],by simp[clean,AJ,t3],by simp[clean,AJ,t4],by simp[clean,AJ,t57],by simp[clean,AJ,t58],by simp[clean,AJ,AK w Y],u (by simp),rfl⟩
    |false=>
     have M:=L rfl;subst M;refine AP ?_;simp;refine xW λK j=>?_;simp;apply j;(refine Aj ?_;(try simp only[xQ,reduceIte]);refine⟨_,_,_,a9,?_,?_,gc 0 (S':=[]) rfl (by simp)⟩<;>simp[BO])
  .have e:i=Z g.AD:=by omega
   subst e;refine Ci ?_;exact T
 rintro tm S hpt;rw[ca ⟨ed.2 hms,ed.2 λp N=>by simpa using hpt p (rv.1 N)⟩]at v;subst v;(repeat refine xS ?_);refine xV λK j=>?_;simp;refine j _ _ ?_;(try simp only[xQ,reduceIte]);(refine Aj ?_;(try simp only[xQ,reduceIte]);refine⟨_,_,_,a9,?_,?_,gc 0 (S':=[]) rfl (by simp)⟩<;>simp[BO])
def KW:AE:=⟨[⟨#[65]⟩,⟨#[66]⟩],Dg,De,[⟨#[69]⟩,⟨#[79]⟩],[⟨⟨#[110,117,109]⟩,0,[⟨J,0⟩],Dg,ap,0,[],Ay⟩,⟨⟨#[98,105,110]⟩,0,[⟨ap,0⟩,⟨ap,1⟩,⟨ap,0⟩],Dg,ap,0,[],Ay⟩,⟨⟨#[112,108,117,115]⟩,1,[⟨J,1⟩],Dg,ap,0,[],Ay⟩,⟨⟨#[116,105,109,101,115]⟩,1,[⟨J,2⟩],Dg,ap,0,[],Ay⟩],0,[],[]⟩
def xa:AL:=⟨[],0⟩
theorem Pz{d:AL}(h:d=Dg\/d=xa)(n:Int):B1 d n=true:=by
 have g:Valid d:=by
  rcases h with rfl|rfl
  .exact⟨.leaf J,trivial,rfl⟩
  .exact⟨.leaf ap,trivial,rfl⟩
 have i:d.nodes=[]:=by rcases h with rfl|rfl<;>rfl
 simp[B1,F7,g,i]
def SD(g:AE):List ByteArray->List AO->Bool
 |_,[]=>J
 |L,p::l=>Es g p&&!Fm L p.name&&(decide (p.cond=Dg)||decide (p.cond=xa))&&decide (-1<=p.EB)&&decide (p.EB<=1)&&IQ p&&SD g (L++[p.name]) l
theorem Q4(g:AE):∀(l:List AO) (L:List ByteArray),SD g L l=J->Cs g L l=0
 |[],_,_=>rfl
 |p::l,L,h=>by
  simp[SD]at h;obtain⟨⟨⟨⟨⟨⟨i,j⟩,k⟩,m⟩,o⟩,q⟩,u⟩:=h;have v:HR g p=true:=by simp[HR,Pz k,m,o,q]
  simp[Cs,i,j,v,Q4 g l _ u]
def mU(t:Token):Bool:=decide (0<=t.cls)&&decide (t.cls<=2)&&decide (t.cond=Dg)&&Kr t
theorem MS:DH [⟨#[]⟩] (De.map (·.name))=J/\De.all mU=true:=by decide+kernel
def ym(g:AE):Bool:=!Cq g&&Hp g&&SD g [⟨#[]⟩] g.AD
theorem Se(A0:List ByteArray)(AD:List AO)(h:ym ⟨[⟨#[65]⟩,⟨#[66]⟩],Dg,De,A0,AD,0,[],[]⟩=J):B3 ⟨[⟨#[65]⟩,⟨#[66]⟩],Dg,De,A0,AD,0,[],[]⟩=0:=by
 generalize i:(⟨[⟨#[65]⟩,⟨#[66]⟩],Dg,De,A0,AD,0,[],[]⟩:AE)=g at *;simp[ym]at h;obtain⟨⟨j,k⟩,m⟩:=h;have o:En g=true:=by
  subst i;have:([⟨#[65]⟩,⟨#[66]⟩]:List ByteArray).all FF&&DH [⟨#[]⟩] [⟨#[65]⟩,⟨#[66]⟩]=true:=by unfold FF;decide+kernel
  simp only[En,Pz (.inl rfl)];rfl
 have q:Eh g=true:=by
  subst i;simp[Eh,MS.1];intro t u;have:=ed.1 MS.2 t u;simp[mU]at this;simp[Hg,this.1.1.1,this.1.1.2,Pz (.inl this.1.2),this.2]
 have v:Cs g [⟨#[]⟩] g.AD=0:=Q4 g _ _ m;have w:EH g [] g.levels=true:=by subst i;rfl
 have A:Du g=true:=by subst i;rfl
 simp[B3,j,DN,o,q,k,v,w,A,FY]
def zB(g:AE):Bool:=g.AD.all λp=>match p.right with|[]=>ap|[s]=>s.token|_=>J
theorem X0(g:AE)(h:zB g=J):¬Rw g:=Kl.none <| XC.sJ λp k=>by
 have:=ed.1 h p k;cases j:p.right with
 |nil=>rw[j]at this;simp at this
 |cons a l=>
  rw[j]at this;cases l with
  |nil=>refine⟨by simp,λs i=>?_⟩;cases i;exact this
  |cons b l=>exact⟨by simp,λs i=>by simp at i⟩
theorem JE:okF KW:=⟨Se _ _ (by decide+kernel),X0 _ (by decide+kernel)⟩
theorem qY:Pure prog 12 [] (AA KW):=by
 have j:=B8 J;simp at j;have g:=(H2 [⟨#[69]⟩,⟨#[79]⟩]).Fg (args':=[.full [.str ⟨#[69]⟩,.str ⟨#[79]⟩]]) rfl λi h m=>by
  match i,h with
  |0,_=>exact .inr ⟨By [⟨#[69]⟩,⟨#[79]⟩],by simp[BO],rfl⟩
 have k:ByteArray.empty=(⟨#[]⟩:ByteArray):=rfl;refine zP func12 27 rfl λwf=>?_;apply yW;simp;apply yS;apply yJ;simp[a8];refine xF (g) [] rfl ?_;simp;apply yJ;simp[IV];apply yS;apply yJ;simp;refine Bq (j) rfl (by simp) (yJ ?_);simp[AB];refine yD (A7 20 [41]) (by kernel_rfl) ?_;simp;apply yA 1;simp;refine B6 (Ds 0) rfl (by simp[a8]) ?_;simp;apply yA 1;simp[a8];refine B6 (E9 0) rfl (by simp[a8,xN]) ?_;simp;refine B6 (E9 1) rfl (by simp[a8,xN]) ?_;simp;refine B6 (E9 0) rfl (by simp[a8,xN]) ?_;simp;apply yA 1;simp[a8];refine B6 (Ds 1) rfl (by simp[a8,xN]) ?_;simp;apply yA 1;simp[a8];refine B6 (Ds 2) rfl (by simp[a8,xN]) ?_;simp;apply yA 1;simp[a8];apply xX 1048575 (by kernel_rfl);simp[AY,Ak,a8];apply xM;apply yW;simp;apply Aj;refine⟨_,_,a9,?_⟩;simp[BO,AA,KW,AF,Ay,Dg]
end Go.Koi
