/-
  Part 12 of the proof that the law ChangeLeaves returns true for every input.
-/
import Derived.Test.YtflldgdbdipagaaGreatDoorG10
set_option maxHeartbeats 64000000
set_option maxRecDepth 100000
open List renaming length->Z,map->q6,replicate->ke,range->kv
open Go.IntKind renaming wrap->bv
open Bool renaming true->J,false->am
open Go renaming maxLen->ao
open ByteArray renaming empty->gs
open Go.Koi.D renaming int->bi
namespace Go.Koi
open Go.Proofs Tryz
def cC(n k:Nat):Symbol:=if k % 14<9 then⟨J,(k % 14:Nat)⟩else⟨am,((k % 14 - 9) % n:Nat)⟩
def Jf(n:Nat)(x:Hq)(i:Nat):List Symbol:=(x.right.take i).map (cC n)
def J8:V:=.agg [.full [],.full [],.d (.int .i64 0),.full [],.full [],.full [],.d (.int .i64 0),.full [],.full []]
def tI(g:AD)(x:Hq)(nm:ByteArray)(h:Nat)(r:List Symbol)(w:Bool):Sg:=
 [.row J 9 [.d (AA g)],.row J 4 [.d (CY x)],.row J 9 [J8],.row J 13 [.agg [.d (.str nm),.d (.int .i64 h),.row 4 (Z r),.d (.sl []),.d (.int .i64 1),.d (.bool am),.d (.int .i64 0),.full [],.d (.bool am),.d (.int .i64 0),.d (.int .i64 0),.d (.int .i64 0),.d (.int .i64 0)]],.row w 2 (r.map λs=>.d (AI s))]
def SX(n:Nat)(x:Hq):Nat->Int
 |0=>0
 |i+1=>if x.right.getD i 0 % 14<9 then bv .i64 (SX n x i+1)else SX n x i
def ay(n g:Nat)(x:Hq):Nat->Bool
 |0=>J
 |i+1=>if x.right.getD i 0 % 14<9 then ay n g x i else ay n g x i&&decide (g<(x.right.getD i 0 % 14 - 9) % n)
theorem Nm{n i:Nat}{x:Hq}(h:i<Z x.right):Jf n x (i+1)=Jf n x i++[cC n x.right[i]]:=by
 unfold Jf;rw[vj h,xv];rfl
theorem Uo{n i:Nat}{x:Hq}(h:i<=Z x.right):Z (Jf n x i)=i:=by
 unfold Jf;rw[oj,abM];omega
structure pZ(nm:ByteArray)(l:Int)(r:List Symbol)(c:AO)(q:AM):Prop where
 name:q.name=nm
 left:q.left=l
 right:q.right=r
 cond:q.cond=c
 r1:-1<=q.EC
 r2:q.EC<=1
 wi:Is q=J
 lay:Z q.layout<=1
theorem jM(nm:ByteArray)(l:Int)(r:List Symbol)(c:AO)(k:Int)(h1:-1<=k)(g:k<=1):pZ nm l r c {pl nm l r c with EC:=k}:=
 ⟨rfl,rfl,rfl,rfl,h1,g,by simp[pl,Is,Df,Az],by simp[pl]⟩
theorem Lv(nm:ByteArray)(l:Int)(r:List Symbol)(c:AO):pZ nm l r c (pl nm l r c):=jM nm l r c 0 (by omega) (by omega)
theorem sD(nm:ByteArray)(l:Int)(r:List Symbol)(c:AO):pZ nm l r c {pl nm l r c with bracket:=Ti l r}:=by
 refine⟨rfl,rfl,rfl,rfl,by simp[pl],by simp[pl],?_,by simp[pl]⟩;cases hb:Ti l r with
 |false=>simp[pl,Is,Df,Az]
 |true=>
  simp[Ti]at hb;obtain⟨h0,h1,g⟩:=hb;match r,h0 with
  |[a,b,d],_=>
   simp at h1 g;obtain⟨h,i⟩:=b;simp only at h1 g;simp[pl,Is,Df,Az,h1.1.1,h1.1.2,h1.2,g]
theorem qi(nm:ByteArray)(l:Int)(r:List Symbol)(c:AO)(k:Nat)(h0:0<Z r):pZ nm l r c {pl nm l r c with layout:=[⟨1+(k % 4:Nat),(k / 4 % Z r:Nat),if k % 4=0 then 0 else(Z r:Int) - 1⟩]}:=by
 refine⟨rfl,rfl,rfl,rfl,by simp[pl],by simp[pl],?_,by simp⟩;have h1:k / 4 % Z r<Z r:=pm _ h0;have i:k % 4<4:=pm _ (by omega);generalize k / 4 % Z r=a at *;generalize k % 4=m at *;have g:(a:Int)<Z r:=by omega
 by_cases h:m=0
 .subst h;simp[pl,Is,Df,Az,M8,NT,g,h0]
 .have:(m:Int)≠0:=by omega
  simp[pl,Is,Df,Az,M8,NT,g,h];omega
theorem mZ(nm:ByteArray)(l:Int)(r:List Symbol)(c:AO):pZ nm l r c {pl nm l r c with scope:=⟨J,0,0,0,0⟩}:=
 ⟨rfl,rfl,rfl,rfl,by simp[pl],by simp[pl],by simp[pl,Is,Df],by simp[pl]⟩
theorem Yg{p:AM}{k:Nat}(g:k<Z p.right)(h:(p.right.getD k XO).token=J)(v lo hi:Int)(h1:lo<=v)(i:v<=hi):Df p ((k:Int)+1) v lo hi=true:=by
 have e:(p.right.getD k XO)=p.right[k]:=by simp[List.getD,g]
 rw[e]at h;have j:¬((k:Int)+1=0):=by omega
 have m:((k:Int)+1 - 1).toNat=k:=by omega
 have o:(0:Int)<(k:Int)+1:=by omega
 have q:(k:Int)+1<=Z p.right:=by omega
 simp[Df,a9 j,dl g,h,h1,i,o,q]
theorem mw(nm:ByteArray)(l:Int)(r:List Symbol)(c:AO)(k:Nat)(h0:0<Z r)(g:(r.getD (k % Z r) XO).token=J):pZ nm l r c {pl nm l r c with scope:=⟨am,(k % Z r:Nat)+1,1+(k % 2:Nat),0,0⟩}:=by
 refine⟨rfl,rfl,rfl,rfl,by simp[pl],by simp[pl],?_,by simp[pl]⟩;have h1:k % Z r<Z r:=pm _ h0;have i:k % 2<2:=pm _ (by omega);have h:=Yg (p:={pl nm l r c with scope:=⟨am,(k % Z r:Nat)+1,1+(k % 2:Nat),0,0⟩}) h1 g (1+(k % 2:Nat)) 1 7 (by omega) (by omega);unfold Is;simp only[h];simp[pl,Df]
theorem qq(nm:ByteArray)(l:Int)(r:List Symbol)(c:AO)(k:Nat)(h0:0<Z r)(g:(r.getD (k % Z r) XO).token=J):pZ nm l r c {pl nm l r c with scope:=⟨am,0,0,(k % Z r:Nat)+1,1+(k % 7:Nat)⟩}:=by
 refine⟨rfl,rfl,rfl,rfl,by simp[pl],by simp[pl],?_,by simp[pl]⟩;have h1:k % Z r<Z r:=pm _ h0;have i:k % 7<7:=pm _ (by omega);have h:=Yg (p:={pl nm l r c with scope:=⟨am,0,0,(k % Z r:Nat)+1,1+(k % 7:Nat)⟩}) h1 g (1+(k % 7:Nat)) 0 255 (by omega) (by omega);unfold Is;simp only[h];simp[pl,Df]
theorem YH{n:Nat}{x:Hq}:∀{i:Nat},i<=Z x.right->i<=4->0<=SX n x i/\SX n x i<=i/\(SX n x i=0↔DL (Jf n x i)=am)
 |0,_,_=>⟨by simp[SX],by simp[SX],by simp[SX,Jf,DL]⟩
 |i+1,h,q=>by
  obtain⟨h1,s,k⟩:=YH (n:=n) (x:=x) (i:=i) (by omega) (by omega);have m:x.right.getD i 0=x.right[i]:=by simp[show i<Z x.right by omega]
  have g:DL (Jf n x (i+1))=(DL (Jf n x i)||(cC n x.right[i]).token):=by
   rw[Nm (by omega)];simp[DL]
  rw[g];unfold SX;rw[m];by_cases j:x.right[i] % 14<9
  .rw[b8 j];have o:bv .i64 (SX n x i+1)=SX n x i+1:=by rw[c8];omega
   rw[o];refine⟨by omega,by omega,?_⟩;simp[cC,j];omega
  .rw[a9 j];refine⟨h1,by omega,?_⟩;simp[cC,j,k]
theorem NI{n o:Nat}{x:Hq}:∀{i:Nat},i<=Z x.right->ay n o x i=J->∀s∈Jf n x i,s.token=am->(o:Int)<s.index
 |0,_,_=>λs g=>by simp[Jf]at g
 |i+1,h,j=>by
  have q:x.right.getD i 0=x.right[i]:=by simp[show i<Z x.right by omega]
  unfold ay at j;rw[q]at j;intro s g m;rw[Nm (by omega)]at g;by_cases k:x.right[i] % 14<9
  .rw[b8 k]at j;rcases gc.1 g with g|g
   .exact NI (by omega) j s g m
   .simp at g;subst g;simp[cC,k]at m
  .rw[a9 k]at j;simp at j;rcases gc.1 g with g|g
   .exact NI (by omega) j.1 s g m
   .simp at g;subst g;have:=j.2;simp[cC,k];omega
theorem jf{n i:Nat}{x:Hq}(hn:0<n):∀s∈Jf n x i,(s.token=J/\∃k:Nat,k<9/\s.index=k)\/(s.token=am/\∃k:Nat,k<n/\s.index=k):=λs g=>by
 obtain⟨k,_,rfl⟩:=fd.1 g;unfold cC;split
 .exact .inl ⟨rfl,k % 14,by omega,rfl⟩
 .exact .inr ⟨rfl,(k % 14 - 9) % n,pm _ hn,rfl⟩
def KM(k:Nat):ByteArray:=⟨#[112]⟩++Iz (bv .u8 (97+(k:Int)))
structure UP(g:AD)(known:Bool)(q:AM):Prop where
 name:q.name=KM (Z g.AE)
 left:∃lf:Nat,lf<Z g.Ay/\q.left=lf
 len:Z q.right<=4
 syms:∀s∈q.right,(s.token=J/\∃k:Nat,k<9/\s.index=k)\/(s.token=am/\∃k:Nat,k<Z g.Ay/\s.index=k)
 fits:Cp q.cond (Z g.conds)=J
 r1:-1<=q.EC
 r2:q.EC<=1
 wi:Is q=J
 lay:Z q.layout<=1
 later:DL q.right=am->known=am/\∀s∈q.right,q.left<s.index
def qx(p:AD->Prop)(v:V)(S':Sg):Prop:=S'=[]/\∃g,v=.d (AA g)/\p g
theorem Z0(nm:ByteArray)(l:Int)(r:List Symbol)(c:AO)(m:Nat)(g:m<256)(h:Z r<=4):∃q,Pure prog 140 [AG (pl nm l r c),.int .u8 m] (AG q)/\pZ nm l r c q:=by
 by_cases h0:r=[]
 .subst h0;exact⟨_,Va nm l c m,Lv nm l [] c⟩
 have h1:0<Z r:=adJ.2 h0;have e:m=8 * (m / 8)+m % 8:=by omega
 have o:m % 8<8:=pm _ (by omega);generalize m / 8=k at *;match i:m % 8,o with
 |0,_=>rw[i]at e;subst e;exact⟨_,Wp nm l r c k g h1 h,Lv nm l r c⟩
 |1,_=>rw[i]at e;subst e;exact⟨_,WX nm l r c k g h1 h,jM nm l r c 1 (by omega) (by omega)⟩
 |2,_=>rw[i]at e;subst e;exact⟨_,Xc nm l r c k g h1 h,jM nm l r c (-1) (by omega) (by omega)⟩
 |3,_=>rw[i]at e;subst e;exact⟨_,WJ nm l r c k g h1 h,sD nm l r c⟩
 |4,_=>rw[i]at e;subst e;exact⟨_,WG nm l r c k g h1 h,qi nm l r c k h1⟩
 |5,_=>rw[i]at e;subst e;exact⟨_,WH nm l r c k g h1 h,mZ nm l r c⟩
 |6,_=>
  rw[i]at e;subst e;cases j:(r.getD (k % Z r) XO).token with
  |true=>exact⟨_,Uu nm l r c k g h1 h j,mw nm l r c k h1 j⟩
  |false=>exact⟨_,Vd nm l r c k g h1 h j,Lv nm l r c⟩
 |7,_=>
  rw[i]at e;subst e;cases j:(r.getD (k % Z r) XO).token with
  |true=>exact⟨_,Uv nm l r c k g h1 h j,qq nm l r c k h1 j⟩
  |false=>exact⟨_,VP nm l r c k g h1 h j,Lv nm l r c⟩
theorem qx.pure{f:FuncId}{ds:List D}{F:AD}(h:BL prog f (ds.map .d) [] (qx λi=>i=F)):Pure prog f ds (AA F):=
 BL.Yz (h.mono λv m ⟨h1,g,j,k⟩=>by subst k;exact⟨j,h1⟩)
theorem VS(g:AD)(x:Hq)(j:Bool)(hn:0<Z g.Ay/\Z g.Ay<=3)(hc:Z g.conds<=3)(hp:Z g.AE<=100)(W:x.IV<256)(hx2:x.mark<256):
  ∃F,(F=g\/∃q,UP g j q/\F={g with AE:=g.AE++[q]})/\BL prog 53 [.d (AA g),.d (CY x),.d (.bool j)] [] (qx λg'=>g'=F):=by
 obtain⟨n,H⟩:=ce (Z g.Ay);rw[H]at hn;obtain⟨z,X⟩:=ce (x.left % n);have u1:bv .i64 (97+(Z g.AE:Int))=97+(Z g.AE:Int):=by rw[c8];omega
 have hu9:prog.underlying 9=some .string:=by kernel_rfl
 have h2m:2<=ao:=by unfold ao;omega
 have A:1<=ao:=by unfold ao;omega
 obtain⟨N,hN⟩:=ce (min (Z x.right) 4);have Y:=O5 x.IV (Z g.conds) W (by omega);have L:Z (Jf n x N)<=4:=by rw[Uo (by omega)];omega
 have hfs:=RY W (show Z g.conds<4 by omega);obtain⟨q,hq,o⟩:=Z0 (⟨#[112]⟩++Iz (bv .u8 (97+Z g.AE))) z (Jf n x N) (N4 x.IV (Z g.conds)) x.mark hx2 L;generalize hset0:N4 x.IV (Z g.conds)=d at *;refine⟨if decide (SX n x N=0)&&(j||!ay n z x N)then g else {g with AE:=g.AE++[q]},?_,?_⟩
 .split
  .exact .inl rfl
  .next B=>
   have hNl:N<=Z x.right:=by omega
   have hN4:N<=4:=by omega
   refine .inr ⟨q,⟨o.name,⟨z,by rw[<-X,H];exact pm _ hn.1,o.left⟩,by rw[o.right];exact L,by rw[o.right,H];exact jf hn.1,by rw[o.cond];exact hfs,o.r1,o.r2,o.wi,o.lay,λha=>?_⟩,rfl⟩;rw[o.right]at ha;have h0:=(YH (n:=n) hNl hN4).2.2.2 ha;simp only[h0,acW,x0,pw,In,Bool.not_eq_true,rx]at B;obtain⟨zY,zj⟩:=B;refine⟨zY,λs hs=>?_⟩;rw[o.right]at hs;rw[o.left];exact NI hNl (by simpa using zj) s hs (Ni ha s hs)
 refine Ks func53 (by kernel_rfl) rfl (by simp) λwf _=>?_;have hll:x.left<256:=by have:=wf.2.1;simp[K0,Da,Bq,IX]at this;omega
 have u2:bv .i64 (x.left:Int)=x.left:=by rw[c8];omega
 have u3:((x.left:Int).tmod n)=z:=by rw[i7 (by omega),<-X];simp
 have C:¬n=0:=by omega
 rw[ntmps53];refine xW λK h=>?_;simp;apply h;refine xW λK h=>?_;simp[H];apply h;(repeat refine xS ?_);refine xE (A3 14 [29,31]) (by kernel_rfl) λK h=>?_;simp;(repeat(refine xG ?_ ?_;(·simp[A]);simp[u1]));refine Ad.QE 5 (bv .u8 (97+Z g.AE)) rfl (by simp) hu9 ?_;simp;refine xA 1 ?_;simp[A,h2m,u2,u3,C,GU];refine Ad.sQ (ZS (⟨#[112]⟩++Iz (bv .u8 (97+Z g.AE))) z) rfl (by simp[Uj,AP,Au];try rfl) ?_;simp;refine xA 1 ?_;simp;refine xX 0 (by kernel_rfl) ?_;simp[Aa,Uj];refine xA 1 ?_;simp;refine xX 16383 (by kernel_rfl) ?_;simp[Aa];refine xM (h _ _ ?_);(try simp only[xQ,reduceIte]);generalize({data:=#[112]}:ByteArray)++Iz (bv .u8 (97+Z g.AE))=nm at *;refine io (AJ.Qe 3 0 2 2 (xs:=[]) rfl rfl rfl) ?_;simp;refine xW λK h=>?_;simp;apply h;refine xW λK h=>?_;simp;apply h;refine nt (R:=λtm S=>tm 2=.d (.bool j)/\tm 3=.ptr 0 1 0 0/\tm 4=.ptr 1 1 0 0/\tm 6=.ptr 2 1 0 0/\tm 8=.ptr 3 1 0 0/\tm 9=.d (AF (SX n x N))/\tm 10=.d (.bool (ay n z x N))/\∃w,S=tI g x nm z (Jf n x N) w) ?_ ?_
 .refine xW λK h=>?_;simp;apply h;refine Bp ?_;refine FH N (λi tm S=>tm 2=.d (.bool j)/\tm 3=.ptr 0 1 0 0/\tm 4=.ptr 1 1 0 0/\tm 6=.ptr 2 1 0 0/\tm 7=.d (AF n)/\tm 8=.ptr 3 1 0 0/\tm 9=.d (AF (SX n x i))/\tm 10=.d (.bool (ay n z x i))/\tm 11=.d (AF i)/\∃w,S=tI g x nm z (Jf n x i) w) (ed _) ?_ ?_
  .simp[Jf,tI,J8,SX,ay]
  rintro i tm S hi ⟨t2,t3,t4,t6,t7,t8,t9,t10,t11,w,rfl⟩;unfold tI;refine xS (xW λK h=>?_);simp[t4,t11];apply h;(repeat refine xS ?_);refine qr (t:=decide (i<Z x.right)&&decide (i<4)) ?_ (λhb=>?_) (λhb=>?_)
  .simp;rw[gI];simp;intro _;omega
  .simp only[b9,cR]at hb;obtain⟨y7,hi4⟩:=hb;have hk:x.right[i] <256:=by
    have:=wf.2.1;simp[K0,Da,Bq,Dh]at this;have:=this.2.1.2 _ (cF y7);omega
   have E:=Uo (n:=n) (Nat.le_of_lt y7);have M:=Nm (n:=n) y7;have hgk:x.right.getD i 0=x.right[i]:=by simp[y7]
   have v:SX n x (i+1)=if x.right[i] % 14<9 then bv .i64 (SX n x i+1)else SX n x i:=by rw[<-hgk];rfl
   have k:ay n z x (i+1)=if x.right[i] % 14<9 then ay n z x i else ay n z x i&&decide (z<(x.right[i] % 14 - 9) % n):=by rw[<-hgk];rfl
   generalize hkk:x.right[i]=P at *;obtain⟨m,hm⟩:=ce (P % 14);rw[hm]at v k;have v1:bv .i64 (P:Int)=P:=by rw[c8];omega
   have v2:((P:Int).tmod 14)=m:=by rw[i7 (by omega),<-hm];simp
   have v3:(P:Int) % 14=m:=by omega
   have hl1:i+1<=1073741824:=by omega
   have Q:bv .i64 ((i:Int)+1)=(i+1:Nat):=by rw[c8];omega
   refine xK ?_;refine xB ?_;refine xW λK h=>?_;simp[t4,t11,y7,hkk,v1,v2];apply h;refine xS (xW λK h=>?_);simp;apply h;refine AQ ?_;simp;refine⟨λh9=>?_,λh9=>?_⟩
   .have G:cC n P=⟨J,m⟩:=by
     have T:m<9:=by omega
     simp[cC,hm,T]
    refine xD (A3 5 [11,12,15]) (by kernel_rfl) λK h=>?_;simp;refine xA 1 ?_;simp[t8];refine kt (Dc m) rfl (by simp[xN]) ?_;simp;refine xA 1 ?_;simp[A];refine xX 11 (by kernel_rfl) ?_;simp[Aa,E,hl1,A,Ac,ls,t8];refine xA 1 ?_;simp[t8];refine xX 7 (by kernel_rfl) ?_;simp[Aa,t8];refine xM (h _ _ ?_);refine xW λK h=>?_;simp[t9];apply h;refine Co ?_;refine xV λK h=>?_;simp[t11];apply h;refine⟨by omega,_,_,ap,?_⟩;have U:m<9:=by omega
    rw[b8 U]at v k;simp[t2,t3,t4,t6,t7,t8,t10,Q,M,G,E,v,k]
   .have G:cC n P=⟨am,((m - 9) % n:Nat)⟩:=by
     have T:¬m<9:=by omega
     simp[cC,hm,T]
    obtain⟨e,he⟩:=ce ((m - 9) % n);have U:¬m<9:=by omega
    rw[a9 U]at v k;rw[he]at G k;have v4:bv .i64 ((m:Int) - 9)=(m - 9:Nat):=by rw[c8];omega
    have v5:(((m - 9:Nat):Int).tmod n)=e:=by rw[i7 (by omega),<-he];simp
    generalize m - 9=m9 at *;refine xK ?_;(repeat refine xS ?_);refine xE (A3 8 [17,18,21]) (by kernel_rfl) λK h=>?_;simp;refine xA 1 ?_;simp[t7,t8,v4,v5,C];refine kt (Ex e) rfl (by simp[xN]) ?_;simp;refine xA 1 ?_;simp[A];refine xX 67 (by kernel_rfl) ?_;simp[Aa,E,hl1,A,Ac,ls,t7,t8,v4,v5,C];refine xA 1 ?_;simp[t8];refine xX 63 (by kernel_rfl) ?_;simp[Aa,t8];refine xM (h _ _ ?_);(try simp only[xQ,reduceIte]);cases hli:ay n z x i with
    |true=>
     rw[hli]at t10 k;refine xE (A3 11 []) (by kernel_rfl) λK h=>?_;simp;refine xZ ?_;simp[t7,t8,t10,v4,v5,C];refine xM (h _ _ ?_);refine xV λK h=>?_;simp[t11];apply h;refine⟨by omega,_,_,ap,?_⟩;simp[t2,t3,t4,t6,t7,t8,t9,Q,M,G,E,v,k]
    |false=>
     rw[hli]at t10 k;refine xE (A3 11 []) (by kernel_rfl) λK h=>?_;simp;refine xZ ?_;simp[t10];refine xM (h _ _ ?_);refine xV λK h=>?_;simp[t11];apply h;refine⟨by omega,_,_,ap,?_⟩;simp[t2,t3,t4,t6,t7,t8,t9,Q,M,G,E,v,k]
  .have e:i=N:=by simp at hb;omega
   subst e;refine Co ?_;simp[t2,t3,t4,t6,t8,t9,t10]
 .rintro tm S ⟨t2,t3,t4,t6,t8,t9,t10,w,rfl⟩;generalize SX n x N=t at *;generalize ay n z x N=l at *;generalize Jf n x N=r at *;refine nt (R:=λtm S=>tm 3=.ptr 0 1 0 0/\tm 4=.ptr 1 1 0 0/\tm 6=.ptr 2 1 0 0/\tm 8=.ptr 3 1 0 0/\S=tI g x nm z r w/\(decide (t=0)&&(j||!l))=am) ?_ ?_
  .unfold tI;by_cases u:t=0
   .cases j with
    |true=>
     refine Gb λK h=>?_;refine xH ?_;simp[t2,t9,u];refine CO (h _ _ ?_);refine AQ ?_;simp;refine xW λK h=>?_;simp[t3,t6,J8];apply h;refine Am ?_;(try simp only[xQ,reduceIte]);refine⟨_,_,ap,by simp[t6],_,_,⟨rfl,g,rfl,by simp[u]⟩,.inl ⟨AA g,_,by simp[t6],rfl,fi 0 rfl (by simp)⟩⟩
    |false=>
     (repeat refine xS ?_);refine H9 λK h=>?_;refine xH ?_;simp[t2,t9,t10,u];refine CO (h _ _ ?_);(try simp only[xQ,reduceIte]);cases l with
     |true=>
      refine AQ ?_;simp;refine B8 ?_;simp[t3,t4,t6,t8]
     |false=>
      refine AQ ?_;simp;refine xW λK h=>?_;simp[t3,t6,J8];apply h;refine Am ?_;(try simp only[xQ,reduceIte]);refine⟨_,_,ap,by simp[t6],_,_,⟨rfl,g,rfl,by simp[u]⟩,.inl ⟨AA g,_,by simp[t6],rfl,fi 0 rfl (by simp)⟩⟩
   ·(repeat refine xS ?_);refine H9 λK h=>?_;(repeat((first|refine FD rfl ?_ ?_;(·simp[u])|refine Ov rfl ?_ ?_;(·simp[t2,t9,t10,u])|refine Cg ?_ ?_;(·simp[u]));simp[t9]));refine CO (h _ _ ?_);(try simp only[C8]);refine AQ ?_;simp[u];refine B8 ?_;simp[t3,t4,t6,t8]
  rintro tm S ⟨t3,t4,t6,t8,rfl,hF⟩;unfold tI;refine Gb λK h=>?_;refine xJ ?_;simp[t3,t4];refine Bz (Y) rfl (by simp[xN]) ?_;simp;refine xJ ?_;simp[t8,AB];refine CO (h _ _ ?_);refine io (fc 4 (xs:=r.map AI) rfl (by simp)) ?_;simp;(repeat refine xS ?_);refine H9 λK h=>?_;refine xJ ?_;simp[t4,t8];refine Bz (hq) rfl (by simp[pl,Az,xN]) ?_;simp;refine xJ ?_;simp[t8];refine CO (h _ _ ?_);(try simp only[xQ,reduceIte]);have hp1:Z g.AE<=1073741824:=by omega
  have hp2:Z g.AE+1<=1073741824:=by omega
  have zW:0<=ao:=ed _;refine xD (A3 3 [8,10,7,13,14,17]) (by kernel_rfl) λK h=>?_;simp;refine xA 1 ?_;simp[t3,t8,A,zW];refine xX 20 (by kernel_rfl) ?_;simp[Aa,t3,t8,A,zW,hp1,Ac,ls];refine xA 1 ?_;simp;refine xX 1 (by kernel_rfl) ?_;simp[Aa,t3,t8,A,hp2,Ac,ls];refine xA 1 ?_;simp[t3];refine xX 7 (by kernel_rfl) ?_;simp[Aa,t3];refine xM (h _ _ ?_);refine xW λK h=>?_;simp[t3,t6,J8];apply h;refine Am ?_;(try simp only[xQ,reduceIte]);refine⟨_,_,fc 5 (xs:=(g.AE++[q]).map AG) rfl (by simpa using Cr _ ((g.AE++[q]).map AG)),by simp[t6],_,_,⟨rfl,{g with AE:=g.AE++[q]},rfl,by show _=_;rw[a9];simpa using hF⟩,.inl ⟨AA {g with AE:=g.AE++[q]},_,by simp[t6,BC,AA],rfl,fi 0 rfl (by simp)⟩⟩
theorem RA(g:AD)(x:Hq)(h:Bool)(hn:0<Z g.Ay/\Z g.Ay<=3)(k:Z g.conds<=3)(m:Z g.AE<=100)(i:x.IV<256)(j:x.mark<256):
  ∃F,(F=g\/∃q,UP g h q/\F={g with AE:=g.AE++[q]})/\Pure prog 53 [AA g,CY x,.bool h] (AA F):=by
 obtain⟨F,h1,o⟩:=VS g x h hn k m i j;exact⟨F,h1,qx.pure o⟩
structure MQ where
 kind:Nat
 a:Nat
 b:Nat
 c:Nat
 IV:Nat
def Ce(x:MQ):D:=.agg [bi .u8 (x.kind:Nat),bi .u8 (x.a:Nat),bi .u8 (x.b:Nat),bi .u8 (x.c:Nat),bi .u8 (x.IV:Nat)]
@[simp] theorem fk(x:MQ):Aj (.d (Ce x))=[.d (bi .u8 (x.kind:Nat)),.d (bi .u8 (x.a:Nat)),.d (bi .u8 (x.b:Nat)),.d (bi .u8 (x.c:Nat)),.d (bi .u8 (x.IV:Nat))]:=rfl
@[simp] theorem dk(x:MQ):Ap (.d (Ce x))=true:=rfl
@[simp] theorem lQ(x:MQ):Bu (.d (Ce x))=false:=rfl
@[simp] theorem fq(x:MQ):BE (Ce x)=[bi .u8 (x.kind:Nat),bi .u8 (x.a:Nat),bi .u8 (x.b:Nat),bi .u8 (x.c:Nat),bi .u8 (x.IV:Nat)]:=rfl
@[simp] theorem mf(x:MQ):CR.oneD (Ce x)=true:=rfl
@[simp] theorem rp(x:MQ):Da (Ce x)=Bq [bi .u8 (x.kind:Nat),bi .u8 (x.a:Nat),bi .u8 (x.b:Nat),bi .u8 (x.c:Nat),bi .u8 (x.IV:Nat)]:=rfl
@[simp] theorem lN(S:Sg)(x:MQ):Dp S (.d (Ce x))=some [bi .u8 (x.kind:Nat),bi .u8 (x.a:Nat),bi .u8 (x.b:Nat),bi .u8 (x.c:Nat),bi .u8 (x.IV:Nat)]:=rfl
def VR(g g':AD):Prop:=g'=g\/(∃l,ye g l/\g'={g with levels:=g.levels++[l]})\/(∃f,yb g f/\g'={g with AT:=g.AT++[f]})\/∃t,yz g t/\g'={g with AU:=t}
structure jm(g:AD)(x:MQ):Prop where
 p0:0<Z g.AE
 p1:Z g.AE<=100
 n0:0<Z g.Ay
 n1:Z g.Ay<=100
 c1:Z g.conds<=3
 t1:Z g.AU=11
 l1:Z g.levels<=100
 l2:∀l∈g.levels,Z l.AE<=100
 f1:Z g.AT<=100
 k1:x.kind<256
 k2:x.a<256
 k3:x.b<256
 k4:x.c<256
 k5:x.IV<256
abbrev adD:=@List.getElem_set
theorem UZ(g:AD)(x:MQ)(h:jm g x):∃F,VR g F/\Pure prog 54 [AA g,Ce x] (AA F):=by
 suffices key:∃F,VR g F/\BL prog 54 [.d (AA g),.d (Ce x)] [] (qx λg'=>g'=F)from by
  obtain⟨F,h1,h2⟩:=key;exact⟨F,h1,qx.pure h2⟩
 obtain⟨p0,p1,n0,n1,c1,tk1,lv1,lv2,f1,k1,k2,k3,k4,k5⟩:=h;have t:=O5 x.IV (Z g.conds) k5 (by omega);have M:=(Rc k5 (show Z g.conds<4 by omega)).2;have H:=RY k5 (show Z g.conds<4 by omega);generalize N4 x.IV (Z g.conds)=d at *;obtain⟨A,hA⟩:=ce (x.a % Z g.AE);have hAl:A<Z g.AE:=by rw[<-hA];exact pm _ p0
 obtain⟨B,hB⟩:=ce (x.b % Z g.AE);have hBl:B<Z g.AE:=by rw[<-hB];exact pm _ p0
 have qa:((x.a:Int).tmod (Z g.AE))=A:=by rw[i7 (by omega),<-hA];simp
 have qb:((x.b:Int).tmod (Z g.AE))=B:=by rw[i7 (by omega),<-hB];simp
 have Q:bv .i64 (x.a:Int)=x.a:=by rw[c8];omega
 have wb:bv .i64 (x.b:Int)=x.b:=by rw[c8];omega
 have wc:bv .i64 (x.c:Int)=x.c:=by rw[c8];omega
 have u:¬Z g.AE=0:=by omega
 have v:g.AE≠[]:=by intro e;simp[e]at p0
 have hnn:g.Ay≠[]:=by intro e;simp[e]at n0
 have hnz:¬Z g.Ay=0:=by omega
 have o:1<=ao:=by unfold ao;omega
 have q:0<=ao:=ed _;obtain⟨N,hk0⟩:=ce (x.kind % 8);have R:((x.kind:Int).tmod 8)=N:=by rw[i7 (by omega)];omega
 have w:(x.kind:Int) % 8=N:=by omega
 obtain⟨z,S⟩:∃z:Int,z=N - 1:=⟨_,rfl⟩;have z1:bv .i64 1=1:=by decide
 have z2:bv .i64 2=2:=by decide
 have z3:bv .i64 3=3:=by decide
 have z4:bv .i64 4=4:=by decide
 have z5:bv .i64 5=5:=by decide
 have z7:bv .i64 7=7:=by decide
 have z8:bv .i64 8=8:=by decide
 have h8:N=7\/N=6\/(N=2\/N=3)\/(N=4\/N=5)\/(N=0\/N=1):=by omega
 rcases h8 with rfl|rfl|hk|hk|hk
 .obtain⟨e,he⟩:=ce (x.a % 9);have T:e<Z g.AU:=by omega
  have qe:((x.a:Int).tmod 9)=e:=by rw[i7 (by omega),<-he];simp
  have U:(x.a:Int) % 9=e:=by omega
  have htl:Z g.AU<=1073741824:=by omega
  generalize zp:g.AU[e]=tk;have y8:=AV.eq_1 tk;have zM:g.AU.isEmpty=false:=by cases h:g.AU<;>simp[h]at T⊢
  have hcl:(g.AU.set e {tk with cond:=d}).map (·.cls)=g.AU.map (·.cls):=by
   rw[gl];apply abG (by simp);intro i h1 h2;rw[adD];split
   .rename_i hi;subst hi;simp[zp]
   .rfl
  refine⟨{g with AU:=g.AU.set e {tk with cond:=d}},.inr (.inr (.inr ⟨_,⟨e,d,H,T,by rw[zp]⟩,rfl⟩)),?_⟩;refine Ks func54 (by kernel_rfl) rfl (by simp) λwf _=>?_;rw[ntmps54];refine xW λK j=>?_;simp;apply j;refine Gb λK j=>?_;refine xJ ?_;simp;refine Bz (t) rfl (by simp[xN]) ?_;simp;refine xJ ?_;simp;refine CO (j _ _ ?_);refine xW λK j=>?_;simp[Q,qa,u];apply j;refine xW λK j=>?_;simp;apply j;refine xS (xW λK j=>?_);simp[R];apply j;refine Bp ?_;refine xS (xW λK j=>?_);simp;apply j;refine AQ ?_;simp;refine xV λK j=>?_;simp;apply j;refine AQ ?_;simp;refine xS (xW λK j=>?_);simp;apply j;refine AQ ?_;simp;refine xV λK j=>?_;simp;apply j;refine AQ ?_;simp;refine xS (xW λK j=>?_);simp;apply j;refine AQ ?_;simp;refine xV λK j=>?_;simp;apply j;refine AQ ?_;simp;refine xW λK j=>?_;simp;apply j;refine AQ ?_;simp;refine xW λK j=>?_;simp[q,htl,zM];apply j;refine xW λK j=>?_;simp[Q,qe,T,zp,y8];apply j;refine xW λK j=>?_;simp;apply j;refine xW λK j=>?_;simp;apply j;refine io (jp 5 (xs:=(g.AU.set e {tk with cond:=d}).map AV) rfl ?_) ?_
  .rw[Be,gl,md,gl,gl,md];congr 1
  simp;refine Am ?_;(try simp only[xQ,reduceIte]);refine⟨_,_,fc 5 (xs:=(g.AU.set e {tk with cond:=d}).map AV) rfl (by simpa using Cr _ ((g.AU.set e {tk with cond:=d}).map AV)),by simp,_,_,⟨rfl,{g with AU:=g.AU.set e {tk with cond:=d}},rfl,rfl⟩,.inl ⟨AA {g with AU:=g.AU.set e {tk with cond:=d}},_,by simp[BC,AA],rfl,fi 0 rfl (by simp)⟩⟩
 .obtain⟨P,s⟩:=dm g 5 d (by omega) M;refine⟨if P then {g with AT:=g.AT++[(⟨5,0,0,0,0,0,[5],d⟩:Filter)]}else g,by cases P;exact .inl rfl;exact .inr (.inr (.inl ⟨_,⟨d,H,.inr (.inr rfl)⟩,rfl⟩)),?_⟩;refine Ks func54 (by kernel_rfl) rfl (by simp) λwf _=>?_;rw[ntmps54];refine xW λK j=>?_;simp;apply j;refine Gb λK j=>?_;refine xJ ?_;simp;refine Bz (t) rfl (by simp[xN]) ?_;simp;refine xJ ?_;simp;refine CO (j _ _ ?_);refine xW λK j=>?_;simp[Q,qa,u];apply j;refine xW λK j=>?_;simp;apply j;refine xS (xW λK j=>?_);simp[R];apply j;refine Bp ?_;refine xS (xW λK j=>?_);simp;apply j;refine AQ ?_;simp;refine xV λK j=>?_;simp;apply j;refine AQ ?_;simp;refine xS (xW λK j=>?_);simp;apply j;refine AQ ?_;simp;refine xV λK j=>?_;simp;apply j;refine AQ ?_;simp;refine xS (xW λK j=>?_);simp;apply j;refine AQ ?_;simp;refine xV λK j=>?_;simp;apply j;refine AQ ?_;simp;refine xW λK j=>?_;simp;apply j;refine AQ ?_;simp;refine xW λK j=>?_;simp;apply j;refine xV λK j=>?_;simp[o];apply j;refine xS (Gb λK j=>?_);refine xJ ?_;simp;refine Bz (s) rfl (by simp[xN]) ?_;simp;refine xJ ?_;simp;refine CO (j _ _ ?_);(try simp only[xQ,reduceIte]);cases P with
  |true=>
   refine AQ ?_;simp;refine io (jp 4 (xs:=[AN (⟨5,0,0,0,0,0,[5],d⟩:Filter)]) rfl (by simp[DR,Ed,CZ,AN])) ?_;simp;have f2:Z g.AT<=1073741824:=by omega
   have f3:Z g.AT+1<=1073741824:=by omega
   refine xE (A3 3 [8,10,7,13,14,17]) (by kernel_rfl) λK j=>?_;simp;refine xA 1 ?_;simp[o,q];refine xX 20 (by kernel_rfl) ?_;simp[Aa,o,q,f2,Ac,ls];refine xA 1 ?_;simp;refine xX 1 (by kernel_rfl) ?_;simp[Aa,o,f3,Ac,ls];refine xA 1 ?_;simp;refine xX 7 (by kernel_rfl) ?_;simp[Aa];refine xM (j _ _ ?_);refine xW λK j=>?_;simp;apply j;refine Am ?_;(try simp only[xQ,reduceIte]);refine⟨_,_,fc 5 (xs:=(g.AT++[(⟨5,0,0,0,0,0,[5],d⟩:Filter)]).map AN) rfl (by simpa using Cr _ ((g.AT++[(⟨5,0,0,0,0,0,[5],d⟩:Filter)]).map AN)),by simp,_,_,⟨rfl,{g with AT:=g.AT++[(⟨5,0,0,0,0,0,[5],d⟩:Filter)]},rfl,by simp⟩,.inl ⟨AA {g with AT:=g.AT++[(⟨5,0,0,0,0,0,[5],d⟩:Filter)]},_,by simp[BC,AA],rfl,fi 0 rfl (by simp)⟩⟩
  |false=>
   refine AQ ?_;simp;refine xK ?_;refine xW λK j=>?_;simp;apply j;refine Am ?_;(try simp only[xQ,reduceIte]);refine⟨_,_,ap,by simp,_,_,⟨rfl,g,rfl,by simp⟩,.inl ⟨AA g,_,by simp,rfl,fi 0 rfl (by simp)⟩⟩
 .rcases hk with rfl|rfl;all_goals
   simp at S
   obtain⟨C,hC⟩:=ce (x.c % 16)
   have qc:((x.c:Int).tmod 16)=C:=by rw[i7 (by omega),<-hC];simp
   have W:(x.c:Int) % 16=C:=by omega
   have s:=bE g z A C B d (by omega) hAl hBl M
   rw[S]at s
   obtain⟨P,hpr⟩:=ce (Vi g A C B)
   rw[hpr]at s
   refine⟨if P then {g with AT:=g.AT++[(⟨z,A,C,B,0,0,[],d⟩:Filter)]}else g,by cases hbb:P;exact .inl rfl;exact .inr (.inr (.inl ⟨_,⟨d,H,.inl ⟨A,C,B,z,by omega,hAl,hBl,hpr.trans hbb,rfl⟩⟩,rfl⟩)),?_⟩
   refine Ks func54 (by kernel_rfl) rfl (by simp) λwf _=>?_
   rw[ntmps54]
   refine xW λK j=>?_;simp;apply j
   refine Gb λK j=>?_
   refine xJ ?_;simp
   refine Bz (t) rfl (by simp[xN]) ?_;simp
   refine xJ ?_;simp
   refine CO (j _ _ ?_)
   refine xW λK j=>?_;simp[Q,qa,u];apply j
   refine xW λK j=>?_;simp;apply j
   refine xS (xW λK j=>?_);simp[R];apply j
   refine Bp ?_
   refine xS (xW λK j=>?_);simp;apply j
   refine AQ ?_;simp
   refine xV λK j=>?_;simp;apply j
   refine AQ ?_;simp
   refine xS (xW λK j=>?_);simp;apply j
   refine AQ ?_;simp
   first|refine xK ?_|(refine xV λK j=>?_;simp;apply j)
   refine AQ ?_;simp
   refine xW λK j=>?_;simp[R,z1,z2,z3,z4];apply j
   refine xW λK j=>?_;simp;apply j
   refine xW λK j=>?_;simp[wc,qc];apply j
   refine xV λK j=>?_;simp[wb,qb,u];apply j
   refine xS (Gb λK j=>?_)
   refine xJ ?_;simp
   refine Bz (s) rfl (by simp[xN]) ?_;simp
   refine xJ ?_;simp
   refine CO (j _ _ ?_);try simp only[xQ,reduceIte]
   cases P with
   |true=>
    refine AQ ?_;simp;refine io (jp 4 (xs:=[AN (⟨z,A,C,B,0,0,[],d⟩:Filter)]) rfl (by simp[DR,Ed,CZ,AN,S])) ?_;simp;have f2:Z g.AT<=1073741824:=by omega
    have f3:Z g.AT+1<=1073741824:=by omega
    refine xE (A3 3 [8,10,7,13,14,17]) (by kernel_rfl) λK j=>?_;simp;refine xA 1 ?_;simp[o,q];refine xX 20 (by kernel_rfl) ?_;simp[Aa,o,q,f2,Ac,ls];refine xA 1 ?_;simp;refine xX 1 (by kernel_rfl) ?_;simp[Aa,o,f3,Ac,ls];refine xA 1 ?_;simp;refine xX 7 (by kernel_rfl) ?_;simp[Aa];refine xM (j _ _ ?_);refine xW λK j=>?_;simp;apply j;refine Am ?_;(try simp only[xQ,reduceIte]);refine⟨_,_,fc 5 (xs:=(g.AT++[(⟨z,A,C,B,0,0,[],d⟩:Filter)]).map AN) rfl (by simpa using Cr _ ((g.AT++[(⟨z,A,C,B,0,0,[],d⟩:Filter)]).map AN)),by simp,_,_,⟨rfl,{g with AT:=g.AT++[(⟨z,A,C,B,0,0,[],d⟩:Filter)]},rfl,by simp⟩,.inl ⟨AA {g with AT:=g.AT++[(⟨z,A,C,B,0,0,[],d⟩:Filter)]},_,by simp[BC,AA],rfl,fi 0 rfl (by simp)⟩⟩
   |false=>
    refine AQ ?_;simp;refine xK ?_;refine xW λK j=>?_;simp;apply j;refine Am ?_;(try simp only[xQ,reduceIte]);refine⟨_,_,ap,by simp,_,_,⟨rfl,g,rfl,by simp⟩,.inl ⟨AA g,_,by simp,rfl,fi 0 rfl (by simp)⟩⟩
 .rcases hk with rfl|rfl;all_goals
   simp at S
   obtain⟨L,hL⟩:=ce (x.a % Z g.Ay)
   have hLl:L<Z g.Ay:=by rw[<-hL];exact pm _ n0
   have ql:((x.a:Int).tmod (Z g.Ay))=L:=by rw[i7 (by omega),<-hL];simp
   obtain⟨E,hE⟩:=ce (x.b % 9)
   have qe:((x.b:Int).tmod 9)=E:=by rw[i7 (by omega),<-hE];simp
   have U:(x.b:Int) % 9=E:=by omega
   have s:=Ze g z L E d (by omega) hLl (by omega) M
   rw[S]at s
   generalize(!(jB g.AU[E] am))=P at s
   refine⟨if P then {g with AT:=g.AT++[(⟨z,0,0,0,L,0,[(E:Int)],d⟩:Filter)]}else g,by cases P;exact .inl rfl;exact .inr (.inr (.inl ⟨_,⟨d,H,.inr (.inl ⟨L,E,z,by omega,hLl,by omega,rfl⟩)⟩,rfl⟩)),?_⟩
   refine Ks func54 (by kernel_rfl) rfl (by simp) λwf _=>?_
   rw[ntmps54]
   refine xW λK j=>?_;simp;apply j
   refine Gb λK j=>?_
   refine xJ ?_;simp
   refine Bz (t) rfl (by simp[xN]) ?_;simp
   refine xJ ?_;simp
   refine CO (j _ _ ?_)
   refine xW λK j=>?_;simp[Q,qa,u];apply j
   refine xW λK j=>?_;simp;apply j
   refine xS (xW λK j=>?_);simp[R];apply j
   refine Bp ?_
   refine xS (xW λK j=>?_);simp;apply j
   refine AQ ?_;simp
   refine xV λK j=>?_;simp;apply j
   refine AQ ?_;simp
   refine xS (xW λK j=>?_);simp;apply j
   refine AQ ?_;simp
   refine xV λK j=>?_;simp;apply j
   refine AQ ?_;simp
   refine xS (xW λK j=>?_);simp;apply j
   refine AQ ?_;simp
   first|refine xK ?_|(refine xV λK j=>?_;simp;apply j)
   refine AQ ?_;simp
   refine xW λK j=>?_;simp[R,z3,z4,z5,z7,z8];apply j
   refine xW λK j=>?_;simp[Q,ql,hnz];apply j
   refine xV λK j=>?_;simp[wb,qe,o];apply j
   refine xS (Gb λK j=>?_)
   refine xJ ?_;simp
   refine Bz (s) rfl (by simp[xN]) ?_;simp
   refine xJ ?_;simp
   refine CO (j _ _ ?_);try simp only[xQ,reduceIte]
   cases P with
   |true=>
    refine AQ ?_;simp;refine io (jp 4 (xs:=[AN (⟨z,0,0,0,L,0,[(E:Int)],d⟩:Filter)]) rfl (by simp[DR,Ed,CZ,AN,S])) ?_;simp;have f2:Z g.AT<=1073741824:=by omega
    have f3:Z g.AT+1<=1073741824:=by omega
    refine xE (A3 3 [8,10,7,13,14,17]) (by kernel_rfl) λK j=>?_;simp;refine xA 1 ?_;simp[o,q];refine xX 20 (by kernel_rfl) ?_;simp[Aa,o,q,f2,Ac,ls];refine xA 1 ?_;simp;refine xX 1 (by kernel_rfl) ?_;simp[Aa,o,f3,Ac,ls];refine xA 1 ?_;simp;refine xX 7 (by kernel_rfl) ?_;simp[Aa];refine xM (j _ _ ?_);refine xW λK j=>?_;simp;apply j;refine Am ?_;(try simp only[xQ,reduceIte]);refine⟨_,_,fc 5 (xs:=(g.AT++[(⟨z,0,0,0,L,0,[(E:Int)],d⟩:Filter)]).map AN) rfl (by simpa using Cr _ ((g.AT++[(⟨z,0,0,0,L,0,[(E:Int)],d⟩:Filter)]).map AN)),by simp,_,_,⟨rfl,{g with AT:=g.AT++[(⟨z,0,0,0,L,0,[(E:Int)],d⟩:Filter)]},rfl,by simp⟩,.inl ⟨AA {g with AT:=g.AT++[(⟨z,0,0,0,L,0,[(E:Int)],d⟩:Filter)]},_,by simp[BC,AA],rfl,fi 0 rfl (by simp)⟩⟩
   |false=>
    refine AQ ?_;simp;refine xK ?_;refine xW λK j=>?_;simp;apply j;refine Am ?_;(try simp only[xQ,reduceIte]);refine⟨_,_,ap,by simp,_,_,⟨rfl,g,rfl,by simp⟩,.inl ⟨AA g,_,by simp,rfl,fi 0 rfl (by simp)⟩⟩
 .rcases hk with rfl|rfl;all_goals
   simp at S
   obtain⟨C,hC⟩:=ce (x.c % 4)
   have qc:((x.c:Int).tmod 4)=C:=by rw[i7 (by omega),<-hC];simp
   have W:(x.c:Int) % 4=C:=by omega
   have wC:bv .i64 (C:Int)=C:=by rw[c8];omega
   have X:Z g.levels<=1073741824:=by omega
   have Y:Z g.levels+1<=1073741824:=by omega
   have hlm:∀l∈g.levels,Z l.AE<=ao:=λl hl=>by have:=lv2 l hl;unfold ao;omega
   have hla:=Pe g A (by unfold ao;omega) hlm
   have hlb:=Pe g B (by unfold ao;omega) hlm
   obtain⟨la,hra⟩:=ce (Wi g A)
   obtain⟨lb,hrb⟩:=ce (Wi g B)
   rw[hra]at hla
   rw[hrb]at hlb
   refine⟨if la then g else if B=A\/lb=J then {g with levels:=g.levels++[(⟨[(A:Int)],C,d⟩:Level)]}else {g with levels:=g.levels++[(⟨[(A:Int),(B:Int)],C,d⟩:Level)]},?_,?_⟩
   .cases la
    .simp only[su,li]
     have hC4:C<=3:=by omega
     split
     .refine .inr (.inl ⟨_,⟨by simp,by simp,by simp;omega,H,by simp,λp hp=>?_⟩,rfl⟩)
      simp only[eN]at hp
      subst hp
      exact⟨by omega,by omega,hra⟩
     .next hn=>
      simp only[In,Bool.not_eq_true]at hn;refine .inr (.inl ⟨_,⟨by simp,by simp,by simp;omega,H,by simp;omega,λp hp=>?_⟩,rfl⟩);simp only[ge,acL,or_false]at hp;rcases hp with rfl|rfl
      .exact⟨by omega,by omega,hra⟩
      .exact⟨by omega,by omega,hrb.trans hn.2⟩
    .exact .inl rfl
   refine Ks func54 (by kernel_rfl) rfl (by simp) λwf _=>?_
   rw[ntmps54]
   refine xW λK j=>?_;simp;apply j
   refine Gb λK j=>?_
   refine xJ ?_;simp
   refine Bz (t) rfl (by simp[xN]) ?_;simp
   refine xJ ?_;simp
   refine CO (j _ _ ?_)
   refine xW λK j=>?_;simp[Q,qa,u];apply j
   refine xW λK j=>?_;simp;apply j
   refine xS (xW λK j=>?_);simp[R];apply j
   refine Bp ?_
   refine xS (xW λK j=>?_);simp;apply j
   refine AQ ?_;simp
   first|refine xK ?_|(refine xV λK j=>?_;simp;apply j)
   refine AQ ?_;simp
   refine xS (Gb λK j=>?_)
   refine xJ ?_;simp
   refine Bz (hla) rfl (by simp[xN]) ?_;simp
   refine xJ ?_;simp
   refine CO (j _ _ ?_);try simp only[xQ,reduceIte]
   cases la with
   |true=>
    refine AQ ?_;simp;refine xK ?_;refine xW λK j=>?_;simp;apply j;refine Am ?_;(try simp only[xQ,reduceIte]);refine⟨_,_,ap,by simp,_,_,⟨rfl,g,rfl,by simp⟩,.inl ⟨AA g,_,by simp,rfl,fi 0 rfl (by simp)⟩⟩
   |false=>
    refine AQ ?_;simp;refine xW λK j=>?_;simp[qc,wC,o];apply j;(repeat refine xS ?_);refine xV λK j=>?_;simp[wb,qb,u];refine j _ _ ?_;(try simp only[xQ,reduceIte]);by_cases m:B=A
    .have G:=m;have k:(B:Int)=A:=by omega
     refine xS (Gb λK j=>?_);refine xH ?_;simp[m];refine CO (j _ _ ?_);(try simp only[xQ,reduceIte]);refine AQ ?_;simp[m];refine xK ?_;refine io (jp 5 (xs:=[Ak (⟨[(A:Int)],C,d⟩:Level)]) rfl (by simp[DR,Ed,CZ,Ak])) ?_;simp;refine xE (A3 3 [8,10,7,13,14,17]) (by kernel_rfl) λK j=>?_;simp;refine xA 1 ?_;simp[o,q];refine xX 20 (by kernel_rfl) ?_;simp[Aa,o,q,X,Ac,ls];refine xA 1 ?_;simp;refine xX 1 (by kernel_rfl) ?_;simp[Aa,o,Y,Ac,ls];refine xA 1 ?_;simp;refine xX 7 (by kernel_rfl) ?_;simp[Aa];refine xM (j _ _ ?_);refine xW λK j=>?_;simp;apply j;refine Am ?_;(try simp only[xQ,reduceIte]);refine⟨_,_,fc 6 (xs:=(g.levels++[(⟨[(A:Int)],C,d⟩:Level)]).map Ak) rfl (by simpa using Cr _ ((g.levels++[(⟨[(A:Int)],C,d⟩:Level)]).map Ak)),by simp,_,_,⟨rfl,{g with levels:=g.levels++[(⟨[(A:Int)],C,d⟩:Level)]},rfl,by simp⟩,.inl ⟨AA {g with levels:=g.levels++[(⟨[(A:Int)],C,d⟩:Level)]},_,by simp[BC,AA],rfl,fi 0 rfl (by simp)⟩⟩
    .have G:=m;have k:¬(B:Int)=A:=by omega
     refine xS (Gb λK j=>?_);(repeat((first|refine FD rfl ?_ ?_;(·simp[k])|refine Ov rfl ?_ ?_;(·simp[k])|refine Cg ?_ ?_;(·simp[k]));simp));refine nc (hlb) rfl rfl (by simp[k,AB,AA];try rfl) ?_;simp;(repeat((first|refine FD rfl ?_ ?_;(·simp[k])|refine Ov rfl ?_ ?_;(·simp[k])|refine Cg ?_ ?_;(·simp));simp));refine CO (j _ _ ?_);(try simp only[C8,Bh,reduceIte]);cases lb with
     |true=>
      refine AQ ?_;simp[m];refine xK ?_;refine io (jp 5 (xs:=[Ak (⟨[(A:Int)],C,d⟩:Level)]) rfl (by simp[DR,Ed,CZ,Ak])) ?_;simp;refine xE (A3 3 [8,10,7,13,14,17]) (by kernel_rfl) λK j=>?_;simp;refine xA 1 ?_;simp[o,q];refine xX 20 (by kernel_rfl) ?_;simp[Aa,o,q,X,Ac,ls];refine xA 1 ?_;simp;refine xX 1 (by kernel_rfl) ?_;simp[Aa,o,Y,Ac,ls];refine xA 1 ?_;simp;refine xX 7 (by kernel_rfl) ?_;simp[Aa];refine xM (j _ _ ?_);refine xW λK j=>?_;simp;apply j;refine Am ?_;(try simp only[xQ,reduceIte]);refine⟨_,_,fc 6 (xs:=(g.levels++[(⟨[(A:Int)],C,d⟩:Level)]).map Ak) rfl (by simpa using Cr _ ((g.levels++[(⟨[(A:Int)],C,d⟩:Level)]).map Ak)),by simp,_,_,⟨rfl,{g with levels:=g.levels++[(⟨[(A:Int)],C,d⟩:Level)]},rfl,by simp⟩,.inl ⟨AA {g with levels:=g.levels++[(⟨[(A:Int)],C,d⟩:Level)]},_,by simp[BC,AA],rfl,fi 0 rfl (by simp)⟩⟩
     |false=>
      refine AQ ?_;simp[m,k];refine xV λK j=>?_;simp[o,Ac];apply j;refine io (fc 6 (xs:=[.int .i64 A,.int .i64 B]) rfl (by simp[DR,CZ])) ?_;simp;refine io (jp 5 (xs:=[Ak (⟨[(A:Int),(B:Int)],C,d⟩:Level)]) rfl (by simp[DR,Ed,CZ,Ak])) ?_;simp;refine xE (A3 3 [8,10,7,13,14,17]) (by kernel_rfl) λK j=>?_;simp;refine xA 1 ?_;simp[o,q];refine xX 20 (by kernel_rfl) ?_;simp[Aa,o,q,X,Ac,ls];refine xA 1 ?_;simp;refine xX 1 (by kernel_rfl) ?_;simp[Aa,o,Y,Ac,ls];refine xA 1 ?_;simp;refine xX 7 (by kernel_rfl) ?_;simp[Aa];refine xM (j _ _ ?_);refine xW λK j=>?_;simp;apply j;refine Am ?_;(try simp only[xQ,reduceIte]);refine⟨_,_,fc 7 (xs:=(g.levels++[(⟨[(A:Int),(B:Int)],C,d⟩:Level)]).map Ak) rfl (by simpa using Cr _ ((g.levels++[(⟨[(A:Int),(B:Int)],C,d⟩:Level)]).map Ak)),by simp,_,_,⟨rfl,{g with levels:=g.levels++[(⟨[(A:Int),(B:Int)],C,d⟩:Level)]},rfl,by simp⟩,.inl ⟨AA {g with levels:=g.levels++[(⟨[(A:Int),(B:Int)],C,d⟩:Level)]},_,by simp[BC,AA],rfl,fi 0 rfl (by simp)⟩⟩
def Db:AO:=⟨[],1⟩
def WL(s:ByteArray):Token:=⟨s,0,s,[],gs,Db⟩
def fS:Token:=⟨⟨#[105,100]⟩,0,gs,[⟨1,97,122,0,0⟩,⟨1,97,122,0,0⟩,⟨4,0,0,1,0⟩,⟨2,0,0,0,2⟩],⟨#[120]⟩,Db⟩
def UN:Token:=⟨⟨#[115,112,97,99,101]⟩,1,gs,[⟨1,9,10,0,0⟩,⟨1,32,32,0,0⟩,⟨3,0,0,0,1⟩,⟨1,9,10,0,0⟩,⟨1,32,32,0,0⟩,⟨3,0,0,3,4⟩,⟨4,0,0,5,0⟩,⟨2,0,0,2,6⟩],gs,Db⟩
def py:Token:=⟨⟨#[114,101,109,97,114,107]⟩,2,gs,[⟨1,37,37,0,0⟩,⟨1,97,122,0,0⟩,⟨1,32,32,0,0⟩,⟨3,0,0,1,2⟩,⟨4,0,0,3,0⟩,⟨2,0,0,0,4⟩],gs,Db⟩
def Jb:List ByteArray:=[⟨#[43]⟩,⟨#[42]⟩,⟨#[40]⟩,⟨#[41]⟩,⟨#[105,102]⟩,⟨#[101,108,115,101]⟩,⟨#[59]⟩,⟨#[94]⟩]
def P0(i:Nat):List Token:=fS::(Jb.take i).map WL
def DQ:List Token:=P0 8++[UN,py]
theorem Zz{i:Nat}(h:i<Z Jb):P0 (i+1)=P0 i++[WL Jb[i]]:=by
 unfold P0;rw[vj h,xv];rfl
theorem T4{i:Nat}(h:i<=8):Z (P0 i)=i+1:=by
 have:Z Jb=8:=rfl;unfold P0;rw[gr,oj,abM];omega
theorem fN:∀s∈Jb,s.size<=ao:=by
 intro s g;have:Jb.all (λs=>decide (s.size<=4))=true:=by decide
 have:=de.1 this s g;simp at this;unfold ao;omega
theorem aP:Pure prog 132 [] (C7 DQ):=by
 have h1:=B2 J;simp at h1;have v:1<=ao:=by unfold ao;omega
 have C:4<=ao:=by unfold ao;omega
 have E:6<=ao:=by unfold ao;omega
 have F:8<=ao:=by unfold ao;omega
 have m:Z Jb=8:=rfl;refine zP func132 67 rfl λwf=>?_;apply yW;simp;apply yS;apply yJ;simp;refine Bz (h1) rfl (by simp) (yJ ?_);simp;apply yS;(iterate 2 (refine Cg (by simp[ao]) ?_;simp[ao]));((refine AY.I3 rfl ?_ ?_);(focus(simp[FR,ao,ao];done));simp[ao]);apply yJ;simp;apply yS;apply yJ;simp;refine Bz (HX 97 122) rfl (by simp[xN]) (yJ ?_);simp;refine Bz (HX 97 122) rfl (by simp[xN]) (yJ ?_);simp;refine Bz (EN 4 1 0) rfl (by simp[xN]) (yJ ?_);simp;refine Bz (EN 2 0 2) rfl (by simp[xN]) (yJ ?_);simp[ao];refine io (jp 1 (xs:=[AV fS]) rfl (by simp[DR,Ed,CZ,AV,fS,Db,AS])) ?_;simp;apply yW;simp[ao];refine io (AJ.te 3 (d:=.sl (Jb.map D.str)) (by simp[BC,Jb])) ?_;refine xS (yW ?_);simp;apply Bp;refine FH 8 (λi tm S=>tm 1=.ptr 0 1 0 0/\tm 2=.row 1 (i+1)/\tm 3=.d (.sl (Jb.map D.str))/\tm 4=.d (AF i)/\S=[.row J 2 [.d (AB Db)],.row J 7 ((P0 i).map λt=>.d (AV t))]) (ed _) (by simp[P0,Db]) ?_;rintro i tm S hi ⟨t1,t2,t3,t4,rfl⟩;refine xS (yW ?_);simp[t3,t4,m];apply AQ;simp;refine⟨λj=>?_,λH=>?_⟩
 .have w:(i:Int)<8:=j;have j:i<8:=by omega
  have k:i<Z Jb:=by omega
  have Mh:=Zz k;have g:=T4 (Nat.le_of_lt j);have o:bv .i64 ((i:Int)+1)=(i+1:Nat):=by rw[c8];omega
  have h:i+1+1<=1073741824:=by omega
  have z:=fN _ (cF k);generalize A:Jb[i]=s at *;apply xK;apply xB;refine yE (A3 12 [25,26]) (by kernel_rfl) ?_;simp;apply yA 1;simp[t1,t2,t3,t4,j,w,A,v,m];apply xX 2049 (by kernel_rfl);simp[Aa,t1,t2,t3,t4,j,w,A,v,m,g,h,Ac,ls];apply yA 1;simp;apply yV;simp[t4,o];refine⟨j,_,_,ap,?_⟩;simp[t1,t3,Mh,WL,Db,AB,AV]
 .have e:i=8:=by omega
  subst e;have g:=T4 (ci 8);apply Co;apply yS;apply yJ;simp;refine Bz (HX 9 10) rfl (by simp[xN]) (yJ ?_);simp;refine Bz (HX 32 32) rfl (by simp[xN]) (yJ ?_);simp;refine Bz (EN 3 0 1) rfl (by simp[xN]) (yJ ?_);simp;refine Bz (HX 9 10) rfl (by simp[xN]) (yJ ?_);simp;refine Bz (HX 32 32) rfl (by simp[xN]) (yJ ?_);simp;refine Bz (EN 3 3 4) rfl (by simp[xN]) (yJ ?_);simp;refine Bz (EN 4 5 0) rfl (by simp[xN]) (yJ ?_);simp;refine Bz (EN 2 2 6) rfl (by simp[xN]) (yJ ?_);simp[ao];(repeat apply xS);apply yT;apply yJ;simp;refine Bz (HX 37 37) rfl (by simp[xN]) (yJ ?_);simp;refine Bz (HX 97 122) rfl (by simp[xN]) (yJ ?_);simp;refine Bz (HX 32 32) rfl (by simp[xN]) (yJ ?_);simp;refine Bz (EN 3 1 2) rfl (by simp[xN]) (yJ ?_);simp;refine Bz (EN 4 3 0) rfl (by simp[xN]) (yJ ?_);simp;refine Bz (EN 2 0 4) rfl (by simp[xN]) (yJ ?_);simp[ao];have h:8+1+1<=1073741824:=by omega
  have q:8+1+1+1<=1073741824:=by omega
  have u:Z (P0 8++[UN])=10:=by simp[g]
  have B:AV UN=.agg [.str ⟨#[115,112,97,99,101]⟩,.int .i64 1,.str gs,.sl [AS ⟨1,9,10,0,0⟩,AS ⟨1,32,32,0,0⟩,AS ⟨3,0,0,0,1⟩,AS ⟨1,9,10,0,0⟩,AS ⟨1,32,32,0,0⟩,AS ⟨3,0,0,3,4⟩,AS ⟨4,0,0,5,0⟩,AS ⟨2,0,0,2,6⟩],.str gs,.sl [],.int .i64 1]:=rfl;have G:AV py=.agg [.str ⟨#[114,101,109,97,114,107]⟩,.int .i64 2,.str gs,.sl [AS ⟨1,37,37,0,0⟩,AS ⟨1,97,122,0,0⟩,AS ⟨1,32,32,0,0⟩,AS ⟨3,0,0,1,2⟩,AS ⟨4,0,0,3,0⟩,AS ⟨2,0,0,0,4⟩],.str gs,.sl [],.int .i64 1]:=rfl;apply yW;simp[t1,t2,ao,g,h,Ac,ls];refine io (jp 1 (xs:=(P0 8++[UN]).map AV) rfl ?_) ?_
  .have:=Cr [] ((P0 8++[UN]).map AV);rw[Be];simp[B,Db]
  simp;apply yW;simp[t1,ao,g,q,Ac,l5,ls];apply Am;refine⟨_,_,fc 1 (xs:=DQ.map AV) rfl ?_,?_⟩
  .rw[Be];simp[DQ,B,G,Db]
  simp[BC];rfl
def I4(Ay:List ByteArray):V:=.agg [.full [.str ⟨#[65]⟩,.str ⟨#[66]⟩],.d (.sl []),.d (.int .i64 1),.d (C7 DQ),.d (Bv Ay),.full [],.d (.int .i64 0),.full [],.full []]
theorem dL(Ay:List ByteArray):AH prog 46 [.d (Bv Ay)] [] (I4 Ay) [.row J 9 [I4 Ay],.row J 2 [.d (AB Db)]]:=by
 have h1:=B2 J;simp at h1;refine zC func46 10 rfl λwf _=>?_;apply yW;simp;apply yS;apply yJ;simp;refine Bz (h1) rfl (by simp) (yJ ?_);simp;(repeat apply xS);refine yE (A3 5 [11]) (by kernel_rfl) ?_;simp;apply yA 1;simp[ao];refine kt (aP) rfl (by simp[xN]) ?_;simp;apply yA 1;simp;apply xX 31 (by kernel_rfl);simp[Aa,AB];apply xM;apply Am;refine⟨_,ap,?_⟩;simp[At,I4]
theorem IE(Ay:List ByteArray):AH prog 46 [.d (Bv Ay)] [] (I4 Ay) []:=
 (dL Ay).ghost λtm h0=>⟨_,AJ.drop 0 (ci _) (by simp) (by simp),by simp[clean,h0,I4,AP,Au]⟩
section
variable {P:Program} {n b:Nat} {ops:Array Oper} {o:Oper} {tm:Tm} {S:Sg} {K:Tm->Sg->Prop}
theorem Ad.I3{B:List (Nat×(Sg->Prop))}{i:Nat}{rest:List (Nat×Bool×Oper)}{T:TypeId}{len:Nat}{parts:Array (Nat×Operand)}(ws:List Bool)(k:B.map (λp=>waits ops i p.1)=ws)(q:o.op=.buildSlice T len parts)
  (h:o.guard=none/\A6 n o.dst/\NR P T len parts tm/\okB ws B S (S++[.row J (LN P T) ((Cj tm parts).map (·.2))]))
  (t:Ad P n b ops (FK ws B) rest (put tm o.dst (.row (Z S) len)) (S++[.row J (LN P T) ((Cj tm parts).map (·.2))]) K):Ad P n b ops B ((i,am,o)::rest) tm S K:=by
 refine Ad.tT ws k (λhi=>λg u=>?_) h.2.2.2 t;have j:∀p∈parts.toList,ev g p.2=ev tm p.2:=λp h=>Hr u p.2 (by rw[q];simp only[Op.operands];exact List.mem_toArray.2 (fd.2 ⟨p,h,rfl⟩));have v:=JA j;have s:Cj g parts=Cj tm parts:=y4 λp m=>by rw[j p m]
 have m:NR P T len parts g:=by
  have:=h.2.2.1;unfold NR at this⊢;rw[v,s];exact this
 have:=aeq (b:=b) hi h.2.1 h.1 (Mk (n:=n) (S:=S) q m);rw[s]at this;exact this
end
theorem Dw(v:Int)(h:0<=v/\v<=1):PW (Aq v)=some ⟨[⟨v,1,0⟩],2⟩:=by
 have:v=0\/v=1:=by omega
 rcases this with rfl|rfl<;>decide+kernel
def VK:AD:=⟨[⟨#[65]⟩,⟨#[66]⟩],Db,DQ,[⟨#[69]⟩],[⟨⟨#[97,100,100]⟩,0,[⟨am,0⟩,⟨J,1⟩,⟨am,0⟩],Db,am,0,[],Az⟩,⟨⟨#[109,117,108]⟩,0,[⟨am,0⟩,⟨J,2⟩,⟨am,0⟩],Db,am,0,[],Az⟩,⟨⟨#[98,114,97,99,107,101,116]⟩,0,[⟨J,3⟩,⟨am,0⟩,⟨J,4⟩],Db,J,0,[],Az⟩,⟨⟨#[110,97,109,101]⟩,0,[⟨J,0⟩],Db,am,0,[],Az⟩,⟨⟨#[112,111,119]⟩,0,[⟨am,0⟩,⟨J,8⟩,⟨am,0⟩],⟨[⟨1,0,1⟩],2⟩,am,0,[],Az⟩],0,[⟨[4],2,Db⟩,⟨[1],1,Db⟩,⟨[0],1,⟨[⟨0,1,0⟩],2⟩⟩],[]⟩
theorem eE:Pure prog 133 [] (AA VK):=by
 have h1:=B2 J;simp at h1;have g:=(IE [⟨#[69]⟩]).E5 (args':=[.full [.str ⟨#[69]⟩]]) rfl λi h o=>by
  match i,h with
  |0,_=>exact .inr ⟨Bv [⟨#[69]⟩],by simp[BC],rfl⟩
 have q:gs=(⟨#[]⟩:ByteArray):=rfl;have c0:=CL 0;have c1:=CL 1;have j:Aq 0=⟨[⟨0,0,1⟩],2⟩:=rfl;have k:Aq 1=⟨[⟨1,0,1⟩],2⟩:=rfl;rw[j]at c0;rw[k]at c1;have m:=DJ _ _ (Dw 0 (by omega));have k1:=DJ _ _ (Dw 1 (by omega));rw[j]at m;rw[k]at k1;refine zP func133 76 rfl λwf=>?_;apply yW;simp;apply yS;apply yJ;simp[ao];refine xF (g) [] rfl ?_;simp;apply yJ;simp[I4];apply yS;apply yJ;simp;refine Bz (h1) rfl (by simp) (yJ ?_);simp[AB];refine yD (A3 8 [17,18,21]) (by kernel_rfl) ?_;simp;apply yA 1;simp;refine Bs (Ex 0) rfl (by simp[ao]) ?_;simp;refine Bs (Dc 1) rfl (by simp[ao,xN]) ?_;simp;refine Bs (Ex 0) rfl (by simp[ao,xN]) ?_;simp;apply yA 1;simp[ao];refine Bs (Bk ⟨#[97,100,100]⟩ 0 [⟨am,0⟩,⟨J,1⟩,⟨am,0⟩]) rfl (by simp[ao,xN]) ?_;simp;apply yA 1;simp[ao];apply xX 67 (by kernel_rfl);simp[Aa,Ag,ao,Ac];apply yA 1;simp;apply xX 63 (by kernel_rfl);simp[Aa,Ag,ao];apply xM;refine yD (A3 8 [17,18,21]) (by kernel_rfl) ?_;simp;apply yA 1;simp;refine Bs (Ex 0) rfl (by simp[ao,xN]) ?_;simp;refine Bs (Dc 2) rfl (by simp[ao,xN]) ?_;simp;refine Bs (Ex 0) rfl (by simp[ao,xN]) ?_;simp;apply yA 1;simp[ao];refine Bs (Bk ⟨#[109,117,108]⟩ 0 [⟨am,0⟩,⟨J,2⟩,⟨am,0⟩]) rfl (by simp[ao,xN]) ?_;simp;apply yA 1;simp[ao];apply xX 67 (by kernel_rfl);simp[Aa,Ag,ao,Ac];apply yA 1;simp;apply xX 63 (by kernel_rfl);simp[Aa,Ag,ao];apply xM;refine yD (A3 8 [17,18,21]) (by kernel_rfl) ?_;simp;apply yA 1;simp;refine Bs (Dc 3) rfl (by simp[ao,xN]) ?_;simp;refine Bs (Ex 0) rfl (by simp[ao,xN]) ?_;simp;refine Bs (Dc 4) rfl (by simp[ao,xN]) ?_;simp;apply yA 1;simp[ao];refine Bs (Bk ⟨#[98,114,97,99,107,101,116]⟩ 0 [⟨J,3⟩,⟨am,0⟩,⟨J,4⟩]) rfl (by simp[ao,xN]) ?_;simp;apply yA 1;simp[ao];apply xX 67 (by kernel_rfl);simp[Aa,Ag,ao,Ac];apply yA 1;simp;apply xX 63 (by kernel_rfl);simp[Aa,Ag,ao];apply xM;refine yD (A3 6 [13,14,17]) (by kernel_rfl) ?_;simp;apply yA 1;simp;refine Bs (Dc 0) rfl (by simp[ao,xN]) ?_;simp;apply yA 1;simp[ao];refine Bs (Bk ⟨#[110,97,109,101]⟩ 0 [⟨J,0⟩]) rfl (by simp[ao,xN]) ?_;simp;apply yA 1;simp[ao];apply xX 19 (by kernel_rfl);simp[Aa,Ag,ao,Ac];apply yA 1;simp;apply xX 15 (by kernel_rfl);simp[Aa,Ag,ao];apply xM;refine yD (A3 8 [17,18,21]) (by kernel_rfl) ?_;simp;apply yA 1;simp;refine Bs (Ex 0) rfl (by simp[ao,xN]) ?_;simp;refine Bs (Dc 8) rfl (by simp[ao,xN]) ?_;simp;refine Bs (Ex 0) rfl (by simp[ao,xN]) ?_;simp;apply yA 1;simp[ao];refine Bs (Bk ⟨#[112,111,119]⟩ 0 [⟨am,0⟩,⟨J,8⟩,⟨am,0⟩]) rfl (by simp[ao,xN]) ?_;simp;apply yA 1;simp[ao];apply xX 67 (by kernel_rfl);simp[Aa,Ag,ao,Ac];apply yA 1;simp;apply xX 63 (by kernel_rfl);simp[Aa,Ag,ao];apply xM;apply yW;simp;refine yD (A3 5 [11]) (by kernel_rfl) ?_;simp;apply yA 1;simp;refine Bs (c1) rfl (by simp[ao,xN]) ?_;simp;apply yA 1;simp[AB];apply xX 29 (by kernel_rfl);simp[Aa,Ag,ao];apply xM;refine yD (A3 12 [25]) (by kernel_rfl) ?_;simp;apply yA 1;simp[ao];refine Bs (c0) rfl (by simp[ao,xN]) ?_;simp;refine Bs (m) rfl (by simp[ao,xN]) ?_;simp;apply yA 1;simp[ao,AB];apply xX 4095 (by kernel_rfl);simp[Aa,Ag,ao];apply xM;apply yW;simp;apply Am;refine⟨_,_,fc 3 (xs:=VK.AE.map AG) rfl ?_,?_⟩
 .rw[Be];simp[VK,AG,Az,Db]
 simp[BC,AA,VK,AG,Ak,Az,Db]
def PR:AD:=⟨[⟨#[65]⟩,⟨#[66]⟩],Db,DQ,[⟨#[83]⟩,⟨#[67]⟩],[⟨⟨#[98,111,116,104]⟩,0,[⟨J,5⟩,⟨am,1⟩,⟨am,0⟩,⟨J,6⟩,⟨am,0⟩],Db,am,0,[],Az⟩,⟨⟨#[116,104,101,110]⟩,0,[⟨J,5⟩,⟨am,1⟩,⟨am,0⟩],Db,am,0,[],Az⟩,⟨⟨#[99,97,108,108]⟩,0,[⟨am,1⟩,⟨J,7⟩],Db,am,0,[],Az⟩,⟨⟨#[98,108,111,99,107]⟩,0,[⟨J,3⟩,⟨am,0⟩,⟨J,4⟩],Db,J,0,[],Az⟩,⟨⟨#[119,111,114,100]⟩,1,[⟨J,0⟩],Db,am,0,[],Az⟩],0,[],[⟨2,0,2,1,0,0,[],⟨[⟨0,0,1⟩],2⟩⟩,⟨5,0,0,0,0,0,[5,6],⟨[⟨1,0,1⟩],2⟩⟩]⟩
theorem fw:Pure prog 134 [] (AA PR):=by
 have h1:=B2 J;simp at h1;have g:=(IE [⟨#[83]⟩,⟨#[67]⟩]).E5 (args':=[.full [.str ⟨#[83]⟩,.str ⟨#[67]⟩]]) rfl λi h o=>by
  match i,h with
  |0,_=>exact .inr ⟨Bv [⟨#[83]⟩,⟨#[67]⟩],by simp[BC],rfl⟩
 have q:gs=(⟨#[]⟩:ByteArray):=rfl;have c0:=CL 0;have c1:=CL 1;have j:Aq 0=⟨[⟨0,0,1⟩],2⟩:=rfl;have k:Aq 1=⟨[⟨1,0,1⟩],2⟩:=rfl;rw[j]at c0;rw[k]at c1;have m:=DJ _ _ (Dw 0 (by omega));have k1:=DJ _ _ (Dw 1 (by omega));rw[j]at m;rw[k]at k1;refine zP func134 72 rfl λwf=>?_;apply yW;simp;apply yS;apply yJ;simp[ao];refine xF (g) [] rfl ?_;simp;apply yJ;simp[I4];apply yS;apply yJ;simp;refine Bz (h1) rfl (by simp) (yJ ?_);simp[AB];refine yD (A3 10 [21,22,25]) (by kernel_rfl) ?_;simp;apply yA 1;simp;refine Bs (Dc 5) rfl (by simp[ao]) ?_;simp;refine Bs (Ex 1) rfl (by simp[ao,xN]) ?_;simp;refine Bs (Ex 0) rfl (by simp[ao,xN]) ?_;simp;refine Bs (Dc 6) rfl (by simp[ao,xN]) ?_;simp;refine Bs (Ex 0) rfl (by simp[ao,xN]) ?_;simp;apply yA 1;simp[ao];refine Bs (Bk ⟨#[98,111,116,104]⟩ 0 [⟨J,5⟩,⟨am,1⟩,⟨am,0⟩,⟨J,6⟩,⟨am,0⟩]) rfl (by simp[ao,xN]) ?_;simp;apply yA 1;simp[ao];apply xX 259 (by kernel_rfl);simp[Aa,Ag,ao,Ac];apply yA 1;simp;apply xX 255 (by kernel_rfl);simp[Aa,Ag,ao];apply xM;refine yD (A3 8 [17,18,21]) (by kernel_rfl) ?_;simp;apply yA 1;simp;refine Bs (Dc 5) rfl (by simp[ao,xN]) ?_;simp;refine Bs (Ex 1) rfl (by simp[ao,xN]) ?_;simp;refine Bs (Ex 0) rfl (by simp[ao,xN]) ?_;simp;apply yA 1;simp[ao];refine Bs (Bk ⟨#[116,104,101,110]⟩ 0 [⟨J,5⟩,⟨am,1⟩,⟨am,0⟩]) rfl (by simp[ao,xN]) ?_;simp;apply yA 1;simp[ao];apply xX 67 (by kernel_rfl);simp[Aa,Ag,ao,Ac];apply yA 1;simp;apply xX 63 (by kernel_rfl);simp[Aa,Ag,ao];apply xM;refine yD (A3 7 [15,16,19]) (by kernel_rfl) ?_;simp;apply yA 1;simp;refine Bs (Ex 1) rfl (by simp[ao,xN]) ?_;simp;refine Bs (Dc 7) rfl (by simp[ao,xN]) ?_;simp;apply yA 1;simp[ao];refine Bs (Bk ⟨#[99,97,108,108]⟩ 0 [⟨am,1⟩,⟨J,7⟩]) rfl (by simp[ao,xN]) ?_;simp;apply yA 1;simp[ao];apply xX 35 (by kernel_rfl);simp[Aa,Ag,ao,Ac];apply yA 1;simp;apply xX 31 (by kernel_rfl);simp[Aa,Ag,ao];apply xM;refine yD (A3 8 [17,18,21]) (by kernel_rfl) ?_;simp;apply yA 1;simp;refine Bs (Dc 3) rfl (by simp[ao,xN]) ?_;simp;refine Bs (Ex 0) rfl (by simp[ao,xN]) ?_;simp;refine Bs (Dc 4) rfl (by simp[ao,xN]) ?_;simp;apply yA 1;simp[ao];refine Bs (Bk ⟨#[98,108,111,99,107]⟩ 0 [⟨J,3⟩,⟨am,0⟩,⟨J,4⟩]) rfl (by simp[ao,xN]) ?_;simp;apply yA 1;simp[ao];apply xX 67 (by kernel_rfl);simp[Aa,Ag,ao,Ac];apply yA 1;simp;apply xX 63 (by kernel_rfl);simp[Aa,Ag,ao];apply xM;refine yD (A3 6 [13,14,17]) (by kernel_rfl) ?_;simp;apply yA 1;simp;refine Bs (Dc 0) rfl (by simp[ao,xN]) ?_;simp;apply yA 1;simp[ao];refine Bs (Bk ⟨#[119,111,114,100]⟩ 1 [⟨J,0⟩]) rfl (by simp[ao,xN]) ?_;simp;apply yA 1;simp[ao];apply xX 19 (by kernel_rfl);simp[Aa,Ag,ao,Ac];apply yA 1;simp;apply xX 15 (by kernel_rfl);simp[Aa,Ag,ao];apply xM;apply yW;simp;refine yD (A3 5 [11,12,15]) (by kernel_rfl) ?_;simp;refine Bs (c0) rfl (by simp[ao,xN]) ?_;simp;apply yA 1;simp[ao,AB];((refine Ad.I3 (xT [1,0,0,1,0]) (by kernel_rfl) rfl ?_ ?_);(focus(simp[FR,ao,Aa,Ag,ao];done));simp[ao]);apply yA 1;simp;apply xX 15 (by kernel_rfl);simp[Aa,Ag,ao];apply xM;refine yD (A3 5 [11]) (by kernel_rfl) ?_;simp;apply yA 1;simp;refine Bs (c1) rfl (by simp[ao,xN]) ?_;simp;apply yA 1;simp[AB];apply xX 29 (by kernel_rfl);simp[Aa,Ag,ao];apply xM;apply yW;simp;refine io (fc 4 (xs:=PR.AT.map AN) rfl ?_) ?_
 .rw[Be];simp[PR,AN,Db]
 simp;apply Am;refine⟨_,_,fc 3 (xs:=PR.AE.map AG) rfl ?_,?_⟩
 .rw[Be];simp[PR,AG,Az,Db]
 simp[BC,AA,PR,AG,AN,Az,Db]
def VO:AD:=⟨[⟨#[65]⟩,⟨#[66]⟩],Db,DQ,[⟨#[76]⟩,⟨#[73]⟩],[⟨⟨#[101,109,112,116,121]⟩,0,[],Db,am,0,[],Az⟩,⟨⟨#[109,111,114,101]⟩,0,[⟨am,0⟩,⟨am,1⟩],Db,am,0,[],Az⟩,⟨⟨#[116,121,112,101]⟩,1,[⟨J,1⟩,⟨J,0⟩,⟨J,7⟩],Db,am,0,[],⟨am,2,1,0,0⟩⟩,⟨⟨#[112,111,105,110,116,101,114]⟩,1,[⟨J,0⟩,⟨J,2⟩,⟨J,0⟩,⟨J,7⟩],Db,am,0,[],⟨am,3,2,1,2⟩⟩,⟨⟨#[112,114,111,100,117,99,116]⟩,1,[⟨J,0⟩,⟨J,2⟩,⟨J,0⟩,⟨J,7⟩],Db,am,-1,[],⟨am,0,0,1,5⟩⟩,⟨⟨#[105,110,110,101,114]⟩,1,[⟨J,3⟩,⟨am,0⟩,⟨J,4⟩],Db,am,0,[],⟨J,0,0,0,0⟩⟩,⟨⟨#[115,116,114,105,99,116]⟩,1,[⟨J,0⟩,⟨J,7⟩],⟨[⟨0,0,1⟩],2⟩,am,0,[],⟨am,0,0,1,6⟩⟩],0,[],[]⟩
theorem jA:Pure prog 135 [] (AA VO):=by
 have h1:=B2 J;simp at h1;have g:=(IE [⟨#[76]⟩,⟨#[73]⟩]).E5 (args':=[.full [.str ⟨#[76]⟩,.str ⟨#[73]⟩]]) rfl λi h o=>by
  match i,h with
  |0,_=>exact .inr ⟨Bv [⟨#[76]⟩,⟨#[73]⟩],by simp[BC],rfl⟩
 have q:gs=(⟨#[]⟩:ByteArray):=rfl;have c0:=CL 0;have c1:=CL 1;have j:Aq 0=⟨[⟨0,0,1⟩],2⟩:=rfl;have k:Aq 1=⟨[⟨1,0,1⟩],2⟩:=rfl;rw[j]at c0;rw[k]at c1;have m:=DJ _ _ (Dw 0 (by omega));have k1:=DJ _ _ (Dw 1 (by omega));rw[j]at m;rw[k]at k1;refine zP func135 106 rfl λwf=>?_;apply yW;simp;apply yS;apply yJ;simp[ao];refine xF (g) [] rfl ?_;simp;apply yJ;simp[I4];refine yD (A3 5 [11,12,15]) (by kernel_rfl) ?_;simp;apply yA 1;simp[ao];refine Bs (Bk ⟨#[101,109,112,116,121]⟩ 0 []) rfl (by simp[ao]) ?_;simp;apply yA 1;simp[ao];apply xX 11 (by kernel_rfl);simp[Aa,Ag,ao,Ac];apply yA 1;simp;apply xX 7 (by kernel_rfl);simp[Aa,ao];apply xM;refine yD (A3 7 [15,16,19]) (by kernel_rfl) ?_;simp;apply yA 1;simp;refine Bs (Ex 0) rfl (by simp[ao,xN]) ?_;simp;refine Bs (Ex 1) rfl (by simp[ao,xN]) ?_;simp;apply yA 1;simp[ao];refine Bs (Bk ⟨#[109,111,114,101]⟩ 0 [⟨am,0⟩,⟨am,1⟩]) rfl (by simp[ao,xN]) ?_;simp;apply yA 1;simp[ao];apply xX 35 (by kernel_rfl);simp[Aa,Ag,ao,Ac];apply yA 1;simp;apply xX 31 (by kernel_rfl);simp[Aa,Ag,ao];apply xM;refine yD (A3 8 [17,18,21]) (by kernel_rfl) ?_;simp;apply yA 1;simp;refine Bs (Dc 1) rfl (by simp[ao,xN]) ?_;simp;refine Bs (Dc 0) rfl (by simp[ao,xN]) ?_;simp;refine Bs (Dc 7) rfl (by simp[ao,xN]) ?_;simp;apply yA 1;simp[ao];refine Bs (Bk ⟨#[116,121,112,101]⟩ 1 [⟨J,1⟩,⟨J,0⟩,⟨J,7⟩]) rfl (by simp[ao,xN]) ?_;simp;apply yA 1;simp[ao];apply xX 67 (by kernel_rfl);simp[Aa,Ag,ao,Ac];apply yA 1;simp;apply xX 63 (by kernel_rfl);simp[Aa,Ag,ao];apply xM;refine yD (A3 9 [19,20,23]) (by kernel_rfl) ?_;simp;apply yA 1;simp;refine Bs (Dc 0) rfl (by simp[ao,xN]) ?_;simp;refine Bs (Dc 2) rfl (by simp[ao,xN]) ?_;simp;refine Bs (Dc 0) rfl (by simp[ao,xN]) ?_;simp;refine Bs (Dc 7) rfl (by simp[ao,xN]) ?_;simp;apply yA 1;simp[ao];refine Bs (Bk ⟨#[112,111,105,110,116,101,114]⟩ 1 [⟨J,0⟩,⟨J,2⟩,⟨J,0⟩,⟨J,7⟩]) rfl (by simp[ao,xN]) ?_;simp;apply yA 1;simp[ao];apply xX 131 (by kernel_rfl);simp[Aa,Ag,ao,Ac];apply yA 1;simp;apply xX 127 (by kernel_rfl);simp[Aa,Ag,ao];apply xM;refine yD (A3 9 [19,20,23]) (by kernel_rfl) ?_;simp;apply yA 1;simp;refine Bs (Dc 0) rfl (by simp[ao,xN]) ?_;simp;refine Bs (Dc 2) rfl (by simp[ao,xN]) ?_;simp;refine Bs (Dc 0) rfl (by simp[ao,xN]) ?_;simp;refine Bs (Dc 7) rfl (by simp[ao,xN]) ?_;simp;apply yA 1;simp[ao];refine Bs (Bk ⟨#[112,114,111,100,117,99,116]⟩ 1 [⟨J,0⟩,⟨J,2⟩,⟨J,0⟩,⟨J,7⟩]) rfl (by simp[ao,xN]) ?_;simp;apply yA 1;simp[ao];apply xX 131 (by kernel_rfl);simp[Aa,Ag,ao,Ac];apply yA 1;simp;apply xX 127 (by kernel_rfl);simp[Aa,Ag,ao];apply xM;refine yD (A3 8 [17,18,21]) (by kernel_rfl) ?_;simp;apply yA 1;simp;refine Bs (Dc 3) rfl (by simp[ao,xN]) ?_;simp;refine Bs (Ex 0) rfl (by simp[ao,xN]) ?_;simp;refine Bs (Dc 4) rfl (by simp[ao,xN]) ?_;simp;apply yA 1;simp[ao];refine Bs (Bk ⟨#[105,110,110,101,114]⟩ 1 [⟨J,3⟩,⟨am,0⟩,⟨J,4⟩]) rfl (by simp[ao,xN]) ?_;simp;apply yA 1;simp[ao];apply xX 67 (by kernel_rfl);simp[Aa,Ag,ao,Ac];apply yA 1;simp;apply xX 63 (by kernel_rfl);simp[Aa,Ag,ao];apply xM;refine yD (A3 7 [15,16,19]) (by kernel_rfl) ?_;simp;apply yA 1;simp;refine Bs (Dc 0) rfl (by simp[ao,xN]) ?_;simp;refine Bs (Dc 7) rfl (by simp[ao,xN]) ?_;simp;apply yA 1;simp[ao];refine Bs (Bk ⟨#[115,116,114,105,99,116]⟩ 1 [⟨J,0⟩,⟨J,7⟩]) rfl (by simp[ao,xN]) ?_;simp;apply yA 1;simp[ao];apply xX 35 (by kernel_rfl);simp[Aa,Ag,ao,Ac];apply yA 1;simp;apply xX 31 (by kernel_rfl);simp[Aa,Ag,ao];apply xM;apply yW;simp[ao];apply yW;simp[ao];apply yW;simp[ao];apply yW;simp[ao];apply yW;simp[ao];apply yW;simp;refine yD (A3 5 [11]) (by kernel_rfl) ?_;simp;apply yA 1;simp;refine Bs (c0) rfl (by simp[ao,xN]) ?_;simp;apply yA 1;simp[AB];apply xX 29 (by kernel_rfl);simp[Aa,Ag,ao];apply xM;apply yW;simp;apply Am;refine⟨_,_,fc 2 (xs:=VO.AE.map AG) rfl ?_,?_⟩
 .rw[Be];simp[VO,AG,Az,Db]
 simp[BC,AA,VO,AG,Az,Db]
def U3:AD:=⟨[⟨#[65]⟩,⟨#[66]⟩],Db,DQ,[⟨#[66]⟩,⟨#[73]⟩],[⟨⟨#[111,110,101]⟩,0,[⟨am,1⟩],Db,am,0,[],Az⟩,⟨⟨#[108,105,115,116]⟩,0,[⟨am,0⟩,⟨am,1⟩],Db,am,0,[⟨2,0,1⟩],Az⟩,⟨⟨#[119,111,114,100]⟩,1,[⟨J,0⟩],Db,am,0,[],Az⟩,⟨⟨#[104,101,97,100]⟩,1,[⟨J,5⟩,⟨J,0⟩,⟨am,0⟩],Db,am,0,[⟨3,0,2⟩,⟨1,2,0⟩],Az⟩,⟨⟨#[108,105,110,101]⟩,1,[⟨J,5⟩,⟨am,0⟩],⟨[⟨0,0,1⟩],2⟩,am,0,[⟨4,0,1⟩],Az⟩],0,[],[]⟩
theorem iO:Pure prog 136 [] (AA U3):=by
 have h1:=B2 J;simp at h1;have g:=(IE [⟨#[66]⟩,⟨#[73]⟩]).E5 (args':=[.full [.str ⟨#[66]⟩,.str ⟨#[73]⟩]]) rfl λi h o=>by
  match i,h with
  |0,_=>exact .inr ⟨Bv [⟨#[66]⟩,⟨#[73]⟩],by simp[BC],rfl⟩
 have q:gs=(⟨#[]⟩:ByteArray):=rfl;have c0:=CL 0;have c1:=CL 1;have j:Aq 0=⟨[⟨0,0,1⟩],2⟩:=rfl;have k:Aq 1=⟨[⟨1,0,1⟩],2⟩:=rfl;rw[j]at c0;rw[k]at c1;have m:=DJ _ _ (Dw 0 (by omega));have k1:=DJ _ _ (Dw 1 (by omega));rw[j]at m;rw[k]at k1;refine zP func136 73 rfl λwf=>?_;apply yW;simp;apply yS;apply yJ;simp[ao];refine xF (g) [] rfl ?_;simp;apply yJ;simp[I4];refine yD (A3 6 [13,14,17]) (by kernel_rfl) ?_;simp;apply yA 1;simp;refine Bs (Ex 1) rfl (by simp[ao]) ?_;simp;apply yA 1;simp[ao];refine Bs (Bk ⟨#[111,110,101]⟩ 0 [⟨am,1⟩]) rfl (by simp[ao,xN]) ?_;simp;apply yA 1;simp[ao];apply xX 19 (by kernel_rfl);simp[Aa,Ag,ao,Ac];apply yA 1;simp;apply xX 15 (by kernel_rfl);simp[Aa,Ag,ao];apply xM;refine yD (A3 7 [15,16,19]) (by kernel_rfl) ?_;simp;apply yA 1;simp;refine Bs (Ex 0) rfl (by simp[ao,xN]) ?_;simp;refine Bs (Ex 1) rfl (by simp[ao,xN]) ?_;simp;apply yA 1;simp[ao];refine Bs (Bk ⟨#[108,105,115,116]⟩ 0 [⟨am,0⟩,⟨am,1⟩]) rfl (by simp[ao,xN]) ?_;simp;apply yA 1;simp[ao];apply xX 35 (by kernel_rfl);simp[Aa,Ag,ao,Ac];apply yA 1;simp;apply xX 31 (by kernel_rfl);simp[Aa,Ag,ao];apply xM;refine yD (A3 6 [13,14,17]) (by kernel_rfl) ?_;simp;apply yA 1;simp;refine Bs (Dc 0) rfl (by simp[ao,xN]) ?_;simp;apply yA 1;simp[ao];refine Bs (Bk ⟨#[119,111,114,100]⟩ 1 [⟨J,0⟩]) rfl (by simp[ao,xN]) ?_;simp;apply yA 1;simp[ao];apply xX 19 (by kernel_rfl);simp[Aa,Ag,ao,Ac];apply yA 1;simp;apply xX 15 (by kernel_rfl);simp[Aa,Ag,ao];apply xM;refine yD (A3 8 [17,18,21]) (by kernel_rfl) ?_;simp;apply yA 1;simp;refine Bs (Dc 5) rfl (by simp[ao,xN]) ?_;simp;refine Bs (Dc 0) rfl (by simp[ao,xN]) ?_;simp;refine Bs (Ex 0) rfl (by simp[ao,xN]) ?_;simp;apply yA 1;simp[ao];refine Bs (Bk ⟨#[104,101,97,100]⟩ 1 [⟨J,5⟩,⟨J,0⟩,⟨am,0⟩]) rfl (by simp[ao,xN]) ?_;simp;apply yA 1;simp[ao];apply xX 67 (by kernel_rfl);simp[Aa,Ag,ao,Ac];apply yA 1;simp;apply xX 63 (by kernel_rfl);simp[Aa,Ag,ao];apply xM;refine yD (A3 7 [15,16,19]) (by kernel_rfl) ?_;simp;apply yA 1;simp;refine Bs (Dc 5) rfl (by simp[ao,xN]) ?_;simp;refine Bs (Ex 0) rfl (by simp[ao,xN]) ?_;simp;apply yA 1;simp[ao];refine Bs (Bk ⟨#[108,105,110,101]⟩ 1 [⟨J,5⟩,⟨am,0⟩]) rfl (by simp[ao,xN]) ?_;simp;apply yA 1;simp[ao];apply xX 35 (by kernel_rfl);simp[Aa,Ag,ao,Ac];apply yA 1;simp;apply xX 31 (by kernel_rfl);simp[Aa,Ag,ao];apply xM;apply yW;simp[ao];apply yW;simp[ao];apply yW;simp[ao];refine yD (A3 5 [11]) (by kernel_rfl) ?_;simp;apply yA 1;simp;refine Bs (c0) rfl (by simp[ao,xN]) ?_;simp;apply yA 1;simp[AB];apply xX 29 (by kernel_rfl);simp[Aa,Ag,ao];apply xM;apply yW;simp;apply Am;refine⟨_,_,fc 2 (xs:=U3.AE.map AG) rfl ?_,?_⟩
 .rw[Be];simp[U3,AG,Az,Db,BF]
 simp[BC,AA,U3,AG,Az,Db]
def Ut:AD:=⟨[⟨#[65]⟩,⟨#[66]⟩],Db,DQ,[⟨#[83]⟩,⟨#[87]⟩,⟨#[86]⟩],[⟨⟨#[112,97,105,114]⟩,0,[⟨am,1⟩,⟨am,2⟩],Db,am,0,[],Az⟩,⟨⟨#[115,105,110,103,108,101]⟩,1,[⟨J,0⟩],Db,am,-1,[],Az⟩,⟨⟨#[100,111,117,98,108,101]⟩,1,[⟨J,0⟩,⟨J,0⟩],Db,am,0,[],Az⟩,⟨⟨#[110,111,110,101]⟩,2,[],Db,am,0,[],Az⟩,⟨⟨#[110,101,120,116]⟩,2,[⟨J,0⟩,⟨am,2⟩],Db,am,0,[],Az⟩,⟨⟨#[109,97,114,107]⟩,2,[⟨J,1⟩,⟨am,2⟩],⟨[⟨1,0,1⟩],2⟩,am,0,[],Az⟩],0,[],[⟨3,0,0,0,1,0,[0],⟨[⟨0,0,1⟩],2⟩⟩,⟨4,0,0,0,2,0,[1],⟨[⟨1,1,0⟩],2⟩⟩]⟩
theorem fJ:Pure prog 137 [] (AA Ut):=by
 have h1:=B2 J;simp at h1;have g:=(IE [⟨#[83]⟩,⟨#[87]⟩,⟨#[86]⟩]).E5 (args':=[.full [.str ⟨#[83]⟩,.str ⟨#[87]⟩,.str ⟨#[86]⟩]]) rfl λi h o=>by
  match i,h with
  |0,_=>exact .inr ⟨Bv [⟨#[83]⟩,⟨#[87]⟩,⟨#[86]⟩],by simp[BC],rfl⟩
 have q:gs=(⟨#[]⟩:ByteArray):=rfl;have c0:=CL 0;have c1:=CL 1;have j:Aq 0=⟨[⟨0,0,1⟩],2⟩:=rfl;have k:Aq 1=⟨[⟨1,0,1⟩],2⟩:=rfl;rw[j]at c0;rw[k]at c1;have m:=DJ _ _ (Dw 0 (by omega));have k1:=DJ _ _ (Dw 1 (by omega));rw[j]at m;rw[k]at k1;refine zP func137 74 rfl λwf=>?_;apply yW;simp;apply yS;apply yJ;simp[ao];refine xF (g) [] rfl ?_;simp;apply yJ;simp[I4];refine yD (A3 7 [15,16,19]) (by kernel_rfl) ?_;simp;apply yA 1;simp;refine Bs (Ex 1) rfl (by simp[ao]) ?_;simp;refine Bs (Ex 2) rfl (by simp[ao,xN]) ?_;simp;apply yA 1;simp[ao];refine Bs (Bk ⟨#[112,97,105,114]⟩ 0 [⟨am,1⟩,⟨am,2⟩]) rfl (by simp[ao,xN]) ?_;simp;apply yA 1;simp[ao];apply xX 35 (by kernel_rfl);simp[Aa,Ag,ao,Ac];apply yA 1;simp;apply xX 31 (by kernel_rfl);simp[Aa,Ag,ao];apply xM;refine yD (A3 6 [13,14,17]) (by kernel_rfl) ?_;simp;apply yA 1;simp;refine Bs (Dc 0) rfl (by simp[ao,xN]) ?_;simp;apply yA 1;simp[ao];refine Bs (Bk ⟨#[115,105,110,103,108,101]⟩ 1 [⟨J,0⟩]) rfl (by simp[ao,xN]) ?_;simp;apply yA 1;simp[ao];apply xX 19 (by kernel_rfl);simp[Aa,Ag,ao,Ac];apply yA 1;simp;apply xX 15 (by kernel_rfl);simp[Aa,Ag,ao];apply xM;refine yD (A3 7 [15,16,19]) (by kernel_rfl) ?_;simp;apply yA 1;simp;refine Bs (Dc 0) rfl (by simp[ao,xN]) ?_;simp;refine Bs (Dc 0) rfl (by simp[ao,xN]) ?_;simp;apply yA 1;simp[ao];refine Bs (Bk ⟨#[100,111,117,98,108,101]⟩ 1 [⟨J,0⟩,⟨J,0⟩]) rfl (by simp[ao,xN]) ?_;simp;apply yA 1;simp[ao];apply xX 35 (by kernel_rfl);simp[Aa,Ag,ao,Ac];apply yA 1;simp;apply xX 31 (by kernel_rfl);simp[Aa,Ag,ao];apply xM;refine yD (A3 5 [11,12,15]) (by kernel_rfl) ?_;simp;apply yA 1;simp[ao];refine Bs (Bk ⟨#[110,111,110,101]⟩ 2 []) rfl (by simp[ao,xN]) ?_;simp;apply yA 1;simp[ao];apply xX 11 (by kernel_rfl);simp[Aa,Ag,ao,Ac];apply yA 1;simp;apply xX 7 (by kernel_rfl);simp[Aa,ao];apply xM;refine yD (A3 7 [15,16,19]) (by kernel_rfl) ?_;simp;apply yA 1;simp;refine Bs (Dc 0) rfl (by simp[ao,xN]) ?_;simp;refine Bs (Ex 2) rfl (by simp[ao,xN]) ?_;simp;apply yA 1;simp[ao];refine Bs (Bk ⟨#[110,101,120,116]⟩ 2 [⟨J,0⟩,⟨am,2⟩]) rfl (by simp[ao,xN]) ?_;simp;apply yA 1;simp[ao];apply xX 35 (by kernel_rfl);simp[Aa,Ag,ao,Ac];apply yA 1;simp;apply xX 31 (by kernel_rfl);simp[Aa,Ag,ao];apply xM;refine yD (A3 7 [15,16,19]) (by kernel_rfl) ?_;simp;apply yA 1;simp;refine Bs (Dc 1) rfl (by simp[ao,xN]) ?_;simp;refine Bs (Ex 2) rfl (by simp[ao,xN]) ?_;simp;apply yA 1;simp[ao];refine Bs (Bk ⟨#[109,97,114,107]⟩ 2 [⟨J,1⟩,⟨am,2⟩]) rfl (by simp[ao,xN]) ?_;simp;apply yA 1;simp[ao];apply xX 35 (by kernel_rfl);simp[Aa,Ag,ao,Ac];apply yA 1;simp;apply xX 31 (by kernel_rfl);simp[Aa,Ag,ao];apply xM;apply yW;simp;refine yD (A3 5 [11]) (by kernel_rfl) ?_;simp;apply yA 1;simp;refine Bs (c1) rfl (by simp[ao,xN]) ?_;simp;apply yA 1;simp[AB];apply xX 29 (by kernel_rfl);simp[Aa,Ag,ao];apply xM;apply yS;apply yJ;simp[ao];refine Bz (c0) rfl (by simp[xN]) (yJ ?_);simp[ao,AB];refine Bz (c1) rfl (by simp[xN]) (yJ ?_);simp[AB];refine Bz (k1) rfl (by simp[xN]) (yJ ?_);simp[ao,AB];apply yW;simp;apply Am;refine⟨_,_,fc 2 (xs:=Ut.AE.map AG) rfl ?_,?_⟩
 .rw[Be];simp[Ut,AG,Az,Db]
 simp[BC,AA,Ut,AG,AN,Az,Db]
def Qc:AD:=⟨[⟨#[65]⟩,⟨#[66]⟩],Db,DQ,[⟨#[83]⟩,⟨#[79]⟩,⟨#[80]⟩],[⟨⟨#[97,108,108]⟩,0,[⟨am,1⟩,⟨J,0⟩,⟨am,1⟩,⟨am,2⟩],Db,am,0,[],Az⟩,⟨⟨#[110,111]⟩,1,[],Db,am,0,[],Az⟩,⟨⟨#[121,101,115]⟩,1,[⟨J,1⟩],Db,am,0,[],Az⟩,⟨⟨#[101,110,100]⟩,2,[],Db,am,0,[],Az⟩,⟨⟨#[114,101,115,116]⟩,2,[⟨J,1⟩,⟨am,2⟩],⟨[⟨0,0,1⟩],2⟩,am,0,[],Az⟩],0,[],[]⟩
theorem ik:Pure prog 138 [] (AA Qc):=by
 have h1:=B2 J;simp at h1;have g:=(IE [⟨#[83]⟩,⟨#[79]⟩,⟨#[80]⟩]).E5 (args':=[.full [.str ⟨#[83]⟩,.str ⟨#[79]⟩,.str ⟨#[80]⟩]]) rfl λi h o=>by
  match i,h with
  |0,_=>exact .inr ⟨Bv [⟨#[83]⟩,⟨#[79]⟩,⟨#[80]⟩],by simp[BC],rfl⟩
 have q:gs=(⟨#[]⟩:ByteArray):=rfl;have c0:=CL 0;have c1:=CL 1;have j:Aq 0=⟨[⟨0,0,1⟩],2⟩:=rfl;have k:Aq 1=⟨[⟨1,0,1⟩],2⟩:=rfl;rw[j]at c0;rw[k]at c1;have m:=DJ _ _ (Dw 0 (by omega));have k1:=DJ _ _ (Dw 1 (by omega));rw[j]at m;rw[k]at k1;refine zP func138 52 rfl λwf=>?_;apply yW;simp;apply yS;apply yJ;simp[ao];refine xF (g) [] rfl ?_;simp;apply yJ;simp[I4];refine yD (A3 9 [19,20,23]) (by kernel_rfl) ?_;simp;apply yA 1;simp;refine Bs (Ex 1) rfl (by simp[ao]) ?_;simp;refine Bs (Dc 0) rfl (by simp[ao,xN]) ?_;simp;refine Bs (Ex 1) rfl (by simp[ao,xN]) ?_;simp;refine Bs (Ex 2) rfl (by simp[ao,xN]) ?_;simp;apply yA 1;simp[ao];refine Bs (Bk ⟨#[97,108,108]⟩ 0 [⟨am,1⟩,⟨J,0⟩,⟨am,1⟩,⟨am,2⟩]) rfl (by simp[ao,xN]) ?_;simp;apply yA 1;simp[ao];apply xX 131 (by kernel_rfl);simp[Aa,Ag,ao,Ac];apply yA 1;simp;apply xX 127 (by kernel_rfl);simp[Aa,Ag,ao];apply xM;refine yD (A3 5 [11,12,15]) (by kernel_rfl) ?_;simp;apply yA 1;simp[ao];refine Bs (Bk ⟨#[110,111]⟩ 1 []) rfl (by simp[ao,xN]) ?_;simp;apply yA 1;simp[ao];apply xX 11 (by kernel_rfl);simp[Aa,Ag,ao,Ac];apply yA 1;simp;apply xX 7 (by kernel_rfl);simp[Aa,ao];apply xM;refine yD (A3 6 [13,14,17]) (by kernel_rfl) ?_;simp;apply yA 1;simp;refine Bs (Dc 1) rfl (by simp[ao,xN]) ?_;simp;apply yA 1;simp[ao];refine Bs (Bk ⟨#[121,101,115]⟩ 1 [⟨J,1⟩]) rfl (by simp[ao,xN]) ?_;simp;apply yA 1;simp[ao];apply xX 19 (by kernel_rfl);simp[Aa,Ag,ao,Ac];apply yA 1;simp;apply xX 15 (by kernel_rfl);simp[Aa,Ag,ao];apply xM;refine yD (A3 5 [11,12,15]) (by kernel_rfl) ?_;simp;apply yA 1;simp[ao];refine Bs (Bk ⟨#[101,110,100]⟩ 2 []) rfl (by simp[ao,xN]) ?_;simp;apply yA 1;simp[ao];apply xX 11 (by kernel_rfl);simp[Aa,Ag,ao,Ac];apply yA 1;simp;apply xX 7 (by kernel_rfl);simp[Aa,ao];apply xM;refine yD (A3 7 [15,16,19]) (by kernel_rfl) ?_;simp;apply yA 1;simp;refine Bs (Dc 1) rfl (by simp[ao,xN]) ?_;simp;refine Bs (Ex 2) rfl (by simp[ao,xN]) ?_;simp;apply yA 1;simp[ao];refine Bs (Bk ⟨#[114,101,115,116]⟩ 2 [⟨J,1⟩,⟨am,2⟩]) rfl (by simp[ao,xN]) ?_;simp;apply yA 1;simp[ao];apply xX 35 (by kernel_rfl);simp[Aa,Ag,ao,Ac];apply yA 1;simp;apply xX 31 (by kernel_rfl);simp[Aa,Ag,ao];apply xM;refine yD (A3 5 [11]) (by kernel_rfl) ?_;simp;apply yA 1;simp;refine Bs (c0) rfl (by simp[ao,xN]) ?_;simp;apply yA 1;simp[AB];apply xX 29 (by kernel_rfl);simp[Aa,Ag,ao];apply xM;apply yW;simp;apply Am;refine⟨_,_,fc 2 (xs:=Qc.AE.map AG) rfl ?_,?_⟩
 .rw[Be];simp[Qc,AG,Az,Db]
 simp[BC,AA,Qc,AG,Az,Db]
open Go.Proofs
theorem j4(l:List Int){k:Nat}(h:k<8):Wf l k=Wf [l.getD 0 0] k:=by
 have e:k / 8=0:=by omega
 have em:k % 8=k:=by omega
 unfold Wf;rw[e,em];cases l with
 |nil=>
  simp;have:k=0\/k=1\/k=2\/k=3\/k=4\/k=5\/k=6\/k=7:=by omega
  rcases this with rfl|rfl|rfl|rfl|rfl|rfl|rfl|rfl<;>decide
 |cons a l=>simp
theorem VC(l:List Int)(n:Nat)(hn:n<=3):∀f v k,v<=n->k<2 ^ v->Jh l n f v k=Jh [l.getD 0 0] n f v k:=by
 intro f;induction f with
 |zero=>intro v k _ _;rfl
 |succ f h=>
  intro v k i j;have m:2 ^ v<=8:=oq (abq (by omega) (show v<=3 by omega)) (by decide);unfold Jh;rw[j4 l (show k<8 by omega)];by_cases g:v=n
  .rw[b8 g,b8 g]
  .have o:2 ^ (v+1)=2 ^ v+2 ^ v:=by rw[Nat.pow_succ];omega
   rw[a9 g,a9 g,h (v+1) (k+2 ^ v) (by omega) (by omega),h (v+1) k (by omega) (by omega)]
theorem iS:((List.range 256).all λc=>(List.range 4).all λn=>(Jh [(c:Int)] n 8 0 0).isSome)=true:=by decide+kernel
theorem bP(l:List Nat)(g:∀k∈l,k<256)(n:Nat)(hn:n<=3):∃d,Jh (l.map λ(k:Nat)=>(k:Int)) n 8 0 0=some d:=by
 rw[VC _ n hn 8 0 0 (ed _) (by simp)];have h:=iS;simp at h;cases l with
 |nil=>exact ol.1 (h 0 (by omega) n (by omega))
 |cons a l=>exact ol.1 (by simpa using h a (g a (by simp)) n (by omega))
theorem ZQ(l:List Nat)(h:∀k∈l,k<256)(n:Nat)(hn:n<=3){d:AO}(g:Jh (l.map λ(k:Nat)=>(k:Int)) n 8 0 0=some d):Cp d n=true:=by
 rw[VC _ n hn 8 0 0 (ed _) (by simp)]at g;cases l with
 |nil=>exact RN (b:=0) (by omega) (by omega) (by simpa using g)
 |cons a l=>exact RN (b:=a) (h a (by simp)) (by omega) (by simpa using g)
end Go.Koi
open Go.Koi.D renaming int->bi,sl->k7
namespace Go.Koi
open Go.Proofs Tryz
def Lp(r:Nat):AD:=match r with|0=>VK|1=>PR|2=>VO|3=>U3|4=>Ut|_=>Qc
theorem eV(k:Nat)(j:k<256):Pure prog 50 [.int .u8 k] (AA (Lp (k % 6))):=by
 obtain⟨r,g⟩:=ce (k % 6);rw[g];have m:r<6:=by omega
 have q:((k:Int).tmod 6)=r:=by rw[i7 (by omega),<-g];simp
 have i:(k:Int) % 6=r:=by omega
 refine zP func50 21 rfl λwf=>?_;apply yW;simp;refine xS (yW ?_);simp[q];apply Bp;have h:r=0\/r=1\/r=2\/r=3\/r=4\/r=5:=by omega
 rcases h with rfl|rfl|rfl|rfl|rfl|rfl
 .apply yW;simp;apply AQ;simp;(repeat apply xS);apply yT;apply yJ;simp;refine Bz (eE) rfl (by simp) (yJ ?_);simp;refine Am ⟨_,_,ap,?_⟩;(try simp);rfl
 .apply yW;simp;apply AQ;simp;apply yW;simp;apply AQ;simp;(repeat apply xS);apply yT;apply yJ;simp;refine Bz (fw) rfl (by simp) (yJ ?_);simp;refine Am ⟨_,_,ap,?_⟩;(try simp);rfl
 .apply yW;simp;apply AQ;simp;apply yW;simp;apply AQ;simp;apply yW;simp;apply AQ;simp;(repeat apply xS);apply yT;apply yJ;simp;refine Bz (jA) rfl (by simp) (yJ ?_);simp;refine Am ⟨_,_,ap,?_⟩;(try simp);rfl
 .apply yW;simp;apply AQ;simp;apply yW;simp;apply AQ;simp;apply yW;simp;apply AQ;simp;apply yW;simp;apply AQ;simp;(repeat apply xS);apply yT;apply yJ;simp;refine Bz (iO) rfl (by simp) (yJ ?_);simp;refine Am ⟨_,_,ap,?_⟩;(try simp);rfl
 .apply yW;simp;apply AQ;simp;apply yW;simp;apply AQ;simp;apply yW;simp;apply AQ;simp;apply yW;simp;apply AQ;simp;apply yW;simp;apply AQ;simp;(repeat apply xS);apply yT;apply yJ;simp;refine Bz (fJ) rfl (by simp) (yJ ?_);simp;refine Am ⟨_,_,ap,?_⟩;(try simp);rfl
 .apply yW;simp;apply AQ;simp;apply yW;simp;apply AQ;simp;apply yW;simp;apply AQ;simp;apply yW;simp;apply AQ;simp;apply yW;simp;apply AQ;simp;apply B8;(repeat apply xS);apply yT;apply yJ;simp;refine Bz (ik) rfl (by simp) (yJ ?_);simp;apply zT;(try simp);rfl
structure Raw where
 base:Nat
 n:Nat
 fam:List Nat
 lines:List Hq
 rules:List MQ
def HD(x:Raw):D:=.agg [bi .u8 (x.base:Nat),bi .u8 (x.n:Nat),k7 (x.fam.map λ(k:Nat)=>bi .u8 k),k7 (x.lines.map CY),k7 (x.rules.map Ce)]
@[simp] theorem lI(x:Raw):Aj (.d (HD x))=[.d (bi .u8 (x.base:Nat)),.d (bi .u8 (x.n:Nat)),.d (k7 (x.fam.map λ(k:Nat)=>bi .u8 k)),.d (k7 (x.lines.map CY)),.d (k7 (x.rules.map Ce))]:=rfl
@[simp] theorem lF(x:Raw):Ap (.d (HD x))=true:=rfl
@[simp] theorem qE(x:Raw):Bu (.d (HD x))=false:=rfl
@[simp] theorem kW(x:Raw):BE (HD x)=[bi .u8 (x.base:Nat),bi .u8 (x.n:Nat),k7 (x.fam.map λ(k:Nat)=>bi .u8 k),k7 (x.lines.map CY),k7 (x.rules.map Ce)]:=rfl
@[simp] theorem qB(x:Raw):CR.oneD (HD x)=true:=rfl
@[simp] theorem uA(x:Raw):Da (HD x)=Bq [bi .u8 (x.base:Nat),bi .u8 (x.n:Nat),k7 (x.fam.map λ(k:Nat)=>bi .u8 k),k7 (x.lines.map CY),k7 (x.rules.map Ce)]:=rfl
@[simp] theorem ny(S:Sg)(x:Raw):Dp S (.d (HD x))=some [bi .u8 (x.base:Nat),bi .u8 (x.n:Nat),k7 (x.fam.map λ(k:Nat)=>bi .u8 k),k7 (x.lines.map CY),k7 (x.rules.map Ce)]:=rfl
structure MG(g:AD)(p l:Nat):Prop where
 c1:Z g.conds<=3
 n0:0<Z g.Ay
 n1:Z g.Ay<=3
 t1:Z g.AU=11
 o1:(0:Int)∈g.AU.map (·.cls)
 p0:0<Z g.AE
 p1:Z g.AE<=12+p
 l1:Z g.levels<=4+l
 l2:∀x∈g.levels,Z x.AE<=2
 f1:Z g.AT<=4+l
theorem iv(r:Nat):MG (Lp r) 0 0:=by
 unfold Lp;split<;>exact⟨by decide,by decide,by decide,rfl,by decide,by decide,by decide,by decide,by decide,by decide⟩
def Pq:AM:=⟨⟨#[102,105,114,115,116]⟩,0,[⟨J,0⟩],Db,am,0,[],Az⟩
def Jc(m c:Nat):AD:=⟨[⟨#[65]⟩,⟨#[66]⟩,⟨#[67]⟩].take c,Db,DQ,[⟨#[83]⟩,⟨#[80]⟩,⟨#[81]⟩].take (1+m),[Pq],0,[],[]⟩
theorem pE(m c:Nat)(g:m<3)(h:c<4):MG (Jc m c) 0 0:=by
 refine⟨?_,?_,?_,rfl,(by show(0:Int)∈DQ.map (·.cls);decide),Nat.zero_lt_one,by simp[Jc],by simp[Jc],by simp[Jc],by simp[Jc]⟩<;>simp[Jc]<;>omega
theorem my{g F:AD}{p l:Nat}(h:MG g p l){kn:Bool}(v:F=g\/∃q,UP g kn q/\F={g with AE:=g.AE++[q]}):MG F (p+1) l:=by
 obtain⟨i,j,k,m,o,w,z,s,t,u⟩:=h;rcases v with rfl|⟨q,_,rfl⟩
 .exact⟨i,j,k,m,o,w,by omega,s,t,u⟩
 .exact⟨i,j,k,m,o,by simp,by simp;omega,s,t,u⟩
theorem mU{g F:AD}{p l:Nat}(h:MG g p l)(A:VR g F):MG F p (l+1):=by
 obtain⟨k,m,o,q,s,u,v,E,w,G⟩:=h;rcases A with rfl|⟨x,B,rfl⟩|⟨f,_,rfl⟩|⟨t,⟨e,d,_,C,rfl⟩,rfl⟩
 .exact⟨k,m,o,q,s,u,v,by omega,w,by omega⟩
 .refine⟨k,m,o,q,s,u,v,by simp;omega,?_,by simp;omega⟩;intro y j;rcases gc.1 j with j|j
  .exact w y j
  .rw[eN.1 j];exact B.1
 .exact⟨k,m,o,q,s,u,v,by simp;omega,w,by simp;omega⟩
 .have z:(g.AU.set e {g.AU[e]with cond:=d}).map (·.cls)=g.AU.map (·.cls):=by
   rw[gl];apply abG (by simp);intro i h1 H;rw[adD];split
   .next hi=>subst hi;simp
   .rfl
  exact⟨k,m,o,by simpa using q,by rw[z];exact s,u,v,by simp;omega,w,by simp;omega⟩
open Go.Proofs DT
theorem GH{d:AO}{n:Int}(h:Cp d n=J):JB d:=by
 simp only[Cp,b9,cR]at h;have h1:=h.1;unfold HL at h1;unfold JB;split at h1
 .cases h1
 .omega
theorem VT:∀(N:Nat) (l:List Int),l.Nodup->(∀y∈l,0<=y/\y<N)->Z l<=N:=by
 intro N;induction N with
 |zero=>
  intro l _ h;cases l with
  |nil=>simp
  |cons a l=>have:=h a (by simp);omega
 |succ N i=>
  intro l hn h;by_cases j:(N:Int)∈l
  .have h1:=i (l.erase N) (hn.erase _) (λy g=>by
    have k:=h y (List.mem_of_mem_erase g);have m:y≠N:=λe=>by subst e;exact(List.Nodup.mem_erase_iff hn).1 g |>.1 rfl
    omega)
   have:=List.length_erase_of_mem j;omega
  .have h1:=i l hn (λy g=>by
    have k:=h y g;have m:y≠N:=λe=>by subst e;exact j g
    omega)
   omega
theorem YV{N:Nat}:∀{i u v:List Int},Cc N u i=some v->u.Nodup->(∀y∈u,0<=y/\y<N)->v.Nodup/\(∀y∈v,0<=y/\y<N)/\Z v=Z u+Z i
 |[],u,v,h,h1,j=>by simp only[Cc,i9]at h;subst h;exact⟨h1,j,by simp⟩
 |p::i,u,v,h,h1,j=>by
  unfold Cc at h;split at h
  .cases h
  .rename_i hn;have k:0<=p/\p<N/\p∉u:=by
    refine⟨by omega,?_,λm=>hn (.inr (.inr m))⟩;by_cases e:(N:Int)<=p
    .exact absurd (.inr (.inl e)) hn
    .omega
   obtain⟨o,q,s⟩:=YV h (by
    rw[L2];exact⟨h1,by simp,λa ha b hb=>by rw[eN.1 hb];intro e;subst e;exact k.2.2 ha⟩) (λy g=>by
    rcases gc.1 g with g|g
    .exact j y g
    .rw[eN.1 g];exact⟨k.1,k.2.1⟩)
   exact⟨o,q,by simp at s;simp;omega⟩
theorem Pz{g:AD}:∀{i:List Level} {u:List Int},Ef g u i=J->u.Nodup->(∀y∈u,0<=y/\y<Z g.AE)->∀l∈i,Z l.AE<=Z g.AE/\JB l.cond
 |[],_,_,_,_=>λl k=>by cases k
 |l::i,u,h,h1,s=>by
  unfold Ef at h;split at h
  .rename_i m;split at h
   .cases h
   .rename_i v t;obtain⟨o,q,w⟩:=YV t h1 s;have k:=VT _ _ o q;intro y j;rcases ge.1 j with rfl|j
    .refine⟨by omega,?_⟩;simp only[b9]at m;exact GH m.2
    .exact Pz h o q y j
  .cases h
theorem Rm{g:AD}{kind:Token->Bool}{l:List Int}(h:H6 g kind l=J):Z l<=Z g.AU:=by
 simp only[H6,b9,de,th,cR]at h;obtain⟨h1,o⟩:=h;have key:∀i,i<Z l->(i:Int)<=l.getD i 0:=by
  intro i;induction i with
  |zero=>
   intro hi;have:=h1 0 hi;simp only[F5,b9,cR]at this;exact this.1.1.1
  |succ i k=>
   intro hi;have m:=k (by omega);have:=h1 (i+1) hi;simp only[F5,b9,cR,rx,ady,UV,Nat.add_sub_cancel]at this;have j:=this.1.2;omega
 have m:=key (Z l - 1) (by omega);have j:=h1 (Z l - 1) (by omega);simp only[F5,b9,cR]at j;have:=j.1.1.2;omega
theorem DF(g:AD)(h:B4 g=0):Qh g:=by
 obtain⟨o,q,s,hn,u,v,k⟩:=Bt h;simp only[Cz,abt,UV,E2]at o;obtain⟨⟨⟨⟨⟨⟨l1,l2⟩,B⟩,C⟩,E⟩,F⟩,w⟩:=o;refine⟨by omega,?_,by omega,⟨by omega,λt j=>?_⟩,⟨by omega,λp j=>?_⟩,⟨by omega,λl j=>?_⟩,⟨by omega,λf j=>?_⟩⟩
 .simp only[Fu,b9]at q;exact GH q.1.2
 .simp only[FC,b9,de]at s;have h1:=s.2 t j;simp only[Hu,b9]at h1;refine⟨?_,GH h1.1.2⟩;have i:=h1.2;unfold LO at i;split at i
  .split at i
   .rename_i m;unfold D8 at m;split at m
    .cases m
    .omega
   .cases i
  .simp only[b9,cR]at i;rw[i.2];simp
 .have h1:=(Ep u p j).2;simp only[IU,b9]at h1;have i:=w p j;simp only[MZ,pw,cR,In]at i;exact⟨by omega,by omega,GH h1.1.1.1⟩
 .obtain⟨h1,i⟩:=Pz v (by simp) (λy z=>by cases z) l j;exact⟨by omega,i⟩
 .simp only[Ec,de]at k;have h1:=k f j;simp only[FQ,b9]at h1;obtain⟨h1,i⟩:=h1;unfold FG at h1;unfold Eg at i;split at h1
  .rename_i A;rw[b8 A]at i;simp only[NA,b9,cR]at h1 i;exact⟨by rw[i.2];simp,GH h1.1⟩
  .split at h1
   .simp only[b9]at h1;have:=Rm h1.2;exact⟨by omega,GH h1.1.1.1⟩
   .split at h1
    .simp only[b9]at h1;have:=Rm h1.1.2;exact⟨by omega,GH h1.1.1⟩
    .cases h1
theorem D5{g:AD}(h:B4 g=0):∀p∈g.AE,Z p.right<=16:=by
 obtain⟨i,_⟩:=Bt h;simp only[Cz,abt,UV,E2]at i;obtain⟨_,j⟩:=i;intro p k;have m:=j p k;simp only[MZ,pw,cR,In]at m;omega
theorem lz{g:AD}(h:B4 g=0):∀p∈g.AE,∀q∈p.right,Ez g q=true:=by
 obtain⟨_,_,_,_,i,_⟩:=Bt h;intro p j q k;have h1:=(Ep i p j).1;simp only[EW,b9,de]at h1;exact h1.2 q k
open Go.Proofs Tryz DT
def HV(t:Token)(s:ByteArray):Bool:=if t.literal=⟨#[]⟩then H2 t.pattern s else decide (t.literal=s)
theorem NS(t:Token)(s:ByteArray):Pure prog 42 [AV t,BG s] (.bool (HV t s)):=by
 have g:=AV.eq_1 t;have i:ByteArray.empty=(⟨#[]⟩:ByteArray):=rfl;refine zP func42 16 rfl λwf=>?_;unfold HV;by_cases h:t.literal=⟨#[]⟩
 .rw[b8 h];apply yW;simp;refine xS (yW ?_);simp[g,h];apply AQ;simp;apply xK;(repeat apply xS);apply yT;apply yJ;simp;refine Bz (Pk t.pattern s) rfl (by simp) (yJ ?_);simp;apply zT;try simp
 .rw[a9 h];apply yW;simp;refine xS (yW ?_);simp[g,h];apply AQ;simp;apply yW;simp;refine Am ⟨_,_,ap,?_⟩;try simp
def KR(f:Symbol->List Bo->List Bool->Bool×List Bo×List Bool):List Symbol->List Bo->List Bool->Bool×List Bo×List Bool
 |[],g,h=>(J,g,h)
 |s::l,g,h=>if(f s g h).1=J then KR f l (f s g h).2.1 (f s g h).2.2 else f s g h
def gW(h:AD)(s:Symbol)(t:Bo):Bool:=decide (t.prod= -1)&&(decide (t.token=s.index)&&HV (h.AU.getD s.index.toNat Hg) t.text)
def OJ(h:AD)(s:Symbol)(t:Bo):Bool:=
 decide (t.token= -1)&&(decide (t.text=⟨#[]⟩)&&(decide (0<=t.prod)&&(decide (t.prod<Z h.AE)&&decide ((h.AE.getD t.prod.toNat GR).left=s.index))))
def HO(h:AD)(j:List Symbol):Nat->Symbol->List Bo->List Bool->Bool×List Bo×List Bool
 |0,_,g,i=>(am,g,i)
 |n+1,s,g,i=>match g with
  |[]=>(am,[],i)
  |t::g=>if 0<=t.hole then
    (if t.hole<Z j/\t=C2 t.hole/\i[t.hole.toNat]?=some am/\j[t.hole.toNat]?=some s then(J,g,i.set t.hole.toNat J)else(am,g,i))
   else if t.hole= -1 then
    (if s.token=J then(gW h s t,g,i)else if OJ h s t=J then KR (HO h j n) (h.AE.getD t.prod.toNat GR).right g i else(am,g,i))
   else(am,g,i)
theorem Nx{f:Symbol->List Bo->List Bool->Bool×List Bo×List Bool}(i:∀s g h,Z (f s g h).2.1<=Z g/\Z (f s g h).2.2=Z h):
  ∀(l:List Symbol) (g:List Bo) (h:List Bool),Z (KR f l g h).2.1<=Z g/\Z (KR f l g h).2.2=Z h
 |[],g,h=>⟨ci _,rfl⟩
 |s::l,g,h=>by
  unfold KR;have h1:=i s g h;split
  .have j:=Nx i l (f s g h).2.1 (f s g h).2.2;exact⟨by omega,by omega⟩
  .exact h1
theorem Mx(h:AD)(j:List Symbol):∀(n:Nat) (s:Symbol) (g:List Bo) (i:List Bool),Z (HO h j n s g i).2.1<=Z g/\Z (HO h j n s g i).2.2=Z i
 |0,s,g,i=>⟨ci _,rfl⟩
 |n+1,s,g,i=>by
  cases g with
  |nil=>exact⟨ci _,rfl⟩
  |cons t g=>
   have h1:=Nx (Mx h j n) (h.AE.getD t.prod.toNat GR).right g i;unfold HO;simp only;split
   .split<;>simp
   .split
    .split
     .simp
     .split
      .exact⟨by simp only[gr];omega,h1.2⟩
      .simp
    .simp
theorem lV{h:AD}{g:List Symbol}{n:Nat}{s:Symbol}{ts:List Bo}{us:List Bool}(hn:(HO h g n s ts us).1=J):Z (HO h g n s ts us).2.1<Z ts:=by
 cases n with
 |zero=>simp[HO]at hn
 |succ n=>
  cases ts with
  |nil=>simp[HO]at hn
  |cons t ts=>
   have h1:=Nx (Mx h g n) (h.AE.getD t.prod.toNat GR).right ts us;unfold HO;simp only;split
   .split<;>simp
   .split
    .split
     .simp
     .split
      .simp only[gr];omega
      .simp
    .simp
def rP(h:AD)(s:Symbol):Prop:=s.token=J->0<=s.index/\s.index<Z h.AU
def qf(h:AD):Prop:=∀p∈h.AE,∀q∈p.right,rP h q
def bg:List V:=[.ptr 0 1 0 0,.ptr 1 1 0 0,.ptr 2 1 0 0,.ptr 3 1 0 0,.ptr 4 1 0 0]
def Zq(h:AD)(g:List Symbol)(ts:List Bo)(us:List Bool):Sg:=
 [.row J 1 [.d (CF ts)],.row J 1 [.d (As g)],.row J 1 [.row 5 (Z us)],.row J 9 [.d (AA h)],.row J 1 [.fn (.func 180) [] bg],.row J 1 (us.map λb=>.d (.bool b))]
theorem nv(h:AD)(F:List Symbol)(hr:qf h)(hpl:∀p∈h.AE,Z p.right<=maxLen):∀(n:Nat) (s:Symbol) (A:List Bo) (C:List Bool),Z A<n->Z C=Z F->rP h s->AH prog 180 (.d (AI s)::bg) (Zq h F A C) (.d (.bool (HO h F n s A C).1)) (Zq h F (HO h F n s A C).2.1 (HO h F n s A C).2.2):=by
 intro n;induction n with
 |zero=>intro s A C hl;omega
 |succ n ih=>
  intro s A C hn hul hrs;cases A with
  |nil=>
   have hq:HO h F (n+1) s [] C=(am,[],C):=rfl;rw[hq];refine AH.F8 func180 (by kernel_rfl) rfl (by simp[bg]) λwf _=>?_;rw[ntmps180];unfold Zq bg;refine xW λK g=>?_;simp;apply g;refine xS (xW λK g=>?_);simp;apply g;refine AQ ?_;simp;(repeat refine xS ?_);refine xV λK g=>?_;simp;refine g _ _ ?_;(try simp only[xQ,reduceIte]);(refine Am ?_;(try simp only[xQ,reduceIte]);refine⟨_,_,_,ap,?_,?_,ea 6 (S':=_) (by simp) (by simp) (by simp) (by simp)⟩<;>simp[BC])
  |cons t A=>
   have m:=Ar.eq_1 t;have H:ByteArray.empty=(⟨#[]⟩:ByteArray):=rfl;obtain⟨R,hR⟩:=ce (HO h F (n+1) s (t::A) C);have j:=hR;rw[hR];unfold HO at j;simp only at j;refine AH.F8 func180 (by kernel_rfl) rfl (by simp[bg]) λwf _=>?_;rw[ntmps180];unfold Zq bg at *;have hl0:¬((Z A:Int)+1=0):=by omega
   have hd:A=[]\/(Z (BE ((Option.map Ar A[0]?).getD (.bool am)))=4/\CR.oneD ((Option.map Ar A[0]?).getD (.bool am))=J):=by cases A<;>simp
   have Y:List.take (Z A) (q6 Ar A)=q6 Ar A:=vq (by simp);have hl1:(1:Int)<=Z A+1:=by omega
   refine xW λK g=>?_;simp;apply g;refine xS (xW λK g=>?_);simp;apply g;refine AQ ?_;simp[hl0];refine xK ?_;refine xW λK g=>?_;simp;apply g;(repeat refine xS ?_);refine xV λK g=>?_;simp[hl1,hd,Y];refine g _ _ ?_;(try simp only[xQ,reduceIte]);refine xB ?_;by_cases hh:0<=t.hole
   .rw[b8 hh]at j;obtain⟨k,B⟩:∃k:Nat,t.hole=k:=⟨t.hole.toNat,by omega⟩;refine xW λK g=>?_;simp[m,B];apply g;refine AQ ?_;simp;rw[B]at j;simp only[jw]at j;by_cases e1:t=C2 k;case neg=>
     rw[a9 (λh=>e1 h.2.1)]at j;subst j;have N:¬(t.prod= -1/\t.token= -1/\t.text=⟨#[]⟩):=λ⟨a1,a2,a3⟩=>e1 (by cases t;simp only at B a1 a2 a3;subst B;subst a1;subst a2;subst a3;rfl);refine xS ?_;refine xD (A3 28 []) (by kernel_rfl) λK g=>?_;simp;(repeat((first|refine P4 rfl rfl ?_ ?_;(·simp[N])|refine kI rfl rfl ?_ ?_;(·simp[N])|refine H3 ?_ ?_;(·simp[H,N]));simp[H,CS,DY]));refine xM (g _ _ ?_);(try simp only[]);refine AQ ?_;simp[N];refine λ_=>?_;(repeat refine xS ?_);refine xV λK g=>?_;simp;refine g _ _ ?_;(try simp only[xQ,reduceIte]);(refine Am ?_;(try simp only[xQ,reduceIte]);refine⟨_,_,_,ap,?_,?_,ea 6 (S':=_) (by simp) (by simp) (by simp) (by simp)⟩<;>simp[BC])
    subst e1;by_cases w:k<Z F;case neg=>
     rw[a9 (λh=>w (by omega))]at j;subst j;have u:Z F<=k:=by omega
     refine xS ?_;refine xD (A3 28 []) (by kernel_rfl) λK g=>?_;simp;refine xZ ?_;simp[C2,CS,DY,u];refine xM (g _ _ ?_);(try simp only[]);refine AQ ?_;simp;(repeat refine xS ?_);refine xV λK g=>?_;simp;refine g _ _ ?_;(try simp only[xQ,reduceIte]);(refine Am ?_;(try simp only[xQ,reduceIte]);refine⟨_,_,_,ap,?_,?_,ea 6 (S':=_) (by simp) (by simp) (by simp) (by simp)⟩<;>simp[BC])
    have u:¬Z F<=k:=by omega
    have o:k<Z C:=by omega
    by_cases z:C[k]=am;case neg=>
     rw[a9 (λh=>z (er.1 h.2.2.1).2)]at j;subst j;have e3':C[k]=true:=by simpa using z
     refine xS ?_;refine xD (A3 28 []) (by kernel_rfl) λK g=>?_;simp;refine xZ ?_;simp[C2,u,o,e3',CS,DY];refine xM (g _ _ ?_);(try simp only[]);refine AQ ?_;simp;(repeat refine xS ?_);refine xV λK g=>?_;simp;refine g _ _ ?_;(try simp only[xQ,reduceIte]);(refine Am ?_;(try simp only[xQ,reduceIte]);refine⟨_,_,_,ap,?_,?_,ea 6 (S':=_) (by simp) (by simp) (by simp) (by simp)⟩<;>simp[BC])
    by_cases G:F[k]=s;case neg=>
     rw[a9 (λh=>G (er.1 h.2.2.2).2)]at j;subst j;have zw:=AI.eq_1 s;generalize M:F[k]=q at *;refine xS ?_;refine xD (A3 28 []) (by kernel_rfl) λK g=>?_;simp;(repeat((first|refine P4 rfl rfl ?_ ?_;(·simp)|refine kI rfl rfl ?_ ?_;(·simp[w,o,z])|refine H3 ?_ ?_;(·simp[C2]));simp[C2,w,u,o,z,CS,DY]));(repeat(first|((refine P4 rfl rfl ?_ ?_);(focus(simp[zw,M];done));simp[w,o,z,G,zw,M])|((refine kI rfl rfl ?_ ?_);(focus(simp[zw,M];done));simp[G,zw,M])|((refine H3 ?_ ?_);(focus(simp;done));simp)));refine xM (g _ _ ?_);(try simp only[]);refine AQ ?_;simp;(repeat refine xS ?_);refine xV λK g=>?_;simp;refine g _ _ ?_;(try simp only[xQ,reduceIte]);(refine Am ?_;(try simp only[xQ,reduceIte]);refine⟨_,_,_,ap,?_,?_,ea 6 (S':=_) (by simp) (by simp) (by simp) (by simp)⟩<;>simp[BC])
    rw[b8 ⟨by omega,rfl,er.2 ⟨o,z⟩,er.2 ⟨w,G⟩⟩]at j;subst j;refine xS ?_;refine xD (A3 28 []) (by kernel_rfl) λK g=>?_;simp;(repeat((first|refine P4 rfl rfl ?_ ?_;(·simp)|refine kI rfl rfl ?_ ?_;(·simp[w,o,z])|refine H3 ?_ ?_;(·simp[C2]));simp[C2,w,u,o,z,CS,DY]));(repeat(first|((refine P4 rfl rfl ?_ ?_);(focus(simp[G,AI];done));simp[w,o,z,G,AI,CS,DY])|((refine kI rfl rfl ?_ ?_);(focus(simp[G,AI];done));simp[G,AI,CS,DY])|((refine H3 ?_ ?_);(focus(simp;done));simp)));refine xM (g _ _ ?_);(try simp only[]);refine AQ ?_;simp;refine xK ?_;refine xW λK g=>?_;simp[o];apply g;(repeat refine xS ?_);refine xV λK g=>?_;simp;refine g _ _ ?_;(try simp only[xQ,reduceIte]);have es:(C.map λb=>V.d (.bool b)).set k (.d (.bool J))=(C.set k J).map λb=>V.d (D.bool b):=by rw[gl]
    have hbv:Au 6 ((C.map λb=>V.d (.bool b)).set k (.d (.bool J)))=true:=by rw[es];simp[-List.map_set]
    (refine Am ?_;(try simp only[xQ,reduceIte]);refine⟨_,_,_,ap,?_,?_,ea 6 (S':=_) (by simp) (by simp) (by simp) (by simp[hbv])⟩<;>simp[BC])
   .rw[a9 hh]at j;refine xW λK g=>?_;simp[m,hh];apply g;refine AQ ?_;simp;by_cases h1:t.hole= -1;case neg=>
     rw[a9 h1]at j;subst j;refine xW λK g=>?_;simp;apply g;refine AQ ?_;simp[h1];(repeat refine xS ?_);refine xV λK g=>?_;simp;refine g _ _ ?_;(try simp only[xQ,reduceIte]);(refine Am ?_;(try simp only[xQ,reduceIte]);refine⟨_,_,_,ap,?_,?_,ea 6 (S':=_) (by simp) (by simp) (by simp) (by simp)⟩<;>simp[BC])
    rw[b8 h1]at j;refine xW λK g=>?_;simp[h1];apply g;refine AQ ?_;simp;cases zb:s.token with
    |true=>
     rw[b8 zb]at j;subst j;obtain⟨hi1,hi2⟩:=hrs zb;refine xW λK g=>?_;simp[zb];apply g;refine AQ ?_;simp;unfold gW;by_cases l1:t.prod= -1;case neg=>
      (repeat refine xS ?_);refine xE (A3 22 []) (by kernel_rfl) λK g=>?_;simp;(repeat((first|refine P4 rfl rfl ?_ ?_;(·simp[l1])|refine kI rfl rfl ?_ ?_;(·simp[m,l1])|refine H3 ?_ ?_;(·simp[l1]));simp));refine xM (g _ _ ?_);(try simp only[xQ,reduceIte]);(refine Am ?_;(try simp only[xQ,reduceIte]);refine⟨_,_,_,ap,?_,?_,ea 6 (S':=_) (by simp) (by simp) (by simp) (by simp)⟩<;>simp[BC,l1])
     by_cases l2:t.token=s.index;case neg=>
      (repeat refine xS ?_);refine xE (A3 22 []) (by kernel_rfl) λK g=>?_;simp;(repeat((first|refine P4 rfl rfl ?_ ?_;(·simp[l2])|refine kI rfl rfl ?_ ?_;(·simp)|refine H3 ?_ ?_;(·simp[l1,l2]));simp[l1]));refine xM (g _ _ ?_);(try simp only[C8]);(refine Am ?_;(try simp only[xQ,reduceIte]);refine⟨_,_,_,ap,?_,?_,ea 6 (S':=_) (by simp) (by simp) (by simp) (by simp)⟩<;>simp[BC,l1,l2])
     obtain⟨k,B⟩:∃k:Nat,s.index=k:=⟨s.index.toNat,by omega⟩;have v:k<Z h.AU:=by omega
     have hkg:h.AU.getD s.index.toNat Hg=h.AU[k]:=by rw[B];simp[v]
     rw[hkg];have hsp:=NS h.AU[k] t.text;generalize Y:h.AU[k]=tk at *;have L:=AV.eq_1 tk;(repeat refine xS ?_);refine xE (A3 22 []) (by kernel_rfl) λK g=>?_;simp;refine xZ ?_;simp[l1,l2,B,v,Y,L];refine Ad.Dr (ds:=[AV tk,BG t.text]) rfl rfl (by simp;rfl) (λ_=>hsp) (by simp[B,L,xN]) ?_;simp;refine xZ ?_;simp;refine xM (g _ _ ?_);(try simp only[xQ,reduceIte]);(refine Am ?_;(try simp only[xQ,reduceIte]);refine⟨_,_,_,ap,?_,?_,ea 6 (S':=_) (by simp) (by simp) (by simp) (by simp)⟩<;>simp[BC,l1,l2])
    |false=>
     rw[a9 (by simp[zb])]at j;refine xW λK g=>?_;simp[zb];apply g;refine AQ ?_;simp;refine B8 ?_;by_cases n1:t.token= -1;case neg=>
      rw[a9 (by simp[OJ,n1])]at j;subst j;refine xS ?_;refine xD (A3 33 []) (by kernel_rfl) λK g=>?_;simp;(repeat((first|refine P4 rfl rfl ?_ ?_;(·simp[n1])|refine kI rfl rfl ?_ ?_;(·simp[m,n1])|refine H3 ?_ ?_;(·simp[n1]));simp));refine xM (g _ _ ?_);(try simp only[]);refine AQ ?_;simp[n1];(repeat refine xS ?_);refine xV λK g=>?_;simp;refine g _ _ ?_;(try simp only[xQ,reduceIte]);(refine Am ?_;(try simp only[xQ,reduceIte]);refine⟨_,_,_,ap,?_,?_,ea 6 (S':=_) (by simp) (by simp) (by simp) (by simp)⟩<;>simp[BC])
     by_cases n2:t.text=⟨#[]⟩;case neg=>
      rw[a9 (by simp[OJ,n2])]at j;subst j;refine xS ?_;refine xD (A3 33 []) (by kernel_rfl) λK g=>?_;simp;refine xZ ?_;simp[n1,n2];refine xM (g _ _ ?_);(try simp only[]);refine AQ ?_;simp;(repeat refine xS ?_);refine xV λK g=>?_;simp;refine g _ _ ?_;(try simp only[xQ,reduceIte]);(refine Am ?_;(try simp only[xQ,reduceIte]);refine⟨_,_,_,ap,?_,?_,ea 6 (S':=_) (by simp) (by simp) (by simp) (by simp)⟩<;>simp[BC])
     by_cases n3:0<=t.prod;case neg=>
      rw[a9 (by simp[OJ,n3])]at j;subst j;have P:t.prod<0:=by omega
      refine xS ?_;refine xD (A3 33 []) (by kernel_rfl) λK g=>?_;simp;refine xZ ?_;simp[n1,n2,P];refine xM (g _ _ ?_);(try simp only[]);refine AQ ?_;simp;(repeat refine xS ?_);refine xV λK g=>?_;simp;refine g _ _ ?_;(try simp only[xQ,reduceIte]);(refine Am ?_;(try simp only[xQ,reduceIte]);refine⟨_,_,_,ap,?_,?_,ea 6 (S':=_) (by simp) (by simp) (by simp) (by simp)⟩<;>simp[BC])
     have P:¬t.prod<0:=by omega
     by_cases n4:t.prod<Z h.AE;case neg=>
      rw[a9 (by simp[OJ,n4])]at j;subst j;have n4':(Z h.AE:Int)<=t.prod:=by omega
      refine xS ?_;refine xD (A3 33 []) (by kernel_rfl) λK g=>?_;simp;refine xZ ?_;simp[n1,n2,P,n4'];refine xM (g _ _ ?_);(try simp only[]);refine AQ ?_;simp;(repeat refine xS ?_);refine xV λK g=>?_;simp;refine g _ _ ?_;(try simp only[xQ,reduceIte]);(refine Am ?_;(try simp only[xQ,reduceIte]);refine⟨_,_,_,ap,?_,?_,ea 6 (S':=_) (by simp) (by simp) (by simp) (by simp)⟩<;>simp[BC])
     obtain⟨k,B⟩:∃k:Nat,t.prod=k:=⟨t.prod.toNat,by omega⟩;have v:k<Z h.AE:=by omega
     have z9:¬Z h.AE<=k:=by omega
     have T:¬(k:Int)<0:=by omega
     have hkg:h.AE.getD t.prod.toNat GR=h.AE[k]:=by rw[B];simp[v]
     have hpr:=hr _ (cF v);have a1:=hpl _ (cF v);unfold OJ at j;rw[hkg]at j;generalize hpk:h.AE[k]=p at *;have hep:=AG.eq_1 p;by_cases n5:p.left=s.index;case neg=>
      rw[a9 (by simp[n5])]at j;subst j;refine xS ?_;refine xD (A3 33 []) (by kernel_rfl) λK g=>?_;simp;refine xZ ?_;simp[n1,n2,B,T,v,z9,hpk,hep];refine xM (g _ _ ?_);(try simp only[]);refine AQ ?_;simp[n5];(repeat refine xS ?_);refine xV λK g=>?_;simp;refine g _ _ ?_;(try simp only[xQ,reduceIte]);(refine Am ?_;(try simp only[xQ,reduceIte]);refine⟨_,_,_,ap,?_,?_,ea 6 (S':=_) (by simp) (by simp) (by simp) (by simp)⟩<;>simp[BC])
     rw[b8 (by simp[n1,n2,n3,n4,n5])]at j;refine xS ?_;refine xD (A3 33 []) (by kernel_rfl) λK g=>?_;simp;refine xZ ?_;simp[n1,n2,B,T,v,z9,hpk,hep,n5];refine xM (g _ _ ?_);(try simp only[xQ,reduceIte]);refine AQ ?_;simp;refine B8 ?_;(repeat refine xS ?_);refine xV λK g=>?_;simp[v,hpk,hep];refine g _ _ ?_;(try simp only[xQ,reduceIte]);refine Bp ?_;refine FH (Z p.right) (λi tm S=>tm 122=.d (As p.right)/\tm 123=.d (AF (Z p.right))/\tm 124=.d (AF i)/\tm 5=.ptr 4 1 0 0/\∃A C,KR (HO h F n) (p.right.drop i) A C=R/\Z A<n/\Z C=Z F/\S=Zq h F A C++[.row J 2 [.d (AI s)],.row J 4 [.d (Ar t)]]) (ed _) ⟨by simp,by simp,by simp,by simp,A,C,by simpa using j,by simpa using hn,hul,by simp[Zq,bg,m,h1,B,n1,n2]⟩ ?_;rintro i tm S hi ⟨t122,t123,t124,t5,U,W,E,hn1,o,rfl⟩;(repeat refine xS ?_);refine xV λK g=>?_;simp[t123,t124];refine g _ _ ?_;(try simp only[xQ,reduceIte]);(repeat refine xS ?_);refine AQ ?_;simp;refine⟨λy7=>?_,λzf=>?_⟩
     .rw[GE y7]at E;simp only[KR]at E;have Q:=Mx h F n p.right[i] U W;have X:=@lV h F n p.right[i] U W;have hcl:=ih p.right[i] U W hn1 o (hpr _ (cF y7));generalize hqe:p.right[i]=q at *;generalize HO h F n q U W=r at *;obtain⟨b,ts2,us2⟩:=r;simp only at Q X hcl E;refine B8 ?_;(repeat refine xS ?_);refine Bp ?_;unfold Zq bg;(repeat refine xS ?_);refine xV λK g=>?_;simp[t122,t124,y7,hqe];refine g _ _ ?_;(try simp only[xQ,reduceIte]);(repeat refine xS ?_);refine H9 λK g=>?_;refine xJ ?_;simp[t5];refine xY (hcl) _ rfl rfl ?_;simp[AI];refine xJ ?_;simp;refine CO (g _ _ ?_);(try simp only[xQ,reduceIte]);cases b with
      |false=>
       rw[a9 (by simp)]at E;subst E;refine AQ ?_;simp;(repeat refine xS ?_);refine xV λK g=>?_;simp;refine g _ _ ?_;(try simp only[xQ,reduceIte]);(refine Am ?_;(try simp only[xQ,reduceIte]);refine⟨_,_,_,ap,?_,?_,ea 6 (S':=_) (by simp) (by simp) (by simp) (by simp[Q.2])⟩<;>simp[BC])
      |true=>
       rw[b8 rfl]at E;refine AQ ?_;simp;refine B8 ?_;have hwi:bv .i64 ((i:Int)+1)=(i+1:Nat):=AL y7 a1;(repeat refine xS ?_);refine xV λK g=>?_;simp[t124,hwi];refine g _ _ ?_;(try simp only[xQ,reduceIte]);refine⟨y7,_,_,qs 8 (S':=Zq h F ts2 us2++[.row J 2 [.d (AI s)],.row J 4 [.d (Ar t)]]) (by simp[Zq,bg,AI,Q.2]) (by simp) (by simp) (by simp[Zq,bg]),?_⟩;refine⟨by simp[clean,AP,t122],by simp[clean,AP,t123],by simp[clean,AP],by simp[clean,AP,t5],ts2,us2,E,by have:=X rfl;omega,by omega,rfl⟩
     .have e:i=Z p.right:=by omega
      subst e;rw[List.drop_length]at E;simp only[KR]at E;subst E;refine Co ?_;unfold Zq bg;(repeat refine xS ?_);refine xV λK g=>?_;simp;refine g _ _ ?_;(try simp only[]);(refine Am ?_;(try simp only[xQ,reduceIte]);refine⟨_,_,_,ap,?_,?_,ea 6 (S':=_) (by simp) (by simp) (by simp) (by simp)⟩<;>simp[BC])
def Bm(g:AD)(i:Int):AM:=g.AE.getD i.toNat GR
def DN(g:AD)(r:Rewrite):List Symbol:=
 if r.at_<0 then(Bm g r.prod).right else(Bm g r.prod).right.take r.at_.toNat++((Bm g r.child).right++(Bm g r.prod).right.drop (r.at_.toNat+1))
def IY(g:AD)(r:Rewrite):Bool:=
 if r.at_= -1 then decide (r.child= -1)else decide (0<=r.at_)&&(decide (r.at_<Z (Bm g r.prod).right)&&(decide (0<=r.child)&&(decide (r.child<Z g.AE)&&
  decide ((Bm g r.prod).right[r.at_.toNat]?=some ⟨am,(Bm g r.child).left⟩))))
def SU(g:AD)(r:Rewrite):Bool:=decide (0<=r.prod)&&(decide (r.prod<Z g.AE)&&(decide (Z r.Ah<=512)&&IY g r))
theorem Yw{g:AD}{r:Rewrite}(s:∀p∈g.AE,Z p.right<=65536)(h:SU g r=J):∃j:Nat,∃hj:j<Z g.AE,r.prod=j/\Bm g r.prod=g.AE[j]/\Z r.Ah<=512/\Z g.AE[j].right<=65536/\((r.at_= -1/\r.child= -1/\DN g r=g.AE[j].right)\/∃a c:Nat,∃m:c<Z g.AE,∃ha:a<Z g.AE[j].right,r.at_=a/\r.child=c/\g.AE[j].right[a]=⟨am,g.AE[c].left⟩/\Z g.AE[c].right<=65536/\DN g r=g.AE[j].right.take a++(g.AE[c].right++g.AE[j].right.drop (a+1))):=by
 simp[SU]at h;obtain⟨h1,z,w,i⟩:=h;obtain⟨j,hj⟩:∃j:Nat,r.prod=j:=⟨r.prod.toNat,by omega⟩;have o:j<Z g.AE:=by omega
 have k:Bm g r.prod=g.AE[j]:=by simp[Bm,hj,o]
 unfold IY at i;rw[k]at i;refine⟨j,o,hj,k,w,s _ (cF o),?_⟩;split at i
 .rename_i ha;exact .inl ⟨ha,by simpa using i,by simp[DN,ha,k]⟩
 .simp at i;obtain⟨k1,_,k2,k3,k5⟩:=i;obtain⟨a,ha⟩:∃a:Nat,r.at_=a:=⟨r.at_.toNat,by omega⟩;obtain⟨c,m⟩:∃c:Nat,r.child=c:=⟨r.child.toNat,by omega⟩;have q:c<Z g.AE:=by omega
  have t:Bm g r.child=g.AE[c]:=by simp[Bm,m,q]
  rw[ha,t]at k5;obtain⟨u,v⟩:=er.1 k5;simp at u v;exact .inr ⟨a,c,q,u,ha,m,v,s _ (cF q),by simp[DN,ha,k,t];omega⟩
theorem ZA(g:AD)(r:Rewrite)(K:∀p∈g.AE,Z p.right<=65536)(h:SU g r=J):Pure prog 179 [AA g,Ab r] (As (DN g r)):=by
 obtain⟨j,hj,A,-,-,L,i⟩:=Yw K h;have t:=Ab.eq_1 r;refine zP func179 35 rfl λwf=>?_;generalize B:g.AE[j]=o at *;have C:=AG.eq_1 o;apply yW;simp;(repeat apply xS);apply yV;simp[hj,A,B,C,t];rcases i with⟨ha,-,E⟩|⟨a,c,H,M,ha,u,-,N,E⟩
 .refine xS (yW ?_);simp[ha];apply AQ;simp;(repeat apply xS);apply yV;simp;rw[E];refine Am ⟨_,_,ap,?_⟩;try simp
 .rw[E];generalize v:g.AE[c]=q at *;have w:=AG.eq_1 q;have m:=Ng [o.right.take a,q.right,o.right.drop (a+1)] (by simp;omega);have F:[o.right.take a,q.right,o.right.drop (a+1)].flatten=o.right.take a++(q.right++o.right.drop (a+1)):=by simp
  rw[F]at m;have G:¬(a:Int)<0:=by omega
  refine xS (yW ?_);simp[ha];apply AQ;simp[G];apply B8;have s:bv .i64 ((a:Int)+1)=(a+1:Nat):=by rw[c8];omega
  have d1:a<=Z o.right:=by omega
  have z:List.take (Z o.right) (q6 AI o.right)=q6 AI o.right:=vq (by simp);have P:∀k,List.take k (q6 AI o.right)=q6 AI (o.right.take k):=λk=>by rw[o4]
  have d7:(a:Int)+1<=Z o.right:=by omega
  have d9:(0:Int)<=a+1:=by omega
  have d8:a+1<=Z o.right:=by omega
  by_cases d5:a+1<Z o.right
  .skip;(repeat apply xS);refine yE (A3 19 []) (by kernel_rfl) ?_;simp;apply yA 1;simp[u,v,H,w,s,maxLen,d1,d5,d7,d9];refine kt (m) rfl (by simp[z,xN]) ?_;simp[z];apply yA 1;simp;apply Am;refine⟨_,_,ap,?_⟩;simp[BC]
  .have d6:a+1=Z o.right:=by omega
   (repeat apply xS);refine yE (A3 19 []) (by kernel_rfl) ?_;simp;apply yA 1;simp[u,v,H,w,s,maxLen,d1,d6];refine kt (m) rfl (by simp[d6,xN]) ?_;simp[d6];apply yA 1;simp;apply Am;refine⟨_,_,ap,?_⟩;simp[BC];omega
def Sz(g h:AD)(r:Rewrite):Bool×List Bo×List Bool:=HO h (DN g r) (Z r.Ah+1) ⟨am,(Bm g r.prod).left⟩ r.Ah (ke (Z (DN g r)) am)
def GM(g h:AD)(r:Rewrite):Bool:=SU g r&&((Sz g h r).1&&decide (Z (Sz g h r).2.1=0))
abbrev acq:=@decide_eq_true
abbrev acN:=@Bool.and_false
theorem bZ(g h:AD)(hg:∀p∈g.AE,Z p.right<=65536)(hr:qf h)(r:Rewrite):Pure prog 117 [AA g,AA h,Ab r] (.bool (GM g h r)):=by
 have m:=Ab.eq_1 r;refine ip func117 rfl rfl (by simp) λwf=>?_;have hpl:∀p∈h.AE,Z p.right<=maxLen:=by
  have:=wf.2.1;simp[Da,Bq,Dh]at this;intro p hp;exact(this.2.2.2.2.2.1.2 p hp).2.2.1.1
 rw[ntmps117];unfold GM SU;by_cases p1:0<=r.prod;case neg=>
  have A:r.prod<0:=by omega
  apply yW;simp;refine xS (yS ?_);apply yH;simp[m,A];apply AQ;simp;apply yW;simp;refine Am ⟨_,_,ap,?_⟩;(try simp);simp[p1]
 by_cases p2:r.prod<Z g.AE;case neg=>
  have A:¬r.prod<0:=by omega
  have X:(Z g.AE:Int)<=r.prod:=by omega
  apply yW;simp;refine xS (yS ?_);apply yH;simp[m,A,X];apply AQ;simp;apply yW;simp;refine Am ⟨_,_,ap,?_⟩;(try simp);simp[p2]
 obtain⟨j,t⟩:∃j:Nat,r.prod=j:=⟨r.prod.toNat,by omega⟩;have hj:j<Z g.AE:=by omega
 have F:¬Z g.AE<=j:=by omega
 have G:¬(j:Int)<0:=by omega
 by_cases p3:Z r.Ah<=512;case neg=>
  have Y:(512:Int)<Z r.Ah:=by omega
  apply yW;simp;refine xS (yS ?_);apply yH;simp[m,t,F,G,Y];apply AQ;simp[t];apply yW;simp;refine Am ⟨_,_,ap,?_⟩;(try simp);simp[p3]
 have hn2:¬(512:Int)<Z r.Ah:=by omega
 have hpa:Bm g r.prod=g.AE[j]:=by simp[Bm,t,hj]
 have K:(decide (0<=r.prod)&&(decide (r.prod<Z g.AE)&&(decide (Z r.Ah<=512)&&IY g r)))=IY g r:=by simp[p1,p2,p3]
 rw[K];have L:IY g r=J->_:=λh=>ZA g r hg (by rw[SU,K];exact h);have M:IY g r=J->Z (DN g r)<=1073741823:=λh=>by
  obtain⟨j',hj',_,_,_,_,h6⟩:=Yw hg (r:=r) (by rw[SU,K];exact h);rcases h6 with⟨_,_,hh⟩|⟨a,c,B,ha,_,_,_,hl2,hh⟩
  .rw[hh];have:=hg _ (cF hj');omega
  .rw[hh];have:=hg _ (cF hj');simp;omega
 have v:=nv h (DN g r) hr hpl (Z r.Ah+1) ⟨am,(Bm g r.prod).left⟩ r.Ah (ke (Z (DN g r)) am) (by omega) (by simp) (by simp[rP]);have hsl:=Mx h (DN g r) (Z r.Ah+1) ⟨am,(Bm g r.prod).left⟩ r.Ah (ke (Z (DN g r)) am);change AH _ _ _ _ (.d (.bool (Sz g h r).1)) (Zq h (DN g r) (Sz g h r).2.1 (Sz g h r).2.2)at v;change Z (Sz g h r).2.1<=_/\Z (Sz g h r).2.2=_ at hsl;generalize Sz g h r=Q at *;obtain⟨qb,qt,qu⟩:=Q;simp only at v hsl⊢;rw[hpa]at v;obtain⟨cb,T⟩:=ce (IY g r);have k:=T;unfold IY at k;rw[hpa]at k;rw[T];rw[T]at L M;clear K;generalize DN g r=H at *;generalize hpj:g.AE[j]=o at *;have s:=AG.eq_1 o;unfold Zq bg at v;have hsd2:=v.E5 (args':=[.agg [.d (.bool am),.d (.int .i64 o.left)],.ptr 0 1 0 0,.ptr 1 1 0 0,.ptr 2 1 0 0,.ptr 3 1 0 0,.ptr 4 1 0 0]) rfl λi h h'=>by
  match i,h with
  |0,_=>exact .inr ⟨AI ⟨am,o.left⟩,by simp[BC,AI],rfl⟩
  |1,_=>exact .inl rfl
  |2,_=>exact .inl rfl
  |3,_=>exact .inl rfl
  |4,_=>exact .inl rfl
  |5,_=>exact .inl rfl
 clear v;apply yW;simp;refine xS (yS ?_);apply yH;simp[m,t,F,hn2,G];apply AQ;simp;apply xK;apply yW;simp[hj,hpj,s];refine PP (R:=λtm S=>cb=J/\tm 3=.ptr 0 1 0 0/\tm 4=.ptr 1 1 0 0/\tm 5=.ptr 2 1 0 0/\tm 7=.ptr 3 1 0 0/\S=[.row J 9 [.d (AA g)],.row J 9 [.d (AA h)],.row J 4 [.d (Ab r)],.row J 13 [.d (AG o)]]) ?_ ?_
 .by_cases w:r.at_= -1
  .rw[b8 w]at k;by_cases N:r.child= -1;case neg=>
    rw[ab3 N]at k;subst k;apply Bp;apply yW;simp[w];apply AQ;simp[m,w];apply yW;simp;apply AQ;simp[N];apply yW;simp;refine Am ⟨_,_,ap,?_⟩;try simp
   rw[acq N]at k;subst k;apply Bp;apply yW;simp[w,N];apply AQ;simp[m,w,N];apply yW;simp;apply AQ;simp;apply B8;exact⟨_,_,ap,by simp,by simp,by simp,by simp,by simp[s,t]⟩
  rw[a9 w]at k;by_cases b1:0<=r.at_;case neg=>
   have C:r.at_<0:=by omega
   rw[ab3 b1,abZ]at k;subst k;apply Bp;apply yW;simp;apply AQ;simp[m,w];apply yS;apply yH;simp[C];apply AQ;simp;apply yW;simp;refine Am ⟨_,_,ap,?_⟩;try simp
  by_cases b2:r.at_<Z o.right;case neg=>
   have C:¬r.at_<0:=by omega
   have b2':(Z o.right:Int)<=r.at_:=by omega
   rw[ab3 b2,abZ,acN]at k;subst k;apply Bp;apply yW;simp;apply AQ;simp[m,w];apply yS;apply yH;simp[C,b2'];apply AQ;simp;apply yW;simp;refine Am ⟨_,_,ap,?_⟩;try simp
  obtain⟨a,ha⟩:∃a:Nat,r.at_=a:=⟨r.at_.toNat,by omega⟩;have z:¬(a:Int)= -1:=by omega
  have m2:¬(a:Int)<0:=by omega
  have P:¬Z o.right<=a:=by omega
  have U:a<Z o.right:=by omega
  by_cases b3:0<=r.child;case neg=>
   have E:r.child<0:=by omega
   rw[ab3 b3,abZ,acN,acN]at k;subst k;apply Bp;apply yW;simp[ha];apply AQ;simp[m,ha,z];apply yS;apply yH;simp[m2,P,E];apply AQ;simp;apply yW;simp;refine Am ⟨_,_,ap,?_⟩;try simp
  by_cases b4:r.child<Z g.AE;case neg=>
   have E:¬r.child<0:=by omega
   have b4':(Z g.AE:Int)<=r.child:=by omega
   rw[ab3 b4,abZ,acN,acN,acN]at k;subst k;apply Bp;apply yW;simp[ha];apply AQ;simp[m,ha,z];apply yS;apply yH;simp[m2,P,E,b4'];apply AQ;simp;apply yW;simp;refine Am ⟨_,_,ap,?_⟩;try simp
  obtain⟨c,B⟩:∃c:Nat,r.child=c:=⟨r.child.toNat,by omega⟩;have m4:¬(c:Int)<0:=by omega
  have m5:¬Z g.AE<=c:=by omega
  have W:c<Z g.AE:=by omega
  rw[acq b1,acq b2,acq b3,acq b4,x0,x0,x0,x0,ha,B]at k;have hpc':Bm g (c:Int)=g.AE[c]:=by simp[Bm,W]
  rw[hpc']at k;generalize hpc:g.AE[c]=q at *;have heq:=AG.eq_1 q;have u:decide (o.right[a]=⟨am,q.left⟩)=cb:=by
   rw[<-k];simp[U]
  generalize hsy:o.right[a]=y at *;have hey:=AI.eq_1 y;by_cases b5:y=⟨am,q.left⟩;case neg=>
   rw[ab3 b5]at u;subst u;have b5':¬(y.token=am/\y.index=q.left):=λ⟨z1,z2⟩=>b5 (by cases y;simp only at z1 z2;subst z1;subst z2;rfl);apply Bp;apply yW;simp[ha,B];apply AQ;simp[m,ha,B,z];apply yS;apply yH;simp[m2,P,m4,m5];apply AQ;simp;refine yD (A3 16 []) (by kernel_rfl) ?_;simp;apply yZ;simp[U,hsy,W,hpc,heq,hey,CS,DY];apply AQ;simp[b5'];refine λ_=>?_;apply yW;simp;refine Am ⟨_,_,ap,?_⟩;try simp
  rw[acq b5]at u;subst u;subst b5;apply Bp;apply yW;simp[ha,B];apply AQ;simp[m,ha,B,z];apply yS;apply yH;simp[m2,P,m4,m5];apply AQ;simp;refine yD (A3 16 []) (by kernel_rfl) ?_;simp;apply yZ;simp[U,hsy,W,hpc,heq,AI,CS,DY];apply AQ;simp;apply B8;exact⟨_,_,ap,by simp,by simp,by simp,by simp,by simp[s,t]⟩
 rintro tm S ⟨hct,t3,t4,t5,t7,rfl⟩;subst hct;have M:=M rfl;have L:=L rfl;(repeat apply xS);apply yT;apply yJ;simp[t3,t5];refine Bz (L) rfl (by simp[xN]) (yJ ?_);simp;have hH2:(Z H:Int)<=1073741824:=by omega
 apply yW;simp[hH2];apply yW;simp[t5,m];apply yW;simp;apply yW;simp[t4];(repeat apply xS);apply yT;apply yJ;simp[t7,s];refine xF (hsd2) [7,4,6,1,8,5] rfl ?_;simp;cases qb with
 |false=>
  apply yH;simp;apply zT;try simp
 |true=>
  apply yH;simp;apply zT;(try simp);cases qt<;>simp<;>omega
def Qw(p i q:Int)(x:Rewrite):Bool:=x.prod==p&&(x.at_==i&&(decide (i<0)||x.child==q))
def Wv(m:List Rewrite)(p:Int):Sg:=[.row J 1 [.d (BA m)],.row J 1 [.d (AF p)]]
def gx(m:List Rewrite)(p i q:Int):Sg:=Wv m p++[.row J 1 [.d (AF i)],.row J 1 [.d (AF q)]]
theorem qj(m:List Rewrite)(p i q:Int)(x:Rewrite):AH prog 183 [.d (Ab x),.ptr 1 1 0 0,.ptr 2 1 0 0,.ptr 3 1 0 0] (gx m p i q) (.d (.bool (Qw p i q x))) (gx m p i q):=by
 have g:=Ab.eq_1 x;unfold gx Wv Qw;refine zD func183 26 rfl λwf _=>?_;by_cases h:x.prod=p
 .by_cases j:x.at_=i
  .by_cases k:i<0
   .skip;apply yW;simp[g,h,j];(repeat apply xS);apply yV;simp[k];(apply Am;refine⟨_,_,_,ap,?_,?_,k6 4 (by simp)⟩<;>simp[BC,h,j,k])
   .skip;apply yW;simp[g,h,j];(repeat apply xS);apply yV;simp[k];(apply Am;refine⟨_,_,_,ap,?_,?_,k6 4 (by simp)⟩<;>simp[BC,h,j,k])
  .skip;apply yW;simp[g,h];(repeat apply xS);apply yV;simp[j];(apply Am;refine⟨_,_,_,ap,?_,?_,k6 4 (by simp)⟩<;>simp[BC,h])
 .skip;apply yW;simp[g];(repeat apply xS);apply yV;simp[h];(apply Am;refine⟨_,_,_,ap,?_,?_,k6 4 (by simp)⟩<;>simp[BC,ads])
theorem jH(m:List Rewrite)(p i q:Int):AH prog 181 [.d (AF i),.d (AF q),.ptr 0 1 0 0,.ptr 1 1 0 0] (Wv m p) (.d (.bool (m.any (Qw p i q)))) (Wv m p):=by
 have g:=Jt m (Qw p i q) 183 [.ptr 1 1 0 0,.ptr 2 1 0 0,.ptr 3 1 0 0] (gx m p i q) (λx _=>qj m p i q x);unfold gx Wv at g;unfold Wv;refine zD func181 10 rfl λwf _=>?_;apply yW;simp;(repeat apply xS);apply yT;apply yJ;simp;refine ms rfl rfl (by simp) (f:=182) (args:=[.d (.sl (m.map Ab)),.fn (.func 183) [] [.ptr 1 1 0 0,.ptr 2 1 0 0,.ptr 3 1 0 0]]) (by simp[callee];try rfl) (by simp) g (yJ ?_);simp;(apply Am;refine⟨_,_,_,ap,?_,?_,k6 2 (by simp)⟩<;>simp[BC])
def Qy(g:AD)(m:List Rewrite)(p i:Int)(s:Symbol)(k:Nat):Bool:=(kv k).all λq=>!decide ((g.AE.getD q GR).left=s.index)||m.any (Qw p i q)
theorem bC(g:AD)(m:List Rewrite)(p i:Int)(s:Symbol)(k:Nat):Qy g m p i s (k+1)=(Qy g m p i s k&&(!decide ((g.AE.getD k GR).left=s.index)||m.any (Qw p i k))):=by
 simp[Qy,acw]
def du(g:AD)(m:List Rewrite)(j i:Nat):Bool:=!((g.AE.getD j GR).right.getD i ⟨J,0⟩).token&&Qy g m j i ((g.AE.getD j GR).right.getD i ⟨J,0⟩) (Z g.AE)
def MX(g:AD)(m:List Rewrite)(j:Nat):Bool:=m.any (Qw j (-1) 0)||(kv (Z (g.AE.getD j GR).right)).any λi=>du g m j i
theorem aq(g:AD)(m:List Rewrite)(j:Nat)(hj:j<Z g.AE)(Y:Z (g.AE.getD j GR).right<=2 ^ 20):Pure prog 119 [AA g,BA m,AF j] (.bool (MX g m j)):=by
 have h0:=jH m j (-1) 0;have T:=λ(i q:Nat)=>jH m j i q;unfold Wv at h0 T;have ti:∀i,du g m j i=(!((g.AE.getD j GR).right.getD i ⟨J,0⟩).token&&Qy g m j i ((g.AE.getD j GR).right.getD i ⟨J,0⟩) (Z g.AE)):=λi=>rfl;have eo:g.AE.getD j GR=g.AE[j]:=by simp[hj]
 obtain⟨U,hb⟩:=ce (MX g m j);rw[hb];unfold MX at hb;rw[eo]at hb ti Y;refine ip func119 (by kernel_rfl) rfl (by simp) λwf=>?_;have G:Z g.AE<=ao:=by have:=wf.1;simp[Da,Bq]at this;exact this.2.2.2.2.2.1.1
 have W:Z g.AE[j].right<=ao:=by unfold ao;omega
 clear wf;generalize H:g.AE[j]=o at *;have L:=AG.eq_1 o;rw[ntmps119];refine xW λK h=>?_;simp;apply h;refine xW λK h=>?_;simp;apply h;refine xS (Gb λK h=>?_);refine xJ ?_;simp;refine xF (h0) [1,2] rfl ?_;simp;refine xJ ?_;simp;refine CO (h _ _ ?_);(try simp only[xQ,reduceIte]);cases F:m.any (Qw j (-1) 0)with
 |true=>
  rw[F,Bool.true_or]at hb;subst hb;refine AQ ?_;simp;refine xW λK h=>?_;simp;apply h;refine Am ⟨_,_,ap,?_⟩;try simp
 |false=>
  rw[F,adi]at hb;refine AQ ?_;simp;refine xK ?_;refine xS (xW λK h=>?_);simp[hj,H,L];apply h;refine Bp ?_;refine FH (Z o.right) (λi tm S=>tm 3=.ptr 0 1 0 0/\tm 7=.fn (.func 181) [] [.ptr 1 1 0 0,.ptr 2 1 0 0]/\tm 20=.d (As o.right)/\tm 21=.d (AF (Z o.right))/\tm 22=.d (AF i)/\(∀k,k<i->du g m j k=am)/\S=[.row J 9 [.d (AA g)],.row J 1 [.d (BA m)],.row J 1 [.d (AF j)]]) (ed _) (by simp) ?_;rintro i tm S hi ⟨t3,t7,t20,t21,t22,M,rfl⟩;refine xW λK h=>?_;simp[t21,t22];apply h;refine xC ?_;simp;refine⟨λC=>?_,λzf=>?_⟩
  .have v:=ti i;have eg:o.right.getD i ⟨J,0⟩=o.right[i]:=by simp[C]
   rw[eg]at v;generalize hs:o.right[i]=s at *;have B:=AI.eq_1 s;refine xK ?_;refine xB ?_;refine xW λK h=>?_;simp[t20,t22,C,hs,B];apply h;refine xS (xW λK h=>?_);simp;apply h;cases E:s.token with
   |true=>
    rw[E]at v;refine AQ ?_;simp;refine Co ?_;refine xV λK h=>?_;simp[t22];apply h;refine⟨C,_,_,qs 3 (S':=[.row J 9 [.d (AA g)],.row J 1 [.d (BA m)],.row J 1 [.d (AF j)]]) rfl (by simp) (by simp) (by simp),?_⟩;simp[clean,AP,Au,t3,t7,t20,t21,AL C W];intro k hk;by_cases e:k=i
    .subst e;simpa using v
    .exact M k (by omega)
   |false=>
    rw[E]at v;refine AQ ?_;simp;refine xK ?_;refine xW λK h=>?_;simp;apply h;refine nt (R:=λtm S=>tm 3=.ptr 0 1 0 0/\tm 7=.fn (.func 181) [] [.ptr 1 1 0 0,.ptr 2 1 0 0]/\tm 10=.d (.bool (Qy g m j i s (Z g.AE)))/\tm 20=.d (As o.right)/\tm 21=.d (AF (Z o.right))/\tm 22=.d (AF i)/\S=[.row J 9 [.d (AA g)],.row J 1 [.d (BA m)],.row J 1 [.d (AF j)],.row J 2 [.d (AI s)]]) ?_ ?_
    .refine xW λK h=>?_;simp[t3];apply h;refine Bp ?_;refine FH (Z g.AE) (λq tm S=>tm 3=.ptr 0 1 0 0/\tm 7=.fn (.func 181) [] [.ptr 1 1 0 0,.ptr 2 1 0 0]/\tm 8=.d (AF i)/\tm 9=.ptr 3 1 0 0/\tm 10=.d (.bool (Qy g m j i s q))/\tm 20=.d (As o.right)/\tm 21=.d (AF (Z o.right))/\tm 22=.d (AF i)/\tm 31=.d (AF (Z g.AE))/\tm 32=.d (AF q)/\S=[.row J 9 [.d (AA g)],.row J 1 [.d (BA m)],.row J 1 [.d (AF j)],.row J 2 [.d (AI s)]]) (ed _) (by simp[t3,t7,t20,t21,t22,B,E,Qy]) ?_;rintro q tm S hqi ⟨t3,t7,t8,t9,t10,t20,t21,t22,t31,t32,rfl⟩;refine xW λK h=>?_;simp[t31,t32];apply h;refine xC ?_;simp;refine⟨λt=>?_,λhgq=>?_⟩
     .have A:=bC g m j i s q;have eq:g.AE.getD q GR=g.AE[q]:=by simp[t]
      rw[eq]at A;generalize w:g.AE[q]=u at *;have z:=AG.eq_1 u;have N:=T i q;refine xK ?_;refine xB ?_;(repeat refine xS ?_);refine xV λK h=>?_;simp[t32];refine h _ _ ?_;(try simp only[xQ,reduceIte]);cases ha:Qy g m j i s q with
      |false=>
       rw[ha]at t10 A;refine xE (A3 19 []) (by kernel_rfl) λK h=>?_;simp;refine xZ ?_;simp[t10];refine xM (h _ _ ?_);refine xV λK h=>?_;simp[t32];apply h;refine⟨t,_,_,ap,?_⟩;simp[t3,t7,t8,t9,t20,t21,t22,t31,A,AL t G]
      |true=>
       rw[ha]at t10 A;by_cases e:u.left=s.index
       .refine xE (A3 19 []) (by kernel_rfl) λK h=>?_;simp;refine xZ ?_;simp[t3,t9,t10,t,w,z,B,e,t7,t8];refine Ad.Xo N [1,2] rfl rfl (by simp;try rfl) ?_;simp;refine xZ ?_;simp;refine xM (h _ _ ?_);refine xV λK h=>?_;simp[t32];apply h;refine⟨t,_,_,ap,?_⟩;simp[t3,t7,t8,t9,t20,t21,t22,t31,A,e,B,AL t G]
       ·(repeat refine xS ?_);refine xE (A3 19 []) (by kernel_rfl) λK h=>?_;simp;(repeat((first|refine P4 rfl rfl ?_ ?_;(·simp[e])|refine kI rfl rfl ?_ ?_;(·simp[t3,t9,t,w,z,e])|refine H3 ?_ ?_;(·simp[B]));simp[t3,t9,t10,t,w,z,B]));refine xM (h _ _ ?_);(try simp only[C8,Bh]);refine xV λK h=>?_;simp[t32];apply h;refine⟨t,_,_,ap,?_⟩;simp[t3,t7,t8,t9,t20,t21,t22,t31,A,e,B,AL t G]
     .have e:q=Z g.AE:=by omega
      subst e;refine Co ?_;simp[t3,t7,t10,t20,t21,t22]
    rintro tm S ⟨t3,t7,t10,t20,t21,t22,rfl⟩;(repeat refine xS ?_);refine xV λK h=>?_;simp[t10];refine h _ _ ?_;(try simp only[xQ,reduceIte]);cases ha:Qy g m j i s (Z g.AE) with
    |true=>
     rw[ha]at v;have P:U=true:=by
      rw[<-hb,Hs];exact⟨i,th.2 C,by simpa using v⟩
     subst P;refine AQ ?_;simp;refine xW λK h=>?_;simp;apply h;refine Am ⟨_,_,ap,?_⟩;try simp
    |false=>
     rw[ha]at v;refine AQ ?_;simp;refine B8 ?_;refine xV λK h=>?_;simp[t22];apply h;refine⟨C,_,_,qs 3 (S':=[.row J 9 [.d (AA g)],.row J 1 [.d (BA m)],.row J 1 [.d (AF j)]]) rfl (by simp) (by simp) (by simp),?_⟩;simp[clean,AP,Au,t3,t7,t20,t21,AL C W];intro k hk;by_cases e:k=i
     .subst e;simpa using v
     .exact M k (by omega)
  .have e:i=Z o.right:=by omega
   subst e;have Q:U=false:=by
    rw[<-hb];cases hx:(kv (Z o.right)).any λi=>du g m j i with
    |false=>rfl
    |true=>
     obtain⟨i0,h1,X⟩:=Hs.1 hx;rw[M i0 (th.1 h1)]at X;cases X
   subst Q;refine Co ?_;refine xW λK h=>?_;simp;apply h;refine Am ⟨_,_,ap,?_⟩;try simp
def okF(g:AD):Prop:=B4 g=0/\¬So g
theorem Dx{g:AD}:RU g=0↔okF g:=by
 unfold RU rh okF;by_cases h1:B4 g=0
 .rw[a9 (by simpa using h1)];by_cases h:So g
  .rw[b8 h];simp[h1,h]
  .rw[a9 h];simp[h1,h]
 .rw[b8 h1];simp[h1]
theorem Hd(g:AD)(hn:Z g.conds<=12):Pure prog 22 [AA g] (AF (RU g)):=
 BL.Yz ((Sq g hn).mono λ_ _ h=>⟨h.2,h.1⟩)
theorem nN{g:AD}(h:B4 g=0):qf g:=λp j q k m=>by
 have h1:=lz h p j q k;unfold Ez at h1;rw[b8 m]at h1;simp at h1;obtain⟨h1,i⟩:=h1;split at i
 .rename_i t o;have:=(er.1 o).1;exact⟨h1,by omega⟩
 .cases i
def Jd(g h:AD)(p:Nat):Bool:=decide (p<Z h.AE)&&(decide ((h.AE.getD p GR).left=(g.AE.getD p GR).left)&&decide ((h.AE.getD p GR).right=(g.AE.getD p GR).right))
noncomputable def R5(g h:AD)(m:List Rewrite):Int:=
 if RU g≠0 then RU g else if RU h≠0 then RU h else if Z h.AU<Z g.AU\/Z h.Ay<Z g.Ay then 92
 else if m.all (GM g h)=J/\((kv (Z g.AE)).all λp=>Jd g h p||MX g m p)=J then 0 else 92
theorem ME(g h:AD)(m:List Rewrite)(hg:Z g.conds<=12)(hh:Z h.conds<=12):Pure prog 26 [AA g,AA h,BA m] (AF (R5 g h m)):=by
 have fg:=Hd g hg;have fh:=Hd h hh;have U:RU g=0->B4 g=0:=λe=>(Dx.1 e).1;have W:RU h=0->B4 h=0:=λe=>(Dx.1 e).1;obtain⟨E,s⟩:=ce (R5 g h m);rw[s];unfold R5 at s;generalize RU g=X at *;generalize RU h=Y at *;refine AH.F8 func26 (by kernel_rfl) rfl (by simp) λwf _=>?_;have Q:Z g.AE<=ao:=by have:=wf.1;simp[K0,Da,Bq]at this;exact this.2.2.2.2.2.1.1
 have a2:Z m<=ao:=by have:=wf.2.2.1;simp[K0,Da]at this;exact this.1
 clear wf;have z1:bv .i64 1=1:=by decide
 have z2:bv .i64 2=2:=by decide
 rw[ntmps26];refine xW λK j=>?_;simp;apply j;refine nt (R:=λtm S=>tm 2=.d (BA m)/\tm 3=.ptr 0 1 0 0/\tm 4=.ptr 1 1 0 0/\X=0/\Y=0/\S=[.row J 9 [.d (AA g)],.row J 9 [.d (AA h)]]) ?_ ?_
 .refine xW λK j=>?_;simp[ao];apply j;refine Bp ?_;refine FH 2 (λi tm S=>tm 2=.d (BA m)/\tm 3=.ptr 0 1 0 0/\tm 4=.ptr 1 1 0 0/\tm 16=.full [AA g,AA h]/\tm 17=.d (AF 2)/\tm 18=.d (AF i)/\(i≠0->X=0)/\(i=2->Y=0)/\S=[.row J 9 [.d (AA g)],.row J 9 [.d (AA h)]]) (ed _) (by simp) ?_;rintro i tm S hi ⟨t2,t3,t4,t16,t17,t18,g1,g2,rfl⟩;have h3:i=0\/i=1\/i=2:=by omega
  rcases h3 with rfl|rfl|rfl
  .refine xW λK j=>?_;simp[t17,t18];apply j;refine xC ?_;simp;refine xK ?_;refine xB ?_;refine xW λK j=>?_;simp[t16,t18];apply j;(repeat refine xS ?_);refine H9 λK j=>?_;refine xJ ?_;simp;refine Bz (fg) rfl (by simp[xN]) ?_;simp;refine xJ ?_;simp;refine CO (j _ _ ?_);(try simp only[xQ,reduceIte]);by_cases z:X=0
   .refine xW λK j=>?_;simp[z];apply j;refine AQ ?_;simp[z];refine B8 ?_;refine xV λK j=>?_;simp[t18];apply j;refine⟨_,_,qs 2 (S':=[.row J 9 [.d (AA g)],.row J 9 [.d (AA h)]]) rfl (by simp) (by simp) (by simp),?_⟩;simp[clean,AP,t2,t3,t4,t16,t17,z1]
   .refine xW λK j=>?_;simp;apply j;refine AQ ?_;simp[z];rw[b8 z]at s;subst s;refine xW λK j=>?_;simp;apply j;(refine Am ?_;(try simp only[xQ,reduceIte]);refine⟨_,_,_,ap,?_,?_,fi 0 (S':=[]) rfl (by simp)⟩<;>simp[BC])
  .refine xW λK j=>?_;simp[t17,t18];apply j;refine xC ?_;simp;refine xK ?_;refine xB ?_;refine xW λK j=>?_;simp[t16,t18];apply j;(repeat refine xS ?_);refine H9 λK j=>?_;refine xJ ?_;simp;refine Bz (fh) rfl (by simp[xN]) ?_;simp;refine xJ ?_;simp;refine CO (j _ _ ?_);(try simp only[xQ,reduceIte]);by_cases z:Y=0
   .refine xW λK j=>?_;simp[z];apply j;refine AQ ?_;simp[z];refine B8 ?_;refine xV λK j=>?_;simp[t18];apply j;refine⟨_,_,qs 2 (S':=[.row J 9 [.d (AA g)],.row J 9 [.d (AA h)]]) rfl (by simp) (by simp) (by simp),?_⟩;simp[clean,AP,t2,t3,t4,t16,t17,z2,g1 (by decide)]
   .refine xW λK j=>?_;simp;apply j;refine AQ ?_;simp[z];rw[a9 (by simpa using g1 (by decide)),b8 z]at s;subst s;refine xW λK j=>?_;simp;apply j;(refine Am ?_;(try simp only[xQ,reduceIte]);refine⟨_,_,_,ap,?_,?_,fi 0 (S':=[]) rfl (by simp)⟩<;>simp[BC])
  .refine xW λK j=>?_;simp[t17,t18];apply j;refine xC ?_;simp;refine Co ?_;simp[t2,t3,t4,g1 (by decide),g2 rfl]
 rintro tm S ⟨t2,t3,t4,rfl,rfl,rfl⟩;rw[a9 (by simp),a9 (by simp)]at s;have hg0:=U rfl;have hh0:=W rfl;have N:=D5 hg0;have hs:=bZ g h (λp G=>by have:=N p G;omega) (nN hh0);have G:∀p,p<Z g.AE->_:=λp G=>aq g m p G (by
  have:=N _ (cF G);simp[G];omega)
 by_cases c1:Z h.AU<Z g.AU;case pos=>
  rw[b8 (.inl c1)]at s;subst s;have v:(Z h.AU:Int)<Z g.AU:=by omega
  refine xS (Gb λK j=>?_);refine xH ?_;simp[t3,t4,v];refine CO (j _ _ ?_);(try simp only[xQ,reduceIte]);refine AQ ?_;simp;(repeat refine xS ?_);refine xV λK j=>?_;simp;refine j _ _ ?_;(try simp only[xQ,reduceIte]);(refine Am ?_;(try simp only[xQ,reduceIte]);refine⟨_,_,_,ap,?_,?_,fi 0 (S':=[]) rfl (by simp)⟩<;>simp[BC])
 have v:¬(Z h.AU:Int)<Z g.AU:=by omega
 by_cases c2:Z h.Ay<Z g.Ay;case pos=>
  rw[b8 (.inr c2)]at s;subst s;have B:(Z h.Ay:Int)<Z g.Ay:=by omega
  refine xS (Gb λK j=>?_);refine xH ?_;simp[t3,t4,v,B];refine CO (j _ _ ?_);(try simp only[xQ,reduceIte]);refine AQ ?_;simp;(repeat refine xS ?_);refine xV λK j=>?_;simp;refine j _ _ ?_;(try simp only[xQ,reduceIte]);(refine Am ?_;(try simp only[xQ,reduceIte]);refine⟨_,_,_,ap,?_,?_,fi 0 (S':=[]) rfl (by simp)⟩<;>simp[BC])
 have B:¬(Z h.Ay:Int)<Z g.Ay:=by omega
 rw[a9 (by omega)]at s;refine xS (Gb λK j=>?_);refine xH ?_;simp[t3,t4,v,B];refine CO (j _ _ ?_);(try simp only[xQ,reduceIte]);refine AQ ?_;simp;refine xK ?_;refine nt (R:=λtm S=>tm 2=.d (BA m)/\tm 3=.ptr 0 1 0 0/\tm 4=.ptr 1 1 0 0/\(∀x∈m,GM g h x=J)/\S=[.row J 9 [.d (AA g)],.row J 9 [.d (AA h)]]) ?_ ?_
 .refine xW λK j=>?_;simp[t2];apply j;refine Bp ?_;refine FH (Z m) (λi tm S=>tm 2=.d (BA m)/\tm 3=.ptr 0 1 0 0/\tm 4=.ptr 1 1 0 0/\tm 44=.d (BA m)/\tm 45=.d (AF (Z m))/\tm 46=.d (AF i)/\(∀x∈m.take i,GM g h x=J)/\S=[.row J 9 [.d (AA g)],.row J 9 [.d (AA h)]]) (ed _) (by simp[t2,t3,t4]) ?_;rintro i tm S hi ⟨t2,t3,t4,t44,t45,t46,M,rfl⟩;refine xW λK j=>?_;simp[t45,t46];apply j;refine xC ?_;simp;refine⟨λt=>?_,λzf=>?_⟩
  .have hsx:=hs m[i];have zp:=vj t;have P:=cF t;generalize hx:m[i]=x at *;have y8:=Ab.eq_1 x;refine xK ?_;refine xB ?_;refine xW λK j=>?_;simp[t44,t46,t,hx,y8];apply j;refine Gb λK j=>?_;refine xJ ?_;simp[t3,t4];refine Bz (hsx) rfl (by simp[xN]) ?_;simp;refine xJ ?_;simp;refine CO (j _ _ ?_);cases H:GM g h x with
   |false=>
    rw[a9 (λhc=>by have:=de.1 hc.1 x P;rw[H]at this;cases this)]at s;subst s;refine AQ ?_;simp;(repeat refine xS ?_);refine xV λK j=>?_;simp;refine j _ _ ?_;(try simp only[xQ,reduceIte]);(refine Am ?_;(try simp only[xQ,reduceIte]);refine⟨_,_,_,ap,?_,?_,fi 0 (S':=[]) rfl (by simp)⟩<;>simp[BC])
   |true=>
    refine AQ ?_;simp;refine B8 ?_;refine xV λK j=>?_;simp[t46];apply j;refine⟨t,_,_,qs 2 (S':=[.row J 9 [.d (AA g)],.row J 9 [.d (AA h)]]) rfl (by simp) (by simp) (by simp),?_⟩;refine⟨by simp[clean,AP,t2],by simp[clean,AP,t3],by simp[clean,AP,t4],by simp[clean,AP,t44],by simp[clean,AP,t45],by simp[clean,AP,AL t a2],?_,rfl⟩;intro y u;rw[zp]at u;rcases gc.1 u with u|u
    .exact M y u
    .rw[eN.1 u];exact H
  .have e:i=Z m:=by omega
   subst e;rw[s9]at M;refine Co ?_;(try simp only[C8,Bh,reduceIte]);exact⟨t2,t3,t4,M,trivial⟩
 rintro tm S ⟨t2,t3,t4,hms,rfl⟩;refine nt (R:=λtm S=>∀p,p<Z g.AE->Jd g h p=J\/MX g m p=J) ?_ ?_
 .refine xW λK j=>?_;simp[t3];apply j;refine Bp ?_;refine FH (Z g.AE) (λi tm S=>tm 2=.d (BA m)/\tm 3=.ptr 0 1 0 0/\tm 4=.ptr 1 1 0 0/\tm 57=.d (Cd g.AE)/\tm 58=.d (AF (Z g.AE))/\tm 59=.d (AF i)/\(∀p,p<i->Jd g h p=J\/MX g m p=J)/\S=[.row J 9 [.d (AA g)],.row J 9 [.d (AA h)]]) (ed _) (by simp[t2,t3,t4]) ?_;rintro i tm S hi ⟨t2,t3,t4,t57,t58,t59,M,rfl⟩;refine xW λK j=>?_;simp[t58,t59];apply j;refine xC ?_;simp;refine⟨λt=>?_,λzf=>?_⟩
  .have L:=G i t;have C:Jd g h i=_:=Jd.eq_1 g h i;have hgi:g.AE.getD i GR=g.AE[i]:=by simp[t]
   rw[hgi]at C;have q:(Jd g h i=J\/MX g m i=J)->∀p,p<i+1->Jd g h p=J\/MX g m p=true:=λhb p G=>by
    by_cases e:p=i
    .subst e;exact hb
    .exact M p (by omega)
   have zr:(Jd g h i||MX g m i)=am->E=92:=λhb=>by
    rw[a9 (λhc=>by have:=de.1 hc.2 i (th.2 t);rw[hb]at this;cases this)]at s;exact s.symm
   refine xK ?_;refine xB ?_;generalize hx:g.AE[i]=x at *;have y8:=AG.eq_1 x;generalize Jd g h i=sb at *;generalize MX g m i=tb at *;(repeat refine xS ?_);refine xV λK j=>?_;simp[t57,t59,t,hx,y8];refine j _ _ ?_;(try simp only[xQ,reduceIte]);by_cases w:i<Z h.AE
   .have o:(i:Int)<Z h.AE:=by omega
    have hhi:h.AE.getD i GR=h.AE[i]:=by simp[w]
    rw[hhi,acq w,x0]at C;generalize u:h.AE[i]=y at *;have k:=AG.eq_1 y;by_cases A:y.left=x.left
    .have heq:=TQ y.right x.right;rw[acq A,x0]at C;refine xS ?_;refine xD (A3 27 []) (by kernel_rfl) λK j=>?_;simp;refine xZ ?_;simp[t4,w,o,u,k,A];refine Ad.Dr (ds:=[As y.right,As x.right]) rfl rfl (by simp;rfl) (λ_=>heq) (by simp[xN]) ?_;simp;refine xZ ?_;simp;refine xM (j _ _ ?_);(try simp only[xQ,reduceIte]);by_cases T:y.right=x.right
     .rw[acq T]at C;subst C;refine AQ ?_;simp[T];refine Co ?_;refine xV λK j=>?_;simp[t59];apply j;refine⟨t,_,_,qs 2 (S':=[.row J 9 [.d (AA g)],.row J 9 [.d (AA h)]]) rfl (by simp) (by simp) (by simp),?_⟩;exact⟨by simp[clean,AP,t2],by simp[clean,AP,t3],by simp[clean,AP,t4],by simp[clean,AP,t57],by simp[clean,AP,t58],by simp[clean,AP,AL t Q],q (by simp),rfl⟩
     .rw[ab3 T]at C;subst C;refine AQ ?_;simp[T];refine xK ?_;refine Gb λK j=>?_;refine xJ ?_;simp[t2,t3];refine Bz (L) rfl (by simp[xN]) ?_;simp;refine xJ ?_;simp;refine CO (j _ _ ?_);cases tb with
      |true=>
       refine AQ ?_;simp;refine B8 ?_;refine xV λK j=>?_;simp[t59];apply j;refine⟨t,_,_,qs 2 (S':=[.row J 9 [.d (AA g)],.row J 9 [.d (AA h)]]) rfl (by simp) (by simp) (by simp),?_⟩;exact⟨by simp[clean,AP,t2],by simp[clean,AP,t3],by simp[clean,AP,t4],by simp[clean,AP,t57],by simp[clean,AP,t58],by simp[clean,AP,AL t Q],q (by simp),rfl⟩
      |false=>
       have F:=zr rfl;subst F;refine AQ ?_;simp;(repeat refine xS ?_);refine xV λK j=>?_;simp;refine j _ _ ?_;(try simp only[xQ,reduceIte]);(refine Am ?_;(try simp only[xQ,reduceIte]);refine⟨_,_,_,ap,?_,?_,fi 0 (S':=[]) rfl (by simp)⟩<;>simp[BC])
    .rw[ab3 A,abZ]at C;subst C;refine xS ?_;refine xD (A3 27 []) (by kernel_rfl) λK j=>?_;simp;(repeat((first|refine P4 rfl rfl ?_ ?_;(·simp[A])|refine kI rfl rfl ?_ ?_;(·simp[t4,w,o,u,k])|refine H3 ?_ ?_;(·simp[t4,A]));simp[t4,w,o,u,k]));refine xM (j _ _ ?_);(try simp only[C8,Bh,reduceIte]);refine AQ ?_;simp;refine xK ?_;refine Gb λK j=>?_;refine xJ ?_;simp[t2,t3];refine Bz (L) rfl (by simp[xN]) ?_;simp;refine xJ ?_;simp;refine CO (j _ _ ?_);cases tb with
     |true=>
      refine AQ ?_;simp;refine B8 ?_;refine xV λK j=>?_;simp[t59];apply j;refine⟨t,_,_,qs 2 (S':=[.row J 9 [.d (AA g)],.row J 9 [.d (AA h)]]) rfl (by simp) (by simp) (by simp),?_⟩;exact⟨by simp[clean,AP,t2],by simp[clean,AP,t3],by simp[clean,AP,t4],by simp[clean,AP,t57],by simp[clean,AP,t58],by simp[clean,AP,AL t Q],q (by simp),rfl⟩
     |false=>
      have F:=zr rfl;subst F;refine AQ ?_;simp;(repeat refine xS ?_);refine xV λK j=>?_;simp;refine j _ _ ?_;(try simp only[xQ,reduceIte]);(refine Am ?_;(try simp only[xQ,reduceIte]);refine⟨_,_,_,ap,?_,?_,fi 0 (S':=[]) rfl (by simp)⟩<;>simp[BC])
   .have o:¬(i:Int)<Z h.AE:=by omega
    rw[ab3 w,abZ]at C;subst C;refine xS ?_;refine xD (A3 27 []) (by kernel_rfl) λK j=>?_;simp;refine xZ ?_;simp[t4,o];refine xM (j _ _ ?_);(try simp only[xQ,reduceIte]);refine AQ ?_;simp;refine xK ?_;refine Gb λK j=>?_;refine xJ ?_;simp[t2,t3];refine Bz (L) rfl (by simp[xN]) ?_;simp;refine xJ ?_;simp;refine CO (j _ _ ?_);cases tb with
    |true=>
     refine AQ ?_;simp;refine B8 ?_;refine xV λK j=>?_;simp[t59];apply j;refine⟨t,_,_,qs 2 (S':=[.row J 9 [.d (AA g)],.row J 9 [.d (AA h)]]) rfl (by simp) (by simp) (by simp),?_⟩;exact⟨by simp[clean,AP,t2],by simp[clean,AP,t3],by simp[clean,AP,t4],by simp[clean,AP,t57],by simp[clean,AP,t58],by simp[clean,AP,AL t Q],q (by simp),rfl⟩
    |false=>
     have F:=zr rfl;subst F;refine AQ ?_;simp;refine xW λK j=>?_;simp;apply j;(refine Am ?_;(try simp only[xQ,reduceIte]);refine⟨_,_,_,ap,?_,?_,fi 0 (S':=[]) rfl (by simp)⟩<;>simp[BC])
  .have e:i=Z g.AE:=by omega
   subst e;refine Co ?_;exact M
 rintro tm S hpt;rw[b8 ⟨de.2 hms,de.2 λp G=>by simpa using hpt p (th.1 G)⟩]at s;subst s;(repeat refine xS ?_);refine xV λK j=>?_;simp;refine j _ _ ?_;(try simp only[xQ,reduceIte]);(refine Am ?_;(try simp only[xQ,reduceIte]);refine⟨_,_,_,ap,?_,?_,fi 0 (S':=[]) rfl (by simp)⟩<;>simp[BC])
def Kt:AD:=⟨[⟨#[65]⟩,⟨#[66]⟩],Db,DQ,[⟨#[69]⟩,⟨#[79]⟩],[⟨⟨#[110,117,109]⟩,0,[⟨J,0⟩],Db,am,0,[],Az⟩,⟨⟨#[98,105,110]⟩,0,[⟨am,0⟩,⟨am,1⟩,⟨am,0⟩],Db,am,0,[],Az⟩,⟨⟨#[112,108,117,115]⟩,1,[⟨J,1⟩],Db,am,0,[],Az⟩,⟨⟨#[116,105,109,101,115]⟩,1,[⟨J,2⟩],Db,am,0,[],Az⟩],0,[],[]⟩
def xo:AO:=⟨[],0⟩
theorem P9{d:AO}(h:d=Db\/d=xo)(n:Int):Cp d n=true:=by
 have g:Valid d:=by
  rcases h with rfl|rfl
  .exact⟨.leaf J,trivial,rfl⟩
  .exact⟨.leaf am,trivial,rfl⟩
 have hn:d.nodes=[]:=by rcases h with rfl|rfl<;>rfl
 simp[Cp,HL,g,hn]
def Sx(g:AD):List ByteArray->List AM->Bool
 |_,[]=>J
 |L,p::l=>EW g p&&!Fm L p.name&&(decide (p.cond=Db)||decide (p.cond=xo))&&decide (-1<=p.EC)&&decide (p.EC<=1)&&Is p&&Sx g (L++[p.name]) l
theorem RG(g:AD):∀(l:List AM) (L:List ByteArray),Sx g L l=J->Cx g L l=0
 |[],_,_=>rfl
 |p::l,L,h=>by
  simp[Sx]at h;obtain⟨⟨⟨⟨⟨⟨h1,i⟩,j⟩,k⟩,m⟩,o⟩,q⟩:=h;have s:IU g p=true:=by simp[IU,P9 j,k,m,o]
  simp[Cx,h1,i,s,RG g l _ q]
def nJ(t:Token):Bool:=decide (0<=t.cls)&&decide (t.cls<=2)&&decide (t.cond=Db)&&LO t
theorem Mp:DI [⟨#[]⟩] (DQ.map (·.name))=J/\DQ.all nJ=true:=by decide+kernel
def yY(g:AD):Bool:=!Cz g&&IF g&&Sx g [⟨#[]⟩] g.AE
theorem Tg(Ay:List ByteArray)(AE:List AM)(h:yY ⟨[⟨#[65]⟩,⟨#[66]⟩],Db,DQ,Ay,AE,0,[],[]⟩=J):B4 ⟨[⟨#[65]⟩,⟨#[66]⟩],Db,DQ,Ay,AE,0,[],[]⟩=0:=by
 generalize i:(⟨[⟨#[65]⟩,⟨#[66]⟩],Db,DQ,Ay,AE,0,[],[]⟩:AD)=g at *;simp[yY]at h;obtain⟨⟨h1,j⟩,k⟩:=h;have m:Fu g=true:=by
  subst i;have:([⟨#[65]⟩,⟨#[66]⟩]:List ByteArray).all E9&&DI [⟨#[]⟩] [⟨#[65]⟩,⟨#[66]⟩]=true:=by unfold E9;decide+kernel
  simp only[Fu,P9 (.inl rfl)];rfl
 have o:FC g=true:=by
  subst i;simp[FC,Mp.1];intro t q;have:=de.1 Mp.2 t q;simp[nJ]at this;simp[Hu,this.1.1.1,this.1.1.2,P9 (.inl this.1.2),this.2]
 have s:Cx g [⟨#[]⟩] g.AE=0:=RG g _ _ k;have u:Ef g [] g.levels=true:=by subst i;rfl
 have v:Ec g=true:=by subst i;rfl
 simp[B4,h1,Ds,m,o,j,s,u,v,HA]
def yo(g:AD):Bool:=g.AE.all λp=>match p.right with|[]=>am|[s]=>s.token|_=>J
theorem Yi(g:AD)(h:yo g=J):¬So g:=M5.none <| XY.wj λp k=>by
 have:=de.1 h p k;cases j:p.right with
 |nil=>rw[j]at this;simp at this
 |cons a l=>
  rw[j]at this;cases l with
  |nil=>refine⟨by simp,λs i=>?_⟩;cases i;exact this
  |cons b l=>exact⟨by simp,λs i=>by simp at i⟩
theorem JV:okF Kt:=⟨Tg _ _ (by decide+kernel),Yi _ (by decide+kernel)⟩
theorem qm:Pure prog 12 [] (AA Kt):=by
 have h1:=B2 J;simp at h1;have g:=(IE [⟨#[69]⟩,⟨#[79]⟩]).E5 (args':=[.full [.str ⟨#[69]⟩,.str ⟨#[79]⟩]]) rfl λi h j=>by
  match i,h with
  |0,_=>exact .inr ⟨Bv [⟨#[69]⟩,⟨#[79]⟩],by simp[BC],rfl⟩
 have k:ByteArray.empty=(⟨#[]⟩:ByteArray):=rfl;refine zP func12 27 rfl λwf=>?_;apply yW;simp;apply yS;apply yJ;simp[ao];refine xF (g) [] rfl ?_;simp;apply yJ;simp[I4];apply yS;apply yJ;simp;refine Bz (h1) rfl (by simp) (yJ ?_);simp[AB];refine yD (A3 20 [41]) (by kernel_rfl) ?_;simp;apply yA 1;simp;refine Bs (Dc 0) rfl (by simp[ao]) ?_;simp;apply yA 1;simp[ao];refine Bs (Ex 0) rfl (by simp[ao,xN]) ?_;simp;refine Bs (Ex 1) rfl (by simp[ao,xN]) ?_;simp;refine Bs (Ex 0) rfl (by simp[ao,xN]) ?_;simp;apply yA 1;simp[ao];refine Bs (Dc 1) rfl (by simp[ao,xN]) ?_;simp;apply yA 1;simp[ao];refine Bs (Dc 2) rfl (by simp[ao,xN]) ?_;simp;apply yA 1;simp[ao];apply xX 1048575 (by kernel_rfl);simp[Aa,Ag,ao];apply xM;apply yW;simp;apply Am;refine⟨_,_,ap,?_⟩;simp[BC,AA,Kt,AG,Az,Db]
end Go.Koi
