/-
  Part 14 of the proof that the law ChangeFoldInline returns true for every input.
-/
import Derived.Test.YtgdfmldabcofeaaGreatDoorK12
set_option maxHeartbeats 64000000
set_option maxRecDepth 100000
namespace Go.Koi
open Go renaming maxLen->al
open Go.Proofs Tryz
structure Ht where
 kind:Nat
 a:Nat
 b:Nat
 c:Nat
 Em:Nat
def Br(x:Ht):D:=.agg [D.int .u8 (x.kind:Nat),D.int .u8 (x.a:Nat),D.int .u8 (x.b:Nat),D.int .u8 (x.c:Nat),D.int .u8 (x.Em:Nat)]
@[simp] theorem dD(x:Ht):Ai (.d (Br x))=[.d (D.int .u8 (x.kind:Nat)),.d (D.int .u8 (x.a:Nat)),.d (D.int .u8 (x.b:Nat)),.d (D.int .u8 (x.c:Nat)),.d (D.int .u8 (x.Em:Nat))]:=rfl
@[simp] theorem fW(x:Ht):At (.d (Br x))=true:=rfl
@[simp] theorem j4(x:Ht):Bw (.d (Br x))=false:=rfl
@[simp] theorem dB(x:Ht):BN (Br x)=[D.int .u8 (x.kind:Nat),D.int .u8 (x.a:Nat),D.int .u8 (x.b:Nat),D.int .u8 (x.c:Nat),D.int .u8 (x.Em:Nat)]:=rfl
@[simp] theorem lD(x:Ht):CZ.oneD (Br x)=true:=rfl
@[simp] theorem pf(x:Ht):DZ (Br x)=Bs [D.int .u8 (x.kind:Nat),D.int .u8 (x.a:Nat),D.int .u8 (x.b:Nat),D.int .u8 (x.c:Nat),D.int .u8 (x.Em:Nat)]:=rfl
@[simp] theorem jT(S:Sg)(x:Ht):Dm S (.d (Br x))=some [D.int .u8 (x.kind:Nat),D.int .u8 (x.a:Nat),D.int .u8 (x.b:Nat),D.int .u8 (x.c:Nat),D.int .u8 (x.Em:Nat)]:=rfl
def IY(g g':AE):Prop:=g'=g\/(∃l,vL g l/\g'={g with levels:=g.levels++[l]})\/(∃f,uQ g f/\g'={g with AU:=g.AU++[f]})\/∃t,vC g t/\g'={g with Ae:=t}
structure IG(g:AE)(x:Ht):Prop where
 p0:0<g.AD.length
 p1:g.AD.length<=100
 n0:0<g.A2.length
 n1:g.A2.length<=100
 c1:g.conds.length<=3
 t1:g.Ae.length=11
 l1:g.levels.length<=100
 l2:∀l∈g.levels,l.AD.length<=100
 f1:g.AU.length<=100
 k1:x.kind<256
 k2:x.a<256
 k3:x.b<256
 k4:x.c<256
 k5:x.Em<256
abbrev ada:=@List.getElem_set
theorem fm(g:AE)(x:Ht)(h:IG g x)(U:x.kind % 8=7):∃F,IY g F/\BP prog 47 [.d (AA g),.d (Br x)] [] (V9 λv=>v=F):=by
 obtain⟨p0,p1,n0,n1,c1,w,z,C,f1,k1,k2,k3,k4,k5⟩:=h;have E:=GD x.Em g.conds.length k5 (by omega);have W:=(Eu k5 (show g.conds.length<4 by omega)).2;have G:=Ev k5 (show g.conds.length<4 by omega);generalize Ir x.Em g.conds.length=d at *;obtain⟨A,q⟩:=a9 (x.a % g.AD.length);have H:A<g.AD.length:=by rw[<-q];exact gc _ p0
 obtain⟨B,s⟩:=a9 (x.b % g.AD.length);have J:B<g.AD.length:=by rw[<-s];exact gc _ p0
 have K:((x.kind:Int).tmod 8)=7:=by rw[c8 (by omega)];omega
 have k:(x.kind:Int) % 8=7:=by omega
 have L:((x.a:Int).tmod g.AD.length)=A:=by rw[c8 (by omega),<-q];simp
 have X:((x.b:Int).tmod g.AD.length)=B:=by rw[c8 (by omega),<-s];simp
 have Y:IntKind.u8.wrap (7:Int)=7:=by decide
 have t:IntKind.i64.wrap (x.a:Int)=x.a:=by rw[bv];omega
 have Z:IntKind.i64.wrap (x.b:Int)=x.b:=by rw[bv];omega
 have wc:IntKind.i64.wrap (x.c:Int)=x.c:=by rw[bv];omega
 have M:¬g.AD.length=0:=by omega
 have N:g.AD≠[]:=by intro e;simp[e]at p0
 have yw:g.A2≠[]:=by intro e;simp[e]at n0
 have xn:¬g.A2.length=0:=by omega
 have vv:1<=al:=by unfold al;omega
 have P:0<=al:=cq _;obtain⟨e,Q⟩:=a9 (x.a % 9);have j:e<g.Ae.length:=by omega
 have R:((x.a:Int).tmod 9)=e:=by rw[c8 (by omega),<-Q];simp
 have m:(x.a:Int) % 9=e:=by omega
 have S:g.Ae.length<=1073741824:=by omega
 generalize o:g.Ae[e]=tk;have T:=Ad.eq_1 tk;have u:g.Ae.isEmpty=false:=by cases h:g.Ae<;>simp[h]at j⊢
 have xd:(g.Ae.set e {tk with cond:=d}).map (·.cls)=g.Ae.map (·.cls):=by
  rw[eQ];apply un (by simp);intro i h1 h2;rw[ada];split
  .rename_i hi;subst hi;simp[o]
  .rfl
 refine⟨{g with Ae:=g.Ae.set e {tk with cond:=d}},.inr (.inr (.inr ⟨_,⟨e,d,G,j,by rw[o]⟩,rfl⟩)),?_⟩;refine zR func47 156 rfl λwf _=>?_;apply yW;simp;apply yS;apply yJ;simp;refine B9 (E) rfl (by simp[xN]) (yJ ?_);simp;apply yW;simp[t,L,M];apply yW;simp;refine xS (yW ?_);simp[K];apply Bx;refine xS (yW ?_);simp;apply AR;simp;apply yV;simp;apply AR;simp;refine xS (yW ?_);simp;apply AR;simp;apply yV;simp;apply AR;simp;refine xS (yW ?_);simp;apply AR;simp;apply yV;simp;apply AR;simp;apply yW;simp;apply AR;simp;apply yW;simp[P,S,u];apply yW;simp[t,R,j,o,T];apply yW;simp;apply yW;simp;refine ed (i5 5 (xs:=(g.Ae.set e {tk with cond:=d}).map Ad) rfl ?_) ?_
 .rw[CO,eQ,kv,eQ,eQ,kv];congr 1
 simp;apply Af;refine⟨_,_,c9 5 (xs:=(g.Ae.set e {tk with cond:=d}).map Ad) rfl (by simpa using CQ _ ((g.Ae.set e {tk with cond:=d}).map Ad)),by simp,_,_,⟨rfl,{g with Ae:=g.Ae.set e {tk with cond:=d}},rfl,rfl⟩,.inl ⟨AA {g with Ae:=g.Ae.set e {tk with cond:=d}},_,by simp[Ba,AA],rfl,a8 0 rfl (by simp) (by simp) (by simp)⟩⟩
theorem iS(g:AE)(x:Ht)(h:IG g x)(P:x.kind % 8=6):∃F,IY g F/\BP prog 47 [.d (AA g),.d (Br x)] [] (V9 λs=>s=F):=by
 obtain⟨p0,p1,n0,n1,c1,t,u,v,f1,k1,k2,k3,k4,k5⟩:=h;have w:=GD x.Em g.conds.length k5 (by omega);have z:=(Eu k5 (show g.conds.length<4 by omega)).2;have C:=Ev k5 (show g.conds.length<4 by omega);generalize Ir x.Em g.conds.length=d at *;obtain⟨A,o⟩:=a9 (x.a % g.AD.length);have E:A<g.AD.length:=by rw[<-o];exact gc _ p0
 obtain⟨B,q⟩:=a9 (x.b % g.AD.length);have G:B<g.AD.length:=by rw[<-q];exact gc _ p0
 have H:((x.kind:Int).tmod 8)=6:=by rw[c8 (by omega)];omega
 have k:(x.kind:Int) % 8=6:=by omega
 have J:((x.a:Int).tmod g.AD.length)=A:=by rw[c8 (by omega),<-o];simp
 have Q:((x.b:Int).tmod g.AD.length)=B:=by rw[c8 (by omega),<-q];simp
 have R:IntKind.u8.wrap (6:Int)=6:=by decide
 have K:IntKind.i64.wrap (x.a:Int)=x.a:=by rw[bv];omega
 have S:IntKind.i64.wrap (x.b:Int)=x.b:=by rw[bv];omega
 have T:IntKind.i64.wrap (x.c:Int)=x.c:=by rw[bv];omega
 have L:¬g.AD.length=0:=by omega
 have M:g.AD≠[]:=by intro e;simp[e]at p0
 have U:g.A2≠[]:=by intro e;simp[e]at n0
 have W:¬g.A2.length=0:=by omega
 have i:1<=al:=by unfold al;omega
 have j:0<=al:=cq _;obtain⟨m,N⟩:=di g 5 d (by omega) z;refine⟨if m then {g with AU:=g.AU++[(⟨5,0,0,0,0,0,[5],d⟩:Filter)]}else g,by cases m;exact .inl rfl;exact .inr (.inr (.inl ⟨_,⟨d,C,.inr (.inr rfl)⟩,rfl⟩)),?_⟩;refine zR func47 156 rfl λwf _=>?_;apply yW;simp;apply yS;apply yJ;simp;refine B9 (w) rfl (by simp[xN]) (yJ ?_);simp;apply yW;simp[K,J,L];apply yW;simp;refine xS (yW ?_);simp[H];apply Bx;refine xS (yW ?_);simp;apply AR;simp;apply yV;simp;apply AR;simp;refine xS (yW ?_);simp;apply AR;simp;apply yV;simp;apply AR;simp;refine xS (yW ?_);simp;apply AR;simp;apply yV;simp;apply AR;simp;apply yW;simp;apply AR;simp;apply yW;simp;apply yV;simp[i];refine xS (yS ?_);apply yJ;simp;refine B9 (N) rfl (by simp[xN]) (yJ ?_);simp;cases m with
 |true=>
  apply AR;simp;refine ed (i5 4 (xs:=[AM (⟨5,0,0,0,0,0,[5],d⟩:Filter)]) rfl (by simp[Dw,Dx,CF,AM])) ?_;simp;have f2:g.AU.length<=1073741824:=by omega
  have f3:g.AU.length+1<=1073741824:=by omega
  refine yE [0,2,4,8,10,7,13,14,17] (by kernel_rfl) ?_;simp;apply yA 1;simp[i,j];apply xX 20 (by kernel_rfl);simp[Ac,i,j,f2,Ah,h8];apply yA 1;simp;apply xX 1 (by kernel_rfl);simp[Ac,i,f3,Ah,h8];apply yA 1;simp;apply xX 7 (by kernel_rfl);simp[Ac];apply xM;apply yW;simp;apply Af;refine⟨_,_,c9 5 (xs:=(g.AU++[(⟨5,0,0,0,0,0,[5],d⟩:Filter)]).map AM) rfl (by simpa using CQ _ ((g.AU++[(⟨5,0,0,0,0,0,[5],d⟩:Filter)]).map AM)),by simp,_,_,⟨rfl,{g with AU:=g.AU++[(⟨5,0,0,0,0,0,[5],d⟩:Filter)]},rfl,by simp⟩,.inl ⟨AA {g with AU:=g.AU++[(⟨5,0,0,0,0,0,[5],d⟩:Filter)]},_,by simp[Ba,AA],rfl,a8 0 rfl (by simp) (by simp) (by simp)⟩⟩
 |false=>
  apply AR;simp;apply xK;apply yW;simp;apply Af;refine⟨_,_,am,by simp,_,_,⟨rfl,g,rfl,by simp⟩,.inl ⟨AA g,_,by simp,rfl,a8 0 rfl (by simp) (by simp) (by simp)⟩⟩
theorem cA(g:AE)(x:Ht)(h:IG g x)(hr:x.kind % 8=2):∃F,IY g F/\BP prog 47 [.d (AA g),.d (Br x)] [] (V9 λH=>H=F):=by
 obtain⟨p0,p1,n0,n1,c1,J,K,L,f1,k1,k2,k3,k4,k5⟩:=h;have M:=GD x.Em g.conds.length k5 (by omega);have N:=(Eu k5 (show g.conds.length<4 by omega)).2;have P:=Ev k5 (show g.conds.length<4 by omega);generalize Ir x.Em g.conds.length=d at *;obtain⟨A,t⟩:=a9 (x.a % g.AD.length);have i:A<g.AD.length:=by rw[<-t];exact gc _ p0
 obtain⟨B,u⟩:=a9 (x.b % g.AD.length);have j:B<g.AD.length:=by rw[<-u];exact gc _ p0
 have v:((x.kind:Int).tmod 8)=2:=by rw[c8 (by omega)];omega
 have k:(x.kind:Int) % 8=2:=by omega
 have Q:((x.a:Int).tmod g.AD.length)=A:=by rw[c8 (by omega),<-t];simp
 have R:((x.b:Int).tmod g.AD.length)=B:=by rw[c8 (by omega),<-u];simp
 have w8:IntKind.u8.wrap (2:Int)=2:=by decide
 have S:IntKind.i64.wrap (x.a:Int)=x.a:=by rw[bv];omega
 have T:IntKind.i64.wrap (x.b:Int)=x.b:=by rw[bv];omega
 have U:IntKind.i64.wrap (x.c:Int)=x.c:=by rw[bv];omega
 have w:¬g.AD.length=0:=by omega
 have z:g.AD≠[]:=by intro e;simp[e]at p0
 have yw:g.A2≠[]:=by intro e;simp[e]at n0
 have xn:¬g.A2.length=0:=by omega
 have m:1<=al:=by unfold al;omega
 have o:0<=al:=cq _;obtain⟨C,W⟩:=a9 (x.c % 16);have X:((x.c:Int).tmod 16)=C:=by rw[c8 (by omega),<-W];simp
 have q:(x.c:Int) % 16=C:=by omega
 have E:=iN g A C B d i j N;obtain⟨s,G⟩:=a9 (Np g A C B);rw[G]at E;refine⟨if s then {g with AU:=g.AU++[(⟨1,A,C,B,0,0,[],d⟩:Filter)]}else g,by cases Y:s;exact .inl rfl;exact .inr (.inr (.inl ⟨_,⟨d,P,.inl ⟨A,C,B,1,by simp,i,j,G.trans Y,rfl⟩⟩,rfl⟩)),?_⟩;refine zR func47 156 rfl λwf _=>?_;apply yW;simp;apply yS;apply yJ;simp;refine B9 (M) rfl (by simp[xN]) (yJ ?_);simp;apply yW;simp[S,Q,w];apply yW;simp;refine xS (yW ?_);simp[v];apply Bx;have Z:IntKind.i64.wrap 1=1:=by decide
 have z2:IntKind.i64.wrap 2=2:=by decide
 have z3:IntKind.i64.wrap 3=3:=by decide
 have z4:IntKind.i64.wrap 4=4:=by decide
 have z5:IntKind.i64.wrap 5=5:=by decide
 have z7:IntKind.i64.wrap 7=7:=by decide
 have z8:IntKind.i64.wrap 8=8:=by decide
 refine xS (yW ?_);simp;apply AR;simp;apply yV;simp;apply AR;simp;refine xS (yW ?_);simp;apply AR;simp;apply xK;apply AR;simp;apply yW;simp[v,Z,z2,z3];apply yW;simp;apply yW;simp[U,X];apply yV;simp[T,R,w];refine xS (yS ?_);apply yJ;simp;refine B9 (E) rfl (by simp[xN]) (yJ ?_);simp;cases s with
 |true=>
  apply AR;simp;refine ed (i5 4 (xs:=[AM (⟨1,A,C,B,0,0,[],d⟩:Filter)]) rfl (by simp[Dw,Dx,CF,AM])) ?_;simp;have f2:g.AU.length<=1073741824:=by omega
  have f3:g.AU.length+1<=1073741824:=by omega
  refine yE [0,2,4,8,10,7,13,14,17] (by kernel_rfl) ?_;simp;apply yA 1;simp[m,o];apply xX 20 (by kernel_rfl);simp[Ac,m,o,f2,Ah,h8];apply yA 1;simp;apply xX 1 (by kernel_rfl);simp[Ac,m,f3,Ah,h8];apply yA 1;simp;apply xX 7 (by kernel_rfl);simp[Ac];apply xM;apply yW;simp;apply Af;refine⟨_,_,c9 5 (xs:=(g.AU++[(⟨1,A,C,B,0,0,[],d⟩:Filter)]).map AM) rfl (by simpa using CQ _ ((g.AU++[(⟨1,A,C,B,0,0,[],d⟩:Filter)]).map AM)),by simp,_,_,⟨rfl,{g with AU:=g.AU++[(⟨1,A,C,B,0,0,[],d⟩:Filter)]},rfl,by simp⟩,.inl ⟨AA {g with AU:=g.AU++[(⟨1,A,C,B,0,0,[],d⟩:Filter)]},_,by simp[Ba,AA],rfl,a8 0 rfl (by simp) (by simp) (by simp)⟩⟩
 |false=>
  apply AR;simp;apply xK;apply yW;simp;apply Af;refine⟨_,_,am,by simp,_,_,⟨rfl,g,rfl,by simp⟩,.inl ⟨AA g,_,by simp,rfl,a8 0 rfl (by simp) (by simp) (by simp)⟩⟩
theorem iW(g:AE)(x:Ht)(h:IG g x)(hr:x.kind % 8=3):∃F,IY g F/\BP prog 47 [.d (AA g),.d (Br x)] [] (V9 λH=>H=F):=by
 obtain⟨p0,p1,n0,n1,c1,J,K,L,f1,k1,k2,k3,k4,k5⟩:=h;have M:=GD x.Em g.conds.length k5 (by omega);have N:=(Eu k5 (show g.conds.length<4 by omega)).2;have P:=Ev k5 (show g.conds.length<4 by omega);generalize Ir x.Em g.conds.length=d at *;obtain⟨A,t⟩:=a9 (x.a % g.AD.length);have i:A<g.AD.length:=by rw[<-t];exact gc _ p0
 obtain⟨B,u⟩:=a9 (x.b % g.AD.length);have j:B<g.AD.length:=by rw[<-u];exact gc _ p0
 have v:((x.kind:Int).tmod 8)=3:=by rw[c8 (by omega)];omega
 have k:(x.kind:Int) % 8=3:=by omega
 have Q:((x.a:Int).tmod g.AD.length)=A:=by rw[c8 (by omega),<-t];simp
 have R:((x.b:Int).tmod g.AD.length)=B:=by rw[c8 (by omega),<-u];simp
 have w8:IntKind.u8.wrap (3:Int)=3:=by decide
 have S:IntKind.i64.wrap (x.a:Int)=x.a:=by rw[bv];omega
 have T:IntKind.i64.wrap (x.b:Int)=x.b:=by rw[bv];omega
 have U:IntKind.i64.wrap (x.c:Int)=x.c:=by rw[bv];omega
 have w:¬g.AD.length=0:=by omega
 have z:g.AD≠[]:=by intro e;simp[e]at p0
 have yw:g.A2≠[]:=by intro e;simp[e]at n0
 have xn:¬g.A2.length=0:=by omega
 have m:1<=al:=by unfold al;omega
 have o:0<=al:=cq _;obtain⟨C,W⟩:=a9 (x.c % 16);have X:((x.c:Int).tmod 16)=C:=by rw[c8 (by omega),<-W];simp
 have q:(x.c:Int) % 16=C:=by omega
 have E:=gD g A C B d i j N;obtain⟨s,G⟩:=a9 (Np g A C B);rw[G]at E;refine⟨if s then {g with AU:=g.AU++[(⟨2,A,C,B,0,0,[],d⟩:Filter)]}else g,by cases Y:s;exact .inl rfl;exact .inr (.inr (.inl ⟨_,⟨d,P,.inl ⟨A,C,B,2,by simp,i,j,G.trans Y,rfl⟩⟩,rfl⟩)),?_⟩;refine zR func47 156 rfl λwf _=>?_;apply yW;simp;apply yS;apply yJ;simp;refine B9 (M) rfl (by simp[xN]) (yJ ?_);simp;apply yW;simp[S,Q,w];apply yW;simp;refine xS (yW ?_);simp[v];apply Bx;have Z:IntKind.i64.wrap 1=1:=by decide
 have z2:IntKind.i64.wrap 2=2:=by decide
 have z3:IntKind.i64.wrap 3=3:=by decide
 have z4:IntKind.i64.wrap 4=4:=by decide
 have z5:IntKind.i64.wrap 5=5:=by decide
 have z7:IntKind.i64.wrap 7=7:=by decide
 have z8:IntKind.i64.wrap 8=8:=by decide
 refine xS (yW ?_);simp;apply AR;simp;apply yV;simp;apply AR;simp;refine xS (yW ?_);simp;apply AR;simp;apply yV;simp;apply AR;simp;apply yW;simp[v,z2,z3,z4];apply yW;simp;apply yW;simp[U,X];apply yV;simp[T,R,w];refine xS (yS ?_);apply yJ;simp;refine B9 (E) rfl (by simp[xN]) (yJ ?_);simp;cases s with
 |true=>
  apply AR;simp;refine ed (i5 4 (xs:=[AM (⟨2,A,C,B,0,0,[],d⟩:Filter)]) rfl (by simp[Dw,Dx,CF,AM])) ?_;simp;have f2:g.AU.length<=1073741824:=by omega
  have f3:g.AU.length+1<=1073741824:=by omega
  refine yE [0,2,4,8,10,7,13,14,17] (by kernel_rfl) ?_;simp;apply yA 1;simp[m,o];apply xX 20 (by kernel_rfl);simp[Ac,m,o,f2,Ah,h8];apply yA 1;simp;apply xX 1 (by kernel_rfl);simp[Ac,m,f3,Ah,h8];apply yA 1;simp;apply xX 7 (by kernel_rfl);simp[Ac];apply xM;apply yW;simp;apply Af;refine⟨_,_,c9 5 (xs:=(g.AU++[(⟨2,A,C,B,0,0,[],d⟩:Filter)]).map AM) rfl (by simpa using CQ _ ((g.AU++[(⟨2,A,C,B,0,0,[],d⟩:Filter)]).map AM)),by simp,_,_,⟨rfl,{g with AU:=g.AU++[(⟨2,A,C,B,0,0,[],d⟩:Filter)]},rfl,by simp⟩,.inl ⟨AA {g with AU:=g.AU++[(⟨2,A,C,B,0,0,[],d⟩:Filter)]},_,by simp[Ba,AA],rfl,a8 0 rfl (by simp) (by simp) (by simp)⟩⟩
 |false=>
  apply AR;simp;apply xK;apply yW;simp;apply Af;refine⟨_,_,am,by simp,_,_,⟨rfl,g,rfl,by simp⟩,.inl ⟨AA g,_,by simp,rfl,a8 0 rfl (by simp) (by simp) (by simp)⟩⟩
theorem be(g:AE)(x:Ht)(h:IG g x)(hr:x.kind % 8=4):∃F,IY g F/\BP prog 47 [.d (AA g),.d (Br x)] [] (V9 λC=>C=F):=by
 obtain⟨p0,p1,n0,n1,c1,G,H,J,f1,k1,k2,k3,k4,k5⟩:=h;have K:=GD x.Em g.conds.length k5 (by omega);have M:=(Eu k5 (show g.conds.length<4 by omega)).2;have N:=Ev k5 (show g.conds.length<4 by omega);generalize Ir x.Em g.conds.length=d at *;obtain⟨A,s⟩:=a9 (x.a % g.AD.length);have P:A<g.AD.length:=by rw[<-s];exact gc _ p0
 obtain⟨B,t⟩:=a9 (x.b % g.AD.length);have Q:B<g.AD.length:=by rw[<-t];exact gc _ p0
 have u:((x.kind:Int).tmod 8)=4:=by rw[c8 (by omega)];omega
 have i:(x.kind:Int) % 8=4:=by omega
 have R:((x.a:Int).tmod g.AD.length)=A:=by rw[c8 (by omega),<-s];simp
 have qb:((x.b:Int).tmod g.AD.length)=B:=by rw[c8 (by omega),<-t];simp
 have w8:IntKind.u8.wrap (4:Int)=4:=by decide
 have v:IntKind.i64.wrap (x.a:Int)=x.a:=by rw[bv];omega
 have S:IntKind.i64.wrap (x.b:Int)=x.b:=by rw[bv];omega
 have wc:IntKind.i64.wrap (x.c:Int)=x.c:=by rw[bv];omega
 have T:¬g.AD.length=0:=by omega
 have U:g.AD≠[]:=by intro e;simp[e]at p0
 have W:g.A2≠[]:=by intro e;simp[e]at n0
 have X:¬g.A2.length=0:=by omega
 have j:1<=al:=by unfold al;omega
 have m:0<=al:=cq _;obtain⟨L,w⟩:=a9 (x.a % g.A2.length);have k:L<g.A2.length:=by rw[<-w];exact gc _ n0
 have Y:((x.a:Int).tmod g.A2.length)=L:=by rw[c8 (by omega),<-w];simp
 obtain⟨E,Z⟩:=a9 (x.b % 9);have qe:((x.b:Int).tmod 9)=E:=by rw[c8 (by omega),<-Z];simp
 have o:(x.b:Int) % 9=E:=by omega
 have z:=bq g L E d k (by omega) M;generalize(!(ZR g.Ae[E] false))=q at z;refine⟨if q then {g with AU:=g.AU++[(⟨3,0,0,0,L,0,[(E:Int)],d⟩:Filter)]}else g,by cases q;exact .inl rfl;exact .inr (.inr (.inl ⟨_,⟨d,N,.inr (.inl ⟨L,E,3,by simp,k,by omega,rfl⟩)⟩,rfl⟩)),?_⟩;refine zR func47 156 rfl λwf _=>?_;apply yW;simp;apply yS;apply yJ;simp;refine B9 (K) rfl (by simp[xN]) (yJ ?_);simp;apply yW;simp[v,R,T];apply yW;simp;refine xS (yW ?_);simp[u];apply Bx;have z1:IntKind.i64.wrap 1=1:=by decide
 have z2:IntKind.i64.wrap 2=2:=by decide
 have z3:IntKind.i64.wrap 3=3:=by decide
 have z4:IntKind.i64.wrap 4=4:=by decide
 have z5:IntKind.i64.wrap 5=5:=by decide
 have z7:IntKind.i64.wrap 7=7:=by decide
 have z8:IntKind.i64.wrap 8=8:=by decide
 refine xS (yW ?_);simp;apply AR;simp;apply yV;simp;apply AR;simp;refine xS (yW ?_);simp;apply AR;simp;apply yV;simp;apply AR;simp;refine xS (yW ?_);simp;apply AR;simp;apply xK;apply AR;simp;apply yW;simp[u,z3,z4,z7];apply yW;simp[v,Y,X];apply yV;simp[S,qe,j];refine xS (yS ?_);apply yJ;simp;refine B9 (z) rfl (by simp[xN]) (yJ ?_);simp;cases q with
 |true=>
  apply AR;simp;refine ed (i5 4 (xs:=[AM (⟨3,0,0,0,L,0,[(E:Int)],d⟩:Filter)]) rfl (by simp[Dw,Dx,CF,AM])) ?_;simp;have f2:g.AU.length<=1073741824:=by omega
  have f3:g.AU.length+1<=1073741824:=by omega
  refine yE [0,2,4,8,10,7,13,14,17] (by kernel_rfl) ?_;simp;apply yA 1;simp[j,m];apply xX 20 (by kernel_rfl);simp[Ac,j,m,f2,Ah,h8];apply yA 1;simp;apply xX 1 (by kernel_rfl);simp[Ac,j,f3,Ah,h8];apply yA 1;simp;apply xX 7 (by kernel_rfl);simp[Ac];apply xM;apply yW;simp;apply Af;refine⟨_,_,c9 5 (xs:=(g.AU++[(⟨3,0,0,0,L,0,[(E:Int)],d⟩:Filter)]).map AM) rfl (by simpa using CQ _ ((g.AU++[(⟨3,0,0,0,L,0,[(E:Int)],d⟩:Filter)]).map AM)),by simp,_,_,⟨rfl,{g with AU:=g.AU++[(⟨3,0,0,0,L,0,[(E:Int)],d⟩:Filter)]},rfl,by simp⟩,.inl ⟨AA {g with AU:=g.AU++[(⟨3,0,0,0,L,0,[(E:Int)],d⟩:Filter)]},_,by simp[Ba,AA],rfl,a8 0 rfl (by simp) (by simp) (by simp)⟩⟩
 |false=>
  apply AR;simp;apply xK;apply yW;simp;apply Af;refine⟨_,_,am,by simp,_,_,⟨rfl,g,rfl,by simp⟩,.inl ⟨AA g,_,by simp,rfl,a8 0 rfl (by simp) (by simp) (by simp)⟩⟩
theorem gv(g:AE)(x:Ht)(h:IG g x)(hr:x.kind % 8=5):∃F,IY g F/\BP prog 47 [.d (AA g),.d (Br x)] [] (V9 λC=>C=F):=by
 obtain⟨p0,p1,n0,n1,c1,G,H,J,f1,k1,k2,k3,k4,k5⟩:=h;have K:=GD x.Em g.conds.length k5 (by omega);have M:=(Eu k5 (show g.conds.length<4 by omega)).2;have N:=Ev k5 (show g.conds.length<4 by omega);generalize Ir x.Em g.conds.length=d at *;obtain⟨A,s⟩:=a9 (x.a % g.AD.length);have P:A<g.AD.length:=by rw[<-s];exact gc _ p0
 obtain⟨B,t⟩:=a9 (x.b % g.AD.length);have Q:B<g.AD.length:=by rw[<-t];exact gc _ p0
 have u:((x.kind:Int).tmod 8)=5:=by rw[c8 (by omega)];omega
 have i:(x.kind:Int) % 8=5:=by omega
 have R:((x.a:Int).tmod g.AD.length)=A:=by rw[c8 (by omega),<-s];simp
 have qb:((x.b:Int).tmod g.AD.length)=B:=by rw[c8 (by omega),<-t];simp
 have w8:IntKind.u8.wrap (5:Int)=5:=by decide
 have v:IntKind.i64.wrap (x.a:Int)=x.a:=by rw[bv];omega
 have S:IntKind.i64.wrap (x.b:Int)=x.b:=by rw[bv];omega
 have wc:IntKind.i64.wrap (x.c:Int)=x.c:=by rw[bv];omega
 have T:¬g.AD.length=0:=by omega
 have U:g.AD≠[]:=by intro e;simp[e]at p0
 have W:g.A2≠[]:=by intro e;simp[e]at n0
 have X:¬g.A2.length=0:=by omega
 have j:1<=al:=by unfold al;omega
 have m:0<=al:=cq _;obtain⟨L,w⟩:=a9 (x.a % g.A2.length);have k:L<g.A2.length:=by rw[<-w];exact gc _ n0
 have Y:((x.a:Int).tmod g.A2.length)=L:=by rw[c8 (by omega),<-w];simp
 obtain⟨E,Z⟩:=a9 (x.b % 9);have qe:((x.b:Int).tmod 9)=E:=by rw[c8 (by omega),<-Z];simp
 have o:(x.b:Int) % 9=E:=by omega
 have z:=gf g L E d k (by omega) M;generalize(!(ZR g.Ae[E] false))=q at z;refine⟨if q then {g with AU:=g.AU++[(⟨4,0,0,0,L,0,[(E:Int)],d⟩:Filter)]}else g,by cases q;exact .inl rfl;exact .inr (.inr (.inl ⟨_,⟨d,N,.inr (.inl ⟨L,E,4,by simp,k,by omega,rfl⟩)⟩,rfl⟩)),?_⟩;refine zR func47 156 rfl λwf _=>?_;apply yW;simp;apply yS;apply yJ;simp;refine B9 (K) rfl (by simp[xN]) (yJ ?_);simp;apply yW;simp[v,R,T];apply yW;simp;refine xS (yW ?_);simp[u];apply Bx;have z1:IntKind.i64.wrap 1=1:=by decide
 have z2:IntKind.i64.wrap 2=2:=by decide
 have z3:IntKind.i64.wrap 3=3:=by decide
 have z4:IntKind.i64.wrap 4=4:=by decide
 have z5:IntKind.i64.wrap 5=5:=by decide
 have z7:IntKind.i64.wrap 7=7:=by decide
 have z8:IntKind.i64.wrap 8=8:=by decide
 refine xS (yW ?_);simp;apply AR;simp;apply yV;simp;apply AR;simp;refine xS (yW ?_);simp;apply AR;simp;apply yV;simp;apply AR;simp;refine xS (yW ?_);simp;apply AR;simp;apply yV;simp;apply AR;simp;apply yW;simp[u,z4,z5,z8];apply yW;simp[v,Y,X];apply yV;simp[S,qe,j];refine xS (yS ?_);apply yJ;simp;refine B9 (z) rfl (by simp[xN]) (yJ ?_);simp;cases q with
 |true=>
  apply AR;simp;refine ed (i5 4 (xs:=[AM (⟨4,0,0,0,L,0,[(E:Int)],d⟩:Filter)]) rfl (by simp[Dw,Dx,CF,AM])) ?_;simp;have f2:g.AU.length<=1073741824:=by omega
  have f3:g.AU.length+1<=1073741824:=by omega
  refine yE [0,2,4,8,10,7,13,14,17] (by kernel_rfl) ?_;simp;apply yA 1;simp[j,m];apply xX 20 (by kernel_rfl);simp[Ac,j,m,f2,Ah,h8];apply yA 1;simp;apply xX 1 (by kernel_rfl);simp[Ac,j,f3,Ah,h8];apply yA 1;simp;apply xX 7 (by kernel_rfl);simp[Ac];apply xM;apply yW;simp;apply Af;refine⟨_,_,c9 5 (xs:=(g.AU++[(⟨4,0,0,0,L,0,[(E:Int)],d⟩:Filter)]).map AM) rfl (by simpa using CQ _ ((g.AU++[(⟨4,0,0,0,L,0,[(E:Int)],d⟩:Filter)]).map AM)),by simp,_,_,⟨rfl,{g with AU:=g.AU++[(⟨4,0,0,0,L,0,[(E:Int)],d⟩:Filter)]},rfl,by simp⟩,.inl ⟨AA {g with AU:=g.AU++[(⟨4,0,0,0,L,0,[(E:Int)],d⟩:Filter)]},_,by simp[Ba,AA],rfl,a8 0 rfl (by simp) (by simp) (by simp)⟩⟩
 |false=>
  apply AR;simp;apply xK;apply yW;simp;apply Af;refine⟨_,_,am,by simp,_,_,⟨rfl,g,rfl,by simp⟩,.inl ⟨AA g,_,by simp,rfl,a8 0 rfl (by simp) (by simp) (by simp)⟩⟩
theorem dH(g:AE)(x:Ht)(h:IG g x)(hr:x.kind % 8=0):∃F,IY g F/\BP prog 47 [.d (AA g),.d (Br x)] [] (V9 λU=>U=F):=by
 obtain⟨p0,p1,n0,n1,c1,W,X,H,f1,k1,k2,k3,k4,k5⟩:=h;have Y:=GD x.Em g.conds.length k5 (by omega);have v7:=(Eu k5 (show g.conds.length<4 by omega)).2;have N:=Ev k5 (show g.conds.length<4 by omega);generalize Ir x.Em g.conds.length=d at *;obtain⟨A,P⟩:=a9 (x.a % g.AD.length);have Z:A<g.AD.length:=by rw[<-P];exact gc _ p0
 obtain⟨B,Q⟩:=a9 (x.b % g.AD.length);have hBl:B<g.AD.length:=by rw[<-Q];exact gc _ p0
 have q0:((x.kind:Int).tmod 8)=0:=by rw[c8 (by omega)];omega
 have J:(x.kind:Int) % 8=0:=by omega
 have qa:((x.a:Int).tmod g.AD.length)=A:=by rw[c8 (by omega),<-P];simp
 have qb:((x.b:Int).tmod g.AD.length)=B:=by rw[c8 (by omega),<-Q];simp
 have w8:IntKind.u8.wrap (0:Int)=0:=by decide
 have wa:IntKind.i64.wrap (x.a:Int)=x.a:=by rw[bv];omega
 have wb:IntKind.i64.wrap (x.b:Int)=x.b:=by rw[bv];omega
 have wc:IntKind.i64.wrap (x.c:Int)=x.c:=by rw[bv];omega
 have R:¬g.AD.length=0:=by omega
 have S:g.AD≠[]:=by intro e;simp[e]at p0
 have yw:g.A2≠[]:=by intro e;simp[e]at n0
 have xn:¬g.A2.length=0:=by omega
 have m:1<=al:=by unfold al;omega
 have q:0<=al:=cq _;obtain⟨C,hC⟩:=a9 (x.c % 4);have qc:((x.c:Int).tmod 4)=C:=by rw[c8 (by omega),<-hC];simp
 have L:(x.c:Int) % 4=C:=by omega
 have wC:IntKind.i64.wrap (C:Int)=C:=by rw[bv];omega
 have s:g.levels.length<=1073741824:=by omega
 have t:g.levels.length+1<=1073741824:=by omega
 have v:∀l∈g.levels,l.AD.length<=al:=λl hl=>by have:=H l hl;unfold al;omega
 have w:=JK g A (by unfold al;omega) v;have z:=JK g B (by unfold al;omega) v;obtain⟨M,u⟩:=a9 (Ry g A);obtain⟨T,E⟩:=a9 (Ry g B);rw[u]at w;rw[E]at z;refine⟨if M then g else if B=A\/T=true then {g with levels:=g.levels++[(⟨[(A:Int)],C,d⟩:Level)]}else {g with levels:=g.levels++[(⟨[(A:Int),(B:Int)],C,d⟩:Level)]},?_,?_⟩
 .cases M
  .simp only[lh,fc];have hC4:C<=3:=by omega
   split
   .refine .inr (.inl ⟨_,⟨by simp,by simp,by simp;omega,N,by simp,λp G=>?_⟩,rfl⟩);simp only[cR]at G;subst G;exact⟨by omega,by omega,u⟩
   .next hn=>
    simp only[q7,adz]at hn;refine .inr (.inl ⟨_,⟨by simp,by simp,by simp;omega,N,by simp;omega,λp G=>?_⟩,rfl⟩);simp only[fi,acz,ad6]at G;rcases G with rfl|rfl
    .exact⟨by omega,by omega,u⟩
    .exact⟨by omega,by omega,E.trans hn.2⟩
  .exact .inl rfl
 refine BP.AK func47 (by kernel_rfl) rfl (by simp) λwf _=>?_;rw[ntmps47];refine xW λK i=>?_;simp;apply i;refine FX λK i=>?_;refine xJ ?_;simp;refine B9 (Y) rfl (by simp[xN]) ?_;simp;refine xJ ?_;simp;refine B6 (i _ _ ?_);refine xW λK i=>?_;simp[wa,qa,R];apply i;refine xW λK i=>?_;simp;apply i;refine xS (xW λK i=>?_);simp[q0];apply i;refine Bx ?_;refine xS (xW λK i=>?_);simp;apply i;refine AR ?_;simp;refine xK ?_;refine AR ?_;simp;refine xS (FX λK i=>?_);refine xJ ?_;simp;refine B9 (w) rfl (by simp[xN]) ?_;simp;refine xJ ?_;simp;refine B6 (i _ _ ?_);(try simp only[xQ,reduceIte]);cases M with
 |true=>
  refine AR ?_;simp;refine xK ?_;refine xW λK i=>?_;simp;apply i;refine Af ?_;(try simp only[xQ,reduceIte]);refine⟨_,_,am,by simp,_,_,⟨rfl,g,rfl,by simp⟩,.inl ⟨AA g,_,by simp,rfl,a8 0 rfl (by simp) (by simp) (by simp)⟩⟩
 |false=>
  refine AR ?_;simp;refine xW λK i=>?_;simp[qc,wC,m];apply i;(repeat refine xS ?_);refine xV λK i=>?_;simp[wb,qb,R];refine i _ _ ?_;(try simp only[xQ,reduceIte]);by_cases j:B=A
  .have o:=j;have k:(B:Int)=A:=by omega
   refine xS (FX λK i=>?_);refine xH ?_;simp[j];refine B6 (i _ _ ?_);(try simp only[xQ,reduceIte]);refine AR ?_;simp[j];refine xK ?_;refine ed (i5 5 (xs:=[Ak (⟨[(A:Int)],C,d⟩:Level)]) rfl (by simp[Dw,Dx,CF,Ak])) ?_;simp;refine xE [0,2,4,8,10,7,13,14,17] (by kernel_rfl) λK i=>?_;simp;refine xA 1 ?_;simp[m,q];refine xX 20 (by kernel_rfl) ?_;simp[Ac,m,q,s,Ah,h8];refine xA 1 ?_;simp;refine xX 1 (by kernel_rfl) ?_;simp[Ac,m,t,Ah,h8];refine xA 1 ?_;simp;refine xX 7 (by kernel_rfl) ?_;simp[Ac];refine xM (i _ _ ?_);refine xW λK i=>?_;simp;apply i;refine Af ?_;(try simp only[xQ,reduceIte]);refine⟨_,_,c9 6 (xs:=(g.levels++[(⟨[(A:Int)],C,d⟩:Level)]).map Ak) rfl (by simpa using CQ _ ((g.levels++[(⟨[(A:Int)],C,d⟩:Level)]).map Ak)),by simp,_,_,⟨rfl,{g with levels:=g.levels++[(⟨[(A:Int)],C,d⟩:Level)]},rfl,by simp⟩,.inl ⟨AA {g with levels:=g.levels++[(⟨[(A:Int)],C,d⟩:Level)]},_,by simp[Ba,AA],rfl,a8 0 rfl (by simp) (by simp) (by simp)⟩⟩
  .have o:=j;have k:¬(B:Int)=A:=by omega
   refine xS (FX λK i=>?_);(repeat((first|refine FJ rfl ?_ ?_;(·simp[k])|refine QX rfl ?_ ?_;(·simp[k])|refine Cd ?_ ?_;(·simp[k]));simp));refine i7 (z) rfl rfl (by simp[k,AB,AA];try rfl) ?_;simp;(repeat((first|refine FJ rfl ?_ ?_;(·simp[k])|refine QX rfl ?_ ?_;(·simp[k])|refine Cd ?_ ?_;(·simp));simp));refine B6 (i _ _ ?_);(try simp only[C4,BW,reduceIte]);cases T with
   |true=>
    refine AR ?_;simp[j];refine xK ?_;refine ed (i5 5 (xs:=[Ak (⟨[(A:Int)],C,d⟩:Level)]) rfl (by simp[Dw,Dx,CF,Ak])) ?_;simp;refine xE [0,2,4,8,10,7,13,14,17] (by kernel_rfl) λK i=>?_;simp;refine xA 1 ?_;simp[m,q];refine xX 20 (by kernel_rfl) ?_;simp[Ac,m,q,s,Ah,h8];refine xA 1 ?_;simp;refine xX 1 (by kernel_rfl) ?_;simp[Ac,m,t,Ah,h8];refine xA 1 ?_;simp;refine xX 7 (by kernel_rfl) ?_;simp[Ac];refine xM (i _ _ ?_);refine xW λK i=>?_;simp;apply i;refine Af ?_;(try simp only[xQ,reduceIte]);refine⟨_,_,c9 6 (xs:=(g.levels++[(⟨[(A:Int)],C,d⟩:Level)]).map Ak) rfl (by simpa using CQ _ ((g.levels++[(⟨[(A:Int)],C,d⟩:Level)]).map Ak)),by simp,_,_,⟨rfl,{g with levels:=g.levels++[(⟨[(A:Int)],C,d⟩:Level)]},rfl,by simp⟩,.inl ⟨AA {g with levels:=g.levels++[(⟨[(A:Int)],C,d⟩:Level)]},_,by simp[Ba,AA],rfl,a8 0 rfl (by simp) (by simp) (by simp)⟩⟩
   |false=>
    refine AR ?_;simp[j,k];refine xV λK i=>?_;simp[m,Ah];apply i;refine ed (c9 6 (xs:=[.int .i64 A,.int .i64 B]) rfl (by simp[Dw,CF])) ?_;simp;refine ed (i5 5 (xs:=[Ak (⟨[(A:Int),(B:Int)],C,d⟩:Level)]) rfl (by simp[Dw,Dx,CF,Ak])) ?_;simp;refine xE [0,2,4,8,10,7,13,14,17] (by kernel_rfl) λK i=>?_;simp;refine xA 1 ?_;simp[m,q];refine xX 20 (by kernel_rfl) ?_;simp[Ac,m,q,s,Ah,h8];refine xA 1 ?_;simp;refine xX 1 (by kernel_rfl) ?_;simp[Ac,m,t,Ah,h8];refine xA 1 ?_;simp;refine xX 7 (by kernel_rfl) ?_;simp[Ac];refine xM (i _ _ ?_);refine xW λK i=>?_;simp;apply i;refine Af ?_;(try simp only[xQ,reduceIte]);refine⟨_,_,c9 7 (xs:=(g.levels++[(⟨[(A:Int),(B:Int)],C,d⟩:Level)]).map Ak) rfl (by simpa using CQ _ ((g.levels++[(⟨[(A:Int),(B:Int)],C,d⟩:Level)]).map Ak)),by simp,_,_,⟨rfl,{g with levels:=g.levels++[(⟨[(A:Int),(B:Int)],C,d⟩:Level)]},rfl,by simp⟩,.inl ⟨AA {g with levels:=g.levels++[(⟨[(A:Int),(B:Int)],C,d⟩:Level)]},_,by simp[Ba,AA],rfl,a8 0 rfl (by simp) (by simp) (by simp)⟩⟩
theorem dL(g:AE)(x:Ht)(h:IG g x)(hr:x.kind % 8=1):∃F,IY g F/\BP prog 47 [.d (AA g),.d (Br x)] [] (V9 λU=>U=F):=by
 obtain⟨p0,p1,n0,n1,c1,W,X,H,f1,k1,k2,k3,k4,k5⟩:=h;have Y:=GD x.Em g.conds.length k5 (by omega);have v7:=(Eu k5 (show g.conds.length<4 by omega)).2;have N:=Ev k5 (show g.conds.length<4 by omega);generalize Ir x.Em g.conds.length=d at *;obtain⟨A,P⟩:=a9 (x.a % g.AD.length);have Z:A<g.AD.length:=by rw[<-P];exact gc _ p0
 obtain⟨B,Q⟩:=a9 (x.b % g.AD.length);have hBl:B<g.AD.length:=by rw[<-Q];exact gc _ p0
 have q0:((x.kind:Int).tmod 8)=1:=by rw[c8 (by omega)];omega
 have J:(x.kind:Int) % 8=1:=by omega
 have qa:((x.a:Int).tmod g.AD.length)=A:=by rw[c8 (by omega),<-P];simp
 have qb:((x.b:Int).tmod g.AD.length)=B:=by rw[c8 (by omega),<-Q];simp
 have w8:IntKind.u8.wrap (1:Int)=1:=by decide
 have wa:IntKind.i64.wrap (x.a:Int)=x.a:=by rw[bv];omega
 have wb:IntKind.i64.wrap (x.b:Int)=x.b:=by rw[bv];omega
 have wc:IntKind.i64.wrap (x.c:Int)=x.c:=by rw[bv];omega
 have R:¬g.AD.length=0:=by omega
 have S:g.AD≠[]:=by intro e;simp[e]at p0
 have yw:g.A2≠[]:=by intro e;simp[e]at n0
 have xn:¬g.A2.length=0:=by omega
 have m:1<=al:=by unfold al;omega
 have q:0<=al:=cq _;obtain⟨C,hC⟩:=a9 (x.c % 4);have qc:((x.c:Int).tmod 4)=C:=by rw[c8 (by omega),<-hC];simp
 have L:(x.c:Int) % 4=C:=by omega
 have wC:IntKind.i64.wrap (C:Int)=C:=by rw[bv];omega
 have s:g.levels.length<=1073741824:=by omega
 have t:g.levels.length+1<=1073741824:=by omega
 have v:∀l∈g.levels,l.AD.length<=al:=λl hl=>by have:=H l hl;unfold al;omega
 have w:=JK g A (by unfold al;omega) v;have z:=JK g B (by unfold al;omega) v;obtain⟨M,u⟩:=a9 (Ry g A);obtain⟨T,E⟩:=a9 (Ry g B);rw[u]at w;rw[E]at z;refine⟨if M then g else if B=A\/T=true then {g with levels:=g.levels++[(⟨[(A:Int)],C,d⟩:Level)]}else {g with levels:=g.levels++[(⟨[(A:Int),(B:Int)],C,d⟩:Level)]},?_,?_⟩
 .cases M
  .simp only[lh,fc];have hC4:C<=3:=by omega
   split
   .refine .inr (.inl ⟨_,⟨by simp,by simp,by simp;omega,N,by simp,λp G=>?_⟩,rfl⟩);simp only[cR]at G;subst G;exact⟨by omega,by omega,u⟩
   .next hn=>
    simp only[q7,adz]at hn;refine .inr (.inl ⟨_,⟨by simp,by simp,by simp;omega,N,by simp;omega,λp G=>?_⟩,rfl⟩);simp only[fi,acz,ad6]at G;rcases G with rfl|rfl
    .exact⟨by omega,by omega,u⟩
    .exact⟨by omega,by omega,E.trans hn.2⟩
  .exact .inl rfl
 refine BP.AK func47 (by kernel_rfl) rfl (by simp) λwf _=>?_;rw[ntmps47];refine xW λK i=>?_;simp;apply i;refine FX λK i=>?_;refine xJ ?_;simp;refine B9 (Y) rfl (by simp[xN]) ?_;simp;refine xJ ?_;simp;refine B6 (i _ _ ?_);refine xW λK i=>?_;simp[wa,qa,R];apply i;refine xW λK i=>?_;simp;apply i;refine xS (xW λK i=>?_);simp[q0];apply i;refine Bx ?_;refine xS (xW λK i=>?_);simp;apply i;refine AR ?_;simp;refine xV λK i=>?_;simp;apply i;refine AR ?_;simp;refine xS (FX λK i=>?_);refine xJ ?_;simp;refine B9 (w) rfl (by simp[xN]) ?_;simp;refine xJ ?_;simp;refine B6 (i _ _ ?_);(try simp only[xQ,reduceIte]);cases M with
 |true=>
  refine AR ?_;simp;refine xK ?_;refine xW λK i=>?_;simp;apply i;refine Af ?_;(try simp only[xQ,reduceIte]);refine⟨_,_,am,by simp,_,_,⟨rfl,g,rfl,by simp⟩,.inl ⟨AA g,_,by simp,rfl,a8 0 rfl (by simp) (by simp) (by simp)⟩⟩
 |false=>
  refine AR ?_;simp;refine xW λK i=>?_;simp[qc,wC,m];apply i;(repeat refine xS ?_);refine xV λK i=>?_;simp[wb,qb,R];refine i _ _ ?_;(try simp only[xQ,reduceIte]);by_cases j:B=A
  .have o:=j;have k:(B:Int)=A:=by omega
   refine xS (FX λK i=>?_);refine xH ?_;simp[j];refine B6 (i _ _ ?_);(try simp only[xQ,reduceIte]);refine AR ?_;simp[j];refine xK ?_;refine ed (i5 5 (xs:=[Ak (⟨[(A:Int)],C,d⟩:Level)]) rfl (by simp[Dw,Dx,CF,Ak])) ?_;simp;refine xE [0,2,4,8,10,7,13,14,17] (by kernel_rfl) λK i=>?_;simp;refine xA 1 ?_;simp[m,q];refine xX 20 (by kernel_rfl) ?_;simp[Ac,m,q,s,Ah,h8];refine xA 1 ?_;simp;refine xX 1 (by kernel_rfl) ?_;simp[Ac,m,t,Ah,h8];refine xA 1 ?_;simp;refine xX 7 (by kernel_rfl) ?_;simp[Ac];refine xM (i _ _ ?_);refine xW λK i=>?_;simp;apply i;refine Af ?_;(try simp only[xQ,reduceIte]);refine⟨_,_,c9 6 (xs:=(g.levels++[(⟨[(A:Int)],C,d⟩:Level)]).map Ak) rfl (by simpa using CQ _ ((g.levels++[(⟨[(A:Int)],C,d⟩:Level)]).map Ak)),by simp,_,_,⟨rfl,{g with levels:=g.levels++[(⟨[(A:Int)],C,d⟩:Level)]},rfl,by simp⟩,.inl ⟨AA {g with levels:=g.levels++[(⟨[(A:Int)],C,d⟩:Level)]},_,by simp[Ba,AA],rfl,a8 0 rfl (by simp) (by simp) (by simp)⟩⟩
  .have o:=j;have k:¬(B:Int)=A:=by omega
   refine xS (FX λK i=>?_);(repeat((first|refine FJ rfl ?_ ?_;(·simp[k])|refine QX rfl ?_ ?_;(·simp[k])|refine Cd ?_ ?_;(·simp[k]));simp));refine i7 (z) rfl rfl (by simp[k,AB,AA];try rfl) ?_;simp;(repeat((first|refine FJ rfl ?_ ?_;(·simp[k])|refine QX rfl ?_ ?_;(·simp[k])|refine Cd ?_ ?_;(·simp));simp));refine B6 (i _ _ ?_);(try simp only[C4,BW,reduceIte]);cases T with
   |true=>
    refine AR ?_;simp[j];refine xK ?_;refine ed (i5 5 (xs:=[Ak (⟨[(A:Int)],C,d⟩:Level)]) rfl (by simp[Dw,Dx,CF,Ak])) ?_;simp;refine xE [0,2,4,8,10,7,13,14,17] (by kernel_rfl) λK i=>?_;simp;refine xA 1 ?_;simp[m,q];refine xX 20 (by kernel_rfl) ?_;simp[Ac,m,q,s,Ah,h8];refine xA 1 ?_;simp;refine xX 1 (by kernel_rfl) ?_;simp[Ac,m,t,Ah,h8];refine xA 1 ?_;simp;refine xX 7 (by kernel_rfl) ?_;simp[Ac];refine xM (i _ _ ?_);refine xW λK i=>?_;simp;apply i;refine Af ?_;(try simp only[xQ,reduceIte]);refine⟨_,_,c9 6 (xs:=(g.levels++[(⟨[(A:Int)],C,d⟩:Level)]).map Ak) rfl (by simpa using CQ _ ((g.levels++[(⟨[(A:Int)],C,d⟩:Level)]).map Ak)),by simp,_,_,⟨rfl,{g with levels:=g.levels++[(⟨[(A:Int)],C,d⟩:Level)]},rfl,by simp⟩,.inl ⟨AA {g with levels:=g.levels++[(⟨[(A:Int)],C,d⟩:Level)]},_,by simp[Ba,AA],rfl,a8 0 rfl (by simp) (by simp) (by simp)⟩⟩
   |false=>
    refine AR ?_;simp[j,k];refine xV λK i=>?_;simp[m,Ah];apply i;refine ed (c9 6 (xs:=[.int .i64 A,.int .i64 B]) rfl (by simp[Dw,CF])) ?_;simp;refine ed (i5 5 (xs:=[Ak (⟨[(A:Int),(B:Int)],C,d⟩:Level)]) rfl (by simp[Dw,Dx,CF,Ak])) ?_;simp;refine xE [0,2,4,8,10,7,13,14,17] (by kernel_rfl) λK i=>?_;simp;refine xA 1 ?_;simp[m,q];refine xX 20 (by kernel_rfl) ?_;simp[Ac,m,q,s,Ah,h8];refine xA 1 ?_;simp;refine xX 1 (by kernel_rfl) ?_;simp[Ac,m,t,Ah,h8];refine xA 1 ?_;simp;refine xX 7 (by kernel_rfl) ?_;simp[Ac];refine xM (i _ _ ?_);refine xW λK i=>?_;simp;apply i;refine Af ?_;(try simp only[xQ,reduceIte]);refine⟨_,_,c9 7 (xs:=(g.levels++[(⟨[(A:Int),(B:Int)],C,d⟩:Level)]).map Ak) rfl (by simpa using CQ _ ((g.levels++[(⟨[(A:Int),(B:Int)],C,d⟩:Level)]).map Ak)),by simp,_,_,⟨rfl,{g with levels:=g.levels++[(⟨[(A:Int),(B:Int)],C,d⟩:Level)]},rfl,by simp⟩,.inl ⟨AA {g with levels:=g.levels++[(⟨[(A:Int),(B:Int)],C,d⟩:Level)]},_,by simp[Ba,AA],rfl,a8 0 rfl (by simp) (by simp) (by simp)⟩⟩
theorem UN(g:AE)(x:Ht)(h:IG g x):∃F,IY g F/\Pure prog 47 [AA g,Br x] (AA F):=by
 have key:∃F,IY g F/\BP prog 47 [.d (AA g),.d (Br x)] [] (V9 λj=>j=F):=by
  have k:x.kind % 8<8:=gc _ (by omega);match i:x.kind % 8,k with
  |0,_=>exact dH g x h i
  |1,_=>exact dL g x h i
  |2,_=>exact cA g x h i
  |3,_=>exact iW g x h i
  |4,_=>exact be g x h i
  |5,_=>exact gv g x h i
  |6,_=>exact iS g x h i
  |7,_=>exact fm g x h i
 obtain⟨F,h1,m⟩:=key;exact⟨F,h1,V9.pure m⟩
def Dg:AN:=⟨[],1⟩
def V4(s:ByteArray):Token:=⟨s,0,s,[],ByteArray.empty,Dg⟩
def dz:Token:=⟨⟨#[105,100]⟩,0,ByteArray.empty,[⟨1,97,122,0,0⟩,⟨1,97,122,0,0⟩,⟨4,0,0,1,0⟩,⟨2,0,0,0,2⟩],⟨#[120]⟩,Dg⟩
def Ut:Token:=⟨⟨#[115,112,97,99,101]⟩,1,ByteArray.empty,[⟨1,9,10,0,0⟩,⟨1,32,32,0,0⟩,⟨3,0,0,0,1⟩,⟨1,9,10,0,0⟩,⟨1,32,32,0,0⟩,⟨3,0,0,3,4⟩,⟨4,0,0,5,0⟩,⟨2,0,0,2,6⟩],ByteArray.empty,Dg⟩
def nC:Token:=⟨⟨#[114,101,109,97,114,107]⟩,2,ByteArray.empty,[⟨1,37,37,0,0⟩,⟨1,97,122,0,0⟩,⟨1,32,32,0,0⟩,⟨3,0,0,1,2⟩,⟨4,0,0,3,0⟩,⟨2,0,0,0,4⟩],ByteArray.empty,Dg⟩
def JO:List ByteArray:=[⟨#[43]⟩,⟨#[42]⟩,⟨#[40]⟩,⟨#[41]⟩,⟨#[105,102]⟩,⟨#[101,108,115,101]⟩,⟨#[59]⟩,⟨#[94]⟩]
def PV(i:Nat):List Token:=dz::(JO.take i).map V4
def Dv:List Token:=PV 8++[Ut,nC]
theorem Z5{i:Nat}(h:i<JO.length):PV (i+1)=PV i++[V4 JO[i]]:=by
 unfold PV;rw[pe h,su];rfl
theorem UU{i:Nat}(h:i<=8):(PV i).length=i+1:=by
 have:JO.length=8:=rfl;unfold PV;rw[ea,li,up];omega
theorem ba:∀s∈JO,s.size<=al:=by
 intro s g;have:JO.all (λs=>decide (s.size<=4))=true:=by decide
 have:=cl.1 this s g;simp at this;unfold al;omega
theorem Zc:Pure prog 121 [] (DI Dv):=by
 have h1:=CA true;simp at h1;have o:1<=al:=by unfold al;omega
 have A:4<=al:=by unfold al;omega
 have B:6<=al:=by unfold al;omega
 have C:8<=al:=by unfold al;omega
 have j:JO.length=8:=rfl;refine zP func121 67 rfl λwf=>?_;apply yW;simp;apply yS;apply yJ;simp;refine B9 (h1) rfl (by simp) (yJ ?_);simp;apply yS;(iterate 2 (refine Cd (by simp[al]) ?_;simp[al]));((refine AV.Ii rfl ?_ ?_);(focus(simp[FD,al,al];done));simp[al]);apply yJ;simp;apply yS;apply yJ;simp;refine B9 (HE 97 122) rfl (by simp[xN]) (yJ ?_);simp;refine B9 (HE 97 122) rfl (by simp[xN]) (yJ ?_);simp;refine B9 (EO 4 1 0) rfl (by simp[xN]) (yJ ?_);simp;refine B9 (EO 2 0 2) rfl (by simp[xN]) (yJ ?_);simp[al];refine ed (i5 1 (xs:=[Ad dz]) rfl (by simp[Dw,Dx,CF,Ad,dz,Dg,AS])) ?_;simp;apply yW;simp[al];refine ed (AJ.qm 3 (d:=.sl (JO.map D.str)) (by simp[Ba,JO])) ?_;refine xS (yW ?_);simp;apply Bx;refine DV 8 (λi tm S=>tm 1=.ptr 0 1 0 0/\tm 2=.row 1 (i+1)/\tm 3=.d (.sl (JO.map D.str))/\tm 4=.d (.int .i64 i)/\S=[.row true 2 [.d (AB Dg)],.row true 7 ((PV i).map λt=>.d (Ad t))]) (cq _) (by simp[PV,Dg]) ?_;rintro i tm S hi ⟨t1,t2,t3,t4,rfl⟩;refine xS (yW ?_);simp[t3,t4,j];apply AR;simp;refine⟨λg=>?_,λH=>?_⟩
 .have q:(i:Int)<8:=g;have g:i<8:=by omega
  have u:i<JO.length:=by omega
  have L4:=Z5 u;have h:=UU (Nat.le_of_lt g);have E:IntKind.i64.wrap ((i:Int)+1)=(i+1:Nat):=by rw[bv];omega
  have k:i+1+1<=1073741824:=by omega
  have v:=ba _ (b9 u);generalize w:JO[i]=s at *;apply xK;apply xB;refine yE [0,2,4,6,8,10,12,14,16,18,20,22,25,26] (by kernel_rfl) ?_;simp;apply yA 1;simp[t1,t2,t3,t4,g,q,w,o,j];apply xX 2049 (by kernel_rfl);simp[Ac,t1,t2,t3,t4,g,q,w,o,j,h,k,Ah,h8];apply yA 1;simp;apply yV;simp[t4,E];refine⟨g,_,_,am,?_⟩;simp[t1,t3,L4,V4,Dg,AB,Ad]
 .have e:i=8:=by omega
  subst e;have h:=UU (br 8);apply C7;apply yS;apply yJ;simp;refine B9 (HE 9 10) rfl (by simp[xN]) (yJ ?_);simp;refine B9 (HE 32 32) rfl (by simp[xN]) (yJ ?_);simp;refine B9 (EO 3 0 1) rfl (by simp[xN]) (yJ ?_);simp;refine B9 (HE 9 10) rfl (by simp[xN]) (yJ ?_);simp;refine B9 (HE 32 32) rfl (by simp[xN]) (yJ ?_);simp;refine B9 (EO 3 3 4) rfl (by simp[xN]) (yJ ?_);simp;refine B9 (EO 4 5 0) rfl (by simp[xN]) (yJ ?_);simp;refine B9 (EO 2 2 6) rfl (by simp[xN]) (yJ ?_);simp[al];(repeat apply xS);apply yT;apply yJ;simp;refine B9 (HE 37 37) rfl (by simp[xN]) (yJ ?_);simp;refine B9 (HE 97 122) rfl (by simp[xN]) (yJ ?_);simp;refine B9 (HE 32 32) rfl (by simp[xN]) (yJ ?_);simp;refine B9 (EO 3 1 2) rfl (by simp[xN]) (yJ ?_);simp;refine B9 (EO 4 3 0) rfl (by simp[xN]) (yJ ?_);simp;refine B9 (EO 2 0 4) rfl (by simp[xN]) (yJ ?_);simp[al];have k:8+1+1<=1073741824:=by omega
  have F:8+1+1+1<=1073741824:=by omega
  have m:(PV 8++[Ut]).length=10:=by simp[h]
  have z:Ad Ut=.agg [.str ⟨#[115,112,97,99,101]⟩,.int .i64 1,.str ByteArray.empty,.sl [AS ⟨1,9,10,0,0⟩,AS ⟨1,32,32,0,0⟩,AS ⟨3,0,0,0,1⟩,AS ⟨1,9,10,0,0⟩,AS ⟨1,32,32,0,0⟩,AS ⟨3,0,0,3,4⟩,AS ⟨4,0,0,5,0⟩,AS ⟨2,0,0,2,6⟩],.str ByteArray.empty,.sl [],.int .i64 1]:=rfl;have G:Ad nC=.agg [.str ⟨#[114,101,109,97,114,107]⟩,.int .i64 2,.str ByteArray.empty,.sl [AS ⟨1,37,37,0,0⟩,AS ⟨1,97,122,0,0⟩,AS ⟨1,32,32,0,0⟩,AS ⟨3,0,0,1,2⟩,AS ⟨4,0,0,3,0⟩,AS ⟨2,0,0,0,4⟩],.str ByteArray.empty,.sl [],.int .i64 1]:=rfl;apply yW;simp[t1,t2,al,h,k,Ah,h8];refine ed (i5 1 (xs:=(PV 8++[Ut]).map Ad) rfl ?_) ?_
  .have:=CQ [] ((PV 8++[Ut]).map Ad);rw[CO];simp[z,Dg]
  simp;apply yW;simp[t1,al,h,F,Ah,h9,h8];apply Af;refine⟨_,_,c9 1 (xs:=Dv.map Ad) rfl ?_,?_⟩
  .rw[CO];simp[Dv,z,G,Dg]
  simp[Ba];rfl
def Il(A2:List ByteArray):V:=.agg [.full [.str ⟨#[65]⟩,.str ⟨#[66]⟩],.d (.sl []),.d (.int .i64 1),.d (DI Dv),.d (By A2),.full [],.d (.int .i64 0),.full [],.full []]
theorem dO(A2:List ByteArray):AG prog 39 [.d (By A2)] [] (Il A2) [.row true 9 [Il A2],.row true 2 [.d (AB Dg)]]:=by
 have h1:=CA true;simp at h1;refine zC func39 10 rfl λwf _=>?_;apply yW;simp;apply yS;apply yJ;simp;refine B9 (h1) rfl (by simp) (yJ ?_);simp;(repeat apply xS);refine yE [0,2,4,6,8,11] (by kernel_rfl) ?_;simp;apply yA 1;simp[al];refine go (Zc) rfl (by simp[xN]) ?_;simp;apply yA 1;simp;apply xX 31 (by kernel_rfl);simp[Ac,AB];apply xM;apply Af;refine⟨_,am,?_⟩;simp[Au,Il]
theorem H8(A2:List ByteArray):AG prog 39 [.d (By A2)] [] (Il A2) []:=
 (dO A2).ghost λtm h0=>⟨_,ip 0 (br _) (by simp) (by simp),by simp[clean,h0,Il,AP,Aw]⟩
section
variable {P:Program} {n b:Nat} {ops:Array Oper} {o:Oper} {tm:Tm} {S:Sg} {K:Tm->Sg->Prop}
theorem Ag.Ii{B:List (Nat×(Sg->Prop))}{i:Nat}{rest:List (Nat×Bool×Oper)}{T:TypeId}{len:Nat}{parts:Array (Nat×Operand)}(ws:List Bool)(s:B.map (λp=>waits ops i p.1)=ws)(m:o.op=.buildSlice T len parts)
  (h:o.guard=none/\BA n o.dst/\NI P T len parts tm/\okB ws B S (S++[.row true (Kp P T) ((Cv tm parts).map (·.2))]))
  (t:Ag P n b ops (FA ws B) rest (put tm o.dst (.row S.length len)) (S++[.row true (Kp P T) ((Cv tm parts).map (·.2))]) K):Ag P n b ops B ((i,false,o)::rest) tm S K:=by
 refine Ag.pD ws s (λhi=>λg u=>?_) h.2.2.2 t;have j:∀p∈parts.toList,ev g p.2=ev tm p.2:=λp h=>Ig u p.2 (by rw[m];simp only[Op.operands];exact List.mem_toArray.2 (eo.2 ⟨p,h,rfl⟩));have v:=Ix j;have q:Cv g parts=Cv tm parts:=rr λp k=>by rw[j p k]
 have k:NI P T len parts g:=by
  have:=h.2.2.1;unfold NI at this⊢;rw[v,q];exact this
 have:=AC (b:=b) hi h.2.1 h.1 (Lb (n:=n) (S:=S) m k);rw[q]at this;exact this
end
theorem Dq(v:Int)(h:0<=v/\v<=1):PR (Av v)=some ⟨[⟨v,1,0⟩],2⟩:=by
 have:v=0\/v=1:=by omega
 rcases this with rfl|rfl<;>decide+kernel
def Uh:AE:=⟨[⟨#[65]⟩,⟨#[66]⟩],Dg,Dv,[⟨#[69]⟩],[⟨⟨#[97,100,100]⟩,0,[⟨false,0⟩,⟨true,1⟩,⟨false,0⟩],Dg,false,0,[],A0⟩,⟨⟨#[109,117,108]⟩,0,[⟨false,0⟩,⟨true,2⟩,⟨false,0⟩],Dg,false,0,[],A0⟩,⟨⟨#[98,114,97,99,107,101,116]⟩,0,[⟨true,3⟩,⟨false,0⟩,⟨true,4⟩],Dg,true,0,[],A0⟩,⟨⟨#[110,97,109,101]⟩,0,[⟨true,0⟩],Dg,false,0,[],A0⟩,⟨⟨#[112,111,119]⟩,0,[⟨false,0⟩,⟨true,8⟩,⟨false,0⟩],⟨[⟨1,0,1⟩],2⟩,false,0,[],A0⟩],0,[⟨[4],2,Dg⟩,⟨[1],1,Dg⟩,⟨[0],1,⟨[⟨0,1,0⟩],2⟩⟩],[]⟩
theorem bZ:Pure prog 122 [] (AA Uh):=by
 have h1:=CA true;simp at h1;have m:=(H8 [⟨#[69]⟩]).Fm (args':=[.full [.str ⟨#[69]⟩]]) rfl λi h o=>by
  match i,h with
  |0,_=>exact .inr ⟨By [⟨#[69]⟩],by simp[Ba],rfl⟩
 have q:ByteArray.empty=(⟨#[]⟩:ByteArray):=rfl;have c0:=CX 0;have c1:=CX 1;have g:Av 0=⟨[⟨0,0,1⟩],2⟩:=rfl;have j:Av 1=⟨[⟨1,0,1⟩],2⟩:=rfl;rw[g]at c0;rw[j]at c1;have k:=DR _ _ (Dq 0 (by omega));have k1:=DR _ _ (Dq 1 (by omega));rw[g]at k;rw[j]at k1;refine zP func122 76 rfl λwf=>?_;apply yW;simp;apply yS;apply yJ;simp[al];refine xF (m) [] rfl ?_;simp;apply yJ;simp[Il];apply yS;apply yJ;simp;refine B9 (h1) rfl (by simp) (yJ ?_);simp[AB];refine yD [0,2,4,6,8,10,12,14,17,18,21] (by kernel_rfl) ?_;simp;apply yA 1;simp;refine B5 (Et 0) rfl (by simp[al]) ?_;simp;refine B5 (Dp 1) rfl (by simp[al,xN]) ?_;simp;refine B5 (Et 0) rfl (by simp[al,xN]) ?_;simp;apply yA 1;simp[al];refine B5 (Bo ⟨#[97,100,100]⟩ 0 [⟨false,0⟩,⟨true,1⟩,⟨false,0⟩]) rfl (by simp[al,xN]) ?_;simp;apply yA 1;simp[al];apply xX 67 (by kernel_rfl);simp[Ac,Al,al,Ah];apply yA 1;simp;apply xX 63 (by kernel_rfl);simp[Ac,Al,al];apply xM;refine yD [0,2,4,6,8,10,12,14,17,18,21] (by kernel_rfl) ?_;simp;apply yA 1;simp;refine B5 (Et 0) rfl (by simp[al,xN]) ?_;simp;refine B5 (Dp 2) rfl (by simp[al,xN]) ?_;simp;refine B5 (Et 0) rfl (by simp[al,xN]) ?_;simp;apply yA 1;simp[al];refine B5 (Bo ⟨#[109,117,108]⟩ 0 [⟨false,0⟩,⟨true,2⟩,⟨false,0⟩]) rfl (by simp[al,xN]) ?_;simp;apply yA 1;simp[al];apply xX 67 (by kernel_rfl);simp[Ac,Al,al,Ah];apply yA 1;simp;apply xX 63 (by kernel_rfl);simp[Ac,Al,al];apply xM;refine yD [0,2,4,6,8,10,12,14,17,18,21] (by kernel_rfl) ?_;simp;apply yA 1;simp;refine B5 (Dp 3) rfl (by simp[al,xN]) ?_;simp;refine B5 (Et 0) rfl (by simp[al,xN]) ?_;simp;refine B5 (Dp 4) rfl (by simp[al,xN]) ?_;simp;apply yA 1;simp[al];refine B5 (Bo ⟨#[98,114,97,99,107,101,116]⟩ 0 [⟨true,3⟩,⟨false,0⟩,⟨true,4⟩]) rfl (by simp[al,xN]) ?_;simp;apply yA 1;simp[al];apply xX 67 (by kernel_rfl);simp[Ac,Al,al,Ah];apply yA 1;simp;apply xX 63 (by kernel_rfl);simp[Ac,Al,al];apply xM;refine yD [0,2,4,6,8,10,13,14,17] (by kernel_rfl) ?_;simp;apply yA 1;simp;refine B5 (Dp 0) rfl (by simp[al,xN]) ?_;simp;apply yA 1;simp[al];refine B5 (Bo ⟨#[110,97,109,101]⟩ 0 [⟨true,0⟩]) rfl (by simp[al,xN]) ?_;simp;apply yA 1;simp[al];apply xX 19 (by kernel_rfl);simp[Ac,Al,al,Ah];apply yA 1;simp;apply xX 15 (by kernel_rfl);simp[Ac,Al,al];apply xM;refine yD [0,2,4,6,8,10,12,14,17,18,21] (by kernel_rfl) ?_;simp;apply yA 1;simp;refine B5 (Et 0) rfl (by simp[al,xN]) ?_;simp;refine B5 (Dp 8) rfl (by simp[al,xN]) ?_;simp;refine B5 (Et 0) rfl (by simp[al,xN]) ?_;simp;apply yA 1;simp[al];refine B5 (Bo ⟨#[112,111,119]⟩ 0 [⟨false,0⟩,⟨true,8⟩,⟨false,0⟩]) rfl (by simp[al,xN]) ?_;simp;apply yA 1;simp[al];apply xX 67 (by kernel_rfl);simp[Ac,Al,al,Ah];apply yA 1;simp;apply xX 63 (by kernel_rfl);simp[Ac,Al,al];apply xM;apply yW;simp;refine yD [0,2,4,6,8,11] (by kernel_rfl) ?_;simp;apply yA 1;simp;refine B5 (c1) rfl (by simp[al,xN]) ?_;simp;apply yA 1;simp[AB];apply xX 29 (by kernel_rfl);simp[Ac,Al,al];apply xM;refine yD [0,2,4,6,8,10,12,14,16,18,20,22,25] (by kernel_rfl) ?_;simp;apply yA 1;simp[al];refine B5 (c0) rfl (by simp[al,xN]) ?_;simp;refine B5 (k) rfl (by simp[al,xN]) ?_;simp;apply yA 1;simp[al,AB];apply xX 4095 (by kernel_rfl);simp[Ac,Al,al];apply xM;apply yW;simp;apply Af;refine⟨_,_,c9 3 (xs:=Uh.AD.map AH) rfl ?_,?_⟩
 .rw[CO];simp[Uh,AH,A0,Dg]
 simp[Ba,AA,Uh,AH,Ak,A0,Dg]
def P7:AE:=⟨[⟨#[65]⟩,⟨#[66]⟩],Dg,Dv,[⟨#[83]⟩,⟨#[67]⟩],[⟨⟨#[98,111,116,104]⟩,0,[⟨true,5⟩,⟨false,1⟩,⟨false,0⟩,⟨true,6⟩,⟨false,0⟩],Dg,false,0,[],A0⟩,⟨⟨#[116,104,101,110]⟩,0,[⟨true,5⟩,⟨false,1⟩,⟨false,0⟩],Dg,false,0,[],A0⟩,⟨⟨#[99,97,108,108]⟩,0,[⟨false,1⟩,⟨true,7⟩],Dg,false,0,[],A0⟩,⟨⟨#[98,108,111,99,107]⟩,0,[⟨true,3⟩,⟨false,0⟩,⟨true,4⟩],Dg,true,0,[],A0⟩,⟨⟨#[119,111,114,100]⟩,1,[⟨true,0⟩],Dg,false,0,[],A0⟩],0,[],[⟨2,0,2,1,0,0,[],⟨[⟨0,0,1⟩],2⟩⟩,⟨5,0,0,0,0,0,[5,6],⟨[⟨1,0,1⟩],2⟩⟩]⟩
theorem iK:Pure prog 123 [] (AA P7):=by
 have h1:=CA true;simp at h1;have k:=(H8 [⟨#[83]⟩,⟨#[67]⟩]).Fm (args':=[.full [.str ⟨#[83]⟩,.str ⟨#[67]⟩]]) rfl λi h o=>by
  match i,h with
  |0,_=>exact .inr ⟨By [⟨#[83]⟩,⟨#[67]⟩],by simp[Ba],rfl⟩
 have q:ByteArray.empty=(⟨#[]⟩:ByteArray):=rfl;have c0:=CX 0;have c1:=CX 1;have g:Av 0=⟨[⟨0,0,1⟩],2⟩:=rfl;have j:Av 1=⟨[⟨1,0,1⟩],2⟩:=rfl;rw[g]at c0;rw[j]at c1;have m:=DR _ _ (Dq 0 (by omega));have k1:=DR _ _ (Dq 1 (by omega));rw[g]at m;rw[j]at k1;refine zP func123 72 rfl λwf=>?_;apply yW;simp;apply yS;apply yJ;simp[al];refine xF (k) [] rfl ?_;simp;apply yJ;simp[Il];apply yS;apply yJ;simp;refine B9 (h1) rfl (by simp) (yJ ?_);simp[AB];refine yD [0,2,4,6,8,10,12,14,16,18,21,22,25] (by kernel_rfl) ?_;simp;apply yA 1;simp;refine B5 (Dp 5) rfl (by simp[al]) ?_;simp;refine B5 (Et 1) rfl (by simp[al,xN]) ?_;simp;refine B5 (Et 0) rfl (by simp[al,xN]) ?_;simp;refine B5 (Dp 6) rfl (by simp[al,xN]) ?_;simp;refine B5 (Et 0) rfl (by simp[al,xN]) ?_;simp;apply yA 1;simp[al];refine B5 (Bo ⟨#[98,111,116,104]⟩ 0 [⟨true,5⟩,⟨false,1⟩,⟨false,0⟩,⟨true,6⟩,⟨false,0⟩]) rfl (by simp[al,xN]) ?_;simp;apply yA 1;simp[al];apply xX 259 (by kernel_rfl);simp[Ac,Al,al,Ah];apply yA 1;simp;apply xX 255 (by kernel_rfl);simp[Ac,Al,al];apply xM;refine yD [0,2,4,6,8,10,12,14,17,18,21] (by kernel_rfl) ?_;simp;apply yA 1;simp;refine B5 (Dp 5) rfl (by simp[al,xN]) ?_;simp;refine B5 (Et 1) rfl (by simp[al,xN]) ?_;simp;refine B5 (Et 0) rfl (by simp[al,xN]) ?_;simp;apply yA 1;simp[al];refine B5 (Bo ⟨#[116,104,101,110]⟩ 0 [⟨true,5⟩,⟨false,1⟩,⟨false,0⟩]) rfl (by simp[al,xN]) ?_;simp;apply yA 1;simp[al];apply xX 67 (by kernel_rfl);simp[Ac,Al,al,Ah];apply yA 1;simp;apply xX 63 (by kernel_rfl);simp[Ac,Al,al];apply xM;refine yD [0,2,4,6,8,10,12,15,16,19] (by kernel_rfl) ?_;simp;apply yA 1;simp;refine B5 (Et 1) rfl (by simp[al,xN]) ?_;simp;refine B5 (Dp 7) rfl (by simp[al,xN]) ?_;simp;apply yA 1;simp[al];refine B5 (Bo ⟨#[99,97,108,108]⟩ 0 [⟨false,1⟩,⟨true,7⟩]) rfl (by simp[al,xN]) ?_;simp;apply yA 1;simp[al];apply xX 35 (by kernel_rfl);simp[Ac,Al,al,Ah];apply yA 1;simp;apply xX 31 (by kernel_rfl);simp[Ac,Al,al];apply xM;refine yD [0,2,4,6,8,10,12,14,17,18,21] (by kernel_rfl) ?_;simp;apply yA 1;simp;refine B5 (Dp 3) rfl (by simp[al,xN]) ?_;simp;refine B5 (Et 0) rfl (by simp[al,xN]) ?_;simp;refine B5 (Dp 4) rfl (by simp[al,xN]) ?_;simp;apply yA 1;simp[al];refine B5 (Bo ⟨#[98,108,111,99,107]⟩ 0 [⟨true,3⟩,⟨false,0⟩,⟨true,4⟩]) rfl (by simp[al,xN]) ?_;simp;apply yA 1;simp[al];apply xX 67 (by kernel_rfl);simp[Ac,Al,al,Ah];apply yA 1;simp;apply xX 63 (by kernel_rfl);simp[Ac,Al,al];apply xM;refine yD [0,2,4,6,8,10,13,14,17] (by kernel_rfl) ?_;simp;apply yA 1;simp;refine B5 (Dp 0) rfl (by simp[al,xN]) ?_;simp;apply yA 1;simp[al];refine B5 (Bo ⟨#[119,111,114,100]⟩ 1 [⟨true,0⟩]) rfl (by simp[al,xN]) ?_;simp;apply yA 1;simp[al];apply xX 19 (by kernel_rfl);simp[Ac,Al,al,Ah];apply yA 1;simp;apply xX 15 (by kernel_rfl);simp[Ac,Al,al];apply xM;apply yW;simp;refine yD [0,2,4,6,8,11,12,15] (by kernel_rfl) ?_;simp;refine B5 (c0) rfl (by simp[al,xN]) ?_;simp;apply yA 1;simp[al,AB];((refine Ag.Ii (xT [1,0,0,1,0]) (by kernel_rfl) rfl ?_ ?_);(focus(simp[FD,al,Ac,Al,al];done));simp[al]);apply yA 1;simp;apply xX 15 (by kernel_rfl);simp[Ac,Al,al];apply xM;refine yD [0,2,4,6,8,11] (by kernel_rfl) ?_;simp;apply yA 1;simp;refine B5 (c1) rfl (by simp[al,xN]) ?_;simp;apply yA 1;simp[AB];apply xX 29 (by kernel_rfl);simp[Ac,Al,al];apply xM;apply yW;simp;refine ed (c9 4 (xs:=P7.AU.map AM) rfl ?_) ?_
 .rw[CO];simp[P7,AM,Dg]
 simp;apply Af;refine⟨_,_,c9 3 (xs:=P7.AD.map AH) rfl ?_,?_⟩
 .rw[CO];simp[P7,AH,A0,Dg]
 simp[Ba,AA,P7,AH,AM,A0,Dg]
def T3:AE:=⟨[⟨#[65]⟩,⟨#[66]⟩],Dg,Dv,[⟨#[76]⟩,⟨#[73]⟩],[⟨⟨#[101,109,112,116,121]⟩,0,[],Dg,false,0,[],A0⟩,⟨⟨#[109,111,114,101]⟩,0,[⟨false,0⟩,⟨false,1⟩],Dg,false,0,[],A0⟩,⟨⟨#[116,121,112,101]⟩,1,[⟨true,1⟩,⟨true,0⟩,⟨true,7⟩],Dg,false,0,[],⟨false,2,1,0,0⟩⟩,⟨⟨#[112,111,105,110,116,101,114]⟩,1,[⟨true,0⟩,⟨true,2⟩,⟨true,0⟩,⟨true,7⟩],Dg,false,0,[],⟨false,3,2,1,2⟩⟩,⟨⟨#[112,114,111,100,117,99,116]⟩,1,[⟨true,0⟩,⟨true,2⟩,⟨true,0⟩,⟨true,7⟩],Dg,false,-1,[],⟨false,0,0,1,5⟩⟩,⟨⟨#[105,110,110,101,114]⟩,1,[⟨true,3⟩,⟨false,0⟩,⟨true,4⟩],Dg,false,0,[],⟨true,0,0,0,0⟩⟩,⟨⟨#[115,116,114,105,99,116]⟩,1,[⟨true,0⟩,⟨true,7⟩],⟨[⟨0,0,1⟩],2⟩,false,0,[],⟨false,0,0,1,6⟩⟩],0,[],[]⟩
theorem dq:Pure prog 124 [] (AA T3):=by
 have h1:=CA true;simp at h1;have k:=(H8 [⟨#[76]⟩,⟨#[73]⟩]).Fm (args':=[.full [.str ⟨#[76]⟩,.str ⟨#[73]⟩]]) rfl λi h o=>by
  match i,h with
  |0,_=>exact .inr ⟨By [⟨#[76]⟩,⟨#[73]⟩],by simp[Ba],rfl⟩
 have q:ByteArray.empty=(⟨#[]⟩:ByteArray):=rfl;have c0:=CX 0;have c1:=CX 1;have g:Av 0=⟨[⟨0,0,1⟩],2⟩:=rfl;have j:Av 1=⟨[⟨1,0,1⟩],2⟩:=rfl;rw[g]at c0;rw[j]at c1;have m:=DR _ _ (Dq 0 (by omega));have k1:=DR _ _ (Dq 1 (by omega));rw[g]at m;rw[j]at k1;refine zP func124 106 rfl λwf=>?_;apply yW;simp;apply yS;apply yJ;simp[al];refine xF (k) [] rfl ?_;simp;apply yJ;simp[Il];refine yD [0,2,4,6,8,11,12,15] (by kernel_rfl) ?_;simp;apply yA 1;simp[al];refine B5 (Bo ⟨#[101,109,112,116,121]⟩ 0 []) rfl (by simp[al]) ?_;simp;apply yA 1;simp[al];apply xX 11 (by kernel_rfl);simp[Ac,Al,al,Ah];apply yA 1;simp;apply xX 7 (by kernel_rfl);simp[Ac,al];apply xM;refine yD [0,2,4,6,8,10,12,15,16,19] (by kernel_rfl) ?_;simp;apply yA 1;simp;refine B5 (Et 0) rfl (by simp[al,xN]) ?_;simp;refine B5 (Et 1) rfl (by simp[al,xN]) ?_;simp;apply yA 1;simp[al];refine B5 (Bo ⟨#[109,111,114,101]⟩ 0 [⟨false,0⟩,⟨false,1⟩]) rfl (by simp[al,xN]) ?_;simp;apply yA 1;simp[al];apply xX 35 (by kernel_rfl);simp[Ac,Al,al,Ah];apply yA 1;simp;apply xX 31 (by kernel_rfl);simp[Ac,Al,al];apply xM;refine yD [0,2,4,6,8,10,12,14,17,18,21] (by kernel_rfl) ?_;simp;apply yA 1;simp;refine B5 (Dp 1) rfl (by simp[al,xN]) ?_;simp;refine B5 (Dp 0) rfl (by simp[al,xN]) ?_;simp;refine B5 (Dp 7) rfl (by simp[al,xN]) ?_;simp;apply yA 1;simp[al];refine B5 (Bo ⟨#[116,121,112,101]⟩ 1 [⟨true,1⟩,⟨true,0⟩,⟨true,7⟩]) rfl (by simp[al,xN]) ?_;simp;apply yA 1;simp[al];apply xX 67 (by kernel_rfl);simp[Ac,Al,al,Ah];apply yA 1;simp;apply xX 63 (by kernel_rfl);simp[Ac,Al,al];apply xM;refine yD [0,2,4,6,8,10,12,14,16,19,20,23] (by kernel_rfl) ?_;simp;apply yA 1;simp;refine B5 (Dp 0) rfl (by simp[al,xN]) ?_;simp;refine B5 (Dp 2) rfl (by simp[al,xN]) ?_;simp;refine B5 (Dp 0) rfl (by simp[al,xN]) ?_;simp;refine B5 (Dp 7) rfl (by simp[al,xN]) ?_;simp;apply yA 1;simp[al];refine B5 (Bo ⟨#[112,111,105,110,116,101,114]⟩ 1 [⟨true,0⟩,⟨true,2⟩,⟨true,0⟩,⟨true,7⟩]) rfl (by simp[al,xN]) ?_;simp;apply yA 1;simp[al];apply xX 131 (by kernel_rfl);simp[Ac,Al,al,Ah];apply yA 1;simp;apply xX 127 (by kernel_rfl);simp[Ac,Al,al];apply xM;refine yD [0,2,4,6,8,10,12,14,16,19,20,23] (by kernel_rfl) ?_;simp;apply yA 1;simp;refine B5 (Dp 0) rfl (by simp[al,xN]) ?_;simp;refine B5 (Dp 2) rfl (by simp[al,xN]) ?_;simp;refine B5 (Dp 0) rfl (by simp[al,xN]) ?_;simp;refine B5 (Dp 7) rfl (by simp[al,xN]) ?_;simp;apply yA 1;simp[al];refine B5 (Bo ⟨#[112,114,111,100,117,99,116]⟩ 1 [⟨true,0⟩,⟨true,2⟩,⟨true,0⟩,⟨true,7⟩]) rfl (by simp[al,xN]) ?_;simp;apply yA 1;simp[al];apply xX 131 (by kernel_rfl);simp[Ac,Al,al,Ah];apply yA 1;simp;apply xX 127 (by kernel_rfl);simp[Ac,Al,al];apply xM;refine yD [0,2,4,6,8,10,12,14,17,18,21] (by kernel_rfl) ?_;simp;apply yA 1;simp;refine B5 (Dp 3) rfl (by simp[al,xN]) ?_;simp;refine B5 (Et 0) rfl (by simp[al,xN]) ?_;simp;refine B5 (Dp 4) rfl (by simp[al,xN]) ?_;simp;apply yA 1;simp[al];refine B5 (Bo ⟨#[105,110,110,101,114]⟩ 1 [⟨true,3⟩,⟨false,0⟩,⟨true,4⟩]) rfl (by simp[al,xN]) ?_;simp;apply yA 1;simp[al];apply xX 67 (by kernel_rfl);simp[Ac,Al,al,Ah];apply yA 1;simp;apply xX 63 (by kernel_rfl);simp[Ac,Al,al];apply xM;refine yD [0,2,4,6,8,10,12,15,16,19] (by kernel_rfl) ?_;simp;apply yA 1;simp;refine B5 (Dp 0) rfl (by simp[al,xN]) ?_;simp;refine B5 (Dp 7) rfl (by simp[al,xN]) ?_;simp;apply yA 1;simp[al];refine B5 (Bo ⟨#[115,116,114,105,99,116]⟩ 1 [⟨true,0⟩,⟨true,7⟩]) rfl (by simp[al,xN]) ?_;simp;apply yA 1;simp[al];apply xX 35 (by kernel_rfl);simp[Ac,Al,al,Ah];apply yA 1;simp;apply xX 31 (by kernel_rfl);simp[Ac,Al,al];apply xM;apply yW;simp[al];apply yW;simp[al];apply yW;simp[al];apply yW;simp[al];apply yW;simp[al];apply yW;simp;refine yD [0,2,4,6,8,11] (by kernel_rfl) ?_;simp;apply yA 1;simp;refine B5 (c0) rfl (by simp[al,xN]) ?_;simp;apply yA 1;simp[AB];apply xX 29 (by kernel_rfl);simp[Ac,Al,al];apply xM;apply yW;simp;apply Af;refine⟨_,_,c9 2 (xs:=T3.AD.map AH) rfl ?_,?_⟩
 .rw[CO];simp[T3,AH,A0,Dg]
 simp[Ba,AA,T3,AH,A0,Dg]
def TN:AE:=⟨[⟨#[65]⟩,⟨#[66]⟩],Dg,Dv,[⟨#[66]⟩,⟨#[73]⟩],[⟨⟨#[111,110,101]⟩,0,[⟨false,1⟩],Dg,false,0,[],A0⟩,⟨⟨#[108,105,115,116]⟩,0,[⟨false,0⟩,⟨false,1⟩],Dg,false,0,[⟨2,0,1⟩],A0⟩,⟨⟨#[119,111,114,100]⟩,1,[⟨true,0⟩],Dg,false,0,[],A0⟩,⟨⟨#[104,101,97,100]⟩,1,[⟨true,5⟩,⟨true,0⟩,⟨false,0⟩],Dg,false,0,[⟨3,0,2⟩,⟨1,2,0⟩],A0⟩,⟨⟨#[108,105,110,101]⟩,1,[⟨true,5⟩,⟨false,0⟩],⟨[⟨0,0,1⟩],2⟩,false,0,[⟨4,0,1⟩],A0⟩],0,[],[]⟩
theorem eB:Pure prog 125 [] (AA TN):=by
 have h1:=CA true;simp at h1;have k:=(H8 [⟨#[66]⟩,⟨#[73]⟩]).Fm (args':=[.full [.str ⟨#[66]⟩,.str ⟨#[73]⟩]]) rfl λi h o=>by
  match i,h with
  |0,_=>exact .inr ⟨By [⟨#[66]⟩,⟨#[73]⟩],by simp[Ba],rfl⟩
 have q:ByteArray.empty=(⟨#[]⟩:ByteArray):=rfl;have c0:=CX 0;have c1:=CX 1;have g:Av 0=⟨[⟨0,0,1⟩],2⟩:=rfl;have j:Av 1=⟨[⟨1,0,1⟩],2⟩:=rfl;rw[g]at c0;rw[j]at c1;have m:=DR _ _ (Dq 0 (by omega));have k1:=DR _ _ (Dq 1 (by omega));rw[g]at m;rw[j]at k1;refine zP func125 73 rfl λwf=>?_;apply yW;simp;apply yS;apply yJ;simp[al];refine xF (k) [] rfl ?_;simp;apply yJ;simp[Il];refine yD [0,2,4,6,8,10,13,14,17] (by kernel_rfl) ?_;simp;apply yA 1;simp;refine B5 (Et 1) rfl (by simp[al]) ?_;simp;apply yA 1;simp[al];refine B5 (Bo ⟨#[111,110,101]⟩ 0 [⟨false,1⟩]) rfl (by simp[al,xN]) ?_;simp;apply yA 1;simp[al];apply xX 19 (by kernel_rfl);simp[Ac,Al,al,Ah];apply yA 1;simp;apply xX 15 (by kernel_rfl);simp[Ac,Al,al];apply xM;refine yD [0,2,4,6,8,10,12,15,16,19] (by kernel_rfl) ?_;simp;apply yA 1;simp;refine B5 (Et 0) rfl (by simp[al,xN]) ?_;simp;refine B5 (Et 1) rfl (by simp[al,xN]) ?_;simp;apply yA 1;simp[al];refine B5 (Bo ⟨#[108,105,115,116]⟩ 0 [⟨false,0⟩,⟨false,1⟩]) rfl (by simp[al,xN]) ?_;simp;apply yA 1;simp[al];apply xX 35 (by kernel_rfl);simp[Ac,Al,al,Ah];apply yA 1;simp;apply xX 31 (by kernel_rfl);simp[Ac,Al,al];apply xM;refine yD [0,2,4,6,8,10,13,14,17] (by kernel_rfl) ?_;simp;apply yA 1;simp;refine B5 (Dp 0) rfl (by simp[al,xN]) ?_;simp;apply yA 1;simp[al];refine B5 (Bo ⟨#[119,111,114,100]⟩ 1 [⟨true,0⟩]) rfl (by simp[al,xN]) ?_;simp;apply yA 1;simp[al];apply xX 19 (by kernel_rfl);simp[Ac,Al,al,Ah];apply yA 1;simp;apply xX 15 (by kernel_rfl);simp[Ac,Al,al];apply xM;refine yD [0,2,4,6,8,10,12,14,17,18,21] (by kernel_rfl) ?_;simp;apply yA 1;simp;refine B5 (Dp 5) rfl (by simp[al,xN]) ?_;simp;refine B5 (Dp 0) rfl (by simp[al,xN]) ?_;simp;refine B5 (Et 0) rfl (by simp[al,xN]) ?_;simp;apply yA 1;simp[al];refine B5 (Bo ⟨#[104,101,97,100]⟩ 1 [⟨true,5⟩,⟨true,0⟩,⟨false,0⟩]) rfl (by simp[al,xN]) ?_;simp;apply yA 1;simp[al];apply xX 67 (by kernel_rfl);simp[Ac,Al,al,Ah];apply yA 1;simp;apply xX 63 (by kernel_rfl);simp[Ac,Al,al];apply xM;refine yD [0,2,4,6,8,10,12,15,16,19] (by kernel_rfl) ?_;simp;apply yA 1;simp;refine B5 (Dp 5) rfl (by simp[al,xN]) ?_;simp;refine B5 (Et 0) rfl (by simp[al,xN]) ?_;simp;apply yA 1;simp[al];refine B5 (Bo ⟨#[108,105,110,101]⟩ 1 [⟨true,5⟩,⟨false,0⟩]) rfl (by simp[al,xN]) ?_;simp;apply yA 1;simp[al];apply xX 35 (by kernel_rfl);simp[Ac,Al,al,Ah];apply yA 1;simp;apply xX 31 (by kernel_rfl);simp[Ac,Al,al];apply xM;apply yW;simp[al];apply yW;simp[al];apply yW;simp[al];refine yD [0,2,4,6,8,11] (by kernel_rfl) ?_;simp;apply yA 1;simp;refine B5 (c0) rfl (by simp[al,xN]) ?_;simp;apply yA 1;simp[AB];apply xX 29 (by kernel_rfl);simp[Ac,Al,al];apply xM;apply yW;simp;apply Af;refine⟨_,_,c9 2 (xs:=TN.AD.map AH) rfl ?_,?_⟩
 .rw[CO];simp[TN,AH,A0,Dg,BH]
 simp[Ba,AA,TN,AH,A0,Dg]
def TA:AE:=⟨[⟨#[65]⟩,⟨#[66]⟩],Dg,Dv,[⟨#[83]⟩,⟨#[87]⟩,⟨#[86]⟩],[⟨⟨#[112,97,105,114]⟩,0,[⟨false,1⟩,⟨false,2⟩],Dg,false,0,[],A0⟩,⟨⟨#[115,105,110,103,108,101]⟩,1,[⟨true,0⟩],Dg,false,-1,[],A0⟩,⟨⟨#[100,111,117,98,108,101]⟩,1,[⟨true,0⟩,⟨true,0⟩],Dg,false,0,[],A0⟩,⟨⟨#[110,111,110,101]⟩,2,[],Dg,false,0,[],A0⟩,⟨⟨#[110,101,120,116]⟩,2,[⟨true,0⟩,⟨false,2⟩],Dg,false,0,[],A0⟩,⟨⟨#[109,97,114,107]⟩,2,[⟨true,1⟩,⟨false,2⟩],⟨[⟨1,0,1⟩],2⟩,false,0,[],A0⟩],0,[],[⟨3,0,0,0,1,0,[0],⟨[⟨0,0,1⟩],2⟩⟩,⟨4,0,0,0,2,0,[1],⟨[⟨1,1,0⟩],2⟩⟩]⟩
theorem fX:Pure prog 126 [] (AA TA):=by
 have h1:=CA true;simp at h1;have k:=(H8 [⟨#[83]⟩,⟨#[87]⟩,⟨#[86]⟩]).Fm (args':=[.full [.str ⟨#[83]⟩,.str ⟨#[87]⟩,.str ⟨#[86]⟩]]) rfl λi h o=>by
  match i,h with
  |0,_=>exact .inr ⟨By [⟨#[83]⟩,⟨#[87]⟩,⟨#[86]⟩],by simp[Ba],rfl⟩
 have q:ByteArray.empty=(⟨#[]⟩:ByteArray):=rfl;have c0:=CX 0;have c1:=CX 1;have g:Av 0=⟨[⟨0,0,1⟩],2⟩:=rfl;have j:Av 1=⟨[⟨1,0,1⟩],2⟩:=rfl;rw[g]at c0;rw[j]at c1;have m:=DR _ _ (Dq 0 (by omega));have k1:=DR _ _ (Dq 1 (by omega));rw[g]at m;rw[j]at k1;refine zP func126 74 rfl λwf=>?_;apply yW;simp;apply yS;apply yJ;simp[al];refine xF (k) [] rfl ?_;simp;apply yJ;simp[Il];refine yD [0,2,4,6,8,10,12,15,16,19] (by kernel_rfl) ?_;simp;apply yA 1;simp;refine B5 (Et 1) rfl (by simp[al]) ?_;simp;refine B5 (Et 2) rfl (by simp[al,xN]) ?_;simp;apply yA 1;simp[al];refine B5 (Bo ⟨#[112,97,105,114]⟩ 0 [⟨false,1⟩,⟨false,2⟩]) rfl (by simp[al,xN]) ?_;simp;apply yA 1;simp[al];apply xX 35 (by kernel_rfl);simp[Ac,Al,al,Ah];apply yA 1;simp;apply xX 31 (by kernel_rfl);simp[Ac,Al,al];apply xM;refine yD [0,2,4,6,8,10,13,14,17] (by kernel_rfl) ?_;simp;apply yA 1;simp;refine B5 (Dp 0) rfl (by simp[al,xN]) ?_;simp;apply yA 1;simp[al];refine B5 (Bo ⟨#[115,105,110,103,108,101]⟩ 1 [⟨true,0⟩]) rfl (by simp[al,xN]) ?_;simp;apply yA 1;simp[al];apply xX 19 (by kernel_rfl);simp[Ac,Al,al,Ah];apply yA 1;simp;apply xX 15 (by kernel_rfl);simp[Ac,Al,al];apply xM;refine yD [0,2,4,6,8,10,12,15,16,19] (by kernel_rfl) ?_;simp;apply yA 1;simp;refine B5 (Dp 0) rfl (by simp[al,xN]) ?_;simp;refine B5 (Dp 0) rfl (by simp[al,xN]) ?_;simp;apply yA 1;simp[al];refine B5 (Bo ⟨#[100,111,117,98,108,101]⟩ 1 [⟨true,0⟩,⟨true,0⟩]) rfl (by simp[al,xN]) ?_;simp;apply yA 1;simp[al];apply xX 35 (by kernel_rfl);simp[Ac,Al,al,Ah];apply yA 1;simp;apply xX 31 (by kernel_rfl);simp[Ac,Al,al];apply xM;refine yD [0,2,4,6,8,11,12,15] (by kernel_rfl) ?_;simp;apply yA 1;simp[al];refine B5 (Bo ⟨#[110,111,110,101]⟩ 2 []) rfl (by simp[al,xN]) ?_;simp;apply yA 1;simp[al];apply xX 11 (by kernel_rfl);simp[Ac,Al,al,Ah];apply yA 1;simp;apply xX 7 (by kernel_rfl);simp[Ac,al];apply xM;refine yD [0,2,4,6,8,10,12,15,16,19] (by kernel_rfl) ?_;simp;apply yA 1;simp;refine B5 (Dp 0) rfl (by simp[al,xN]) ?_;simp;refine B5 (Et 2) rfl (by simp[al,xN]) ?_;simp;apply yA 1;simp[al];refine B5 (Bo ⟨#[110,101,120,116]⟩ 2 [⟨true,0⟩,⟨false,2⟩]) rfl (by simp[al,xN]) ?_;simp;apply yA 1;simp[al];apply xX 35 (by kernel_rfl);simp[Ac,Al,al,Ah];apply yA 1;simp;apply xX 31 (by kernel_rfl);simp[Ac,Al,al];apply xM;refine yD [0,2,4,6,8,10,12,15,16,19] (by kernel_rfl) ?_;simp;apply yA 1;simp;refine B5 (Dp 1) rfl (by simp[al,xN]) ?_;simp;refine B5 (Et 2) rfl (by simp[al,xN]) ?_;simp;apply yA 1;simp[al];refine B5 (Bo ⟨#[109,97,114,107]⟩ 2 [⟨true,1⟩,⟨false,2⟩]) rfl (by simp[al,xN]) ?_;simp;apply yA 1;simp[al];apply xX 35 (by kernel_rfl);simp[Ac,Al,al,Ah];apply yA 1;simp;apply xX 31 (by kernel_rfl);simp[Ac,Al,al];apply xM;apply yW;simp;refine yD [0,2,4,6,8,11] (by kernel_rfl) ?_;simp;apply yA 1;simp;refine B5 (c1) rfl (by simp[al,xN]) ?_;simp;apply yA 1;simp[AB];apply xX 29 (by kernel_rfl);simp[Ac,Al,al];apply xM;apply yS;apply yJ;simp[al];refine B9 (c0) rfl (by simp[xN]) (yJ ?_);simp[al,AB];refine B9 (c1) rfl (by simp[xN]) (yJ ?_);simp[AB];refine B9 (k1) rfl (by simp[xN]) (yJ ?_);simp[al,AB];apply yW;simp;apply Af;refine⟨_,_,c9 2 (xs:=TA.AD.map AH) rfl ?_,?_⟩
 .rw[CO];simp[TA,AH,A0,Dg]
 simp[Ba,AA,TA,AH,AM,A0,Dg]
def P8:AE:=⟨[⟨#[65]⟩,⟨#[66]⟩],Dg,Dv,[⟨#[83]⟩,⟨#[79]⟩,⟨#[80]⟩],[⟨⟨#[97,108,108]⟩,0,[⟨false,1⟩,⟨true,0⟩,⟨false,1⟩,⟨false,2⟩],Dg,false,0,[],A0⟩,⟨⟨#[110,111]⟩,1,[],Dg,false,0,[],A0⟩,⟨⟨#[121,101,115]⟩,1,[⟨true,1⟩],Dg,false,0,[],A0⟩,⟨⟨#[101,110,100]⟩,2,[],Dg,false,0,[],A0⟩,⟨⟨#[114,101,115,116]⟩,2,[⟨true,1⟩,⟨false,2⟩],⟨[⟨0,0,1⟩],2⟩,false,0,[],A0⟩],0,[],[]⟩
theorem ij:Pure prog 127 [] (AA P8):=by
 have h1:=CA true;simp at h1;have k:=(H8 [⟨#[83]⟩,⟨#[79]⟩,⟨#[80]⟩]).Fm (args':=[.full [.str ⟨#[83]⟩,.str ⟨#[79]⟩,.str ⟨#[80]⟩]]) rfl λi h o=>by
  match i,h with
  |0,_=>exact .inr ⟨By [⟨#[83]⟩,⟨#[79]⟩,⟨#[80]⟩],by simp[Ba],rfl⟩
 have q:ByteArray.empty=(⟨#[]⟩:ByteArray):=rfl;have c0:=CX 0;have c1:=CX 1;have g:Av 0=⟨[⟨0,0,1⟩],2⟩:=rfl;have j:Av 1=⟨[⟨1,0,1⟩],2⟩:=rfl;rw[g]at c0;rw[j]at c1;have m:=DR _ _ (Dq 0 (by omega));have k1:=DR _ _ (Dq 1 (by omega));rw[g]at m;rw[j]at k1;refine zP func127 52 rfl λwf=>?_;apply yW;simp;apply yS;apply yJ;simp[al];refine xF (k) [] rfl ?_;simp;apply yJ;simp[Il];refine yD [0,2,4,6,8,10,12,14,16,19,20,23] (by kernel_rfl) ?_;simp;apply yA 1;simp;refine B5 (Et 1) rfl (by simp[al]) ?_;simp;refine B5 (Dp 0) rfl (by simp[al,xN]) ?_;simp;refine B5 (Et 1) rfl (by simp[al,xN]) ?_;simp;refine B5 (Et 2) rfl (by simp[al,xN]) ?_;simp;apply yA 1;simp[al];refine B5 (Bo ⟨#[97,108,108]⟩ 0 [⟨false,1⟩,⟨true,0⟩,⟨false,1⟩,⟨false,2⟩]) rfl (by simp[al,xN]) ?_;simp;apply yA 1;simp[al];apply xX 131 (by kernel_rfl);simp[Ac,Al,al,Ah];apply yA 1;simp;apply xX 127 (by kernel_rfl);simp[Ac,Al,al];apply xM;refine yD [0,2,4,6,8,11,12,15] (by kernel_rfl) ?_;simp;apply yA 1;simp[al];refine B5 (Bo ⟨#[110,111]⟩ 1 []) rfl (by simp[al,xN]) ?_;simp;apply yA 1;simp[al];apply xX 11 (by kernel_rfl);simp[Ac,Al,al,Ah];apply yA 1;simp;apply xX 7 (by kernel_rfl);simp[Ac,al];apply xM;refine yD [0,2,4,6,8,10,13,14,17] (by kernel_rfl) ?_;simp;apply yA 1;simp;refine B5 (Dp 1) rfl (by simp[al,xN]) ?_;simp;apply yA 1;simp[al];refine B5 (Bo ⟨#[121,101,115]⟩ 1 [⟨true,1⟩]) rfl (by simp[al,xN]) ?_;simp;apply yA 1;simp[al];apply xX 19 (by kernel_rfl);simp[Ac,Al,al,Ah];apply yA 1;simp;apply xX 15 (by kernel_rfl);simp[Ac,Al,al];apply xM;refine yD [0,2,4,6,8,11,12,15] (by kernel_rfl) ?_;simp;apply yA 1;simp[al];refine B5 (Bo ⟨#[101,110,100]⟩ 2 []) rfl (by simp[al,xN]) ?_;simp;apply yA 1;simp[al];apply xX 11 (by kernel_rfl);simp[Ac,Al,al,Ah];apply yA 1;simp;apply xX 7 (by kernel_rfl);simp[Ac,al];apply xM;refine yD [0,2,4,6,8,10,12,15,16,19] (by kernel_rfl) ?_;simp;apply yA 1;simp;refine B5 (Dp 1) rfl (by simp[al,xN]) ?_;simp;refine B5 (Et 2) rfl (by simp[al,xN]) ?_;simp;apply yA 1;simp[al];refine B5 (Bo ⟨#[114,101,115,116]⟩ 2 [⟨true,1⟩,⟨false,2⟩]) rfl (by simp[al,xN]) ?_;simp;apply yA 1;simp[al];apply xX 35 (by kernel_rfl);simp[Ac,Al,al,Ah];apply yA 1;simp;apply xX 31 (by kernel_rfl);simp[Ac,Al,al];apply xM;refine yD [0,2,4,6,8,11] (by kernel_rfl) ?_;simp;apply yA 1;simp;refine B5 (c0) rfl (by simp[al,xN]) ?_;simp;apply yA 1;simp[AB];apply xX 29 (by kernel_rfl);simp[Ac,Al,al];apply xM;apply yW;simp;apply Af;refine⟨_,_,c9 2 (xs:=P8.AD.map AH) rfl ?_,?_⟩
 .rw[CO];simp[P8,AH,A0,Dg]
 simp[Ba,AA,P8,AH,A0,Dg]
open Go.Proofs
theorem fw(l:List Int){k:Nat}(h:k<8):V2 l k=V2 [l.getD 0 0] k:=by
 have e:k / 8=0:=by omega
 have em:k % 8=k:=by omega
 unfold V2;rw[e,em];cases l with
 |nil=>
  simp;have:k=0\/k=1\/k=2\/k=3\/k=4\/k=5\/k=6\/k=7:=by omega
  rcases this with rfl|rfl|rfl|rfl|rfl|rfl|rfl|rfl<;>decide
 |cons a l=>simp
theorem TL(l:List Int)(n:Nat)(hn:n<=3):∀f v k,v<=n->k<2 ^ v->JW l n f v k=JW [l.getD 0 0] n f v k:=by
 intro f;induction f with
 |zero=>intro v k _ _;rfl
 |succ f h=>
  intro v k i j;have m:2 ^ v<=8:=ke (zn (by omega) (show v<=3 by omega)) (by decide);unfold JW;rw[fw l (show k<8 by omega)];by_cases g:v=n
  .rw[ap g,ap g]
  .have o:2 ^ (v+1)=2 ^ v+2 ^ v:=by rw[Nat.pow_succ];omega
   rw[ao g,ao g,h (v+1) (k+2 ^ v) (by omega) (by omega),h (v+1) k (by omega) (by omega)]
theorem iM:((List.range 256).all λc=>(List.range 4).all λn=>(JW [(c:Int)] n 8 0 0).isSome)=true:=by decide+kernel
theorem Z7(l:List Nat)(g:∀k∈l,k<256)(n:Nat)(hn:n<=3):∃d,JW (l.map λ(k:Nat)=>(k:Int)) n 8 0 0=some d:=by
 rw[TL _ n hn 8 0 0 (cq _) (by simp)];have h:=iM;simp at h;cases l with
 |nil=>exact jw.1 (h 0 (by omega) n (by omega))
 |cons a l=>exact jw.1 (by simpa using h a (g a (by simp)) n (by omega))
theorem Zz(l:List Nat)(h:∀k∈l,k<256)(n:Nat)(hn:n<=3){d:AN}(g:JW (l.map λ(k:Nat)=>(k:Int)) n 8 0 0=some d):C5 d n=true:=by
 rw[TL _ n hn 8 0 0 (cq _) (by simp)]at g;cases l with
 |nil=>exact Q4 (b:=0) (by omega) (by omega) (by simpa using g)
 |cons a l=>exact Q4 (b:=a) (h a (by simp)) (by omega) (by simpa using g)
def LP(r:Nat):AE:=match r with|0=>Uh|1=>P7|2=>T3|3=>TN|4=>TA|_=>P8
theorem eT(k:Nat)(j:k<256):Pure prog 43 [.int .u8 k] (AA (LP (k % 6))):=by
 obtain⟨r,g⟩:=a9 (k % 6);rw[g];have m:r<6:=by omega
 have q:((k:Int).tmod 6)=r:=by rw[c8 (by omega),<-g];simp
 have i:(k:Int) % 6=r:=by omega
 refine zP func43 21 rfl λwf=>?_;apply yW;simp;refine xS (yW ?_);simp[q];apply Bx;have h:r=0\/r=1\/r=2\/r=3\/r=4\/r=5:=by omega
 rcases h with rfl|rfl|rfl|rfl|rfl|rfl
 .apply yW;simp;apply AR;simp;(repeat apply xS);apply yT;apply yJ;simp;refine B9 (bZ) rfl (by simp) (yJ ?_);simp;refine Af ⟨_,_,am,?_⟩;(try simp);rfl
 .apply yW;simp;apply AR;simp;apply yW;simp;apply AR;simp;(repeat apply xS);apply yT;apply yJ;simp;refine B9 (iK) rfl (by simp) (yJ ?_);simp;refine Af ⟨_,_,am,?_⟩;(try simp);rfl
 .apply yW;simp;apply AR;simp;apply yW;simp;apply AR;simp;apply yW;simp;apply AR;simp;(repeat apply xS);apply yT;apply yJ;simp;refine B9 (dq) rfl (by simp) (yJ ?_);simp;refine Af ⟨_,_,am,?_⟩;(try simp);rfl
 .apply yW;simp;apply AR;simp;apply yW;simp;apply AR;simp;apply yW;simp;apply AR;simp;apply yW;simp;apply AR;simp;(repeat apply xS);apply yT;apply yJ;simp;refine B9 (eB) rfl (by simp) (yJ ?_);simp;refine Af ⟨_,_,am,?_⟩;(try simp);rfl
 .apply yW;simp;apply AR;simp;apply yW;simp;apply AR;simp;apply yW;simp;apply AR;simp;apply yW;simp;apply AR;simp;apply yW;simp;apply AR;simp;(repeat apply xS);apply yT;apply yJ;simp;refine B9 (fX) rfl (by simp) (yJ ?_);simp;refine Af ⟨_,_,am,?_⟩;(try simp);rfl
 .apply yW;simp;apply AR;simp;apply yW;simp;apply AR;simp;apply yW;simp;apply AR;simp;apply yW;simp;apply AR;simp;apply yW;simp;apply AR;simp;apply CT;(repeat apply xS);apply yT;apply yJ;simp;refine B9 (ij) rfl (by simp) (yJ ?_);simp;apply zT;(try simp);rfl
structure Raw where
 base:Nat
 n:Nat
 fam:List Nat
 lines:List Hl
 rules:List Ht
def Gq(x:Raw):D:=.agg [D.int .u8 (x.base:Nat),D.int .u8 (x.n:Nat),D.sl (x.fam.map λ(k:Nat)=>D.int .u8 k),D.sl (x.lines.map Cj),D.sl (x.rules.map Br)]
@[simp] theorem jL(x:Raw):Ai (.d (Gq x))=[.d (D.int .u8 (x.base:Nat)),.d (D.int .u8 (x.n:Nat)),.d (D.sl (x.fam.map λ(k:Nat)=>D.int .u8 k)),.d (D.sl (x.lines.map Cj)),.d (D.sl (x.rules.map Br))]:=rfl
@[simp] theorem jH(x:Raw):At (.d (Gq x))=true:=rfl
@[simp] theorem mv(x:Raw):Bw (.d (Gq x))=false:=rfl
@[simp] theorem iz(x:Raw):BN (Gq x)=[D.int .u8 (x.base:Nat),D.int .u8 (x.n:Nat),D.sl (x.fam.map λ(k:Nat)=>D.int .u8 k),D.sl (x.lines.map Cj),D.sl (x.rules.map Br)]:=rfl
@[simp] theorem nM(x:Raw):CZ.oneD (Gq x)=true:=rfl
@[simp] theorem qS(x:Raw):DZ (Gq x)=Bs [D.int .u8 (x.base:Nat),D.int .u8 (x.n:Nat),D.sl (x.fam.map λ(k:Nat)=>D.int .u8 k),D.sl (x.lines.map Cj),D.sl (x.rules.map Br)]:=rfl
@[simp] theorem lT(S:Sg)(x:Raw):Dm S (.d (Gq x))=some [D.int .u8 (x.base:Nat),D.int .u8 (x.n:Nat),D.sl (x.fam.map λ(k:Nat)=>D.int .u8 k),D.sl (x.lines.map Cj),D.sl (x.rules.map Br)]:=rfl
structure MG(g:AE)(p l:Nat):Prop where
 c1:g.conds.length<=3
 n0:0<g.A2.length
 n1:g.A2.length<=3
 t1:g.Ae.length=11
 o1:(0:Int)∈g.Ae.map (·.cls)
 p0:0<g.AD.length
 p1:g.AD.length<=12+p
 l1:g.levels.length<=4+l
 l2:∀x∈g.levels,x.AD.length<=2
 f1:g.AU.length<=4+l
theorem gg(r:Nat):MG (LP r) 0 0:=by
 unfold LP;split<;>exact⟨by decide,by decide,by decide,rfl,by decide,by decide,by decide,by decide,by decide,by decide⟩
def PG:AO:=⟨⟨#[102,105,114,115,116]⟩,0,[⟨true,0⟩],Dg,false,0,[],A0⟩
def JS(m c:Nat):AE:=⟨[⟨#[65]⟩,⟨#[66]⟩,⟨#[67]⟩].take c,Dg,Dv,[⟨#[83]⟩,⟨#[80]⟩,⟨#[81]⟩].take (1+m),[PG],0,[],[]⟩
theorem lZ(m c:Nat)(g:m<3)(h:c<4):MG (JS m c) 0 0:=by
 refine⟨?_,?_,?_,rfl,(by show(0:Int)∈Dv.map (·.cls);decide),Nat.zero_lt_one,by simp[JS],by simp[JS],by simp[JS],by simp[JS]⟩<;>simp[JS]<;>omega
theorem kO{g F:AE}{p l:Nat}(h:MG g p l){kn:Bool}(v:F=g\/∃q,UA g kn q/\F={g with AD:=g.AD++[q]}):MG F (p+1) l:=by
 obtain⟨i,j,k,m,o,w,z,s,t,u⟩:=h;rcases v with rfl|⟨q,_,rfl⟩
 .exact⟨i,j,k,m,o,w,by omega,s,t,u⟩
 .exact⟨i,j,k,m,o,by simp,by simp;omega,s,t,u⟩
theorem lP{g F:AE}{p l:Nat}(h:MG g p l)(z:IY g F):MG F p (l+1):=by
 obtain⟨k,m,o,q,s,u,v,E,w,G⟩:=h;rcases z with rfl|⟨x,A,rfl⟩|⟨f,_,rfl⟩|⟨t,⟨e,d,_,B,rfl⟩,rfl⟩
 .exact⟨k,m,o,q,s,u,v,by omega,w,by omega⟩
 .refine⟨k,m,o,q,s,u,v,by simp;omega,?_,by simp;omega⟩;intro y j;rcases dl.1 j with j|j
  .exact w y j
  .rw[cR.1 j];exact A.1
 .exact⟨k,m,o,q,s,u,v,by simp;omega,w,by simp;omega⟩
 .have C:(g.Ae.set e {g.Ae[e]with cond:=d}).map (·.cls)=g.Ae.map (·.cls):=by
   rw[eQ];apply un (by simp);intro i h1 H;rw[ada];split
   .next hi=>subst hi;simp
   .rfl
  exact⟨k,m,o,by simpa using q,by rw[C];exact s,u,v,by simp;omega,w,by simp;omega⟩
open Go.Proofs DT
theorem Fz{d:AN}{n:Int}(h:C5 d n=true):JI d:=by
 simp only[C5,bi,cF]at h;have h1:=h.1;unfold Hn at h1;unfold JI;split at h1
 .cases h1
 .omega
theorem TX:∀(N:Nat) (l:List Int),l.Nodup->(∀y∈l,0<=y/\y<N)->l.length<=N:=by
 intro N;induction N with
 |zero=>
  intro l _ h;cases l with
  |nil=>simp
  |cons a l=>have:=h a (by simp);omega
 |succ N i=>
  intro l hn h;by_cases j:(N:Int)∈l
  .have h1:=i (l.erase N) (hn.erase _) (λy g=>by
    have k:=h y (List.mem_of_mem_erase g);have m:y≠N:=λe=>by subst e;exact(List.Nodup.mem_erase_iff hn).1 g |>.1 rfl
    omega)
   have:=List.length_erase_of_mem j;omega
  .have h1:=i l hn (λy g=>by
    have k:=h y g;have m:y≠N:=λe=>by subst e;exact j g
    omega)
   omega
theorem XD{N:Nat}:∀{i u v:List Int},CB N u i=some v->u.Nodup->(∀y∈u,0<=y/\y<N)->v.Nodup/\(∀y∈v,0<=y/\y<N)/\v.length=u.length+i.length
 |[],u,v,h,h1,j=>by simp only[CB,fd]at h;subst h;exact⟨h1,j,by simp⟩
 |p::i,u,v,h,h1,j=>by
  unfold CB at h;split at h
  .cases h
  .rename_i hn;have k:0<=p/\p<N/\p∉u:=by
    refine⟨by omega,?_,λm=>hn (.inr (.inr m))⟩;by_cases e:(N:Int)<=p
    .exact absurd (.inr (.inl e)) hn
    .omega
   obtain⟨o,q,s⟩:=XD h (by
    rw[rt];exact⟨h1,by simp,λa ha b hb=>by rw[cR.1 hb];intro e;subst e;exact k.2.2 ha⟩) (λy g=>by
    rcases dl.1 g with g|g
    .exact j y g
    .rw[cR.1 g];exact⟨k.1,k.2.1⟩)
   exact⟨o,q,by simp at s;simp;omega⟩
theorem O4{g:AE}:∀{i:List Level} {u:List Int},ED g u i=true->u.Nodup->(∀y∈u,0<=y/\y<g.AD.length)->∀l∈i,l.AD.length<=g.AD.length/\JI l.cond
 |[],_,_,_,_=>λl k=>by cases k
 |l::i,u,h,h1,s=>by
  unfold ED at h;split at h
  .rename_i m;split at h
   .cases h
   .rename_i v t;obtain⟨o,q,w⟩:=XD t h1 s;have k:=TX _ _ o q;intro y j;rcases fi.1 j with rfl|j
    .refine⟨by omega,?_⟩;simp only[bi]at m;exact Fz m.2
    .exact O4 h o q y j
  .cases h
theorem RD{g:AE}{kind:Token->Bool}{l:List Int}(h:Gv g kind l=true):l.length<=g.Ae.length:=by
 simp only[Gv,bi,cl,pm,cF]at h;obtain⟨h1,o⟩:=h;have key:∀i,i<l.length->(i:Int)<=l.getD i 0:=by
  intro i;induction i with
  |zero=>
   intro hi;have:=h1 0 hi;simp only[FO,bi,cF]at this;exact this.1.1.1
  |succ i k=>
   intro hi;have m:=k (by omega);have:=h1 (i+1) hi;simp only[FO,bi,cF,mp,ac6,y4,Nat.add_sub_cancel]at this;have j:=this.1.2;omega
 have m:=key (l.length - 1) (by omega);have j:=h1 (l.length - 1) (by omega);simp only[FO,bi,cF]at j;have:=j.1.1.2;omega
theorem NW(g:AE)(h:C2 g=0):P6 g:=by
 obtain⟨m,o,q,hn,u,v,s⟩:=Ck h;simp only[C3,pw,y4,p6]at m;obtain⟨⟨⟨⟨⟨⟨l1,l2⟩,B⟩,C⟩,E⟩,F⟩,w⟩:=m;refine⟨by omega,?_,by omega,⟨by omega,λt j=>?_⟩,⟨by omega,λp j=>?_⟩,⟨by omega,λl j=>?_⟩,⟨by omega,λf j=>?_⟩⟩
 .simp only[Fb,bi]at o;exact Fz o.1.2
 .simp only[Ex,bi,cl]at q;have h1:=q.2 t j;simp only[H2,bi]at h1;refine⟨?_,Fz h1.1.2⟩;have i:=h1.2;unfold Ko at i;split at i
  .split at i
   .rename_i k;unfold EC at k;split at k
    .cases k
    .omega
   .cases i
  .simp only[bi,cF]at i;rw[i.2];simp
 .have h1:=(EK u p j).2;simp only[F6,bi]at h1;have i:=w p j;simp only[Ku,oj,cF,q7]at i;exact⟨by omega,by omega,Fz h1.1.1.1⟩
 .obtain⟨h1,i⟩:=O4 v (by simp) (λy z=>by cases z) l j;exact⟨by omega,i⟩
 .simp only[EA,cl]at s;have h1:=s f j;simp only[D5,bi]at h1;obtain⟨h1,i⟩:=h1;unfold Ee at h1;unfold Ed at i;split at h1
  .rename_i A;rw[ap A]at i;simp only[Lg,bi,cF]at h1 i;exact⟨by rw[i.2];simp,Fz h1.1⟩
  .split at h1
   .simp only[bi]at h1;have:=RD h1.2;exact⟨by omega,Fz h1.1.1.1⟩
   .split at h1
    .simp only[bi]at h1;have:=RD h1.1.2;exact⟨by omega,Fz h1.1.1⟩
    .cases h1
theorem DH{g:AE}(h:C2 g=0):∀p∈g.AD,p.right.length<=16:=by
 obtain⟨i,_⟩:=Ck h;simp only[C3,pw,y4,p6]at i;obtain⟨_,j⟩:=i;intro p k;have m:=j p k;simp only[Ku,oj,cF,q7]at m;omega
theorem ld{g:AE}(h:C2 g=0):∀p∈g.AD,∀q∈p.right,F4 g q=true:=by
 obtain⟨_,_,_,_,i,_⟩:=Ck h;intro p j q k;have h1:=(EK i p j).1;simp only[EG,bi,cl]at h1;exact h1.2 q k
open Go.Proofs Tryz DT
def Rh(t:Token)(s:ByteArray):Bool:=if t.literal=⟨#[]⟩then HT t.pattern s else decide (t.literal=s)
theorem ZT(t:Token)(s:ByteArray):Pure prog 169 [Ad t,BO s] (.bool (Rh t s)):=by
 have g:=Ad.eq_1 t;have i:ByteArray.empty=(⟨#[]⟩:ByteArray):=rfl;refine zP func169 16 rfl λwf=>?_;unfold Rh;by_cases h:t.literal=⟨#[]⟩
 .rw[ap h];apply yW;simp;refine xS (yW ?_);simp[g,h];apply AR;simp;apply xK;(repeat apply xS);apply yT;apply yJ;simp;refine B9 (Oh t.pattern s) rfl (by simp) (yJ ?_);simp;apply zT;try simp
 .rw[ao h];apply yW;simp;refine xS (yW ?_);simp[g,h];apply AR;simp;apply yW;simp;refine Af ⟨_,_,am,?_⟩;try simp
def K0(f:Symbol->List Cw->List Bool->Bool×List Cw×List Bool):List Symbol->List Cw->List Bool->Bool×List Cw×List Bool
 |[],g,h=>(true,g,h)
 |s::l,g,h=>if(f s g h).1=true then K0 f l (f s g h).2.1 (f s g h).2.2 else f s g h
def my(h:AE)(s:Symbol)(t:Cw):Bool:=decide (t.prod= -1)&&(decide (t.token=s.index)&&Rh (h.Ae.getD s.index.toNat Qf) t.text)
def Nf(h:AE)(s:Symbol)(t:Cw):Bool:=
 decide (t.token= -1)&&(decide (t.text=⟨#[]⟩)&&(decide (0<=t.prod)&&(decide (t.prod<h.AD.length)&&decide ((h.AD.getD t.prod.toNat FV).left=s.index))))
def Hq(h:AE)(hs:List Symbol):Nat->Symbol->List Cw->List Bool->Bool×List Cw×List Bool
 |0,_,g,i=>(false,g,i)
 |n+1,s,g,i=>match g with
  |[]=>(false,[],i)
  |t::g=>if 0<=t.hole then
    (if t.hole<hs.length/\t=DO t.hole/\i[t.hole.toNat]?=some false/\hs[t.hole.toNat]?=some s then(true,g,i.set t.hole.toNat true)else(false,g,i))
   else if t.hole= -1 then
    (if s.token=true then(my h s t,g,i)else if Nf h s t=true then K0 (Hq h hs n) (h.AD.getD t.prod.toNat FV).right g i else(false,g,i))
   else(false,g,i)
theorem M6{f:Symbol->List Cw->List Bool->Bool×List Cw×List Bool}(i:∀s g h,(f s g h).2.1.length<=g.length/\(f s g h).2.2.length=h.length):
  ∀(l:List Symbol) (g:List Cw) (h:List Bool),(K0 f l g h).2.1.length<=g.length/\(K0 f l g h).2.2.length=h.length
 |[],g,h=>⟨br _,rfl⟩
 |s::l,g,h=>by
  unfold K0;have h1:=i s g h;split
  .have j:=M6 i l (f s g h).2.1 (f s g h).2.2;exact⟨by omega,by omega⟩
  .exact h1
theorem Mh(h:AE)(hs:List Symbol):∀(n:Nat) (s:Symbol) (g:List Cw) (i:List Bool),(Hq h hs n s g i).2.1.length<=g.length/\(Hq h hs n s g i).2.2.length=i.length
 |0,s,g,i=>⟨br _,rfl⟩
 |n+1,s,g,i=>by
  cases g with
  |nil=>exact⟨br _,rfl⟩
  |cons t g=>
   have h1:=M6 (Mh h hs n) (h.AD.getD t.prod.toNat FV).right g i;unfold Hq;simp only;split
   .split<;>simp
   .split
    .split
     .simp
     .split
      .exact⟨by simp only[ea];omega,h1.2⟩
      .simp
    .simp
theorem kz{h:AE}{hs:List Symbol}{n:Nat}{s:Symbol}{ts:List Cw}{us:List Bool}(hn:(Hq h hs n s ts us).1=true):(Hq h hs n s ts us).2.1.length<ts.length:=by
 cases n with
 |zero=>simp[Hq]at hn
 |succ n=>
  cases ts with
  |nil=>simp[Hq]at hn
  |cons t ts=>
   have h1:=M6 (Mh h hs n) (h.AD.getD t.prod.toNat FV).right ts us;unfold Hq;simp only;split
   .split<;>simp
   .split
    .split
     .simp
     .split
      .simp only[ea];omega
      .simp
    .simp
def oB(h:AE)(s:Symbol):Prop:=s.token=true->0<=s.index/\s.index<h.Ae.length
def nh(h:AE):Prop:=∀p∈h.AD,∀q∈p.right,oB h q
def au:List V:=[.ptr 0 1 0 0,.ptr 1 1 0 0,.ptr 2 1 0 0,.ptr 3 1 0 0,.ptr 4 1 0 0]
def Y4(h:AE)(hs:List Symbol)(ts:List Cw)(us:List Bool):Sg:=
 [.row true 1 [.d (CP ts)],.row true 1 [.d (Az hs)],.row true 1 [.row 5 us.length],.row true 9 [.d (AA h)],.row true 1 [.fn (.func 168) [] au],.row true 1 (us.map λb=>.d (.bool b))]
theorem j5(h:AE)(hs:List Symbol)(hr:nh h)(wF:∀p∈h.AD,p.right.length<=maxLen):∀(n:Nat) (s:Symbol) (z:List Cw) (B:List Bool),z.length<n->B.length=hs.length->oB h s->AG prog 168 (.d (AI s)::au) (Y4 h hs z B) (.d (.bool (Hq h hs n s z B).1)) (Y4 h hs (Hq h hs n s z B).2.1 (Hq h hs n s z B).2.2):=by
 intro n;induction n with
 |zero=>intro s z B hl;omega
 |succ n ih=>
  intro s z B hn za hrs;cases z with
  |nil=>
   have hq:Hq h hs (n+1) s [] B=(false,[],B):=rfl;rw[hq];refine AG.CJ func168 (by kernel_rfl) rfl (by simp[au]) λwf _=>?_;rw[ntmps168];unfold Y4 au;refine xW λK g=>?_;simp;apply g;refine xS (xW λK g=>?_);simp;apply g;refine AR ?_;simp;(repeat refine xS ?_);refine xV λK g=>?_;simp;refine g _ _ ?_;(try simp only[xQ,reduceIte]);(refine Af ?_;(try simp only[xQ,reduceIte]);refine⟨_,_,_,am,?_,?_,a8 6 (S':=_) (by simp) (by simp) (by simp) (by simp)⟩<;>simp[Ba])
  |cons t z=>
   have m:=A7.eq_1 t;have E:ByteArray.empty=(⟨#[]⟩:ByteArray):=rfl;obtain⟨R,hR⟩:=a9 (Hq h hs (n+1) s (t::z) B);have j:=hR;rw[hR];unfold Hq at j;simp only at j;refine AG.CJ func168 (by kernel_rfl) rfl (by simp[au]) λwf _=>?_;rw[ntmps168];unfold Y4 au at *;have hl0:¬((z.length:Int)+1=0):=by omega
   have hd:z=[]\/((BN ((Option.map A7 z[0]?).getD (.bool false))).length=4/\CZ.oneD ((Option.map A7 z[0]?).getD (.bool false))=true):=by cases z<;>simp
   have W:List.take z.length (List.map A7 z)=List.map A7 z:=s9 (by simp);have yc:(1:Int)<=z.length+1:=by omega
   refine xW λK g=>?_;simp;apply g;refine xS (xW λK g=>?_);simp;apply g;refine AR ?_;simp[hl0];refine xK ?_;refine xW λK g=>?_;simp;apply g;(repeat refine xS ?_);refine xV λK g=>?_;simp[yc,hd,W];refine g _ _ ?_;(try simp only[xQ,reduceIte]);refine xB ?_;by_cases hh:0<=t.hole
   .rw[ap hh]at j;obtain⟨k,A⟩:∃k:Nat,t.hole=k:=⟨t.hole.toNat,by omega⟩;refine xW λK g=>?_;simp[m,A];apply g;refine AR ?_;simp;rw[A]at j;simp only[ii]at j;by_cases e1:t=DO k;case neg=>
     rw[ao (λh=>e1 h.2.1)]at j;subst j;have J:¬(t.prod= -1/\t.token= -1/\t.text=⟨#[]⟩):=λ⟨a1,a2,a3⟩=>e1 (by cases t;simp only at A a1 a2 a3;subst A;subst a1;subst a2;subst a3;rfl);refine xS ?_;refine xD [0,2,4,6,8,10,12,14,16,18,20,22,24,26,28,30,32,34,36,38,40,42,44,46,48,50,52,54] (by kernel_rfl) λK g=>?_;simp;(repeat((first|refine Pv rfl rfl ?_ ?_;(·simp[J])|refine gX rfl rfl ?_ ?_;(·simp[J])|refine Hz ?_ ?_;(·simp[E,J]));simp[E,Cg,De]));refine xM (g _ _ ?_);(try simp only[]);refine AR ?_;simp[J];refine λ_=>?_;(repeat refine xS ?_);refine xV λK g=>?_;simp;refine g _ _ ?_;(try simp only[xQ,reduceIte]);(refine Af ?_;(try simp only[xQ,reduceIte]);refine⟨_,_,_,am,?_,?_,a8 6 (S':=_) (by simp) (by simp) (by simp) (by simp)⟩<;>simp[Ba])
    subst e1;by_cases v:k<hs.length;case neg=>
     rw[ao (λh=>v (by omega))]at j;subst j;have o:hs.length<=k:=by omega
     refine xS ?_;refine xD [0,2,4,6,8,10,12,14,16,18,20,22,24,26,28,30,32,34,36,38,40,42,44,46,48,50,52,54] (by kernel_rfl) λK g=>?_;simp;refine xZ ?_;simp[DO,Cg,De,o];refine xM (g _ _ ?_);(try simp only[]);refine AR ?_;simp;(repeat refine xS ?_);refine xV λK g=>?_;simp;refine g _ _ ?_;(try simp only[xQ,reduceIte]);(refine Af ?_;(try simp only[xQ,reduceIte]);refine⟨_,_,_,am,?_,?_,a8 6 (S':=_) (by simp) (by simp) (by simp) (by simp)⟩<;>simp[Ba])
    have o:¬hs.length<=k:=by omega
    have u:k<B.length:=by omega
    by_cases w:B[k]=false;case neg=>
     rw[ao (λh=>w (df.1 h.2.2.1).2)]at j;subst j;have e3':B[k]=true:=by simpa using w
     refine xS ?_;refine xD [0,2,4,6,8,10,12,14,16,18,20,22,24,26,28,30,32,34,36,38,40,42,44,46,48,50,52,54] (by kernel_rfl) λK g=>?_;simp;refine xZ ?_;simp[DO,o,u,e3',Cg,De];refine xM (g _ _ ?_);(try simp only[]);refine AR ?_;simp;(repeat refine xS ?_);refine xV λK g=>?_;simp;refine g _ _ ?_;(try simp only[xQ,reduceIte]);(refine Af ?_;(try simp only[xQ,reduceIte]);refine⟨_,_,_,am,?_,?_,a8 6 (S':=_) (by simp) (by simp) (by simp) (by simp)⟩<;>simp[Ba])
    by_cases C:hs[k]=s;case neg=>
     rw[ao (λh=>C (df.1 h.2.2.2).2)]at j;subst j;have vQ:=AI.eq_1 s;generalize G:hs[k]=q at *;refine xS ?_;refine xD [0,2,4,6,8,10,12,14,16,18,20,22,24,26,28,30,32,34,36,38,40,42,44,46,48,50,52,54] (by kernel_rfl) λK g=>?_;simp;(repeat((first|refine Pv rfl rfl ?_ ?_;(·simp)|refine gX rfl rfl ?_ ?_;(·simp[v,u,w])|refine Hz ?_ ?_;(·simp[DO]));simp[DO,v,o,u,w,Cg,De]));(repeat(first|((refine Pv rfl rfl ?_ ?_);(focus(simp[vQ,G];done));simp[v,u,w,C,vQ,G])|((refine gX rfl rfl ?_ ?_);(focus(simp[vQ,G];done));simp[C,vQ,G])|((refine Hz ?_ ?_);(focus(simp;done));simp)));refine xM (g _ _ ?_);(try simp only[]);refine AR ?_;simp;(repeat refine xS ?_);refine xV λK g=>?_;simp;refine g _ _ ?_;(try simp only[xQ,reduceIte]);(refine Af ?_;(try simp only[xQ,reduceIte]);refine⟨_,_,_,am,?_,?_,a8 6 (S':=_) (by simp) (by simp) (by simp) (by simp)⟩<;>simp[Ba])
    rw[ap ⟨by omega,rfl,df.2 ⟨u,w⟩,df.2 ⟨v,C⟩⟩]at j;subst j;refine xS ?_;refine xD [0,2,4,6,8,10,12,14,16,18,20,22,24,26,28,30,32,34,36,38,40,42,44,46,48,50,52,54] (by kernel_rfl) λK g=>?_;simp;(repeat((first|refine Pv rfl rfl ?_ ?_;(·simp)|refine gX rfl rfl ?_ ?_;(·simp[v,u,w])|refine Hz ?_ ?_;(·simp[DO]));simp[DO,v,o,u,w,Cg,De]));(repeat(first|((refine Pv rfl rfl ?_ ?_);(focus(simp[C,AI];done));simp[v,u,w,C,AI,Cg,De])|((refine gX rfl rfl ?_ ?_);(focus(simp[C,AI];done));simp[C,AI,Cg,De])|((refine Hz ?_ ?_);(focus(simp;done));simp)));refine xM (g _ _ ?_);(try simp only[]);refine AR ?_;simp;refine xK ?_;refine xW λK g=>?_;simp[u];apply g;(repeat refine xS ?_);refine xV λK g=>?_;simp;refine g _ _ ?_;(try simp only[xQ,reduceIte]);have es:(B.map λb=>V.d (.bool b)).set k (.d (.bool true))=(B.set k true).map λb=>V.d (D.bool b):=by rw[eQ]
    have hbv:Aw 6 ((B.map λb=>V.d (.bool b)).set k (.d (.bool true)))=true:=by rw[es];simp[-List.map_set]
    (refine Af ?_;(try simp only[xQ,reduceIte]);refine⟨_,_,_,am,?_,?_,a8 6 (S':=_) (by simp) (by simp) (by simp) (by simp[hbv])⟩<;>simp[Ba])
   .rw[ao hh]at j;refine xW λK g=>?_;simp[m,hh];apply g;refine AR ?_;simp;by_cases h1:t.hole= -1;case neg=>
     rw[ao h1]at j;subst j;refine xW λK g=>?_;simp;apply g;refine AR ?_;simp[h1];(repeat refine xS ?_);refine xV λK g=>?_;simp;refine g _ _ ?_;(try simp only[xQ,reduceIte]);(refine Af ?_;(try simp only[xQ,reduceIte]);refine⟨_,_,_,am,?_,?_,a8 6 (S':=_) (by simp) (by simp) (by simp) (by simp)⟩<;>simp[Ba])
    rw[ap h1]at j;refine xW λK g=>?_;simp[h1];apply g;refine AR ?_;simp;cases X:s.token with
    |true=>
     rw[ap X]at j;subst j;obtain⟨hi1,yi⟩:=hrs X;refine xW λK g=>?_;simp[X];apply g;refine AR ?_;simp;unfold my;by_cases l1:t.prod= -1;case neg=>
      (repeat refine xS ?_);refine xE [0,2,4,6,8,10,12,14,16,18,20,22,24,26,28,30,32,34,36,38,40,42] (by kernel_rfl) λK g=>?_;simp;(repeat((first|refine Pv rfl rfl ?_ ?_;(·simp[l1])|refine gX rfl rfl ?_ ?_;(·simp[m,l1])|refine Hz ?_ ?_;(·simp[l1]));simp));refine xM (g _ _ ?_);(try simp only[xQ,reduceIte]);(refine Af ?_;(try simp only[xQ,reduceIte]);refine⟨_,_,_,am,?_,?_,a8 6 (S':=_) (by simp) (by simp) (by simp) (by simp)⟩<;>simp[Ba,l1])
     by_cases l2:t.token=s.index;case neg=>
      (repeat refine xS ?_);refine xE [0,2,4,6,8,10,12,14,16,18,20,22,24,26,28,30,32,34,36,38,40,42] (by kernel_rfl) λK g=>?_;simp;(repeat((first|refine Pv rfl rfl ?_ ?_;(·simp[l2])|refine gX rfl rfl ?_ ?_;(·simp)|refine Hz ?_ ?_;(·simp[l1,l2]));simp[l1]));refine xM (g _ _ ?_);(try simp only[C4]);(refine Af ?_;(try simp only[xQ,reduceIte]);refine⟨_,_,_,am,?_,?_,a8 6 (S':=_) (by simp) (by simp) (by simp) (by simp)⟩<;>simp[Ba,l1,l2])
     obtain⟨k,A⟩:∃k:Nat,s.index=k:=⟨s.index.toNat,by omega⟩;have H:k<h.Ae.length:=by omega
     have Y:h.Ae.getD s.index.toNat Qf=h.Ae[k]:=by rw[A];simp[H]
     rw[Y];have hsp:=ZT h.Ae[k] t.text;generalize W:h.Ae[k]=tk at *;have F:=Ad.eq_1 tk;(repeat refine xS ?_);refine xE [0,2,4,6,8,10,12,14,16,18,20,22,24,26,28,30,32,34,36,38,40,42] (by kernel_rfl) λK g=>?_;simp;refine xZ ?_;simp[l1,l2,A,H,W,F];refine Ag.EU (ds:=[Ad tk,BO t.text]) rfl rfl (by simp;rfl) (λ_=>hsp) (by simp[A,F,xN]) ?_;simp;refine xZ ?_;simp;refine xM (g _ _ ?_);(try simp only[xQ,reduceIte]);(refine Af ?_;(try simp only[xQ,reduceIte]);refine⟨_,_,_,am,?_,?_,a8 6 (S':=_) (by simp) (by simp) (by simp) (by simp)⟩<;>simp[Ba,l1,l2])
    |false=>
     rw[ao (by simp[X])]at j;refine xW λK g=>?_;simp[X];apply g;refine AR ?_;simp;refine CT ?_;by_cases n1:t.token= -1;case neg=>
      rw[ao (by simp[Nf,n1])]at j;subst j;refine xS ?_;refine xD [0,2,4,6,8,10,12,14,16,18,20,22,24,26,28,30,32,34,36,38,40,42,44,46,48,50,52,54,56,58,60,62,64] (by kernel_rfl) λK g=>?_;simp;(repeat((first|refine Pv rfl rfl ?_ ?_;(·simp[n1])|refine gX rfl rfl ?_ ?_;(·simp[m,n1])|refine Hz ?_ ?_;(·simp[n1]));simp));refine xM (g _ _ ?_);(try simp only[]);refine AR ?_;simp[n1];(repeat refine xS ?_);refine xV λK g=>?_;simp;refine g _ _ ?_;(try simp only[xQ,reduceIte]);(refine Af ?_;(try simp only[xQ,reduceIte]);refine⟨_,_,_,am,?_,?_,a8 6 (S':=_) (by simp) (by simp) (by simp) (by simp)⟩<;>simp[Ba])
     by_cases n2:t.text=⟨#[]⟩;case neg=>
      rw[ao (by simp[Nf,n2])]at j;subst j;refine xS ?_;refine xD [0,2,4,6,8,10,12,14,16,18,20,22,24,26,28,30,32,34,36,38,40,42,44,46,48,50,52,54,56,58,60,62,64] (by kernel_rfl) λK g=>?_;simp;refine xZ ?_;simp[n1,n2];refine xM (g _ _ ?_);(try simp only[]);refine AR ?_;simp;(repeat refine xS ?_);refine xV λK g=>?_;simp;refine g _ _ ?_;(try simp only[xQ,reduceIte]);(refine Af ?_;(try simp only[xQ,reduceIte]);refine⟨_,_,_,am,?_,?_,a8 6 (S':=_) (by simp) (by simp) (by simp) (by simp)⟩<;>simp[Ba])
     by_cases n3:0<=t.prod;case neg=>
      rw[ao (by simp[Nf,n3])]at j;subst j;have L:t.prod<0:=by omega
      refine xS ?_;refine xD [0,2,4,6,8,10,12,14,16,18,20,22,24,26,28,30,32,34,36,38,40,42,44,46,48,50,52,54,56,58,60,62,64] (by kernel_rfl) λK g=>?_;simp;refine xZ ?_;simp[n1,n2,L];refine xM (g _ _ ?_);(try simp only[]);refine AR ?_;simp;(repeat refine xS ?_);refine xV λK g=>?_;simp;refine g _ _ ?_;(try simp only[xQ,reduceIte]);(refine Af ?_;(try simp only[xQ,reduceIte]);refine⟨_,_,_,am,?_,?_,a8 6 (S':=_) (by simp) (by simp) (by simp) (by simp)⟩<;>simp[Ba])
     have L:¬t.prod<0:=by omega
     by_cases n4:t.prod<h.AD.length;case neg=>
      rw[ao (by simp[Nf,n4])]at j;subst j;have n4':(h.AD.length:Int)<=t.prod:=by omega
      refine xS ?_;refine xD [0,2,4,6,8,10,12,14,16,18,20,22,24,26,28,30,32,34,36,38,40,42,44,46,48,50,52,54,56,58,60,62,64] (by kernel_rfl) λK g=>?_;simp;refine xZ ?_;simp[n1,n2,L,n4'];refine xM (g _ _ ?_);(try simp only[]);refine AR ?_;simp;(repeat refine xS ?_);refine xV λK g=>?_;simp;refine g _ _ ?_;(try simp only[xQ,reduceIte]);(refine Af ?_;(try simp only[xQ,reduceIte]);refine⟨_,_,_,am,?_,?_,a8 6 (S':=_) (by simp) (by simp) (by simp) (by simp)⟩<;>simp[Ba])
     obtain⟨k,A⟩:∃k:Nat,t.prod=k:=⟨t.prod.toNat,by omega⟩;have H:k<h.AD.length:=by omega
     have xk:¬h.AD.length<=k:=by omega
     have P:¬(k:Int)<0:=by omega
     have Y:h.AD.getD t.prod.toNat FV=h.AD[k]:=by rw[A];simp[H]
     have wX:=hr _ (b9 H);have a1:=wF _ (b9 H);unfold Nf at j;rw[Y]at j;generalize Z:h.AD[k]=p at *;have hep:=AH.eq_1 p;by_cases n5:p.left=s.index;case neg=>
      rw[ao (by simp[n5])]at j;subst j;refine xS ?_;refine xD [0,2,4,6,8,10,12,14,16,18,20,22,24,26,28,30,32,34,36,38,40,42,44,46,48,50,52,54,56,58,60,62,64] (by kernel_rfl) λK g=>?_;simp;refine xZ ?_;simp[n1,n2,A,P,H,xk,Z,hep];refine xM (g _ _ ?_);(try simp only[]);refine AR ?_;simp[n5];(repeat refine xS ?_);refine xV λK g=>?_;simp;refine g _ _ ?_;(try simp only[xQ,reduceIte]);(refine Af ?_;(try simp only[xQ,reduceIte]);refine⟨_,_,_,am,?_,?_,a8 6 (S':=_) (by simp) (by simp) (by simp) (by simp)⟩<;>simp[Ba])
     rw[ap (by simp[n1,n2,n3,n4,n5])]at j;refine xS ?_;refine xD [0,2,4,6,8,10,12,14,16,18,20,22,24,26,28,30,32,34,36,38,40,42,44,46,48,50,52,54,56,58,60,62,64] (by kernel_rfl) λK g=>?_;simp;refine xZ ?_;simp[n1,n2,A,P,H,xk,Z,hep,n5];refine xM (g _ _ ?_);(try simp only[xQ,reduceIte]);refine AR ?_;simp;refine CT ?_;(repeat refine xS ?_);refine xV λK g=>?_;simp[H,Z,hep];refine g _ _ ?_;(try simp only[xQ,reduceIte]);refine Bx ?_;refine DV p.right.length (λi tm S=>tm 122=.d (Az p.right)/\tm 123=.d (.int .i64 p.right.length)/\tm 124=.d (.int .i64 i)/\tm 5=.ptr 4 1 0 0/\∃z B,K0 (Hq h hs n) (p.right.drop i) z B=R/\z.length<n/\B.length=hs.length/\S=Y4 h hs z B++[.row true 2 [.d (AI s)],.row true 4 [.d (A7 t)]]) (cq _) ⟨by simp,by simp,by simp,by simp,z,B,by simpa using j,by simpa using hn,za,by simp[Y4,au,m,h1,A,n1,n2]⟩ ?_;rintro i tm S hi ⟨t122,t123,t124,t5,Q,T,N,wS,u,rfl⟩;(repeat refine xS ?_);refine xV λK g=>?_;simp[t123,t124];refine g _ _ ?_;(try simp only[xQ,reduceIte]);(repeat refine xS ?_);refine AR ?_;simp;refine⟨λvc=>?_,λvw=>?_⟩
     .rw[sw vc]at N;simp only[K0]at N;have M:=Mh h hs n p.right[i] Q T;have U:=@kz h hs n p.right[i] Q T;have xd:=ih p.right[i] Q T wS u (wX _ (b9 vc));generalize hqe:p.right[i]=q at *;generalize Hq h hs n q Q T=r at *;obtain⟨b,ts2,us2⟩:=r;simp only at M U xd N;refine CT ?_;(repeat refine xS ?_);refine Bx ?_;unfold Y4 au;(repeat refine xS ?_);refine xV λK g=>?_;simp[t122,t124,vc,hqe];refine g _ _ ?_;(try simp only[xQ,reduceIte]);(repeat refine xS ?_);refine HA λK g=>?_;refine xJ ?_;simp[t5];refine xY (xd) _ rfl rfl ?_;simp[AI];refine xJ ?_;simp;refine B6 (g _ _ ?_);(try simp only[xQ,reduceIte]);cases b with
      |false=>
       rw[ao (by simp)]at N;subst N;refine AR ?_;simp;(repeat refine xS ?_);refine xV λK g=>?_;simp;refine g _ _ ?_;(try simp only[xQ,reduceIte]);(refine Af ?_;(try simp only[xQ,reduceIte]);refine⟨_,_,_,am,?_,?_,a8 6 (S':=_) (by simp) (by simp) (by simp) (by simp[M.2])⟩<;>simp[Ba])
      |true=>
       rw[ap rfl]at N;refine AR ?_;simp;refine CT ?_;have yx:IntKind.i64.wrap ((i:Int)+1)=(i+1:Nat):=AL vc a1;(repeat refine xS ?_);refine xV λK g=>?_;simp[t124,yx];refine g _ _ ?_;(try simp only[xQ,reduceIte]);refine⟨vc,_,_,lm 8 (S':=Y4 h hs ts2 us2++[.row true 2 [.d (AI s)],.row true 4 [.d (A7 t)]]) (by simp[Y4,au,AI,M.2]) (by simp) (by simp) (by simp[Y4,au]),?_⟩;refine⟨by simp[clean,AP,t122],by simp[clean,AP,t123],by simp[clean,AP],by simp[clean,AP,t5],ts2,us2,N,by have:=U rfl;omega,by omega,rfl⟩
     .have e:i=p.right.length:=by omega
      subst e;rw[List.drop_length]at N;simp only[K0]at N;subst N;refine C7 ?_;unfold Y4 au;(repeat refine xS ?_);refine xV λK g=>?_;simp;refine g _ _ ?_;(try simp only[]);(refine Af ?_;(try simp only[xQ,reduceIte]);refine⟨_,_,_,am,?_,?_,a8 6 (S':=_) (by simp) (by simp) (by simp) (by simp)⟩<;>simp[Ba])
def Bu(g:AE)(i:Int):AO:=g.AD.getD i.toNat FV
def Ez(g:AE)(r:Rewrite):List Symbol:=
 if r.at_<0 then(Bu g r.prod).right else(Bu g r.prod).right.take r.at_.toNat++((Bu g r.child).right++(Bu g r.prod).right.drop (r.at_.toNat+1))
def H9(g:AE)(r:Rewrite):Bool:=
 if r.at_= -1 then decide (r.child= -1)else decide (0<=r.at_)&&(decide (r.at_<(Bu g r.prod).right.length)&&(decide (0<=r.child)&&(decide (r.child<g.AD.length)&&
  decide ((Bu g r.prod).right[r.at_.toNat]?=some ⟨false,(Bu g r.child).left⟩))))
def R9(g:AE)(r:Rewrite):Bool:=decide (0<=r.prod)&&(decide (r.prod<g.AD.length)&&(decide (r.A4.length<=512)&&H9 g r))
theorem Wv{g:AE}{r:Rewrite}(s:∀p∈g.AD,p.right.length<=65536)(h:R9 g r=true):∃j:Nat,∃hj:j<g.AD.length,r.prod=j/\Bu g r.prod=g.AD[j]/\r.A4.length<=512/\g.AD[j].right.length<=65536/\((r.at_= -1/\r.child= -1/\Ez g r=g.AD[j].right)\/∃a c:Nat,∃m:c<g.AD.length,∃ha:a<g.AD[j].right.length,r.at_=a/\r.child=c/\g.AD[j].right[a]=⟨false,g.AD[c].left⟩/\g.AD[c].right.length<=65536/\Ez g r=g.AD[j].right.take a++(g.AD[c].right++g.AD[j].right.drop (a+1))):=by
 simp[R9]at h;obtain⟨h1,z,w,i⟩:=h;obtain⟨j,hj⟩:∃j:Nat,r.prod=j:=⟨r.prod.toNat,by omega⟩;have o:j<g.AD.length:=by omega
 have k:Bu g r.prod=g.AD[j]:=by simp[Bu,hj,o]
 unfold H9 at i;rw[k]at i;refine⟨j,o,hj,k,w,s _ (b9 o),?_⟩;split at i
 .rename_i ha;exact .inl ⟨ha,by simpa using i,by simp[Ez,ha,k]⟩
 .simp at i;obtain⟨k1,_,k2,k3,k5⟩:=i;obtain⟨a,ha⟩:∃a:Nat,r.at_=a:=⟨r.at_.toNat,by omega⟩;obtain⟨c,m⟩:∃c:Nat,r.child=c:=⟨r.child.toNat,by omega⟩;have q:c<g.AD.length:=by omega
  have t:Bu g r.child=g.AD[c]:=by simp[Bu,m,q]
  rw[ha,t]at k5;obtain⟨u,v⟩:=df.1 k5;simp at u v;exact .inr ⟨a,c,q,u,ha,m,v,s _ (b9 q),by simp[Ez,ha,k,t];omega⟩
theorem Zw(g:AE)(r:Rewrite)(F:∀p∈g.AD,p.right.length<=65536)(h:R9 g r=true):Pure prog 167 [AA g,Ab r] (Az (Ez g r)):=by
 obtain⟨j,hj,v,-,-,L,G⟩:=Wv F h;have m:=Ab.eq_1 r;refine zP func167 35 rfl λwf=>?_;generalize w:g.AD[j]=o at *;have H:=AH.eq_1 o;apply yW;simp;(repeat apply xS);apply yV;simp[hj,v,w,H,m];rcases G with⟨ha,-,z⟩|⟨a,c,C,M,ha,E,-,N,z⟩
 .refine xS (yW ?_);simp[ha];apply AR;simp;(repeat apply xS);apply yV;simp;rw[z];refine Af ⟨_,_,am,?_⟩;try simp
 .rw[z];generalize s:g.AD[c]=q at *;have t:=AH.eq_1 q;have A:=Mo [o.right.take a,q.right,o.right.drop (a+1)] (by simp;omega);have J:[o.right.take a,q.right,o.right.drop (a+1)].flatten=o.right.take a++(q.right++o.right.drop (a+1)):=by simp
  rw[J]at A;have B:¬(a:Int)<0:=by omega
  refine xS (yW ?_);simp[ha];apply AR;simp[B];apply CT;have i:IntKind.i64.wrap ((a:Int)+1)=(a+1:Nat):=by rw[bv];omega
  have d1:a<=o.right.length:=by omega
  have u:List.take o.right.length (List.map AI o.right)=List.map AI o.right:=s9 (by simp);have K:∀k,List.take k (List.map AI o.right)=List.map AI (o.right.take k):=λk=>by rw[l5]
  have d7:(a:Int)+1<=o.right.length:=by omega
  have d9:(0:Int)<=a+1:=by omega
  have d8:a+1<=o.right.length:=by omega
  by_cases d5:a+1<o.right.length
  .skip;(repeat apply xS);refine yE [0,2,4,6,8,10,12,14,16,18,20,22,24,26,28,30,32,34,36] (by kernel_rfl) ?_;simp;apply yA 1;simp[E,s,C,t,i,al,d1,d5,d7,d9];refine go (A) rfl (by simp[u,xN]) ?_;simp[u];apply yA 1;simp;apply Af;refine⟨_,_,am,?_⟩;simp[Ba]
  .have d6:a+1=o.right.length:=by omega
   (repeat apply xS);refine yE [0,2,4,6,8,10,12,14,16,18,20,22,24,26,28,30,32,34,36] (by kernel_rfl) ?_;simp;apply yA 1;simp[E,s,C,t,i,al,d1,d6];refine go (A) rfl (by simp[d6,xN]) ?_;simp[d6];apply yA 1;simp;apply Af;refine⟨_,_,am,?_⟩;simp[Ba];omega
def QR(g h:AE)(r:Rewrite):Bool×List Cw×List Bool:=Hq h (Ez g r) (r.A4.length+1) ⟨false,(Bu g r.prod).left⟩ r.A4 (List.replicate (Ez g r).length false)
def Jw(g h:AE)(r:Rewrite):Bool:=R9 g r&&((QR g h r).1&&decide ((QR g h r).2.1.length=0))
abbrev xt:=@decide_eq_true
abbrev Pi:=@Bool.and_false
theorem Yp(g h:AE)(hg:∀p∈g.AD,p.right.length<=65536)(hr:nh h)(r:Rewrite):Pure prog 110 [AA g,AA h,Ab r] (.bool (Jw g h r)):=by
 have k:=Ab.eq_1 r;refine eJ func110 rfl rfl (by simp) λwf=>?_;have wF:∀p∈h.AD,p.right.length<=al:=by
  have:=wf.2.1;simp[DZ,Bs,Di]at this;intro p hp;exact(this.2.2.2.2.2.1.2 p hp).2.2.1.1
 rw[ntmps110];unfold Jw R9;by_cases p1:0<=r.prod;case neg=>
  have z:r.prod<0:=by omega
  apply yW;simp;refine xS (yS ?_);apply yH;simp[k,z];apply AR;simp;apply yW;simp;refine Af ⟨_,_,am,?_⟩;(try simp);simp[p1]
 by_cases p2:r.prod<g.AD.length;case neg=>
  have z:¬r.prod<0:=by omega
  have P:(g.AD.length:Int)<=r.prod:=by omega
  apply yW;simp;refine xS (yS ?_);apply yH;simp[k,z,P];apply AR;simp;apply yW;simp;refine Af ⟨_,_,am,?_⟩;(try simp);simp[p2]
 obtain⟨j,s⟩:∃j:Nat,r.prod=j:=⟨r.prod.toNat,by omega⟩;have hj:j<g.AD.length:=by omega
 have wS:¬g.AD.length<=j:=by omega
 have F:¬(j:Int)<0:=by omega
 by_cases p3:r.A4.length<=512;case neg=>
  have T:(512:Int)<r.A4.length:=by omega
  apply yW;simp;refine xS (yS ?_);apply yH;simp[k,s,wS,F,T];apply AR;simp[s];apply yW;simp;refine Af ⟨_,_,am,?_⟩;(try simp);simp[p3]
 have yj:¬(512:Int)<r.A4.length:=by omega
 have U:Bu g r.prod=g.AD[j]:=by simp[Bu,s,hj]
 have G:(decide (0<=r.prod)&&(decide (r.prod<g.AD.length)&&(decide (r.A4.length<=512)&&H9 g r)))=H9 g r:=by simp[p1,p2,p3]
 rw[G];have J:H9 g r=true->_:=λh=>Zw g r hg (by rw[R9,G];exact h);have K:H9 g r=true->(Ez g r).length<=1073741823:=λh=>by
  obtain⟨j',xe,_,_,_,_,h6⟩:=Wv hg (r:=r) (by rw[R9,G];exact h);rcases h6 with⟨_,_,hh⟩|⟨a,c,A,ha,_,_,_,wZ,hh⟩
  .rw[hh];have:=hg _ (b9 xe);omega
  .rw[hh];have:=hg _ (b9 xe);simp;omega
 have u:=j5 h (Ez g r) hr wF (r.A4.length+1) ⟨false,(Bu g r.prod).left⟩ r.A4 (List.replicate (Ez g r).length false) (by omega) (by simp) (by simp[oB]);have zM:=Mh h (Ez g r) (r.A4.length+1) ⟨false,(Bu g r.prod).left⟩ r.A4 (List.replicate (Ez g r).length false);change AG _ _ _ _ (.d (.bool (QR g h r).1)) (Y4 h (Ez g r) (QR g h r).2.1 (QR g h r).2.2)at u;change (QR g h r).2.1.length<=_/\(QR g h r).2.2.length=_ at zM;generalize QR g h r=Q at *;obtain⟨qb,qt,qu⟩:=Q;simp only at u zM⊢;rw[U]at u;obtain⟨cb,N⟩:=a9 (H9 g r);have m:=N;unfold H9 at m;rw[U]at m;rw[N];rw[N]at J K;clear G;generalize Ez g r=H at *;generalize hpj:g.AD[j]=o at *;have B:=AH.eq_1 o;unfold Y4 au at u;have W:=u.Fm (args':=[.agg [.d (.bool false),.d (.int .i64 o.left)],.ptr 0 1 0 0,.ptr 1 1 0 0,.ptr 2 1 0 0,.ptr 3 1 0 0,.ptr 4 1 0 0]) rfl λi h h'=>by
  match i,h with
  |0,_=>exact .inr ⟨AI ⟨false,o.left⟩,by simp[Ba,AI],rfl⟩
  |1,_=>exact .inl rfl
  |2,_=>exact .inl rfl
  |3,_=>exact .inl rfl
  |4,_=>exact .inl rfl
  |5,_=>exact .inl rfl
 clear u;apply yW;simp;refine xS (yS ?_);apply yH;simp[k,s,wS,yj,F];apply AR;simp;apply xK;apply yW;simp[hj,hpj,B];refine AW.Ju (R:=λtm S=>cb=true/\tm 3=.ptr 0 1 0 0/\tm 4=.ptr 1 1 0 0/\tm 5=.ptr 2 1 0 0/\tm 7=.ptr 3 1 0 0/\S=[.row true 9 [.d (AA g)],.row true 9 [.d (AA h)],.row true 4 [.d (Ab r)],.row true 13 [.d (AH o)]]) ?_ ?_
 .by_cases v:r.at_= -1
  .rw[ap v]at m;by_cases L:r.child= -1;case neg=>
    rw[zw L]at m;subst m;apply Bx;apply yW;simp[v];apply AR;simp[k,v];apply yW;simp;apply AR;simp[L];apply yW;simp;refine Af ⟨_,_,am,?_⟩;try simp
   rw[xt L]at m;subst m;apply Bx;apply yW;simp[v,L];apply AR;simp[k,v,L];apply yW;simp;apply AR;simp;apply CT;exact⟨_,_,am,by simp,by simp,by simp,by simp,by simp[B,s]⟩
  rw[ao v]at m;by_cases b1:0<=r.at_;case neg=>
   have C:r.at_<0:=by omega
   rw[zw b1,yB]at m;subst m;apply Bx;apply yW;simp;apply AR;simp[k,v];apply yS;apply yH;simp[C];apply AR;simp;apply yW;simp;refine Af ⟨_,_,am,?_⟩;try simp
  by_cases b2:r.at_<o.right.length;case neg=>
   have C:¬r.at_<0:=by omega
   have X:(o.right.length:Int)<=r.at_:=by omega
   rw[zw b2,yB,Pi]at m;subst m;apply Bx;apply yW;simp;apply AR;simp[k,v];apply yS;apply yH;simp[C,X];apply AR;simp;apply yW;simp;refine Af ⟨_,_,am,?_⟩;try simp
  obtain⟨a,ha⟩:∃a:Nat,r.at_=a:=⟨r.at_.toNat,by omega⟩;have w:¬(a:Int)= -1:=by omega
  have m2:¬(a:Int)<0:=by omega
  have M:¬o.right.length<=a:=by omega
  have xw:a<o.right.length:=by omega
  by_cases b3:0<=r.child;case neg=>
   have E:r.child<0:=by omega
   rw[zw b3,yB,Pi,Pi]at m;subst m;apply Bx;apply yW;simp[ha];apply AR;simp[k,ha,w];apply yS;apply yH;simp[m2,M,E];apply AR;simp;apply yW;simp;refine Af ⟨_,_,am,?_⟩;try simp
  by_cases b4:r.child<g.AD.length;case neg=>
   have E:¬r.child<0:=by omega
   have Y:(g.AD.length:Int)<=r.child:=by omega
   rw[zw b4,yB,Pi,Pi,Pi]at m;subst m;apply Bx;apply yW;simp[ha];apply AR;simp[k,ha,w];apply yS;apply yH;simp[m2,M,E,Y];apply AR;simp;apply yW;simp;refine Af ⟨_,_,am,?_⟩;try simp
  obtain⟨c,A⟩:∃c:Nat,r.child=c:=⟨r.child.toNat,by omega⟩;have m4:¬(c:Int)<0:=by omega
  have m5:¬g.AD.length<=c:=by omega
  have xd:c<g.AD.length:=by omega
  rw[xt b1,xt b2,xt b3,xt b4,q6,q6,q6,q6,ha,A]at m;have Z:Bu g (c:Int)=g.AD[c]:=by simp[Bu,xd]
  rw[Z]at m;generalize hpc:g.AD[c]=q at *;have heq:=AH.eq_1 q;have t:decide (o.right[a]=⟨false,q.left⟩)=cb:=by
   rw[<-m];simp[xw]
  generalize ye:o.right[a]=y at *;have hey:=AI.eq_1 y;by_cases b5:y=⟨false,q.left⟩;case neg=>
   rw[zw b5]at t;subst t;have b5':¬(y.token=false/\y.index=q.left):=λ⟨z1,z2⟩=>b5 (by cases y;simp only at z1 z2;subst z1;subst z2;rfl);apply Bx;apply yW;simp[ha,A];apply AR;simp[k,ha,A,w];apply yS;apply yH;simp[m2,M,m4,m5];apply AR;simp;refine yD [0,2,4,6,8,10,12,14,16,18,20,22,24,26,28,30] (by kernel_rfl) ?_;simp;apply yZ;simp[xw,ye,xd,hpc,heq,hey,Cg,De];apply AR;simp[b5'];refine λ_=>?_;apply yW;simp;refine Af ⟨_,_,am,?_⟩;try simp
  rw[xt b5]at t;subst t;subst b5;apply Bx;apply yW;simp[ha,A];apply AR;simp[k,ha,A,w];apply yS;apply yH;simp[m2,M,m4,m5];apply AR;simp;refine yD [0,2,4,6,8,10,12,14,16,18,20,22,24,26,28,30] (by kernel_rfl) ?_;simp;apply yZ;simp[xw,ye,xd,hpc,heq,AI,Cg,De];apply AR;simp;apply CT;exact⟨_,_,am,by simp,by simp,by simp,by simp,by simp[B,s]⟩
 rintro tm S ⟨hct,t3,t4,t5,t7,rfl⟩;subst hct;have K:=K rfl;have J:=J rfl;(repeat apply xS);apply yT;apply yJ;simp[t3,t5];refine B9 (J) rfl (by simp[xN]) (yJ ?_);simp;have hH2:(H.length:Int)<=1073741824:=by omega
 apply yW;simp[hH2];apply yW;simp[t5,k];apply yW;simp;apply yW;simp[t4];(repeat apply xS);apply yT;apply yJ;simp[t7,B];refine xF (W) [7,4,6,1,8,5] rfl ?_;simp;cases qb with
 |false=>
  apply yH;simp;apply zT;try simp
 |true=>
  apply yH;simp;apply zT;(try simp);cases qt<;>simp<;>omega
def TC(p i q:Int)(x:Rewrite):Bool:=x.prod==p&&(x.at_==i&&(decide (i<0)||x.child==q))
def V5(m:List Rewrite)(p:Int):Sg:=[.row true 1 [.d (A8 m)],.row true 1 [.d (AF p)]]
def ib(m:List Rewrite)(p i q:Int):Sg:=V5 m p++[.row true 1 [.d (AF i)],.row true 1 [.d (AF q)]]
theorem nk(m:List Rewrite)(p i q:Int)(x:Rewrite):AG prog 172 [.d (Ab x),.ptr 1 1 0 0,.ptr 2 1 0 0,.ptr 3 1 0 0] (ib m p i q) (.d (.bool (TC p i q x))) (ib m p i q):=by
 have g:=Ab.eq_1 x;unfold ib V5 TC;refine zD func172 26 rfl λwf _=>?_;by_cases h:x.prod=p
 .by_cases j:x.at_=i
  .by_cases k:i<0
   .skip;apply yW;simp[g,h,j];(repeat apply xS);apply yV;simp[k];(apply Af;refine⟨_,_,_,am,?_,?_,a8 4 (by simp) (by simp) (by simp) (by simp)⟩<;>simp[Ba,h,j,k])
   .skip;apply yW;simp[g,h,j];(repeat apply xS);apply yV;simp[k];(apply Af;refine⟨_,_,_,am,?_,?_,a8 4 (by simp) (by simp) (by simp) (by simp)⟩<;>simp[Ba,h,j,k])
  .skip;apply yW;simp[g,h];(repeat apply xS);apply yV;simp[j];(apply Af;refine⟨_,_,_,am,?_,?_,a8 4 (by simp) (by simp) (by simp) (by simp)⟩<;>simp[Ba,h])
 .skip;apply yW;simp[g];(repeat apply xS);apply yV;simp[h];(apply Af;refine⟨_,_,_,am,?_,?_,a8 4 (by simp) (by simp) (by simp) (by simp)⟩<;>simp[Ba,adq])
theorem fk(m:List Rewrite)(p i q:Int):AG prog 170 [.d (AF i),.d (AF q),.ptr 0 1 0 0,.ptr 1 1 0 0] (V5 m p) (.d (.bool (m.any (TC p i q)))) (V5 m p):=by
 have g:=Jx m (TC p i q) 172 [.ptr 1 1 0 0,.ptr 2 1 0 0,.ptr 3 1 0 0] (ib m p i q) (λx _=>nk m p i q x);unfold ib V5 at g;unfold V5;refine zD func170 10 rfl λwf _=>?_;apply yW;simp;(repeat apply xS);apply yT;apply yJ;simp;refine gl rfl rfl (by simp) (f:=171) (args:=[.d (.sl (m.map Ab)),.fn (.func 172) [] [.ptr 1 1 0 0,.ptr 2 1 0 0,.ptr 3 1 0 0]]) (by simp[callee];try rfl) (by simp) g (yJ ?_);simp;(apply Af;refine⟨_,_,_,am,?_,?_,a8 2 (by simp) (by simp) (by simp) (by simp)⟩<;>simp[Ba])
def QT(g:AE)(m:List Rewrite)(p i:Int)(s:Symbol)(k:Nat):Bool:=(List.range k).all λq=>!decide ((g.AD.getD q FV).left=s.index)||m.any (TC p i q)
theorem YA(g:AE)(m:List Rewrite)(p i:Int)(s:Symbol)(k:Nat):QT g m p i s (k+1)=(QT g m p i s k&&(!decide ((g.AD.getD k FV).left=s.index)||m.any (TC p i k))):=by
 simp[QT,acL]
def ka(g:AE)(m:List Rewrite)(j i:Nat):Bool:=!((g.AD.getD j FV).right.getD i ⟨true,0⟩).token&&QT g m j i ((g.AD.getD j FV).right.getD i ⟨true,0⟩) g.AD.length
def Om(g:AE)(m:List Rewrite)(j:Nat):Bool:=m.any (TC j (-1) 0)||(List.range (g.AD.getD j FV).right.length).any λi=>ka g m j i
theorem YJ(g:AE)(m:List Rewrite)(j:Nat)(hj:j<g.AD.length)(W:(g.AD.getD j FV).right.length<=2 ^ 20):Pure prog 112 [AA g,A8 m,AF j] (.bool (Om g m j)):=by
 have h0:=fk m j (-1) 0;have P:=λ(i q:Nat)=>fk m j i q;unfold V5 at h0 P;have ti:∀i,ka g m j i=(!((g.AD.getD j FV).right.getD i ⟨true,0⟩).token&&QT g m j i ((g.AD.getD j FV).right.getD i ⟨true,0⟩) g.AD.length):=λi=>rfl;have X:g.AD.getD j FV=g.AD[j]:=by simp[hj]
 obtain⟨Q,hb⟩:=a9 (Om g m j);rw[hb];unfold Om at hb;rw[X]at hb ti W;refine eJ func112 (by kernel_rfl) rfl (by simp) λwf=>?_;have G:g.AD.length<=al:=by have:=wf.1;simp[DZ,Bs]at this;exact this.2.2.2.2.2.1.1
 have T:g.AD[j].right.length<=al:=by unfold al;omega
 clear wf;generalize H:g.AD[j]=o at *;have Y:=AH.eq_1 o;rw[ntmps112];refine xW λK h=>?_;simp;apply h;refine xW λK h=>?_;simp;apply h;refine xS (FX λK h=>?_);refine xJ ?_;simp;refine xF (h0) [1,2] rfl ?_;simp;refine xJ ?_;simp;refine B6 (h _ _ ?_);(try simp only[xQ,reduceIte]);cases F:m.any (TC j (-1) 0)with
 |true=>
  rw[F,Bool.true_or]at hb;subst hb;refine AR ?_;simp;refine xW λK h=>?_;simp;apply h;refine Af ⟨_,_,am,?_⟩;try simp
 |false=>
  rw[F,adH]at hb;refine AR ?_;simp;refine xK ?_;refine xS (xW λK h=>?_);simp[hj,H,Y];apply h;refine Bx ?_;refine DV o.right.length (λi tm S=>tm 3=.ptr 0 1 0 0/\tm 7=.fn (.func 170) [] [.ptr 1 1 0 0,.ptr 2 1 0 0]/\tm 20=.d (Az o.right)/\tm 21=.d (.int .i64 o.right.length)/\tm 22=.d (.int .i64 i)/\(∀k,k<i->ka g m j k=false)/\S=[.row true 9 [.d (AA g)],.row true 1 [.d (A8 m)],.row true 1 [.d (AF j)]]) (cq _) (by simp) ?_;rintro i tm S hi ⟨t3,t7,t20,t21,t22,J,rfl⟩;refine xW λK h=>?_;simp[t21,t22];apply h;refine xC ?_;simp;refine⟨λB=>?_,λvw=>?_⟩
  .have v:=ti i;have Z:o.right.getD i ⟨true,0⟩=o.right[i]:=by simp[B]
   rw[Z]at v;generalize hs:o.right[i]=s at *;have A:=AI.eq_1 s;refine xK ?_;refine xB ?_;refine xW λK h=>?_;simp[t20,t22,B,hs,A];apply h;refine xS (xW λK h=>?_);simp;apply h;cases E:s.token with
   |true=>
    rw[E]at v;refine AR ?_;simp;refine C7 ?_;refine xV λK h=>?_;simp[t22];apply h;refine⟨B,_,_,lm 3 (S':=[.row true 9 [.d (AA g)],.row true 1 [.d (A8 m)],.row true 1 [.d (AF j)]]) rfl (by simp) (by simp) (by simp),?_⟩;simp[clean,AP,Aw,t3,t7,t20,t21,AL B T];intro k hk;by_cases e:k=i
    .subst e;simpa using v
    .exact J k (by omega)
   |false=>
    rw[E]at v;refine AR ?_;simp;refine xK ?_;refine xW λK h=>?_;simp;apply h;refine k7 (R:=λtm S=>tm 3=.ptr 0 1 0 0/\tm 7=.fn (.func 170) [] [.ptr 1 1 0 0,.ptr 2 1 0 0]/\tm 10=.d (.bool (QT g m j i s g.AD.length))/\tm 20=.d (Az o.right)/\tm 21=.d (.int .i64 o.right.length)/\tm 22=.d (.int .i64 i)/\S=[.row true 9 [.d (AA g)],.row true 1 [.d (A8 m)],.row true 1 [.d (AF j)],.row true 2 [.d (AI s)]]) ?_ ?_
    .refine xW λK h=>?_;simp[t3];apply h;refine Bx ?_;refine DV g.AD.length (λq tm S=>tm 3=.ptr 0 1 0 0/\tm 7=.fn (.func 170) [] [.ptr 1 1 0 0,.ptr 2 1 0 0]/\tm 8=.d (.int .i64 i)/\tm 9=.ptr 3 1 0 0/\tm 10=.d (.bool (QT g m j i s q))/\tm 20=.d (Az o.right)/\tm 21=.d (.int .i64 o.right.length)/\tm 22=.d (.int .i64 i)/\tm 31=.d (.int .i64 g.AD.length)/\tm 32=.d (.int .i64 q)/\S=[.row true 9 [.d (AA g)],.row true 1 [.d (A8 m)],.row true 1 [.d (AF j)],.row true 2 [.d (AI s)]]) (cq _) (by simp[t3,t7,t20,t21,t22,A,E,QT]) ?_;rintro q tm S hqi ⟨t3,t7,t8,t9,t10,t20,t21,t22,t31,t32,rfl⟩;refine xW λK h=>?_;simp[t31,t32];apply h;refine xC ?_;simp;refine⟨λt=>?_,λhgq=>?_⟩
     .have C:=YA g m j i s q;have eq:g.AD.getD q FV=g.AD[q]:=by simp[t]
      rw[eq]at C;generalize w:g.AD[q]=u at *;have z:=AH.eq_1 u;have L:=P i q;refine xK ?_;refine xB ?_;(repeat refine xS ?_);refine xV λK h=>?_;simp[t32];refine h _ _ ?_;(try simp only[xQ,reduceIte]);cases ha:QT g m j i s q with
      |false=>
       rw[ha]at t10 C;refine xE [0,2,4,6,8,10,12,14,16,18,20,22,24,26,28,30,32,34,36] (by kernel_rfl) λK h=>?_;simp;refine xZ ?_;simp[t10];refine xM (h _ _ ?_);refine xV λK h=>?_;simp[t32];apply h;refine⟨t,_,_,am,?_⟩;simp[t3,t7,t8,t9,t20,t21,t22,t31,C,AL t G]
      |true=>
       rw[ha]at t10 C;by_cases e:u.left=s.index
       .refine xE [0,2,4,6,8,10,12,14,16,18,20,22,24,26,28,30,32,34,36] (by kernel_rfl) λK h=>?_;simp;refine xZ ?_;simp[t3,t9,t10,t,w,z,A,e,t7,t8];refine Ag.X1 L [1,2] rfl rfl (by simp;try rfl) ?_;simp;refine xZ ?_;simp;refine xM (h _ _ ?_);refine xV λK h=>?_;simp[t32];apply h;refine⟨t,_,_,am,?_⟩;simp[t3,t7,t8,t9,t20,t21,t22,t31,C,e,A,AL t G]
       ·(repeat refine xS ?_);refine xE [0,2,4,6,8,10,12,14,16,18,20,22,24,26,28,30,32,34,36] (by kernel_rfl) λK h=>?_;simp;(repeat((first|refine Pv rfl rfl ?_ ?_;(·simp[e])|refine gX rfl rfl ?_ ?_;(·simp[t3,t9,t,w,z,e])|refine Hz ?_ ?_;(·simp[A]));simp[t3,t9,t10,t,w,z,A]));refine xM (h _ _ ?_);(try simp only[C4,BW]);refine xV λK h=>?_;simp[t32];apply h;refine⟨t,_,_,am,?_⟩;simp[t3,t7,t8,t9,t20,t21,t22,t31,C,e,A,AL t G]
     .have e:q=g.AD.length:=by omega
      subst e;refine C7 ?_;simp[t3,t7,t10,t20,t21,t22]
    rintro tm S ⟨t3,t7,t10,t20,t21,t22,rfl⟩;(repeat refine xS ?_);refine xV λK h=>?_;simp[t10];refine h _ _ ?_;(try simp only[xQ,reduceIte]);cases ha:QT g m j i s g.AD.length with
    |true=>
     rw[ha]at v;have M:Q=true:=by
      rw[<-hb,zv];exact⟨i,pm.2 B,by simpa using v⟩
     subst M;refine AR ?_;simp;refine xW λK h=>?_;simp;apply h;refine Af ⟨_,_,am,?_⟩;try simp
    |false=>
     rw[ha]at v;refine AR ?_;simp;refine CT ?_;refine xV λK h=>?_;simp[t22];apply h;refine⟨B,_,_,lm 3 (S':=[.row true 9 [.d (AA g)],.row true 1 [.d (A8 m)],.row true 1 [.d (AF j)]]) rfl (by simp) (by simp) (by simp),?_⟩;simp[clean,AP,Aw,t3,t7,t20,t21,AL B T];intro k hk;by_cases e:k=i
     .subst e;simpa using v
     .exact J k (by omega)
  .have e:i=o.right.length:=by omega
   subst e;have N:Q=false:=by
    rw[<-hb];cases hx:(List.range o.right.length).any λi=>ka g m j i with
    |false=>rfl
    |true=>
     obtain⟨i0,h1,U⟩:=zv.1 hx;rw[J i0 (pm.1 h1)]at U;cases U
   subst N;refine C7 ?_;refine xW λK h=>?_;simp;apply h;refine Af ⟨_,_,am,?_⟩;try simp
def okF(g:AE):Prop:=C2 g=0/\¬Sc g
theorem Du{g:AE}:NY g=0↔okF g:=by
 unfold NY pE okF;by_cases h1:C2 g=0
 .rw[ao (by simpa using h1)];by_cases h:Sc g
  .rw[ap h];simp[h1,h]
  .rw[ao h];simp[h1,h]
 .rw[ap h1];simp[h1]
theorem Is(g:AE)(hn:g.conds.length<=12):Pure prog 21 [AA g] (AF (NY g)):=
 BP.pc ((SX g hn).mono λ_ _ h=>⟨h.2,h.1⟩)
theorem kf{g:AE}(h:C2 g=0):nh g:=λp j q k m=>by
 have h1:=ld h p j q k;unfold F4 at h1;rw[ap m]at h1;simp at h1;obtain⟨h1,i⟩:=h1;split at i
 .rename_i t o;have:=(df.1 o).1;exact⟨h1,by omega⟩
 .cases i
def JN(g h:AE)(p:Nat):Bool:=decide (p<h.AD.length)&&(decide ((h.AD.getD p FV).left=(g.AD.getD p FV).left)&&decide ((h.AD.getD p FV).right=(g.AD.getD p FV).right))
noncomputable def S5(g h:AE)(m:List Rewrite):Int:=
 if NY g≠0 then NY g else if NY h≠0 then NY h else if h.Ae.length<g.Ae.length\/h.A2.length<g.A2.length then 92
 else if m.all (Jw g h)=true/\((List.range g.AD.length).all λp=>JN g h p||Om g m p)=true then 0 else 92
theorem Mb(g h:AE)(m:List Rewrite)(hg:g.conds.length<=12)(hh:h.conds.length<=12):Pure prog 25 [AA g,AA h,A8 m] (AF (S5 g h m)):=by
 have fg:=Is g hg;have fh:=Is h hh;have T:NY g=0->C2 g=0:=λe=>(Du.1 e).1;have U:NY h=0->C2 h=0:=λe=>(Du.1 e).1;obtain⟨E,q⟩:=a9 (S5 g h m);rw[q];unfold S5 at q;generalize NY g=W at *;generalize NY h=X at *;refine AG.CJ func25 (by kernel_rfl) rfl (by simp) λwf _=>?_;have P:g.AD.length<=al:=by have:=wf.1;simp[JQ,DZ,Bs]at this;exact this.2.2.2.2.2.1.1
 have a2:m.length<=al:=by have:=wf.2.2.1;simp[JQ,DZ]at this;exact this.1
 clear wf;have z1:IntKind.i64.wrap 1=1:=by decide
 have z2:IntKind.i64.wrap 2=2:=by decide
 rw[ntmps25];refine xW λK j=>?_;simp;apply j;refine k7 (R:=λtm S=>tm 2=.d (A8 m)/\tm 3=.ptr 0 1 0 0/\tm 4=.ptr 1 1 0 0/\W=0/\X=0/\S=[.row true 9 [.d (AA g)],.row true 9 [.d (AA h)]]) ?_ ?_
 .refine xW λK j=>?_;simp[al];apply j;refine Bx ?_;refine DV 2 (λi tm S=>tm 2=.d (A8 m)/\tm 3=.ptr 0 1 0 0/\tm 4=.ptr 1 1 0 0/\tm 16=.full [AA g,AA h]/\tm 17=.d (.int .i64 2)/\tm 18=.d (.int .i64 i)/\(i≠0->W=0)/\(i=2->X=0)/\S=[.row true 9 [.d (AA g)],.row true 9 [.d (AA h)]]) (cq _) (by simp) ?_;rintro i tm S hi ⟨t2,t3,t4,t16,t17,t18,Y,g2,rfl⟩;have h3:i=0\/i=1\/i=2:=by omega
  rcases h3 with rfl|rfl|rfl
  .refine xW λK j=>?_;simp[t17,t18];apply j;refine xC ?_;simp;refine xK ?_;refine xB ?_;refine xW λK j=>?_;simp[t16,t18];apply j;(repeat refine xS ?_);refine HA λK j=>?_;refine xJ ?_;simp;refine B9 (fg) rfl (by simp[xN]) ?_;simp;refine xJ ?_;simp;refine B6 (j _ _ ?_);(try simp only[xQ,reduceIte]);by_cases w:W=0
   .refine xW λK j=>?_;simp[w];apply j;refine AR ?_;simp[w];refine CT ?_;refine xV λK j=>?_;simp[t18];apply j;refine⟨_,_,lm 2 (S':=[.row true 9 [.d (AA g)],.row true 9 [.d (AA h)]]) rfl (by simp) (by simp) (by simp),?_⟩;simp[clean,AP,t2,t3,t4,t16,t17,z1]
   .refine xW λK j=>?_;simp;apply j;refine AR ?_;simp[w];rw[ap w]at q;subst q;refine xW λK j=>?_;simp;apply j;(refine Af ?_;(try simp only[xQ,reduceIte]);refine⟨_,_,_,am,?_,?_,a8 0 (S':=[]) rfl (by simp) (by simp) (by simp)⟩<;>simp[Ba])
  .refine xW λK j=>?_;simp[t17,t18];apply j;refine xC ?_;simp;refine xK ?_;refine xB ?_;refine xW λK j=>?_;simp[t16,t18];apply j;(repeat refine xS ?_);refine HA λK j=>?_;refine xJ ?_;simp;refine B9 (fh) rfl (by simp[xN]) ?_;simp;refine xJ ?_;simp;refine B6 (j _ _ ?_);(try simp only[xQ,reduceIte]);by_cases w:X=0
   .refine xW λK j=>?_;simp[w];apply j;refine AR ?_;simp[w];refine CT ?_;refine xV λK j=>?_;simp[t18];apply j;refine⟨_,_,lm 2 (S':=[.row true 9 [.d (AA g)],.row true 9 [.d (AA h)]]) rfl (by simp) (by simp) (by simp),?_⟩;simp[clean,AP,t2,t3,t4,t16,t17,z2,Y (by decide)]
   .refine xW λK j=>?_;simp;apply j;refine AR ?_;simp[w];rw[ao (by simpa using Y (by decide)),ap w]at q;subst q;refine xW λK j=>?_;simp;apply j;(refine Af ?_;(try simp only[xQ,reduceIte]);refine⟨_,_,_,am,?_,?_,a8 0 (S':=[]) rfl (by simp) (by simp) (by simp)⟩<;>simp[Ba])
  .refine xW λK j=>?_;simp[t17,t18];apply j;refine xC ?_;simp;refine C7 ?_;simp[t2,t3,t4,Y (by decide),g2 rfl]
 rintro tm S ⟨t2,t3,t4,rfl,rfl,rfl⟩;rw[ao (by simp),ao (by simp)]at q;have Z:=T rfl;have hh0:=U rfl;have M:=DH Z;have hs:=Yp g h (λp F=>by have:=M p F;omega) (kf hh0);have F:∀p,p<g.AD.length->_:=λp F=>YJ g m p F (by
  have:=M _ (b9 F);simp[F];omega)
 by_cases c1:h.Ae.length<g.Ae.length;case pos=>
  rw[ap (.inl c1)]at q;subst q;have u:(h.Ae.length:Int)<g.Ae.length:=by omega
  refine xS (FX λK j=>?_);refine xH ?_;simp[t3,t4,u];refine B6 (j _ _ ?_);(try simp only[xQ,reduceIte]);refine AR ?_;simp;(repeat refine xS ?_);refine xV λK j=>?_;simp;refine j _ _ ?_;(try simp only[xQ,reduceIte]);(refine Af ?_;(try simp only[xQ,reduceIte]);refine⟨_,_,_,am,?_,?_,a8 0 (S':=[]) rfl (by simp) (by simp) (by simp)⟩<;>simp[Ba])
 have u:¬(h.Ae.length:Int)<g.Ae.length:=by omega
 by_cases N:h.A2.length<g.A2.length;case pos=>
  rw[ap (.inr N)]at q;subst q;have A:(h.A2.length:Int)<g.A2.length:=by omega
  refine xS (FX λK j=>?_);refine xH ?_;simp[t3,t4,u,A];refine B6 (j _ _ ?_);(try simp only[xQ,reduceIte]);refine AR ?_;simp;(repeat refine xS ?_);refine xV λK j=>?_;simp;refine j _ _ ?_;(try simp only[xQ,reduceIte]);(refine Af ?_;(try simp only[xQ,reduceIte]);refine⟨_,_,_,am,?_,?_,a8 0 (S':=[]) rfl (by simp) (by simp) (by simp)⟩<;>simp[Ba])
 have A:¬(h.A2.length:Int)<g.A2.length:=by omega
 rw[ao (by omega)]at q;refine xS (FX λK j=>?_);refine xH ?_;simp[t3,t4,u,A];refine B6 (j _ _ ?_);(try simp only[xQ,reduceIte]);refine AR ?_;simp;refine xK ?_;refine k7 (R:=λtm S=>tm 2=.d (A8 m)/\tm 3=.ptr 0 1 0 0/\tm 4=.ptr 1 1 0 0/\(∀x∈m,Jw g h x=true)/\S=[.row true 9 [.d (AA g)],.row true 9 [.d (AA h)]]) ?_ ?_
 .refine xW λK j=>?_;simp[t2];apply j;refine Bx ?_;refine DV m.length (λi tm S=>tm 2=.d (A8 m)/\tm 3=.ptr 0 1 0 0/\tm 4=.ptr 1 1 0 0/\tm 44=.d (A8 m)/\tm 45=.d (.int .i64 m.length)/\tm 46=.d (.int .i64 i)/\(∀x∈m.take i,Jw g h x=true)/\S=[.row true 9 [.d (AA g)],.row true 9 [.d (AA h)]]) (cq _) (by simp[t2,t3,t4]) ?_;rintro i tm S hi ⟨t2,t3,t4,t44,t45,t46,L,rfl⟩;refine xW λK j=>?_;simp[t45,t46];apply j;refine xC ?_;simp;refine⟨λs=>?_,λvw=>?_⟩
  .have hsx:=hs m[i];have we:=pe s;have wV:=b9 s;generalize hx:m[i]=x at *;have vf:=Ab.eq_1 x;refine xK ?_;refine xB ?_;refine xW λK j=>?_;simp[t44,t46,s,hx,vf];apply j;refine FX λK j=>?_;refine xJ ?_;simp[t3,t4];refine B9 (hsx) rfl (by simp[xN]) ?_;simp;refine xJ ?_;simp;refine B6 (j _ _ ?_);cases G:Jw g h x with
   |false=>
    rw[ao (λhc=>by have:=cl.1 hc.1 x wV;rw[G]at this;cases this)]at q;subst q;refine AR ?_;simp;(repeat refine xS ?_);refine xV λK j=>?_;simp;refine j _ _ ?_;(try simp only[xQ,reduceIte]);(refine Af ?_;(try simp only[xQ,reduceIte]);refine⟨_,_,_,am,?_,?_,a8 0 (S':=[]) rfl (by simp) (by simp) (by simp)⟩<;>simp[Ba])
   |true=>
    refine AR ?_;simp;refine CT ?_;refine xV λK j=>?_;simp[t46];apply j;refine⟨s,_,_,lm 2 (S':=[.row true 9 [.d (AA g)],.row true 9 [.d (AA h)]]) rfl (by simp) (by simp) (by simp),?_⟩;refine⟨by simp[clean,AP,t2],by simp[clean,AP,t3],by simp[clean,AP,t4],by simp[clean,AP,t44],by simp[clean,AP,t45],by simp[clean,AP,AL s a2],?_,rfl⟩;intro y t;rw[we]at t;rcases dl.1 t with t|t
    .exact L y t
    .rw[cR.1 t];exact G
  .have e:i=m.length:=by omega
   subst e;rw[ne]at L;refine C7 ?_;(try simp only[C4,BW,reduceIte]);exact⟨t2,t3,t4,L,trivial⟩
 rintro tm S ⟨t2,t3,t4,hms,rfl⟩;refine k7 (R:=λtm S=>∀p,p<g.AD.length->JN g h p=true\/Om g m p=true) ?_ ?_
 .refine xW λK j=>?_;simp[t3];apply j;refine Bx ?_;refine DV g.AD.length (λi tm S=>tm 2=.d (A8 m)/\tm 3=.ptr 0 1 0 0/\tm 4=.ptr 1 1 0 0/\tm 57=.d (Co g.AD)/\tm 58=.d (.int .i64 g.AD.length)/\tm 59=.d (.int .i64 i)/\(∀p,p<i->JN g h p=true\/Om g m p=true)/\S=[.row true 9 [.d (AA g)],.row true 9 [.d (AA h)]]) (cq _) (by simp[t2,t3,t4]) ?_;rintro i tm S hi ⟨t2,t3,t4,t57,t58,t59,L,rfl⟩;refine xW λK j=>?_;simp[t58,t59];apply j;refine xC ?_;simp;refine⟨λs=>?_,λvw=>?_⟩
  .have J:=F i s;have B:JN g h i=_:=JN.eq_1 g h i;have hgi:g.AD.getD i FV=g.AD[i]:=by simp[s]
   rw[hgi]at B;have o:(JN g h i=true\/Om g m i=true)->∀p,p<i+1->JN g h p=true\/Om g m p=true:=λhb p F=>by
    by_cases e:p=i
    .subst e;exact hb
    .exact L p (by omega)
   have vR:(JN g h i||Om g m i)=false->E=92:=λhb=>by
    rw[ao (λhc=>by have:=cl.1 hc.2 i (pm.2 s);rw[hb]at this;cases this)]at q;exact q.symm
   refine xK ?_;refine xB ?_;generalize hx:g.AD[i]=x at *;have vf:=AH.eq_1 x;generalize JN g h i=sb at *;generalize Om g m i=tb at *;(repeat refine xS ?_);refine xV λK j=>?_;simp[t57,t59,s,hx,vf];refine j _ _ ?_;(try simp only[xQ,reduceIte]);by_cases v:i<h.AD.length
   .have k:(i:Int)<h.AD.length:=by omega
    have y7:h.AD.getD i FV=h.AD[i]:=by simp[v]
    rw[y7,xt v,q6]at B;generalize t:h.AD[i]=y at *;have H:=AH.eq_1 y;by_cases z:y.left=x.left
    .have heq:=SN y.right x.right;rw[xt z,q6]at B;refine xS ?_;refine xD [0,2,4,6,8,10,12,14,16,18,20,22,24,26,28,30,32,34,36,38,40,42,44,46,48,50,52] (by kernel_rfl) λK j=>?_;simp;refine xZ ?_;simp[t4,v,k,t,H,z];refine Ag.EU (ds:=[Az y.right,Az x.right]) rfl rfl (by simp;rfl) (λ_=>heq) (by simp[xN]) ?_;simp;refine xZ ?_;simp;refine xM (j _ _ ?_);(try simp only[xQ,reduceIte]);by_cases Q:y.right=x.right
     .rw[xt Q]at B;subst B;refine AR ?_;simp[Q];refine C7 ?_;refine xV λK j=>?_;simp[t59];apply j;refine⟨s,_,_,lm 2 (S':=[.row true 9 [.d (AA g)],.row true 9 [.d (AA h)]]) rfl (by simp) (by simp) (by simp),?_⟩;exact⟨by simp[clean,AP,t2],by simp[clean,AP,t3],by simp[clean,AP,t4],by simp[clean,AP,t57],by simp[clean,AP,t58],by simp[clean,AP,AL s P],o (by simp),rfl⟩
     .rw[zw Q]at B;subst B;refine AR ?_;simp[Q];refine xK ?_;refine FX λK j=>?_;refine xJ ?_;simp[t2,t3];refine B9 (J) rfl (by simp[xN]) ?_;simp;refine xJ ?_;simp;refine B6 (j _ _ ?_);cases tb with
      |true=>
       refine AR ?_;simp;refine CT ?_;refine xV λK j=>?_;simp[t59];apply j;refine⟨s,_,_,lm 2 (S':=[.row true 9 [.d (AA g)],.row true 9 [.d (AA h)]]) rfl (by simp) (by simp) (by simp),?_⟩;exact⟨by simp[clean,AP,t2],by simp[clean,AP,t3],by simp[clean,AP,t4],by simp[clean,AP,t57],by simp[clean,AP,t58],by simp[clean,AP,AL s P],o (by simp),rfl⟩
      |false=>
       have C:=vR rfl;subst C;refine AR ?_;simp;(repeat refine xS ?_);refine xV λK j=>?_;simp;refine j _ _ ?_;(try simp only[xQ,reduceIte]);(refine Af ?_;(try simp only[xQ,reduceIte]);refine⟨_,_,_,am,?_,?_,a8 0 (S':=[]) rfl (by simp) (by simp) (by simp)⟩<;>simp[Ba])
    .rw[zw z,yB]at B;subst B;refine xS ?_;refine xD [0,2,4,6,8,10,12,14,16,18,20,22,24,26,28,30,32,34,36,38,40,42,44,46,48,50,52] (by kernel_rfl) λK j=>?_;simp;(repeat((first|refine Pv rfl rfl ?_ ?_;(·simp[z])|refine gX rfl rfl ?_ ?_;(·simp[t4,v,k,t,H])|refine Hz ?_ ?_;(·simp[t4,z]));simp[t4,v,k,t,H]));refine xM (j _ _ ?_);(try simp only[C4,BW,reduceIte]);refine AR ?_;simp;refine xK ?_;refine FX λK j=>?_;refine xJ ?_;simp[t2,t3];refine B9 (J) rfl (by simp[xN]) ?_;simp;refine xJ ?_;simp;refine B6 (j _ _ ?_);cases tb with
     |true=>
      refine AR ?_;simp;refine CT ?_;refine xV λK j=>?_;simp[t59];apply j;refine⟨s,_,_,lm 2 (S':=[.row true 9 [.d (AA g)],.row true 9 [.d (AA h)]]) rfl (by simp) (by simp) (by simp),?_⟩;exact⟨by simp[clean,AP,t2],by simp[clean,AP,t3],by simp[clean,AP,t4],by simp[clean,AP,t57],by simp[clean,AP,t58],by simp[clean,AP,AL s P],o (by simp),rfl⟩
     |false=>
      have C:=vR rfl;subst C;refine AR ?_;simp;(repeat refine xS ?_);refine xV λK j=>?_;simp;refine j _ _ ?_;(try simp only[xQ,reduceIte]);(refine Af ?_;(try simp only[xQ,reduceIte]);refine⟨_,_,_,am,?_,?_,a8 0 (S':=[]) rfl (by simp) (by simp) (by simp)⟩<;>simp[Ba])
   .have k:¬(i:Int)<h.AD.length:=by omega
    rw[zw v,yB]at B;subst B;refine xS ?_;refine xD [0,2,4,6,8,10,12,14,16,18,20,22,24,26,28,30,32,34,36,38,40,42,44,46,48,50,52] (by kernel_rfl) λK j=>?_;simp;refine xZ ?_;simp[t4,k];refine xM (j _ _ ?_);(try simp only[xQ,reduceIte]);refine AR ?_;simp;refine xK ?_;refine FX λK j=>?_;refine xJ ?_;simp[t2,t3];refine B9 (J) rfl (by simp[xN]) ?_;simp;refine xJ ?_;simp;refine B6 (j _ _ ?_);cases tb with
    |true=>
     refine AR ?_;simp;refine CT ?_;refine xV λK j=>?_;simp[t59];apply j;refine⟨s,_,_,lm 2 (S':=[.row true 9 [.d (AA g)],.row true 9 [.d (AA h)]]) rfl (by simp) (by simp) (by simp),?_⟩;exact⟨by simp[clean,AP,t2],by simp[clean,AP,t3],by simp[clean,AP,t4],by simp[clean,AP,t57],by simp[clean,AP,t58],by simp[clean,AP,AL s P],o (by simp),rfl⟩
    |false=>
     have C:=vR rfl;subst C;refine AR ?_;simp;refine xW λK j=>?_;simp;apply j;(refine Af ?_;(try simp only[xQ,reduceIte]);refine⟨_,_,_,am,?_,?_,a8 0 (S':=[]) rfl (by simp) (by simp) (by simp)⟩<;>simp[Ba])
  .have e:i=g.AD.length:=by omega
   subst e;refine C7 ?_;exact L
 rintro tm S hpt;rw[ap ⟨cl.2 hms,cl.2 λp F=>by simpa using hpt p (pm.1 F)⟩]at q;subst q;(repeat refine xS ?_);refine xV λK j=>?_;simp;refine j _ _ ?_;(try simp only[xQ,reduceIte]);(refine Af ?_;(try simp only[xQ,reduceIte]);refine⟨_,_,_,am,?_,?_,a8 0 (S':=[]) rfl (by simp) (by simp) (by simp)⟩<;>simp[Ba])
def KX:AE:=⟨[⟨#[65]⟩,⟨#[66]⟩],Dg,Dv,[⟨#[69]⟩,⟨#[79]⟩],[⟨⟨#[110,117,109]⟩,0,[⟨true,0⟩],Dg,false,0,[],A0⟩,⟨⟨#[98,105,110]⟩,0,[⟨false,0⟩,⟨false,1⟩,⟨false,0⟩],Dg,false,0,[],A0⟩,⟨⟨#[112,108,117,115]⟩,1,[⟨true,1⟩],Dg,false,0,[],A0⟩,⟨⟨#[116,105,109,101,115]⟩,1,[⟨true,2⟩],Dg,false,0,[],A0⟩],0,[],[]⟩
def tp:AN:=⟨[],0⟩
theorem QF{d:AN}(h:d=Dg\/d=tp)(n:Int):C5 d n=true:=by
 have g:Valid d:=by
  rcases h with rfl|rfl
  .exact⟨.leaf true,trivial,rfl⟩
  .exact⟨.leaf false,trivial,rfl⟩
 have hn:d.nodes=[]:=by rcases h with rfl|rfl<;>rfl
 simp[C5,Hn,g,hn]
def SB(g:AE):List ByteArray->List AO->Bool
 |_,[]=>true
 |L,p::l=>EG g p&&!Fi L p.name&&(decide (p.cond=Dg)||decide (p.cond=tp))&&decide (-1<=p.D6)&&decide (p.D6<=1)&&Hx p&&SB g (L++[p.name]) l
theorem Rb(g:AE):∀(l:List AO) (L:List ByteArray),SB g L l=true->C6 g L l=0
 |[],_,_=>rfl
 |p::l,L,h=>by
  simp[SB]at h;obtain⟨⟨⟨⟨⟨⟨h1,i⟩,j⟩,k⟩,m⟩,o⟩,q⟩:=h;have s:F6 g p=true:=by simp[F6,QF j,k,m,o]
  simp[C6,h1,i,s,Rb g l _ q]
def jq(t:Token):Bool:=decide (0<=t.cls)&&decide (t.cls<=2)&&decide (t.cond=Dg)&&Ko t
theorem MD:DQ [⟨#[]⟩] (Dv.map (·.name))=true/\Dv.all jq=true:=by decide+kernel
def uR(g:AE):Bool:=!C3 g&&Ia g&&SB g [⟨#[]⟩] g.AD
theorem Ri(A2:List ByteArray)(AD:List AO)(h:uR ⟨[⟨#[65]⟩,⟨#[66]⟩],Dg,Dv,A2,AD,0,[],[]⟩=true):C2 ⟨[⟨#[65]⟩,⟨#[66]⟩],Dg,Dv,A2,AD,0,[],[]⟩=0:=by
 generalize i:(⟨[⟨#[65]⟩,⟨#[66]⟩],Dg,Dv,A2,AD,0,[],[]⟩:AE)=g at *;simp[uR]at h;obtain⟨⟨h1,j⟩,k⟩:=h;have m:Fb g=true:=by
  subst i;have:([⟨#[65]⟩,⟨#[66]⟩]:List ByteArray).all Ey&&DQ [⟨#[]⟩] [⟨#[65]⟩,⟨#[66]⟩]=true:=by unfold Ey;decide+kernel
  simp only[Fb,QF (.inl rfl)];rfl
 have o:Ex g=true:=by
  subst i;simp[Ex,MD.1];intro t q;have:=cl.1 MD.2 t q;simp[jq]at this;simp[H2,this.1.1.1,this.1.1.2,QF (.inl this.1.2),this.2]
 have s:C6 g [⟨#[]⟩] g.AD=0:=Rb g _ _ k;have u:ED g [] g.levels=true:=by subst i;rfl
 have v:EA g=true:=by subst i;rfl
 simp[C2,h1,Dh,m,o,j,s,u,v,F7]
def vJ(g:AE):Bool:=g.AD.all λp=>match p.right with|[]=>false|[s]=>s.token|_=>true
theorem XQ(g:AE)(h:vJ g=true):¬Sc g:=Hf.none <| VA.kW λp k=>by
 have:=cl.1 h p k;cases j:p.right with
 |nil=>rw[j]at this;simp at this
 |cons a l=>
  rw[j]at this;cases l with
  |nil=>refine⟨by simp,λs i=>?_⟩;cases i;exact this
  |cons b l=>exact⟨by simp,λs i=>by simp at i⟩
theorem Iv:okF KX:=⟨Ri _ _ (by decide+kernel),XQ _ (by decide+kernel)⟩
theorem po:Pure prog 11 [] (AA KX):=by
 have h1:=CA true;simp at h1;have g:=(H8 [⟨#[69]⟩,⟨#[79]⟩]).Fm (args':=[.full [.str ⟨#[69]⟩,.str ⟨#[79]⟩]]) rfl λi h j=>by
  match i,h with
  |0,_=>exact .inr ⟨By [⟨#[69]⟩,⟨#[79]⟩],by simp[Ba],rfl⟩
 have k:ByteArray.empty=(⟨#[]⟩:ByteArray):=rfl;refine zP func11 27 rfl λwf=>?_;apply yW;simp;apply yS;apply yJ;simp[al];refine xF (g) [] rfl ?_;simp;apply yJ;simp[Il];apply yS;apply yJ;simp;refine B9 (h1) rfl (by simp) (yJ ?_);simp[AB];refine yD [0,2,4,6,8,10,12,14,16,18,20,22,24,26,28,30,32,34,36,38,41] (by kernel_rfl) ?_;simp;apply yA 1;simp;refine B5 (Dp 0) rfl (by simp[al]) ?_;simp;apply yA 1;simp[al];refine B5 (Et 0) rfl (by simp[al,xN]) ?_;simp;refine B5 (Et 1) rfl (by simp[al,xN]) ?_;simp;refine B5 (Et 0) rfl (by simp[al,xN]) ?_;simp;apply yA 1;simp[al];refine B5 (Dp 1) rfl (by simp[al,xN]) ?_;simp;apply yA 1;simp[al];refine B5 (Dp 2) rfl (by simp[al,xN]) ?_;simp;apply yA 1;simp[al];apply xX 1048575 (by kernel_rfl);simp[Ac,Al,al];apply xM;apply yW;simp;apply Af;refine⟨_,_,am,?_⟩;simp[Ba,AA,KX,AH,A0,Dg]
end Go.Koi
