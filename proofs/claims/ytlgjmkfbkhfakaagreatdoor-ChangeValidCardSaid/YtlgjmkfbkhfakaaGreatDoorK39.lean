/- Part 40 of the proof that the law ChangeValid returns true for every input. -/
import Derived.Test.YtlgjmkfbkhfakaaGreatDoorK35
set_option maxHeartbeats 64000000
set_option maxRecDepth 100000
namespace Go.Koi
open Go.Proofs Tryz
structure Dw where
 kind:Nat
 a:Nat
 b:Nat
 c:Nat
 right:List Nat
def BN(x:Dw):D:=.agg [D.int .u8 (x.kind:Nat),D.int .u8 (x.a:Nat),D.int .u8 (x.b:Nat),D.int .u8 (x.c:Nat),D.sl (x.right.map fun(k:Nat)=>D.int .u8 k)]
@[simp] theorem Sq(x:Dw):AAF (.d (BN x))=[.d (D.int .u8 (x.kind:Nat)),.d (D.int .u8 (x.a:Nat)),.d (D.int .u8 (x.b:Nat)),.d (D.int .u8 (x.c:Nat)),.d (D.sl (x.right.map fun(k:Nat)=>D.int .u8 k))]:=rfl
@[simp] theorem TJ(x:Dw):Ar (.d (BN x))=true:=rfl
@[simp] theorem WX(x:Dw):AAW (.d (BN x))=false:=rfl
@[simp] theorem S9(x:Dw):AAL (BN x)=[D.int .u8 (x.kind:Nat),D.int .u8 (x.a:Nat),D.int .u8 (x.b:Nat),D.int .u8 (x.c:Nat),D.sl (x.right.map fun(k:Nat)=>D.int .u8 k)]:=rfl
@[simp] theorem Wz(x:Dw):AAe.oneD (BN x)=true:=rfl
@[simp] theorem Yn(x:Dw):WFD (BN x)=AAY [D.int .u8 (x.kind:Nat),D.int .u8 (x.a:Nat),D.int .u8 (x.b:Nat),D.int .u8 (x.c:Nat),D.sl (x.right.map fun(k:Nat)=>D.int .u8 k)]:=rfl
@[simp] theorem TY(S:Sg)(x:Dw):AAr S (.d (BN x))=some [D.int .u8 (x.kind:Nat),D.int .u8 (x.a:Nat),D.int .u8 (x.b:Nat),D.int .u8 (x.c:Nat),D.sl (x.right.map fun(k:Nat)=>D.int .u8 k)]:=rfl
def DR:AAC:=⟨0,0,0,0,ByteArray.empty,false,⟨[],0⟩,[],[],⟨ByteArray.empty,0,ByteArray.empty,[],ByteArray.empty,⟨[],0⟩⟩,⟨ByteArray.empty,0,[],⟨[],0⟩,false,0,[],⟨false,0,0,0,0⟩⟩,[]⟩
def CP:V:=.agg [.d (.int .i64 0),.d (.int .i64 0),.d (.int .i64 0),.d (.int .i64 0),.d (.str ByteArray.empty),.d (.bool false),.full [],.d (.int .i64 0),.full [],.full [],.d (.str ByteArray.empty),.d (.int .i64 0),.d (.str ByteArray.empty),.full [],.d (.str ByteArray.empty),.full [],.d (.int .i64 0),.d (.str ByteArray.empty),.d (.int .i64 0),.full [],.full [],.d (.int .i64 0),.d (.bool false),.d (.int .i64 0),.full [],.d (.bool false),.d (.int .i64 0),.d (.int .i64 0),.d (.int .i64 0),.d (.int .i64 0),.full []]
def okC(c:AAC):Prop:=1≤c.kind∧c.kind≤14∧c.BL.length≤2 ^ 20
def Y5(p:AAC→Prop)(v:V)(S':Sg):Prop:=S'=[]∧∃c,v=.d (AO c)∧p c
theorem ADT(p:Int):Pure prog 54 [AG p] (A1 (Bh p)):=by
 refine Pure.AI func54 (by kernel_rfl) rfl (by simp) fun wf=>?_;rw[ntmps54];refine xW fun K hK=>?_;simp;apply hK;refine xW fun K hK=>?_;simp;apply hK;refine Ag ?_;(try simp only[xQ,reduceIte]);refine⟨_,_,AJ.refl,?_⟩;simp[asD,Bh,A1]
theorem ADB(n:Nat)(hn:n≤1000):Pure prog 56 [AG 0,AG n] (.sl ((Cg 0 n).map A1)):=by
 have gm:1≤maxLen:=by unfold maxLen;omega
 refine AE.B9 func56 (by kernel_rfl) rfl (by simp) fun wf _=>?_;rw[ntmps56];refine xW fun K hK=>?_;simp;apply hK;refine xW fun K hK=>?_;simp;apply hK;refine AW.ghost (AJ.BB 5 4 (xs:=[]) (by simp)) ?_;refine xS (xW fun K hK=>?_);simp;apply hK;refine Bw ?_;refine DC n (fun i tm S=>tm 1=.d (.int .i64 n)∧tm 5=.row 0 (Cg 0 i).length∧tm 6=.d (.int .i64 i)∧S=[.row (!(Cg 0 i).isEmpty) 4 ((Cg 0 i).map fun t=>.d (A1 t))]) (Nat.zero_le _) (by simp[EJ,Cg]) ?_;rintro i tm S hi ⟨t1,t5,t6,rfl⟩;refine xS (xW fun K hK=>?_);simp[t1,t6];apply hK;refine AU ?_;simp;refine⟨fun cx=>?_,fun hO=>?_⟩
 ·have gn:Cg 0 (i+1)=Cg 0 i++[Dk (i:Nat)]:=by simp[Cg]
  have jc:(Cg 0 i).length+1≤1073741824:=by rw[C2];omega
  have ji:IntKind.i64.wrap ((i:Int)+1)=(i+1:Nat):=by rw[IntKind.wrap_i64];omega
  refine xK ?_;refine xB ?_;refine xV fun K hK=>?_;simp[t5,t6,gm,jc,Af,forall_and];apply hK;refine xV fun K hK=>?_;simp[t6,ji];apply hK;refine⟨cx,_,_,AJ.A2 0 (xs:=(Cg 0 (i+1)).map A1) rfl ?_,?_⟩
  ·rw[Bc,gn];simp[asD,A1,Dk]
  simp[t1,gn]
 ·have e:i=n:=by omega
  subst e;refine Cu ?_;(repeat refine xS ?_);refine xV fun K hK=>?_;simp[t5];refine hK _ _ ?_;(try simp only[xQ,reduceIte]);(refine Ag ?_;(try simp only[xQ,reduceIte]);refine⟨_,_,_,AJ.B6 0 (xs:=(Cg 0 i).map A1) rfl (by simp),?_,?_,AJ.AY 0 (S':=[]) rfl (by simp) (by simp) (by simp)⟩<;>simp[asD])
theorem ACQ(l m:List Symbol)(a b:Nat)(ha:a≤l.length)(hb:b≤l.length)(hl:l.length≤1000)(hm:m.length≤1000):Pure prog 55 [As l,AG a,AG b,As m] (As (l.take a++(m++l.drop b))):=by
 have h0:0≤maxLen:=Nat.zero_le _;refine AE.B9 func55 (by kernel_rfl) rfl (by simp) fun wf _=>?_;rw[ntmps55];have oO:(a:Int)≤l.length:=by omega
 have qC:min a l.length=a:=by omega
 have ja:a≤1073741824:=by omega
 have se:a+m.length≤1073741824:=by omega
 have uY:a+(m.length+(l.length - b))≤1073741824:=by omega
 have mT:Af 2 (List.map (V.d ∘ AL) m):=by
  intro y hy;obtain⟨s,_,rfl⟩:=List.mem_map.1 hy;simp
 have iC:(b:Int)≤l.length:=by omega
 have kJ:Af 2 (List.take a (List.map (V.d ∘ AL) l)):=by
  intro y hy;obtain⟨s,_,rfl⟩:=List.mem_map.1 (List.mem_of_mem_take hy);simp
 have ln:Af 2 (List.drop b (List.map (V.d ∘ AL) l)):=by
  intro y hy;obtain⟨s,_,rfl⟩:=List.mem_map.1 (List.mem_of_mem_drop hy);simp
 refine xW fun K hK=>?_;simp;apply hK;refine Az fun K hK=>?_;(iterate 1 (refine B7 (by simp) ?_;simp));refine AS.ghost (AJ.BB 10 2 (xs:=[]) (by simp)) ?_;simp;refine xJ ?_;simp[oO,kJ,qC,ja];refine Aj (hK _ _ ?_);(repeat refine xS ?_);refine xV fun K hK=>?_;simp[qC,kJ,se,mT];refine hK _ _ ?_;(try simp only[xQ,reduceIte]);have g9:List.take l.length (List.map AL l)=List.map AL l:=List.take_of_length_le (by simp);refine AW.El (R:=fun tm S=>tm 8=.row 0 (a+m.length+(l.length - b))∧∃w:Bool,S=[.row w 2 ((l.take a++(m++l.drop b)).map fun s=>.d (AL s))]) ?_ ?_
 ·by_cases ow:b<l.length
  ·refine BX fun K hK=>?_;refine xJ ?_;simp[iC,ow,g9,qC,kJ,ln,mT,uY,Nat.add_assoc];refine Aj (hK _ _ ?_);simp[List.map_take,List.map_drop,Nat.add_assoc,Function.comp_def,Bool.or_assoc]
  ·obtain rfl:b=l.length:=by omega
   refine BX fun K hK=>?_;refine xJ ?_;simp[g9,qC,kJ,ln,mT,se];refine Aj (hK _ _ ?_);simp[List.map_take,Function.comp_def]
 rintro tm S ⟨t8,w,rfl⟩;refine Ag ?_;(try simp only[xQ,reduceIte]);refine⟨_,_,_,AJ.B6 0 (xs:=(l.take a++(m++l.drop b)).map AL) rfl ?_,by simp,by simp[t8,asD,qC,Nat.add_assoc],AJ.AY 0 (S':=[]) rfl (by simp) (by simp) (by simp)⟩;rw[Bc];simp[List.map_take,List.map_drop,asD,Function.comp_def]
open Go.Proofs Tryz
def PrR(v:V)(S':Sg):Prop:=S'=[]∧∃p k:Int,v=.d (.Bd [AG p,AG k])
theorem ADz(g:AF)(a b:Nat)(ha:a<256)(hb:b<256)(nP:0<g.AD.length)(mv:g.AD.length≤100)(hr:∀p∈g.AD,p.right.length≤16):
  At prog 22 [.d (AB g),.d (.int .u8 a),.d (.int .u8 b)] [] PrR:=by
 have gm:1≤maxLen:=by unfold maxLen;omega
 have wa:IntKind.i64.wrap (a:Int)=a:=by rw[IntKind.wrap_i64];omega
 have wb:IntKind.i64.wrap (b:Int)=b:=by rw[IntKind.wrap_i64];omega
 have jX:¬g.AD.length=0:=by omega
 have jt:g.AD≠[]:=by intro e;simp[e]at nP
 refine At.AI func22 (by kernel_rfl) rfl (by simp) fun wf _=>?_;rw[ntmps22];refine xW fun K hK=>?_;simp;apply hK;refine xW fun K hK=>?_;simp;apply hK;refine AW.El (R:=fun tm S=>tm 1=.d (.int .u8 a)∧tm 8=.d (.int .i64 g.AD.length)) ?_ ?_
 ·refine xW fun K hK=>?_;simp;apply hK;refine Bw ?_;refine DC g.AD.length (fun i tm S=>tm 1=.d (.int .u8 a)∧tm 2=.d (.int .u8 b)∧tm 3=.ptr 0 1 0 0∧tm 8=.d (.int .i64 g.AD.length)∧tm 9=.d (.int .i64 i)∧S=[.row true 9 [.d (AB g)]]) (Nat.zero_le _) (by simp) ?_;rintro i tm S hi ⟨t1,t2,t3,t8,t9,rfl⟩;refine xS (xW fun K hK=>?_);simp[t8,t9];apply hK;refine AU ?_;simp;refine⟨fun cx=>?_,fun hO=>?_⟩
  ·obtain⟨p,hp⟩:∃p,(a+i) % g.AD.length=p:=⟨_,rfl⟩;have iY:p<g.AD.length:=by rw[←hp];exact Nat.mod_lt _ nP
   have hw:IntKind.i64.wrap ((a:Int)+i)=((a+i:Nat):Int):=by rw[IntKind.wrap_i64];omega
   have hq:(((a+i:Nat):Int).tmod g.AD.length)=p:=by rw[Int.tmod_eq_emod_of_nonneg (by omega),←hp];simp
   have ji:IntKind.i64.wrap ((i:Int)+1)=(i+1:Nat):=by rw[IntKind.wrap_i64];omega
   generalize hN:a+i=N at *;refine xK ?_;refine xB ?_;(repeat refine xS ?_);refine xV fun K hK=>?_;simp[t1,t8,t9,wa,hw,hq,jX];refine hK _ _ ?_;(try simp only[xQ,reduceIte]);have nV:=hr _ (List.getElem_mem iY);generalize jF:g.AD[p]=o at *;have jj:=AH.eq_1 o;refine xW fun K hK=>?_;simp;apply hK;refine AW.ghost (AJ.BB 11 1 (xs:=[]) (by simp)) ?_;refine AW.El (R:=fun tm S=>tm 1=.d (.int .u8 a)∧tm 2=.d (.int .u8 b)∧tm 3=.ptr 0 1 0 0∧tm 8=.d (.int .i64 g.AD.length)∧tm 9=.d (.int .i64 i)∧tm 10=.d (.int .i64 p)∧∃L:List Int,tm 11=.row 1 L.length∧L.length≤100∧S=[.row true 9 [.d (AB g)],.row (!L.isEmpty) 1 (L.map fun v=>.d (AG v))]) ?_ ?_
   ·refine xW fun K hK=>?_;simp;apply hK;refine Bw ?_;refine DC o.right.length (fun j tm S=>tm 1=.d (.int .u8 a)∧tm 2=.d (.int .u8 b)∧tm 3=.ptr 0 1 0 0∧tm 8=.d (.int .i64 g.AD.length)∧tm 9=.d (.int .i64 i)∧tm 10=.d (.int .i64 p)∧tm 12=.d (.int .i64 j)∧∃L:List Int,tm 11=.row 1 L.length∧L.length≤j∧S=[.row true 9 [.d (AB g)],.row (!L.isEmpty) 1 (L.map fun v=>.d (AG v))]) (Nat.zero_le _) ⟨by simp[EJ,t1],by simp[EJ,t2],by simp[EJ,t3],by simp[EJ,t8],by simp[EJ,t9],by simp[EJ],by simp[EJ],[],by simp[EJ],by simp,by simp⟩ ?_;rintro j tm S hj ⟨t1,t2,t3,t8,t9,t10,t12,L,t11,hLl,rfl⟩;refine xS (xW fun K hK=>?_);simp[t3,t10,t12,iY,jF,jj];apply hK;refine AU ?_;simp;refine⟨fun uZ=>?_,fun ta=>?_⟩
    ·have rM:IntKind.i64.wrap ((j:Int)+1)=(j+1:Nat):=by rw[IntKind.wrap_i64];omega
     generalize mA:o.right[j]=s at *;have iB:=AL.eq_1 s;have jc:L.length+1≤1073741824:=by omega
     refine xK ?_;refine xB ?_;(repeat refine xS ?_);refine xV fun K hK=>?_;simp[t3,t10,t12,iY,jF,jj,uZ,mA,iB];refine hK _ _ ?_;(try simp only[xQ,reduceIte]);cases gn:s.token with
     |true=>
      refine AU ?_;simp;refine CC ?_;refine xV fun K hK=>?_;simp[t12,rM];apply hK;exact⟨uZ,_,_,AJ.refl,by simp[t1],by simp[t2],by simp[t3],by simp[t8],by simp[t9],by simp[t10],by simp,L,by simp[t11],by omega,rfl⟩
     |false=>
      refine AU ?_;simp;refine xV fun K hK=>?_;simp[t11,t12,gm,jc,Af];apply hK;refine xV fun K hK=>?_;simp[t12,rM];apply hK;exact⟨uZ,_,_,AJ.refl,by simp[t1],by simp[t2],by simp[t3],by simp[t8],by simp[t9],by simp[t10],by simp,L++[(j:Int)],by simp,by simp;omega,by simp⟩
    ·refine Cu ?_;exact⟨t1,t2,t3,t8,t9,t10,L,t11,by omega,rfl⟩
   rintro tm S ⟨t1,t2,t3,t8,t9,t10,L,t11,hLl,rfl⟩;(repeat refine xS ?_);refine xV fun K hK=>?_;simp[t11];refine hK _ _ ?_;(try simp only[xQ,reduceIte]);by_cases hL0:L.length=0
   ·have hLn:L=[]:=List.eq_nil_of_length_eq_zero hL0;subst hLn;refine AU ?_;simp;refine CC ?_;refine xV fun K hK=>?_;simp[t9,ji];apply hK;refine⟨cx,_,_,AJ.EL 1 (S':=[.row true 9 [.d (AB g)]]) rfl (by simp) (by simp) (by simp),?_⟩;simp[clean,AAB,t1,t2,t3,t8]
   ·obtain⟨q,jY⟩:∃q,b % L.length=q:=⟨_,rfl⟩;have lZ:q<L.length:=by rw[←jY];exact Nat.mod_lt _ (by omega)
    have kL:((b:Int).tmod L.length)=q:=by rw[Int.tmod_eq_emod_of_nonneg (by omega),←jY];simp
    have hL0':0<L.length:=by omega
    have hLn:L≠[]:=fun e=>hL0 (by rw[e];rfl);refine AU ?_;simp[hL0'];(repeat refine xS ?_);refine xE [0,2,4,6,8,10,12,14,16,18,20] (by kernel_rfl) fun K hK=>?_;simp;refine xA 1 ?_;simp[t2,t10,t11,wb,kL,hL0,lZ];refine xM (hK _ _ ?_);(try simp only[xQ,reduceIte]);refine Ag ?_;(try simp only[xQ,reduceIte]);refine⟨_,_,AJ.refl,by simp,_,_,⟨rfl,p,L[q],rfl⟩,.inl ⟨.Bd [AG p,AG L[q]],_,by simp[asD],rfl,AJ.AY 0 rfl (by simp) (by simp) (by simp)⟩⟩
  ·refine Cu ?_;simp[t1,t8]
 rintro tm S ⟨t1,t8⟩;obtain⟨q,hq⟩:∃q,a % g.AD.length=q:=⟨_,rfl⟩;have kL:((a:Int).tmod g.AD.length)=q:=by rw[Int.tmod_eq_emod_of_nonneg (by omega),←hq];simp
 refine xW fun K hK=>?_;simp[t1,t8,wa,kL,jX];apply hK;refine Ag ?_;(try simp only[xQ,reduceIte]);refine⟨_,_,AJ.refl,by simp,_,_,⟨rfl,q,0,rfl⟩,.inl ⟨.Bd [AG q,AG 0],_,by simp[asD],rfl,AJ.AY 0 (S':=[]) rfl (by simp) (by simp) (by simp)⟩⟩
def ADj(g:AF)(k:Nat):Symbol:=
 if k % ((Ey g g.Ak.length).length+5)<(Ey g g.Ak.length).length then⟨true,(Ey g g.Ak.length).getD (k % ((Ey g g.Ak.length).length+5)) 0⟩
 else⟨false,(((k % ((Ey g g.Ak.length).length+5)) - (Ey g g.Ak.length).length) % g.BC.length:Nat)⟩
def AA7(f:Nat→Symbol)(l:List Nat)(i:Nat):List Symbol:=(l.take i).map f
theorem ADG{f:Nat→Symbol}{l:List Nat}{i:Nat}(h:i<l.length):AA7 f l (i+1)=AA7 f l i++[f l[i]]:=by
 unfold AA7;rw[List.take_succ_eq_append_getElem h,List.map_append];rfl
theorem ADh(f:Nat→Symbol)(l:List Nat)(i:Nat):(AA7 f l i).length≤i:=by
 unfold AA7;rw[List.length_map,List.length_take];omega
theorem ADi{f:Nat→Symbol}{l:List Nat}{i j:Nat}(hi:l.length≤i)(hj:l.length≤j):AA7 f l i=AA7 f l j:=by
 unfold AA7;rw[List.take_of_length_le hi,List.take_of_length_le hj]
theorem ADJ(g:AF)(l:List Nat)(hl:∀k∈l,k<256)(ht:g.Ak.length=11)(iL:0<g.BC.length)(jC:g.BC.length≤3):
  Pure prog 24 [AB g,.sl (l.map fun(k:Nat)=>D.int .u8 k)] (As (AA7 (ADj g) l 4)):=by
 have gm:1≤maxLen:=by unfold maxLen;omega
 have mE:=N5 g (by omega);have uR:=Rw g g.Ak.length;have uX:∀k,ADj g k=_:=fun k=>ADj.eq_1 g k;generalize ADj g=f at *;generalize Ey g g.Ak.length=O at *;have iR:¬g.BC.length=0:=by omega
 have jK:g.BC≠[]:=by intro e;simp[e]at iL
 refine AE.B9 func24 (by kernel_rfl) rfl (by simp) fun wf _=>?_;have a1:l.length≤maxLen:=by have:=wf.2.1;simp[WFV,WFD]at this;exact this.1
 rw[ntmps24];refine xW fun K hK=>?_;simp;apply hK;refine xW fun K hK=>?_;simp;apply hK;refine AW.ghost (AJ.BB 5 2 (xs:=[]) (by simp)) ?_;refine Az fun K hK=>?_;refine xJ ?_;simp;refine Bp (mE) rfl (by simp[xN]) ?_;simp;refine xJ ?_;simp;refine Aj (hK _ _ ?_);refine xS (xW fun K hK=>?_);simp;apply hK;refine Bw ?_;refine DC l.length (fun i tm S=>tm 1=.d (.sl (l.map fun(k:Nat)=>D.int .u8 k))∧tm 2=.ptr 0 1 0 0∧tm 6=.d (Ci O)∧tm 7=.d (.int .i64 i)∧i≤4∧tm 5=.row 1 (AA7 f l i).length∧S=[.row true 9 [.d (AB g)],.row (!(AA7 f l i).isEmpty) 2 ((AA7 f l i).map fun s=>.d (AL s))]) (Nat.zero_le _) ⟨by simp[EJ],by simp[EJ],by simp[EJ],by simp[EJ],by omega,by simp[EJ,AA7],by simp[AA7]⟩ ?_;rintro i tm S hi ⟨t1,t2,t6,t7,xj,t5,rfl⟩;have hLl:=ADh f l i;by_cases cx:i<l.length
 ·have jk:(i:Int)<l.length:=by omega
  by_cases h4:i<4
  ·have oD:(i:Int)<4:=by omega
   have sH:=hl _ (List.getElem_mem cx);have g9:=ADG (f:=f) cx;generalize n9:l[i]=k at *;have vY:=uX k;have wk:IntKind.i64.wrap (k:Int)=k:=by rw[IntKind.wrap_i64];omega
   have w5:IntKind.i64.wrap ((O.length:Int)+5)=((O.length+5:Nat):Int):=by rw[IntKind.wrap_i64];omega
   obtain⟨q,hq⟩:∃q,k % (O.length+5)=q:=⟨_,rfl⟩;have kL:((k:Int).tmod ((O.length+5:Nat):Int))=q:=by rw[Int.tmod_eq_emod_of_nonneg (by omega),←hq];simp
   have x9:¬O.length+5=0:=by omega
   have hqM:q<O.length+5:=by rw[←hq];exact Nat.mod_lt _ (by omega)
   have ji:IntKind.i64.wrap ((i:Int)+1)=(i+1:Nat):=by rw[IntKind.wrap_i64];omega
   have jc:(AA7 f l i).length+1≤1073741824:=by omega
   generalize hM:O.length+5=M at *;refine xS (Az fun K hK=>?_);refine xH ?_;simp[t1,t7,jk,oD];refine Aj (hK _ _ ?_);(try simp only[xQ,reduceIte]);refine AU ?_;simp;refine xK ?_;refine xB ?_;refine xW fun K hK=>?_;simp[t1,t6,t7,cx,n9,wk,w5,kL,x9];apply hK;(repeat refine xS ?_);refine xV fun K hK=>?_;simp[t6];refine hK _ _ ?_;(try simp only[xQ,reduceIte]);by_cases qU:q<O.length
   ·have oT:(q:Int)<O.length:=by omega
    refine AU ?_;simp[qU];refine BX fun K hK=>?_;refine xJ ?_;simp[t5,t6,qU,oT];refine Bp (Cp O[q]) rfl (by simp[xN]) ?_;simp;refine xJ ?_;simp[gm,jc,Af,forall_and];refine Aj (hK _ _ ?_);refine xV fun K hK=>?_;simp[t7,ji];apply hK;have m6:f k=⟨true,O[q]⟩:=by rw[vY,hq,if_pos qU];simp[qU]
    rw[m6]at g9;refine⟨cx,_,_,AJ.refl,?_⟩;simp[t1,t2,t6,g9,AL];omega
   ·have oT:¬(q:Int)<O.length:=by omega
    have wd:IntKind.i64.wrap ((q:Int) - O.length)=((q - O.length:Nat):Int):=by rw[IntKind.wrap_i64];omega
    obtain⟨u,hu⟩:∃u,(q - O.length) % g.BC.length=u:=⟨_,rfl⟩;have ya:(((q - O.length:Nat):Int).tmod g.BC.length)=u:=by rw[Int.tmod_eq_emod_of_nonneg (by omega),←hu];simp
    generalize hD:q - O.length=E at *;refine AU ?_;simp[qU];refine BX fun K hK=>?_;refine xJ ?_;simp[t2,t5,t6,wd,ya,iR];refine Bp (Dh u) rfl (by simp[xN]) ?_;simp;refine xJ ?_;simp[gm,jc,Af,forall_and];refine Aj (hK _ _ ?_);refine xV fun K hK=>?_;simp[t7,ji];apply hK;have m6:f k=⟨false,u⟩:=by rw[vY,hq,if_neg qU,hD,hu]
    rw[m6]at g9;refine⟨cx,_,_,AJ.refl,?_⟩;simp[t1,t2,t6,g9,AL];omega
  ·have oD:¬(i:Int)<4:=by omega
   refine xS (Az fun K hK=>?_);refine xH ?_;simp[t1,t7,jk,oD];refine Aj (hK _ _ ?_);(try simp only[xQ,reduceIte]);refine AU ?_;simp;refine Cu ?_;(repeat refine xS ?_);refine xV fun K hK=>?_;simp[t5];refine hK _ _ ?_;(try simp only[xQ,reduceIte]);obtain rfl:i=4:=by omega
   refine Ag ?_;(try simp only[xQ,reduceIte]);refine⟨_,_,_,AJ.B6 1 (xs:=(AA7 f l 4).map AL) rfl (by simp),by simp,by simp[asD],AJ.AY 0 (S':=[]) rfl (by simp) (by simp) (by simp)⟩
 ·have jk:¬(i:Int)<l.length:=by omega
  refine xS (Az fun K hK=>?_);refine xH ?_;simp[t1,t7,jk];refine Aj (hK _ _ ?_);(try simp only[xQ,reduceIte]);refine AU ?_;simp;refine Cu ?_;(repeat refine xS ?_);refine xV fun K hK=>?_;simp[t5];refine hK _ _ ?_;(try simp only[xQ,reduceIte]);rw[←ADi (f:=f) (l:=l) (i:=i) (j:=4) (by omega) (by omega)];refine Ag ?_;(try simp only[xQ,reduceIte]);refine⟨_,_,_,AJ.B6 1 (xs:=(AA7 f l i).map AL) rfl (by simp),by simp,by simp[asD],AJ.AY 0 (S':=[]) rfl (by simp) (by simp) (by simp)⟩
open Go.Proofs Tryz
def rpS(g:AF)(x:Dw)(o:AT)(w:Bool)(T:List Cw)(lf:Cw):Sg:=
 [.row true 9 [.d (AB g)],.row true 5 [.d (BN x)],.row true 31 [CP],.row true 13 [.d (AH o)],.row w 4 (T.map fun t=>.d (A1 t)),.row true 4 [.d (A1 lf)]]
def rpT(p al:Nat)(oe:Int)(n:Nat)(tm:Tm):Prop:=tm 1=.d (.int .i64 p)∧tm 3=.ptr 0 1 0 0∧tm 5=.ptr 1 1 0 0∧tm 6=.ptr 2 1 0 0∧tm 7=.ptr 3 1 0 0∧tm 9=.d (.int .i64 oe)∧tm 10=.d (.int .i64 al)∧tm 11=.row 4 n∧tm 12=.ptr 5 1 0 0
theorem ACX(g:AF)(p:Nat)(x:Dw)(hp:p<g.AD.length)(hr:∀p∈g.AD,p.right.length≤16)(pb:g.Ak.length=11)(pj:(0:Int)∈g.Ak.map (·.cls))(qV:x.a<256)(oU:x.b<256)(tc:x.c<256):
  At prog 25 [.d (AB g),.d (AG p),.d (BN x)] [] (Y5 okC):=by
 have gm:1≤maxLen:=by unfold maxLen;omega
 have wb:IntKind.i64.wrap (x.b:Int)=x.b:=by rw[IntKind.wrap_i64];omega
 obtain⟨o,ho⟩:∃o,g.AD[p]=o:=⟨_,rfl⟩;have jj:=AH.eq_1 o;have uR:o.right.length≤16:=by rw[←ho];exact hr _ (List.getElem_mem hp)
 have mE:=N5 g (by omega);have g7:=YM pj;have yb:∀v∈Ey g g.Ak.length,0≤v∧v<g.Ak.length:=fun v hv=>by
  unfold Ey at hv;simp only[List.mem_map,List.mem_filter,List.mem_range]at hv;obtain⟨j,⟨h1,_⟩,rfl⟩:=hv;omega
 generalize Ey g g.Ak.length=O at *;obtain⟨E,hE⟩:∃E,x.b % O.length=E:=⟨_,rfl⟩;have hEl:E<O.length:=by rw[←hE];exact Nat.mod_lt _ g7
 have qe:((x.b:Int).tmod O.length)=E:=by rw[Int.tmod_eq_emod_of_nonneg (by omega),←hE];simp
 have qW:¬O.length=0:=by omega
 have nM:O≠[]:=by intro e;simp[e]at g7
 have u5:=yb _ (List.getElem_mem hEl);obtain⟨oe,ng⟩:∃oe:Nat,O[E]=(oe:Int):=⟨O[E].toNat,by omega⟩;rw[ng]at u5;have sf:oe<g.Ak.length:=by omega
 obtain⟨tk,g9⟩:∃tk,g.Ak[oe]=tk:=⟨_,rfl⟩;have mJ:=Aa.eq_1 tk;obtain⟨c2,gx⟩:∃c2,x.c % 2=c2:=⟨_,rfl⟩;have q2:((x.c:Int).tmod 2)=c2:=by rw[Int.tmod_eq_emod_of_nonneg (by omega),←gx];simp
 have q2':(x.c:Int) % 2=c2:=by omega
 have ie:ByteArray.empty=(⟨#[]⟩:ByteArray):=rfl;refine At.AI func25 (by kernel_rfl) rfl (by simp) fun wf _=>?_;rw[ntmps25];refine xW fun K hK=>?_;simp;apply hK;refine xW fun K hK=>?_;simp[hp,ho,jj];apply hK;refine Az fun K hK=>?_;refine xJ ?_;simp;refine Bp (mE) rfl (by simp[xN]) ?_;simp;refine xJ ?_;simp;refine Aj (hK _ _ ?_);refine xW fun K hK=>?_;simp[wb,qe,qW,hEl,ng];apply hK;refine xW fun K hK=>?_;simp;apply hK;refine Az fun K hK=>?_;refine xJ ?_;simp;refine Bp (ADT p) rfl (by simp[xN]) ?_;simp;refine xJ ?_;simp[maxLen];refine Aj (hK _ _ ?_);refine AW.ghost (AJ.BB 11 4 (xs:=[A1 (Bh p)]) (by simp)) ?_;refine xW fun K hK=>?_;simp[sf,g9,mJ];apply hK;refine AW.Ew (R:=fun tm S=>rpT p o.right.length oe 1 tm∧∃tx:ByteArray,S=rpS g x o false [Bh p] ⟨-1,-1,oe,tx⟩) ?_ ?_
 ·by_cases hl:tk.literal=⟨#[]⟩
  ·refine xW fun K hK=>?_;simp[hl,ie];apply hK;refine AU ?_;simp;refine xV fun K hK=>?_;simp[sf,g9,mJ];apply hK;refine⟨_,_,AJ.A2 5 (xs:=[A1 ⟨-1,-1,oe,tk.Cr⟩]) rfl (by simp[AAi,asD,A1]),?_,tk.Cr,?_⟩
   ·simp[rpT,EJ]
   ·simp[rpS,CP,jj];rfl
  ·refine xW fun K hK=>?_;simp[hl,ie];apply hK;refine AU ?_;simp;refine CC ?_;refine⟨_,_,AJ.A2 5 (xs:=[A1 ⟨-1,-1,oe,tk.literal⟩]) rfl (by simp[AAi,asD,A1]),?_,tk.literal,?_⟩
   ·simp[rpT,EJ]
   ·simp[rpS,CP,jj];rfl
 rintro tm S ⟨⟨t1,t3,t5,t6,t7,t9,t10,t11,t12⟩,tx,rfl⟩;have hh:=ADB o.right.length (by omega);have od:((o.right.length:Nat):Int)=o.right.length:=rfl;refine AW.Ew (R:=fun tm S=>∃(R:List Symbol) (T:List Cw),T.length≤100∧rpT p o.right.length oe T.length tm∧S=rpS g x {o with right:=R} true T ⟨-1,-1,oe,tx⟩) ?_ ?_
 ·have rT:A1 ⟨-1,-1,(oe:Int),tx⟩=.agg [.int .i64 (-1),.int .i64 (-1),.int .i64 oe,.str tx]:=rfl;unfold rpS;by_cases kW:c2=0
  ·have oX:=ACQ o.right [⟨true,oe⟩] o.right.length o.right.length (Nat.le_refl _) (Nat.le_refl _) (by omega) (by simp);refine xW fun K hK=>?_;simp[t5,q2,kW];apply hK;refine AU ?_;simp;(repeat refine xS ?_);refine xE [0,2,4,6,8,10,12,14,16,19] (by kernel_rfl) fun K hK=>?_;simp;refine xA 1 ?_;simp[t7,t9,t10,jj];refine Bj (Cp oe) rfl (by simp[xN]) ?_;simp;refine xA 1 ?_;simp[maxLen];refine Bj (oX) rfl (by simp[xN]) ?_;simp;refine xA 1 ?_;simp[t7];refine xX 511 (by kernel_rfl) ?_;simp[AR,Al,t7,t9,t10];refine xM (hK _ _ ?_);(try simp only[xQ,reduceIte]);have jW:1+o.right.length≤1073741824:=by omega
   have iG:1+o.right.length+1≤1073741824:=by omega
   have hHs:Af 4 (List.map (V.d ∘ A1) (Cg 0 o.right.length)):=by
    intro y hy;obtain⟨t,_,rfl⟩:=List.mem_map.1 hy;simp
   have hHl:=C2 0 o.right.length;refine xE [0,2,4,8,10,7,13,14] (by kernel_rfl) fun K hK=>?_;simp;refine xA 1 ?_;simp[t10,t11];refine Bj (hh) rfl (by simp[xN]) ?_;simp;refine xA 1 ?_;simp[t12,maxLen];refine xX 20 (by kernel_rfl) ?_;simp[AR,Al,t10,t11,t12,hHl,jW,Af,forall_and];have rC:o.right.length+1=1+o.right.length:=by omega
   refine xX 1 (by kernel_rfl) ?_;simp[AR,t10,t12,hHl,rC,iG,Af,or_imp,forall_and];refine xA 1 ?_;simp;refine xM (hK _ _ ?_);refine⟨_,_,AJ.A2 3 (xs:=[AH {o with right:=o.right++[⟨true,oe⟩]}]) rfl ?_,o.right++[⟨true,oe⟩],Bh p::(Cg 0 o.right.length++[⟨-1,-1,oe,tx⟩]),?_,?_,?_⟩
   ·simp[AAi,asD,AH,AL]
   ·simp[hHl];omega
   ·simp[rpT,t1,t3,t5,t6,t7,t9,t10,t12,hHl];omega
   ·simp[A1,Bh,Function.comp_def]
  ·have oX:=ACQ o.right [⟨true,oe⟩] 0 0 (Nat.zero_le _) (Nat.zero_le _) (by omega) (by simp);simp at oX;have iG:2+o.right.length≤1073741824:=by omega
   have hHs:Af 4 (List.map (V.d ∘ A1) (Cg 0 o.right.length)):=by
    intro y hy;obtain⟨t,_,rfl⟩:=List.mem_map.1 hy;simp
   have hHl:=C2 0 o.right.length;refine xW fun K hK=>?_;simp[t5,q2];apply hK;refine AU ?_;simp[kW];refine xD [0,2,4,6,8,10,12,15] (by kernel_rfl) fun K hK=>?_;simp;refine xA 1 ?_;simp[t7,t9,jj];refine Bj (Cp oe) rfl (by simp[xN]) ?_;simp;refine xA 1 ?_;simp[maxLen];refine Bj (oX) rfl (by simp[xN]) ?_;simp;refine xA 1 ?_;simp[t7];refine xX 127 (by kernel_rfl) ?_;simp[AR,Al,t7,t9];refine xM (hK _ _ ?_);refine BX fun K hK=>?_;refine xJ ?_;simp[t10,t11,t12,maxLen,Af,forall_and];refine Bp (hh) rfl (by simp[xN]) ?_;simp;refine xJ ?_;simp[hHl,iG,Af,or_imp,forall_and];refine Aj (hK _ _ ?_);refine⟨_,_,AJ.A2 3 (xs:=[AH {o with right:=⟨true,oe⟩::o.right}]) rfl ?_,⟨true,oe⟩::o.right,Bh p::(⟨-1,-1,oe,tx⟩::Cg 0 o.right.length),?_,?_,?_⟩
   ·simp[AAi,asD,AH,AL]
   ·simp[hHl];omega
   ·simp[rpT,t1,t3,t5,t6,t7,t9,t10,t12,hHl];omega
   ·simp[A1,Bh,Function.comp_def]
 rintro tm S ⟨R,T,hTl,⟨t1,t3,t5,t6,t7,t9,t10,t11,t12⟩,rfl⟩;unfold rpS;obtain⟨o2,pz⟩:∃o2,({o with right:=R}:AT)=o2:=⟨_,rfl⟩;rw[pz];have nX:=AH.eq_1 o2;refine Az fun K hK=>?_;refine xJ ?_;simp[t5];refine Bp (Fs ⟨#[110,101,119]⟩ x.a qV (by decide)) rfl (by simp[maxLen,xN]) ?_;simp;refine xJ ?_;simp[t7,nX];refine Aj (hK _ _ ?_);refine xW fun K hK=>?_;simp[t7];apply hK;refine xW fun K hK=>?_;simp[t7];apply hK;refine xW fun K hK=>?_;simp[t7];apply hK;refine AW.ghost (AJ.B6 4 (xs:=T.map A1) rfl (by rw[Bc];simp[asD,Function.comp_def])) ?_;refine xW fun K hK=>?_;simp[t1,t6,t7,t11,maxLen,CP];apply hK;refine Ag ?_;(try simp only[xQ,reduceIte]);refine⟨_,_,AJ.refl,by simp[t6],_,_,⟨rfl,{DR with kind:=14,number:=p,prod:={o2 with name:=Ji ⟨#[110,101,119]⟩ x.a,bracket:=false,layout:=[],scope:=⟨false,0,0,0,0⟩},BL:=T},rfl,by show(1:Int)≤14;decide,by show(14:Int)≤14;decide,by show T.length≤2 ^ 20;omega⟩,.inl ⟨AO {DR with kind:=14,number:=p,prod:={o2 with name:=Ji ⟨#[110,101,119]⟩ x.a,bracket:=false,layout:=[],scope:=⟨false,0,0,0,0⟩},BL:=T},_,by simp[t6,asD,AO,DR],rfl,AJ.AY 0 (S':=[]) rfl (by simp) (by simp) (by simp)⟩⟩
end Go.Koi
