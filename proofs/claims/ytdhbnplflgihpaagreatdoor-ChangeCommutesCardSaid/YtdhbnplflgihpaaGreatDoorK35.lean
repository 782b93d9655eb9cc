/-
  Part 36 of the proof that the law ChangeCommutes of the package koinelaw31 returns true for every input.
-/
import Derived.Test.YtdhbnplflgihpaaGreatDoorK34
set_option maxHeartbeats 64000000
set_option maxRecDepth 100000
namespace Go.Koi
open Go.Proofs Tryz
structure Dw where
 kind:Nat
 a:Nat
 b:Nat
 c:Nat
 right:List Nat
def BN(x:Dw):D:=.agg [D.int .u8 (x.kind:Nat),D.int .u8 (x.a:Nat),D.int .u8 (x.b:Nat),D.int .u8 (x.c:Nat),D.sl (x.right.map fun(k:Nat)=>D.int .u8 k)]
@[simp] theorem Sq(x:Dw):cellsV (.d (BN x))=[.d (D.int .u8 (x.kind:Nat)),.d (D.int .u8 (x.a:Nat)),.d (D.int .u8 (x.b:Nat)),.d (D.int .u8 (x.c:Nat)),.d (D.sl (x.right.map fun(k:Nat)=>D.int .u8 k))]:=rfl
@[simp] theorem TJ(x:Dw):Ar (.d (BN x))=true:=rfl
@[simp] theorem WX(x:Dw):oneV (.d (BN x))=false:=rfl
@[simp] theorem S9(x:Dw):dcells (BN x)=[D.int .u8 (x.kind:Nat),D.int .u8 (x.a:Nat),D.int .u8 (x.b:Nat),D.int .u8 (x.c:Nat),D.sl (x.right.map fun(k:Nat)=>D.int .u8 k)]:=rfl
@[simp] theorem Wz(x:Dw):iaPre.oneD (BN x)=true:=rfl
@[simp] theorem Yn(x:Dw):WFD (BN x)=WFDs [D.int .u8 (x.kind:Nat),D.int .u8 (x.a:Nat),D.int .u8 (x.b:Nat),D.int .u8 (x.c:Nat),D.sl (x.right.map fun(k:Nat)=>D.int .u8 k)]:=rfl
@[simp] theorem TY(S:Sg)(x:Dw):aggOf S (.d (BN x))=some [D.int .u8 (x.kind:Nat),D.int .u8 (x.a:Nat),D.int .u8 (x.b:Nat),D.int .u8 (x.c:Nat),D.sl (x.right.map fun(k:Nat)=>D.int .u8 k)]:=rfl
def DR:Change:=⟨0,0,0,0,ByteArray.empty,false,⟨[],0⟩,[],[],⟨ByteArray.empty,0,ByteArray.empty,[],ByteArray.empty,⟨[],0⟩⟩,⟨ByteArray.empty,0,[],⟨[],0⟩,false,0,[],⟨false,0,0,0,0⟩⟩,[]⟩
def CP:V:=.agg [.d (.int .i64 0),.d (.int .i64 0),.d (.int .i64 0),.d (.int .i64 0),.d (.str ByteArray.empty),.d (.bool false),.full [],.d (.int .i64 0),.full [],.full [],.d (.str ByteArray.empty),.d (.int .i64 0),.d (.str ByteArray.empty),.full [],.d (.str ByteArray.empty),.full [],.d (.int .i64 0),.d (.str ByteArray.empty),.d (.int .i64 0),.full [],.full [],.d (.int .i64 0),.d (.bool false),.d (.int .i64 0),.full [],.d (.bool false),.d (.int .i64 0),.d (.int .i64 0),.d (.int .i64 0),.d (.int .i64 0),.full []]
def Y5(p:Change→Prop)(v:V)(S':Sg):Prop:=S'=[]∧∃c,v=.d (AO c)∧p c
theorem Z6(g:AF)(x:Dw)(hg:MG g 10 6)(hk:x.kind=0):At prog 6 [.d (AB g),.d (BN x)] [] (Y5 fun c=>c.kind=1):=by
 obtain⟨hc1,hn0,hn1,ht1,ho1,hp0,hp1,hl1,hl2,hf1⟩:=hg;refine At.AI func6 (by kernel_rfl) rfl (by simp) fun wf _=>?_;have hx:x.a<256∧x.b<256∧x.c<256:=by have:=wf.2.1;simp[WFV,WFD,WFDs,rng]at this;omega
 clear wf;obtain⟨hxa,hxb,hxc⟩:=hx;have hset:=Cx x.b g.conds.length hxb (by omega);generalize E7 x.b g.conds.length=d at *;obtain⟨n,hn⟩:∃n,g.conds.length=n:=⟨_,rfl⟩;have e1:IntKind.i64.wrap (0:Int)=0:=by decide
 have e2:IntKind.i64.wrap (1:Int)=1:=by decide
 have e3:IntKind.i64.wrap ((1:Int)+0)=1:=by decide
 obtain⟨A,hA⟩:∃A,x.a % g.AD.length=A:=⟨_,rfl⟩;have hAl:A<g.AD.length:=by rw[←hA];exact Nat.mod_lt _ hp0
 have qa:((x.a:Int).tmod g.AD.length)=A:=by rw[Int.tmod_eq_emod_of_nonneg (by omega),←hA];simp
 have wa:IntKind.i64.wrap (x.a:Int)=x.a:=by rw[IntKind.wrap_i64];omega
 have wb:IntKind.i64.wrap (x.b:Int)=x.b:=by rw[IntKind.wrap_i64];omega
 have wc:IntKind.i64.wrap (x.c:Int)=x.c:=by rw[IntKind.wrap_i64];omega
 have hpz:¬g.AD.length=0:=by omega
 have hpn:g.AD≠[]:=by intro e;simp[e]at hp0
 have hnz:¬g.BC.length=0:=by omega
 have hnn:g.BC≠[]:=by intro e;simp[e]at hn0
 have h1m:1≤maxLen:=by unfold maxLen;omega
 obtain⟨L,hL⟩:∃L,x.a % g.BC.length=L:=⟨_,rfl⟩;have ql:((x.a:Int).tmod g.BC.length)=L:=by rw[Int.tmod_eq_emod_of_nonneg (by omega),←hL];simp
 rw[ntmps6];refine xW fun K hK=>?_;simp;apply hK;refine xW fun K hK=>?_;simp[hk,e1,e2];apply hK;refine xW fun K hK=>?_;simp[hn];apply hK;refine AW.El (R:=fun tm S=>tm 2=.ptr 0 1 0 0∧tm 3=.ptr 1 1 0 0∧tm 4=.ptr 2 1 0 0∧tm 5=.d (.int .i64 1)∧tm 6=.d (.int .i64 n)∧S=[.row true 9 [.d (AB g)],.row true 5 [.d (BN x)],.row true 31 [CP]]) ?_ ?_
 ·by_cases hn0':n=0
  ·refine Az fun K hK=>?_;refine xH ?_;simp[hn0'];refine Aj (hK _ _ ?_);refine AU ?_;simp;refine CC ?_;simp[CP,hn0']
  ·(repeat refine xS ?_);refine BX fun K hK=>?_;(repeat((first|refine Dp rfl ?_ ?_;(·simp[hn0'])|refine Jf rfl ?_ ?_;(·simp[hn0'])|refine B7 ?_ ?_;(·simp[hn0']));simp));refine Aj (hK _ _ ?_);(try simp only[QSeq]);refine AU ?_;simp;refine CC ?_;simp[CP]
 rintro tm S ⟨t2,t3,t4,t5,t6,rfl⟩;refine xW fun K hK=>?_;simp[t2,t3,wa,qa,hpz];apply hK;refine Az fun K hK=>?_;refine xJ ?_;simp[t3,t6];refine Bp (hset) rfl (by simp[hn,xN]) ?_;simp;refine xJ ?_;simp;refine Aj (hK _ _ ?_);refine xS (xW fun K hK=>?_);simp[t5];apply hK;refine Bw ?_;refine xW fun K hK=>?_;simp;apply hK;refine AU ?_;simp;(repeat refine xS ?_);refine xE [0,2,4,6,8,10,12,14,16,18,20,22,25] (by kernel_rfl) fun K hK=>?_;simp;refine xA 0 ?_;simp[t2,t3,t5,wa,ql,hnz];refine Ae.CA (Fs ⟨#[110,111,110,116,101,114,109,105,110,97,108]⟩ x.b hxb (by decide)) rfl (by simp[maxLen,xN]) ?_;simp;refine xA 0 ?_;simp;refine xX 4095 (by kernel_rfl) ?_;simp[t4,CP];refine xM (hK _ _ ?_);(try simp only[xQ,reduceIte]);refine Ag ?_;(try simp only[xQ,reduceIte]);refine⟨_,_,AJ.refl,by simp[t4],_,_,⟨rfl,{DR with kind:=1,number:=L,name:=Ji ⟨#[110,111,110,116,101,114,109,105,110,97,108]⟩ x.b},rfl,rfl⟩,.inl ⟨AO {DR with kind:=1,number:=L,name:=Ji ⟨#[110,111,110,116,101,114,109,105,110,97,108]⟩ x.b},_,by simp[t4,asD,AO,DR],rfl,AJ.AY 0 rfl (by simp) (by simp) (by simp)⟩⟩
theorem aQ(g:AF)(x:Dw)(hg:MG g 10 6)(hk:x.kind=1):At prog 6 [.d (AB g),.d (BN x)] [] (Y5 fun c=>c.kind=2):=by
 obtain⟨hc1,hn0,hn1,ht1,ho1,hp0,hp1,hl1,hl2,hf1⟩:=hg;refine At.AI func6 (by kernel_rfl) rfl (by simp) fun wf _=>?_;have hx:x.a<256∧x.b<256∧x.c<256:=by have:=wf.2.1;simp[WFV,WFD,WFDs,rng]at this;omega
 clear wf;obtain⟨hxa,hxb,hxc⟩:=hx;have hset:=Cx x.b g.conds.length hxb (by omega);generalize E7 x.b g.conds.length=d at *;obtain⟨n,hn⟩:∃n,g.conds.length=n:=⟨_,rfl⟩;have e1:IntKind.i64.wrap (1:Int)=1:=by decide
 have e2:IntKind.i64.wrap (2:Int)=2:=by decide
 have e3:IntKind.i64.wrap ((1:Int)+1)=2:=by decide
 obtain⟨A,hA⟩:∃A,x.a % g.AD.length=A:=⟨_,rfl⟩;have hAl:A<g.AD.length:=by rw[←hA];exact Nat.mod_lt _ hp0
 have qa:((x.a:Int).tmod g.AD.length)=A:=by rw[Int.tmod_eq_emod_of_nonneg (by omega),←hA];simp
 have wa:IntKind.i64.wrap (x.a:Int)=x.a:=by rw[IntKind.wrap_i64];omega
 have wb:IntKind.i64.wrap (x.b:Int)=x.b:=by rw[IntKind.wrap_i64];omega
 have wc:IntKind.i64.wrap (x.c:Int)=x.c:=by rw[IntKind.wrap_i64];omega
 have hpz:¬g.AD.length=0:=by omega
 have hpn:g.AD≠[]:=by intro e;simp[e]at hp0
 have hnz:¬g.BC.length=0:=by omega
 have hnn:g.BC≠[]:=by intro e;simp[e]at hn0
 have h1m:1≤maxLen:=by unfold maxLen;omega
 rw[ntmps6];refine xW fun K hK=>?_;simp;apply hK;refine xW fun K hK=>?_;simp[hk,e1,e2];apply hK;refine xW fun K hK=>?_;simp[hn];apply hK;refine AW.El (R:=fun tm S=>tm 2=.ptr 0 1 0 0∧tm 3=.ptr 1 1 0 0∧tm 4=.ptr 2 1 0 0∧tm 5=.d (.int .i64 2)∧tm 6=.d (.int .i64 n)∧S=[.row true 9 [.d (AB g)],.row true 5 [.d (BN x)],.row true 31 [CP]]) ?_ ?_
 ·by_cases hn0':n=0
  ·refine Az fun K hK=>?_;refine xH ?_;simp[hn0'];refine Aj (hK _ _ ?_);refine AU ?_;simp;refine CC ?_;simp[CP,hn0']
  ·(repeat refine xS ?_);refine BX fun K hK=>?_;(repeat((first|refine Dp rfl ?_ ?_;(·simp[hn0'])|refine Jf rfl ?_ ?_;(·simp[hn0'])|refine B7 ?_ ?_;(·simp[hn0']));simp));refine Aj (hK _ _ ?_);(try simp only[QSeq]);refine AU ?_;simp;refine CC ?_;simp[CP]
 rintro tm S ⟨t2,t3,t4,t5,t6,rfl⟩;refine xW fun K hK=>?_;simp[t2,t3,wa,qa,hpz];apply hK;refine Az fun K hK=>?_;refine xJ ?_;simp[t3,t6];refine Bp (hset) rfl (by simp[hn,xN]) ?_;simp;refine xJ ?_;simp;refine Aj (hK _ _ ?_);refine xS (xW fun K hK=>?_);simp[t5];apply hK;refine Bw ?_;refine xW fun K hK=>?_;simp;apply hK;refine AU ?_;simp;refine xW fun K hK=>?_;simp;apply hK;refine AU ?_;simp;(repeat refine xS ?_);refine BX fun K hK=>?_;refine xJ ?_;simp[t3,t5];refine Bp (Fs ⟨#[112,114,111,100,117,99,116,105,111,110]⟩ x.b hxb (by decide)) rfl (by simp[maxLen,xN]) ?_;simp;refine xJ ?_;simp[t4,CP];refine Aj (hK _ _ ?_);(try simp only[xQ,reduceIte]);refine Ag ?_;(try simp only[xQ,reduceIte]);refine⟨_,_,AJ.refl,by simp[t4],_,_,⟨rfl,{DR with kind:=2,number:=A,name:=Ji ⟨#[112,114,111,100,117,99,116,105,111,110]⟩ x.b},rfl,rfl⟩,.inl ⟨AO {DR with kind:=2,number:=A,name:=Ji ⟨#[112,114,111,100,117,99,116,105,111,110]⟩ x.b},_,by simp[t4,asD,AO,DR],rfl,AJ.AY 0 rfl (by simp) (by simp) (by simp)⟩⟩
theorem ay(g:AF)(x:Dw)(hg:MG g 10 6)(hk:x.kind=2)(hcn:0<g.conds.length):At prog 6 [.d (AB g),.d (BN x)] [] (Y5 fun c=>c.kind=3):=by
 obtain⟨hc1,hn0,hn1,ht1,ho1,hp0,hp1,hl1,hl2,hf1⟩:=hg;refine At.AI func6 (by kernel_rfl) rfl (by simp) fun wf _=>?_;have hx:x.a<256∧x.b<256∧x.c<256:=by have:=wf.2.1;simp[WFV,WFD,WFDs,rng]at this;omega
 clear wf;obtain⟨hxa,hxb,hxc⟩:=hx;have hset:=Cx x.b g.conds.length hxb (by omega);generalize E7 x.b g.conds.length=d at *;obtain⟨n,hn⟩:∃n,g.conds.length=n:=⟨_,rfl⟩;have e1:IntKind.i64.wrap (2:Int)=2:=by decide
 have e2:IntKind.i64.wrap (3:Int)=3:=by decide
 have e3:IntKind.i64.wrap ((1:Int)+2)=3:=by decide
 obtain⟨A,hA⟩:∃A,x.a % g.AD.length=A:=⟨_,rfl⟩;have hAl:A<g.AD.length:=by rw[←hA];exact Nat.mod_lt _ hp0
 have qa:((x.a:Int).tmod g.AD.length)=A:=by rw[Int.tmod_eq_emod_of_nonneg (by omega),←hA];simp
 have wa:IntKind.i64.wrap (x.a:Int)=x.a:=by rw[IntKind.wrap_i64];omega
 have wb:IntKind.i64.wrap (x.b:Int)=x.b:=by rw[IntKind.wrap_i64];omega
 have wc:IntKind.i64.wrap (x.c:Int)=x.c:=by rw[IntKind.wrap_i64];omega
 have hpz:¬g.AD.length=0:=by omega
 have hpn:g.AD≠[]:=by intro e;simp[e]at hp0
 have hnz:¬g.BC.length=0:=by omega
 have hnn:g.BC≠[]:=by intro e;simp[e]at hn0
 have h1m:1≤maxLen:=by unfold maxLen;omega
 obtain⟨C,hC⟩:∃C,x.a % n=C:=⟨_,rfl⟩;have qn:((x.a:Int).tmod n)=C:=by rw[Int.tmod_eq_emod_of_nonneg (by omega),←hC];simp
 have hn0':¬n=0:=by omega
 rw[ntmps6];refine xW fun K hK=>?_;simp;apply hK;refine xW fun K hK=>?_;simp[hk,e1,e2];apply hK;refine xW fun K hK=>?_;simp[hn];apply hK;refine AW.El (R:=fun tm S=>tm 2=.ptr 0 1 0 0∧tm 3=.ptr 1 1 0 0∧tm 4=.ptr 2 1 0 0∧tm 5=.d (.int .i64 3)∧tm 6=.d (.int .i64 n)∧S=[.row true 9 [.d (AB g)],.row true 5 [.d (BN x)],.row true 31 [CP]]) ?_ ?_
 ·(repeat refine xS ?_);refine BX fun K hK=>?_;(repeat((first|refine Dp rfl ?_ ?_;(·simp[hn0'])|refine Jf rfl ?_ ?_;(·simp[hn0'])|refine B7 ?_ ?_;(·simp[hn0']));simp));refine Aj (hK _ _ ?_);(try simp only[QSeq]);refine AU ?_;simp;refine CC ?_;simp[CP]
 rintro tm S ⟨t2,t3,t4,t5,t6,rfl⟩;refine xW fun K hK=>?_;simp[t2,t3,wa,qa,hpz];apply hK;refine Az fun K hK=>?_;refine xJ ?_;simp[t3,t6];refine Bp (hset) rfl (by simp[hn,xN]) ?_;simp;refine xJ ?_;simp;refine Aj (hK _ _ ?_);refine xS (xW fun K hK=>?_);simp[t5];apply hK;refine Bw ?_;refine xW fun K hK=>?_;simp;apply hK;refine AU ?_;simp;refine xW fun K hK=>?_;simp;apply hK;refine AU ?_;simp;refine xW fun K hK=>?_;simp;apply hK;refine AU ?_;simp;(repeat refine xS ?_);refine xE [0,2,4,6,8,10,12,14,16,18,21] (by kernel_rfl) fun K hK=>?_;simp;refine xA 0 ?_;simp[t3,t5,t6,wa,qn,hn0'];refine Ae.CA (Fs ⟨#[99,111,110,100,105,116,105,111,110]⟩ x.b hxb (by decide)) rfl (by simp[maxLen,xN]) ?_;simp;refine xA 0 ?_;simp;refine xX 1023 (by kernel_rfl) ?_;simp[t4,CP];refine xM (hK _ _ ?_);(try simp only[xQ,reduceIte]);refine Ag ?_;(try simp only[xQ,reduceIte]);refine⟨_,_,AJ.refl,by simp[t4],_,_,⟨rfl,{DR with kind:=3,number:=C,name:=Ji ⟨#[99,111,110,100,105,116,105,111,110]⟩ x.b},rfl,rfl⟩,.inl ⟨AO {DR with kind:=3,number:=C,name:=Ji ⟨#[99,111,110,100,105,116,105,111,110]⟩ x.b},_,by simp[t4,asD,AO,DR],rfl,AJ.AY 0 rfl (by simp) (by simp) (by simp)⟩⟩
theorem aJ(g:AF)(x:Dw)(hg:MG g 10 6)(hk:x.kind=2)(hcn:g.conds.length=0):At prog 6 [.d (AB g),.d (BN x)] [] (Y5 fun c=>c.kind=4):=by
 obtain⟨hc1,hn0,hn1,ht1,ho1,hp0,hp1,hl1,hl2,hf1⟩:=hg;refine At.AI func6 (by kernel_rfl) rfl (by simp) fun wf _=>?_;have hx:x.a<256∧x.b<256∧x.c<256:=by have:=wf.2.1;simp[WFV,WFD,WFDs,rng]at this;omega
 clear wf;obtain⟨hxa,hxb,hxc⟩:=hx;have hset:=Cx x.b g.conds.length hxb (by omega);generalize E7 x.b g.conds.length=d at *;obtain⟨n,hn⟩:∃n,g.conds.length=n:=⟨_,rfl⟩;have e1:IntKind.i64.wrap (2:Int)=2:=by decide
 have e2:IntKind.i64.wrap (3:Int)=3:=by decide
 have e3:IntKind.i64.wrap ((1:Int)+2)=3:=by decide
 obtain⟨A,hA⟩:∃A,x.a % g.AD.length=A:=⟨_,rfl⟩;have hAl:A<g.AD.length:=by rw[←hA];exact Nat.mod_lt _ hp0
 have qa:((x.a:Int).tmod g.AD.length)=A:=by rw[Int.tmod_eq_emod_of_nonneg (by omega),←hA];simp
 have wa:IntKind.i64.wrap (x.a:Int)=x.a:=by rw[IntKind.wrap_i64];omega
 have wb:IntKind.i64.wrap (x.b:Int)=x.b:=by rw[IntKind.wrap_i64];omega
 have wc:IntKind.i64.wrap (x.c:Int)=x.c:=by rw[IntKind.wrap_i64];omega
 have hpz:¬g.AD.length=0:=by omega
 have hpn:g.AD≠[]:=by intro e;simp[e]at hp0
 have hnz:¬g.BC.length=0:=by omega
 have hnn:g.BC≠[]:=by intro e;simp[e]at hn0
 have h1m:1≤maxLen:=by unfold maxLen;omega
 rw[ntmps6];refine xW fun K hK=>?_;simp;apply hK;refine xW fun K hK=>?_;simp[hk,e1,e2];apply hK;refine xW fun K hK=>?_;simp[hn];apply hK;refine AW.El (R:=fun tm S=>tm 2=.ptr 0 1 0 0∧tm 3=.ptr 1 1 0 0∧tm 4=.ptr 2 1 0 0∧tm 5=.d (.int .i64 4)∧tm 6=.d (.int .i64 n)∧S=[.row true 9 [.d (AB g)],.row true 5 [.d (BN x)],.row true 31 [CP]]) ?_ ?_
 ·have hn0':n=0:=by omega
  refine Az fun K hK=>?_;refine xH ?_;simp[hn0'];refine Aj (hK _ _ ?_);refine AU ?_;simp;refine xV fun K hK=>?_;simp;apply hK;simp[CP,hn0']
 rintro tm S ⟨t2,t3,t4,t5,t6,rfl⟩;refine xW fun K hK=>?_;simp[t2,t3,wa,qa,hpz];apply hK;refine Az fun K hK=>?_;refine xJ ?_;simp[t3,t6];refine Bp (hset) rfl (by simp[hn,xN]) ?_;simp;refine xJ ?_;simp;refine Aj (hK _ _ ?_);refine xS (xW fun K hK=>?_);simp[t5];apply hK;refine Bw ?_;refine xW fun K hK=>?_;simp;apply hK;refine AU ?_;simp;refine xW fun K hK=>?_;simp;apply hK;refine AU ?_;simp;refine xW fun K hK=>?_;simp;apply hK;refine AU ?_;simp;refine xW fun K hK=>?_;simp;apply hK;refine AU ?_;simp;(repeat refine xS ?_);refine BX fun K hK=>?_;refine xJ ?_;simp[t3,t5];refine Bp (Fs ⟨#[97,100,100,101,100]⟩ x.b hxb (by decide)) rfl (by simp[maxLen,xN]) ?_;simp;refine xJ ?_;simp[t4,CP];refine Aj (hK _ _ ?_);(try simp only[xQ,reduceIte]);refine Ag ?_;(try simp only[xQ,reduceIte]);refine⟨_,_,AJ.refl,by simp[t4],_,_,⟨rfl,{DR with kind:=4,name:=Ji ⟨#[97,100,100,101,100]⟩ x.b},rfl,rfl⟩,.inl ⟨AO {DR with kind:=4,name:=Ji ⟨#[97,100,100,101,100]⟩ x.b},_,by simp[t4,asD,AO,DR],rfl,AJ.AY 0 rfl (by simp) (by simp) (by simp)⟩⟩
theorem bO(g:AF)(x:Dw)(hg:MG g 10 6)(hk:x.kind=9):At prog 6 [.d (AB g),.d (BN x)] [] (Y5 fun c=>c.kind=10):=by
 obtain⟨hc1,hn0,hn1,ht1,ho1,hp0,hp1,hl1,hl2,hf1⟩:=hg;refine At.AI func6 (by kernel_rfl) rfl (by simp) fun wf _=>?_;have hx:x.a<256∧x.b<256∧x.c<256:=by have:=wf.2.1;simp[WFV,WFD,WFDs,rng]at this;omega
 clear wf;obtain⟨hxa,hxb,hxc⟩:=hx;have hset:=Cx x.b g.conds.length hxb (by omega);generalize E7 x.b g.conds.length=d at *;obtain⟨n,hn⟩:∃n,g.conds.length=n:=⟨_,rfl⟩;have e1:IntKind.i64.wrap (9:Int)=9:=by decide
 have e2:IntKind.i64.wrap (10:Int)=10:=by decide
 have e3:IntKind.i64.wrap ((1:Int)+9)=10:=by decide
 obtain⟨A,hA⟩:∃A,x.a % g.AD.length=A:=⟨_,rfl⟩;have hAl:A<g.AD.length:=by rw[←hA];exact Nat.mod_lt _ hp0
 have qa:((x.a:Int).tmod g.AD.length)=A:=by rw[Int.tmod_eq_emod_of_nonneg (by omega),←hA];simp
 have wa:IntKind.i64.wrap (x.a:Int)=x.a:=by rw[IntKind.wrap_i64];omega
 have wb:IntKind.i64.wrap (x.b:Int)=x.b:=by rw[IntKind.wrap_i64];omega
 have wc:IntKind.i64.wrap (x.c:Int)=x.c:=by rw[IntKind.wrap_i64];omega
 have hpz:¬g.AD.length=0:=by omega
 have hpn:g.AD≠[]:=by intro e;simp[e]at hp0
 have hnz:¬g.BC.length=0:=by omega
 have hnn:g.BC≠[]:=by intro e;simp[e]at hn0
 have h1m:1≤maxLen:=by unfold maxLen;omega
 obtain⟨C4,hC4⟩:∃C4,x.c % 4=C4:=⟨_,rfl⟩;have q4:((x.c:Int).tmod 4)=C4:=by rw[Int.tmod_eq_emod_of_nonneg (by omega),←hC4];simp
 have q4':(x.c:Int) % 4=C4:=by omega
 obtain⟨C3,hC3⟩:∃C3,x.c % 3=C3:=⟨_,rfl⟩;have q3:((x.c:Int).tmod 3)=C3:=by rw[Int.tmod_eq_emod_of_nonneg (by omega),←hC3];simp
 have q3':(x.c:Int) % 3=C3:=by omega
 obtain⟨b2,hb2⟩:∃b2,x.b % 2=b2:=⟨_,rfl⟩;have q2:((x.b:Int).tmod 2)=b2:=by rw[Int.tmod_eq_emod_of_nonneg (by omega),←hb2];simp
 have q2':(x.b:Int) % 2=b2:=by omega
 have hm0:0≤maxLen:=Nat.zero_le _;obtain⟨mn,hmn⟩:∃mn,min g.levels.length C3=mn:=⟨_,rfl⟩;have hmi:(if(C3:Int)<g.levels.length then(C3:Int)else g.levels.length)=mn:=by split<;>omega
 have hmi2:(if C3<g.levels.length then(C3:Int)else g.levels.length)=mn:=by split<;>omega
 have hml:(mn:Int)≤g.levels.length:=by omega
 have hml2:mn≤g.levels.length:=by omega
 have hmt:(g.levels.take mn).length=mn:=by rw[List.length_take];omega
 have hmb:mn≤1073741824:=by omega
 have hmm:min mn g.levels.length=mn:=by omega
 have hsz:Af 4 (List.take mn (List.map (V.d ∘ Ac) g.levels)):=by
  intro y hy;obtain⟨l,_,rfl⟩:=List.mem_map.1 (List.mem_of_mem_take hy);simp
 rw[ntmps6];refine xW fun K hK=>?_;simp;apply hK;refine xW fun K hK=>?_;simp[hk,e1,e2];apply hK;refine xW fun K hK=>?_;simp[hn];apply hK;refine AW.El (R:=fun tm S=>tm 2=.ptr 0 1 0 0∧tm 3=.ptr 1 1 0 0∧tm 4=.ptr 2 1 0 0∧tm 5=.d (.int .i64 10)∧tm 6=.d (.int .i64 n)∧S=[.row true 9 [.d (AB g)],.row true 5 [.d (BN x)],.row true 31 [CP]]) ?_ ?_
 ·by_cases hn0':n=0
  ·refine Az fun K hK=>?_;refine xH ?_;simp[hn0'];refine Aj (hK _ _ ?_);refine AU ?_;simp;refine CC ?_;simp[CP,hn0']
  ·(repeat refine xS ?_);refine BX fun K hK=>?_;(repeat((first|refine Dp rfl ?_ ?_;(·simp[hn0'])|refine Jf rfl ?_ ?_;(·simp[hn0'])|refine B7 ?_ ?_;(·simp[hn0']));simp));refine Aj (hK _ _ ?_);(try simp only[QSeq]);refine AU ?_;simp;refine CC ?_;simp[CP]
 rintro tm S ⟨t2,t3,t4,t5,t6,rfl⟩;refine xW fun K hK=>?_;simp[t2,t3,wa,qa,hpz];apply hK;refine Az fun K hK=>?_;refine xJ ?_;simp[t3,t6];refine Bp (hset) rfl (by simp[hn,xN]) ?_;simp;refine xJ ?_;simp;refine Aj (hK _ _ ?_);refine xS (xW fun K hK=>?_);simp[t5];apply hK;refine Bw ?_;refine xW fun K hK=>?_;simp;apply hK;refine AU ?_;simp;refine xW fun K hK=>?_;simp;apply hK;refine AU ?_;simp;refine xW fun K hK=>?_;simp;apply hK;refine AU ?_;simp;refine xW fun K hK=>?_;simp;apply hK;refine AU ?_;simp;refine xW fun K hK=>?_;simp;apply hK;refine AU ?_;simp;refine xW fun K hK=>?_;simp;apply hK;refine AU ?_;simp;refine xW fun K hK=>?_;simp;apply hK;refine AU ?_;simp;refine xW fun K hK=>?_;simp;apply hK;refine AU ?_;simp;refine xW fun K hK=>?_;simp;apply hK;refine AU ?_;simp;refine xW fun K hK=>?_;simp;apply hK;refine AU ?_;simp;refine xW fun K hK=>?_;simp[t3,wc,q4,maxLen];apply hK;refine xS (xW fun K hK=>?_);simp[t3,q2];apply hK;by_cases hev:b2=0
 ·refine AU ?_;simp[hev];refine BX fun K hK=>?_;refine xJ ?_;simp[t2,t3,wc,q3,hm0,hmi2,hml,hmm,hmb,hsz];refine Aj (hK _ _ ?_);refine xW fun K hK=>?_;simp[t4,t5,CP];apply hK;refine Ag ?_;(try simp only[xQ,reduceIte]);refine⟨_,_,AJ.B6 4 (xs:=(g.levels.take mn).map Ac) rfl (by simpa[List.map_take]using BT _ ((g.levels.take mn).map Ac)),by simp[t4],_,_,⟨rfl,{DR with kind:=10,levels:=g.levels.take mn},rfl,rfl⟩,.inl ⟨AO {DR with kind:=10,levels:=g.levels.take mn},_,by simp[t4,asD,AO,DR,List.map_take,hmm],rfl,AJ.AY 0 rfl (by simp) (by simp) (by simp)⟩⟩
 ·refine AU ?_;simp[hev];refine xK ?_;refine xW fun K hK=>?_;simp[t4,t5,CP];apply hK;refine Ag ?_;(try simp only[xQ,reduceIte]);refine⟨_,_,AJ.refl,by simp[t4],_,_,⟨rfl,{DR with kind:=10,levels:=[(⟨[(A:Int)],C4,d⟩:Level)]},rfl,rfl⟩,.inl ⟨AO {DR with kind:=10,levels:=[(⟨[(A:Int)],C4,d⟩:Level)]},_,by simp[t4,asD,AO,DR,Ac],rfl,AJ.AY 0 rfl (by simp) (by simp) (by simp)⟩⟩
theorem X3(g:AF)(x:Dw)(hg:MG g 10 6)(hk:x.kind=10):At prog 6 [.d (AB g),.d (BN x)] [] (Y5 fun c=>c.kind=11):=by
 obtain⟨hc1,hn0,hn1,ht1,ho1,hp0,hp1,hl1,hl2,hf1⟩:=hg;refine At.AI func6 (by kernel_rfl) rfl (by simp) fun wf _=>?_;have hx:x.a<256∧x.b<256∧x.c<256:=by have:=wf.2.1;simp[WFV,WFD,WFDs,rng]at this;omega
 clear wf;obtain⟨hxa,hxb,hxc⟩:=hx;have hset:=Cx x.b g.conds.length hxb (by omega);generalize E7 x.b g.conds.length=d at *;obtain⟨n,hn⟩:∃n,g.conds.length=n:=⟨_,rfl⟩;have e1:IntKind.i64.wrap (10:Int)=10:=by decide
 have e2:IntKind.i64.wrap (11:Int)=11:=by decide
 have e3:IntKind.i64.wrap ((1:Int)+10)=11:=by decide
 obtain⟨A,hA⟩:∃A,x.a % g.AD.length=A:=⟨_,rfl⟩;have hAl:A<g.AD.length:=by rw[←hA];exact Nat.mod_lt _ hp0
 have qa:((x.a:Int).tmod g.AD.length)=A:=by rw[Int.tmod_eq_emod_of_nonneg (by omega),←hA];simp
 have wa:IntKind.i64.wrap (x.a:Int)=x.a:=by rw[IntKind.wrap_i64];omega
 have wb:IntKind.i64.wrap (x.b:Int)=x.b:=by rw[IntKind.wrap_i64];omega
 have wc:IntKind.i64.wrap (x.c:Int)=x.c:=by rw[IntKind.wrap_i64];omega
 have hpz:¬g.AD.length=0:=by omega
 have hpn:g.AD≠[]:=by intro e;simp[e]at hp0
 have hnz:¬g.BC.length=0:=by omega
 have hnn:g.BC≠[]:=by intro e;simp[e]at hn0
 have h1m:1≤maxLen:=by unfold maxLen;omega
 obtain⟨C4,hC4⟩:∃C4,x.c % 4=C4:=⟨_,rfl⟩;have q4:((x.c:Int).tmod 4)=C4:=by rw[Int.tmod_eq_emod_of_nonneg (by omega),←hC4];simp
 have q4':(x.c:Int) % 4=C4:=by omega
 obtain⟨L,hL⟩:∃L,x.a % g.BC.length=L:=⟨_,rfl⟩;have ql:((x.a:Int).tmod g.BC.length)=L:=by rw[Int.tmod_eq_emod_of_nonneg (by omega),←hL];simp
 have hm0:0≤maxLen:=Nat.zero_le _;obtain⟨mn,hmn⟩:∃mn,min g.AM.length C4=mn:=⟨_,rfl⟩;have hmi:(if(C4:Int)<g.AM.length then(C4:Int)else g.AM.length)=mn:=by split<;>omega
 have hmi2:(if C4<g.AM.length then(C4:Int)else g.AM.length)=mn:=by split<;>omega
 have hml:(mn:Int)≤g.AM.length:=by omega
 have hml2:mn≤g.AM.length:=by omega
 have hmb:mn≤1073741824:=by omega
 have hmb1:mn+1≤1073741824:=by omega
 have hmm:min mn g.AM.length=mn:=by omega
 have hsz:Af 9 (List.take mn (List.map (V.d ∘ AK) g.AM)):=by
  intro y hy;obtain⟨l,_,rfl⟩:=List.mem_map.1 (List.mem_of_mem_take hy);simp
 have hord:=N5 g (by omega);have hop:=YM ho1;generalize Ey g g.Ak.length=O at *;obtain⟨E,hE⟩:∃E,x.b % O.length=E:=⟨_,rfl⟩;have hEl:E<O.length:=by rw[←hE];exact Nat.mod_lt _ hop
 have qe:((x.b:Int).tmod O.length)=E:=by rw[Int.tmod_eq_emod_of_nonneg (by omega),←hE];simp
 have hoz:¬O.length=0:=by omega
 have hon:O≠[]:=by intro e;simp[e]at hop
 obtain⟨oe,hoe⟩:∃oe,O[E]=oe:=⟨_,rfl⟩;rw[ntmps6];refine xW fun K hK=>?_;simp;apply hK;refine xW fun K hK=>?_;simp[hk,e1,e2];apply hK;refine xW fun K hK=>?_;simp[hn];apply hK;refine AW.El (R:=fun tm S=>tm 2=.ptr 0 1 0 0∧tm 3=.ptr 1 1 0 0∧tm 4=.ptr 2 1 0 0∧tm 5=.d (.int .i64 11)∧tm 6=.d (.int .i64 n)∧S=[.row true 9 [.d (AB g)],.row true 5 [.d (BN x)],.row true 31 [CP]]) ?_ ?_
 ·by_cases hn0':n=0
  ·refine Az fun K hK=>?_;refine xH ?_;simp[hn0'];refine Aj (hK _ _ ?_);refine AU ?_;simp;refine CC ?_;simp[CP,hn0']
  ·(repeat refine xS ?_);refine BX fun K hK=>?_;(repeat((first|refine Dp rfl ?_ ?_;(·simp[hn0'])|refine Jf rfl ?_ ?_;(·simp[hn0'])|refine B7 ?_ ?_;(·simp[hn0']));simp));refine Aj (hK _ _ ?_);(try simp only[QSeq]);refine AU ?_;simp;refine CC ?_;simp[CP]
 rintro tm S ⟨t2,t3,t4,t5,t6,rfl⟩;refine xW fun K hK=>?_;simp[t2,t3,wa,qa,hpz];apply hK;refine Az fun K hK=>?_;refine xJ ?_;simp[t3,t6];refine Bp (hset) rfl (by simp[hn,xN]) ?_;simp;refine xJ ?_;simp;refine Aj (hK _ _ ?_);refine xS (xW fun K hK=>?_);simp[t5];apply hK;refine Bw ?_;refine xW fun K hK=>?_;simp;apply hK;refine AU ?_;simp;refine xW fun K hK=>?_;simp;apply hK;refine AU ?_;simp;refine xW fun K hK=>?_;simp;apply hK;refine AU ?_;simp;refine xW fun K hK=>?_;simp;apply hK;refine AU ?_;simp;refine xW fun K hK=>?_;simp;apply hK;refine AU ?_;simp;refine xW fun K hK=>?_;simp;apply hK;refine AU ?_;simp;refine xW fun K hK=>?_;simp;apply hK;refine AU ?_;simp;refine xW fun K hK=>?_;simp;apply hK;refine AU ?_;simp;refine xW fun K hK=>?_;simp;apply hK;refine AU ?_;simp;refine xW fun K hK=>?_;simp;apply hK;refine AU ?_;simp;refine xW fun K hK=>?_;simp;apply hK;refine AU ?_;simp;refine Az fun K hK=>?_;refine xJ ?_;simp[t2,t3,wc,q4,hm0,hmi2,hml,hmm,hmb,hsz];refine Aj (hK _ _ ?_);refine xD [0,2,4,6,8,10,12,14,16,18,20,22,24,26,28,30,32,34,36,38,40,42,44,47,48] (by kernel_rfl) fun K hK=>?_;simp;refine xA 1 ?_;simp[t2,t3,wa,ql,hnz];refine Bj (hord) rfl (by simp[xN]) ?_;simp;refine xA 1 ?_;simp[t2,t3,wb];refine Bj (hord) rfl (by simp[xN]) ?_;simp;refine xA 1 ?_;simp[qe,hoz,hEl,hoe,maxLen];refine xX 4194561 (by kernel_rfl) ?_;simp[AR,Al,t2,t3,wa,wb,ql,qe,hnz,hoz,hEl,hoe,maxLen,hmm,hmb1,hsz];refine xA 1 ?_;simp;refine xM (hK _ _ ?_);refine xW fun K hK=>?_;simp[t4,t5,CP];apply hK;refine Ag ?_;(try simp only[xQ,reduceIte]);refine⟨_,_,AJ.B6 4 (xs:=(g.AM.take mn++[(⟨3,0,0,0,L,0,[oe],d⟩:Filter)]).map AK) rfl ?_,by simp[t4],_,_,⟨rfl,{DR with kind:=11,AM:=g.AM.take mn++[(⟨3,0,0,0,L,0,[oe],d⟩:Filter)]},rfl,rfl⟩,.inl ⟨AO {DR with kind:=11,AM:=g.AM.take mn++[(⟨3,0,0,0,L,0,[oe],d⟩:Filter)]},_,by simp[t4,asD,AO,DR,AK,List.map_take,hmm],rfl,AJ.AY 0 rfl (by simp) (by simp) (by simp)⟩⟩;rw[Bc];simp[AK,List.map_take,Function.comp_def]
theorem Xd(g:AF)(x:Dw)(hg:MG g 10 6)(hk:x.kind=11):At prog 6 [.d (AB g),.d (BN x)] [] (Y5 fun c=>c.kind=12):=by
 obtain⟨hc1,hn0,hn1,ht1,ho1,hp0,hp1,hl1,hl2,hf1⟩:=hg;refine At.AI func6 (by kernel_rfl) rfl (by simp) fun wf _=>?_;have hx:x.a<256∧x.b<256∧x.c<256:=by have:=wf.2.1;simp[WFV,WFD,WFDs,rng]at this;omega
 clear wf;obtain⟨hxa,hxb,hxc⟩:=hx;have hset:=Cx x.b g.conds.length hxb (by omega);generalize E7 x.b g.conds.length=d at *;obtain⟨n,hn⟩:∃n,g.conds.length=n:=⟨_,rfl⟩;have e1:IntKind.i64.wrap (11:Int)=11:=by decide
 have e2:IntKind.i64.wrap (12:Int)=12:=by decide
 have e3:IntKind.i64.wrap ((1:Int)+11)=12:=by decide
 obtain⟨A,hA⟩:∃A,x.a % g.AD.length=A:=⟨_,rfl⟩;have hAl:A<g.AD.length:=by rw[←hA];exact Nat.mod_lt _ hp0
 have qa:((x.a:Int).tmod g.AD.length)=A:=by rw[Int.tmod_eq_emod_of_nonneg (by omega),←hA];simp
 have wa:IntKind.i64.wrap (x.a:Int)=x.a:=by rw[IntKind.wrap_i64];omega
 have wb:IntKind.i64.wrap (x.b:Int)=x.b:=by rw[IntKind.wrap_i64];omega
 have wc:IntKind.i64.wrap (x.c:Int)=x.c:=by rw[IntKind.wrap_i64];omega
 have hpz:¬g.AD.length=0:=by omega
 have hpn:g.AD≠[]:=by intro e;simp[e]at hp0
 have hnz:¬g.BC.length=0:=by omega
 have hnn:g.BC≠[]:=by intro e;simp[e]at hn0
 have h1m:1≤maxLen:=by unfold maxLen;omega
 have hset2:=Cx x.c g.conds.length hxc (by omega);generalize E7 x.c g.conds.length=d2 at *;obtain⟨b4,hb4⟩:∃b4,x.b % 4=b4:=⟨_,rfl⟩;have q4:((x.b:Int).tmod 4)=b4:=by rw[Int.tmod_eq_emod_of_nonneg (by omega),←hb4];simp
 have q4':(x.b:Int) % 4=b4:=by omega
 have hb4i:(b4:Int)<4:=by omega
 obtain⟨lit,hlit,hsz⟩:∃lit:ByteArray,[D.str ⟨#[61]⟩,D.str ⟨#[38,38]⟩,D.str ⟨#[33]⟩,D.str ⟨#[120]⟩][b4]?=some (.str lit)∧lit.size≤maxLen:=by
  have h:b4=0∨b4=1∨b4=2∨b4=3:=by omega
  rcases h with rfl|rfl|rfl|rfl
  ·exact⟨⟨#[61]⟩,rfl,by unfold maxLen;decide⟩
  ·exact⟨⟨#[38,38]⟩,rfl,by unfold maxLen;decide⟩
  ·exact⟨⟨#[33]⟩,rfl,by unfold maxLen;decide⟩
  ·exact⟨⟨#[120]⟩,rfl,by unfold maxLen;decide⟩
 rw[ntmps6];refine xW fun K hK=>?_;simp;apply hK;refine xW fun K hK=>?_;simp[hk,e1,e2];apply hK;refine xW fun K hK=>?_;simp[hn];apply hK;refine AW.El (R:=fun tm S=>tm 2=.ptr 0 1 0 0∧tm 3=.ptr 1 1 0 0∧tm 4=.ptr 2 1 0 0∧tm 5=.d (.int .i64 12)∧tm 6=.d (.int .i64 n)∧S=[.row true 9 [.d (AB g)],.row true 5 [.d (BN x)],.row true 31 [CP]]) ?_ ?_
 ·by_cases hn0':n=0
  ·refine Az fun K hK=>?_;refine xH ?_;simp[hn0'];refine Aj (hK _ _ ?_);refine AU ?_;simp;refine CC ?_;simp[CP,hn0']
  ·(repeat refine xS ?_);refine BX fun K hK=>?_;(repeat((first|refine Dp rfl ?_ ?_;(·simp[hn0'])|refine Jf rfl ?_ ?_;(·simp[hn0'])|refine B7 ?_ ?_;(·simp[hn0']));simp));refine Aj (hK _ _ ?_);(try simp only[QSeq]);refine AU ?_;simp;refine CC ?_;simp[CP]
 rintro tm S ⟨t2,t3,t4,t5,t6,rfl⟩;refine xW fun K hK=>?_;simp[t2,t3,wa,qa,hpz];apply hK;refine Az fun K hK=>?_;refine xJ ?_;simp[t3,t6];refine Bp (hset) rfl (by simp[hn,xN]) ?_;simp;refine xJ ?_;simp;refine Aj (hK _ _ ?_);refine xS (xW fun K hK=>?_);simp[t5];apply hK;refine Bw ?_;refine xW fun K hK=>?_;simp;apply hK;refine AU ?_;simp;refine xW fun K hK=>?_;simp;apply hK;refine AU ?_;simp;refine xW fun K hK=>?_;simp;apply hK;refine AU ?_;simp;refine xW fun K hK=>?_;simp;apply hK;refine AU ?_;simp;refine xW fun K hK=>?_;simp;apply hK;refine AU ?_;simp;refine xW fun K hK=>?_;simp;apply hK;refine AU ?_;simp;refine xW fun K hK=>?_;simp;apply hK;refine AU ?_;simp;refine xW fun K hK=>?_;simp;apply hK;refine AU ?_;simp;refine xW fun K hK=>?_;simp;apply hK;refine AU ?_;simp;refine xW fun K hK=>?_;simp;apply hK;refine AU ?_;simp;refine xW fun K hK=>?_;simp;apply hK;refine AU ?_;simp;refine xW fun K hK=>?_;simp;apply hK;refine AU ?_;simp;(repeat refine xS ?_);refine xE [0,2,4,6,8,10,12,14,16,18,20,22,24,26,28,30,33] (by kernel_rfl) fun K hK=>?_;simp;refine xA 1 ?_;simp[t3,t5];refine Bj (Fs ⟨#[116,111,107,101,110]⟩ x.a hxa (by decide)) rfl (by simp[maxLen,xN]) ?_;simp;refine xA 1 ?_;simp[t3,t6,maxLen,q4,hlit,hb4i];refine Bj (hset2) rfl (by simp[hn,xN]) ?_;simp[hn];refine xA 1 ?_;simp[AA];refine xX 65535 (by kernel_rfl) ?_;simp[AR,Al,t3,t4,t5,t6,maxLen,q4,hlit,hb4i,CP];refine xM (hK _ _ ?_);(try simp only[xQ,reduceIte]);refine Ag ?_;(try simp only[xQ,reduceIte]);refine⟨_,_,AJ.refl,by simp[t4],_,_,⟨rfl,{DR with kind:=12,token:=(⟨Ji ⟨#[116,111,107,101,110]⟩ x.a,0,lit,[],ByteArray.empty,d2⟩:Token)},rfl,rfl⟩,.inl ⟨AO {DR with kind:=12,token:=(⟨Ji ⟨#[116,111,107,101,110]⟩ x.a,0,lit,[],ByteArray.empty,d2⟩:Token)},_,by simp[t4,asD,AO,DR],rfl,AJ.AY 0 rfl (by simp) (by simp) (by simp)⟩⟩
open Go.Proofs Tryz DT
def gf(k:FuncId):V:=.fn (.func k) [] []
theorem Mb(k:FuncId):AE prog 69 [.fn (.func k) [] []] [] (.fn (.func 139) [] [.ptr 0 1 0 0]) [.row true 1 [.fn (.func k) [] []]]:=by
 refine AE.AI func69 (by kernel_rfl) rfl (by simp) fun wf _=>?_;rw[ntmps69];refine xW fun K hK=>?_;simp;apply hK;refine xW fun K hK=>?_;simp;apply hK;refine Ag ?_;(try simp only[xQ,reduceIte]);refine⟨_,AJ.refl,?_⟩;simp[Am]
theorem C8(k:FuncId):AE prog 67 [.fn (.func k) [] []] [] (.fn (.func 68) [] [.ptr 0 1 0 0]) [.row true 1 [.fn (.func k) [] []]]:=by
 refine AE.AI func67 (by kernel_rfl) rfl (by simp) fun wf _=>?_;rw[ntmps67];refine xW fun K hK=>?_;simp;apply hK;refine xW fun K hK=>?_;simp;apply hK;refine Ag ?_;(try simp only[xQ,reduceIte]);refine⟨_,AJ.refl,?_⟩;simp[Am]
theorem VL{k:FuncId}{S0 S1:Sg}{r q:Nat}(h:AE prog k [.ptr r 1 0 0] S0 (.Bd []) S1)(hq:S0[q]?=some (.row true 1 [.fn (.func k) [] []])):
  AE prog 68 [.ptr r 1 0 0,.ptr q 1 0 0] S0 (.d (AG 0)) S1:=by
 refine AE.AI func68 (by kernel_rfl) rfl (by simp) fun wf _=>?_;rw[ntmps68];refine xW fun K hK=>?_;simp;apply hK;refine Az fun K hK=>?_;refine xJ ?_;simp[hq];refine AS.call rfl rfl (by simp) (f:=k) (args:=[.ptr r 1 0 0]) (by simp[callee];try rfl) (by simp) h ?_;simp;refine Aj (hK _ _ ?_);refine xW fun K hK=>?_;simp;apply hK;refine Ag ?_;(try simp only[xQ,reduceIte]);refine⟨_,AJ.refl,?_⟩;simp[Am]
def C7:List (D×V):=[(.int .i64 1,.agg [.fn (.func 65) [] [],.fn (.func 139) [] [.ptr 1 1 0 0],.d (.bool true),.fn (.func 68) [] [.ptr 2 1 0 0]]),(.int .i64 2,.agg [.fn (.func 65) [] [],.fn (.func 72) [] [],.d (.bool true),.fn (.func 68) [] [.ptr 3 1 0 0]]),(.int .i64 3,.agg [.fn (.func 65) [] [],.fn (.func 139) [] [.ptr 4 1 0 0],.d (.bool true),.fn (.func 68) [] [.ptr 5 1 0 0]]),(.int .i64 4,.agg [.fn (.func 76) [] [],.fn (.func 64) [] [],.d (.bool true),.fn (.func 68) [] [.ptr 6 1 0 0]]),(.int .i64 5,.agg [.fn (.func 78) [] [],.fn (.func 139) [] [.ptr 7 1 0 0],.d (.bool false),.fn (.func 68) [] [.ptr 8 1 0 0]]),(.int .i64 6,.agg [.fn (.func 80) [] [],.fn (.func 81) [] [],.d (.bool false),.fn (.func 68) [] [.ptr 9 1 0 0]]),(.int .i64 7,.agg [.fn (.func 85) [] [],.fn (.func 86) [] [],.d (.bool true),.fn (.func 87) [] []]),(.int .i64 8,.agg [.fn (.func 66) [] [],.fn (.func 88) [] [],.d (.bool true),.fn (.func 90) [] []]),(.int .i64 9,.agg [.fn (.func 91) [] [],.fn (.func 86) [] [],.d (.bool true),.fn (.func 92) [] []]),(.int .i64 10,.agg [.fn (.func 93) [] [],.fn (.func 64) [] [],.d (.bool false),.fn (.func 68) [] [.ptr 10 1 0 0]]),(.int .i64 11,.agg [.fn (.func 95) [] [],.fn (.func 64) [] [],.d (.bool false),.fn (.func 68) [] [.ptr 11 1 0 0]]),(.int .i64 12,.agg [.fn (.func 97) [] [],.fn (.func 64) [] [],.d (.bool false),.fn (.func 68) [] [.ptr 12 1 0 0]]),(.int .i64 13,.agg [.fn (.func 99) [] [],.fn (.func 64) [] [],.d (.bool false),.fn (.func 68) [] [.ptr 13 1 0 0]]),(.int .i64 14,.agg [.fn (.func 101) [] [],.fn (.func 72) [] [],.d (.bool false),.fn (.func 68) [] [.ptr 14 1 0 0]])]
def DB:Sg:=[.row true 1 [.fn (.func 70) [] []],.row true 1 [.fn (.func 71) [] []],.row true 1 [.fn (.func 73) [] []],.row true 1 [.fn (.func 74) [] []],.row true 1 [.fn (.func 75) [] []],.row true 1 [.fn (.func 77) [] []],.row true 1 [.fn (.func 74) [] []],.row true 1 [.fn (.func 79) [] []],.row true 1 [.fn (.func 83) [] []],.row true 1 [.fn (.func 94) [] []],.row true 1 [.fn (.func 96) [] []],.row true 1 [.fn (.func 98) [] []],.row true 1 [.fn (.func 100) [] []],.row true 1 [.fn (.func 102) [] []]]
theorem CJ:AE prog 24 [] [] (.map 0) (.map C7::DB):=by
 refine AE.AI func24 (by kernel_rfl) rfl (by simp) fun wf _=>?_;rw[ntmps24];refine xW fun K hK=>?_;simp;apply hK;refine xW fun K hK=>?_;simp;apply hK;refine xW fun K hK=>?_;simp;apply hK;refine xW fun K hK=>?_;simp;apply hK;refine xW fun K hK=>?_;simp;apply hK;(repeat refine xS ?_);refine BX fun K hK=>?_;refine xJ ?_;simp;refine xF (Mb 70) [] rfl ?_;simp;refine xJ ?_;simp;refine xF (C8 71) [] rfl ?_;simp;refine xJ ?_;simp[DU,A4,goodKeys,goodK,goodC];refine xF (C8 73) [] rfl ?_;simp;refine xJ ?_;simp[DU,A4,deq,goodKeys,goodK,goodC];refine xF (Mb 74) [] rfl ?_;simp;refine xJ ?_;simp;refine xF (C8 75) [] rfl ?_;simp;refine xJ ?_;simp[DU,A4,deq,goodKeys,goodK,goodC];refine xF (C8 77) [] rfl ?_;simp;refine xJ ?_;simp[DU,A4,deq,goodKeys,goodK,goodC];refine xF (Mb 74) [] rfl ?_;simp;refine xJ ?_;simp;refine xF (C8 79) [] rfl ?_;simp;refine xJ ?_;simp[DU,A4,deq,goodKeys,goodK,goodC];refine xF (C8 83) [] rfl ?_;simp;refine xJ ?_;simp[DU,A4,deq,goodKeys,goodK,goodC];refine xF (C8 94) [] rfl ?_;simp;refine xJ ?_;simp[DU,A4,deq,goodKeys,goodK,goodC];refine xF (C8 96) [] rfl ?_;simp;refine xJ ?_;simp[DU,A4,deq,goodKeys,goodK,goodC];refine xF (C8 98) [] rfl ?_;simp;refine xJ ?_;simp[DU,A4,deq,goodKeys,goodK,goodC];refine xF (C8 100) [] rfl ?_;simp;refine xJ ?_;simp[DU,A4,deq,goodKeys,goodK,goodC];refine xF (C8 102) [] rfl ?_;simp;refine xJ ?_;simp[DU,A4,deq,goodKeys,goodK,goodC];refine Aj (hK _ _ ?_);(try simp only[xQ,reduceIte]);refine Ag ?_;(try simp only[xQ,reduceIte]);refine⟨_,AJ.JK (by simp[C7,DB]),?_⟩;simp[Am]
open Go.Proofs DT
section
variable {P:Program} {n b:Nat} {ops:Array Oper} {tm:Tm} {S S1 S2:Sg} {K:Tm→Sg→Prop} {v1 v2:V}
theorem Ad.Ih{B:List (Nat×(Sg→Prop))}{listed:Array Bool}{fuel:Nat}{o1 o2:Oper}(i j:Nat)(ws1 ws2:List Bool)(hr:Region.ready .any ops listed=[i,j])(hi:ops[i]?=some o1)(hj:ops[j]?=some o2)
  (hw1:B.map (fun p=>waits ops i p.1)=ws1) (hw2:B.map (fun p=>waits ops j p.1)=ws2)
  (h1:A7 P n b ops i o1 tm S v1 S1) (h1':okB ws1 B S S1) (h2:A7 P n b ops j o2 tm S v2 S2) (h2':okB ws2 B S S2)
  (k1:Ad P n b ops K (dropB ws1 B) fuel (listed.setIfInBounds i true) (put tm o1.dst v1) S1)
  (k2:Ad P n b ops K (dropB ws2 B) fuel (listed.setIfInBounds j true) (put tm o2.dst v2) S2):Ad P n b ops K B (fuel+1) listed tm S:=by
 refine⟨fun h0=>(by rw[hr]at h0;cases h0),fun k hk=>?_⟩;rw[hr]at hk;simp only[List.mem_cons,List.not_mem_nil,or_false]at hk;rcases hk with rfl|rfl
 ·exact⟨o1,_,_,hi,h1,D7 hw1 h1',by rw[Eh hw1];exact k1⟩
 ·exact⟨o2,_,_,hj,h2,D7 hw2 h2',by rw[Eh hw2];exact k2⟩
theorem Ad.Mf{B:List (Nat×(Sg→Prop))}{listed:Array Bool}{fuel:Nat}{o1:Oper}(i:Nat)(ws1:List Bool)(hr:Region.ready .any ops listed=[i])(hi:ops[i]?=some o1)
  (hw1:B.map (fun p=>waits ops i p.1)=ws1) (h1:A7 P n b ops i o1 tm S v1 S1) (h1':okB ws1 B S S1)
  (k1:Ad P n b ops K (dropB ws1 B) fuel (listed.setIfInBounds i true) (put tm o1.dst v1) S1):Ad P n b ops K B (fuel+1) listed tm S:=by
 refine⟨fun h0=>(by rw[hr]at h0;cases h0),fun k hk=>?_⟩;rw[hr]at hk;simp only[List.mem_cons,List.not_mem_nil,or_false]at hk;subst hk;exact⟨o1,_,_,hi,h1,D7 hw1 h1',by rw[Eh hw1];exact k1⟩
end
def Cl(g:AF)(x:Change)(c f a:FuncId)(fc ac:List V)(kp:Bool)(k1 k2:FuncId):Sg:=
 [.row true 9 [.d (AB g)],.row true 31 [.d (AO x)],.row true 9 [.agg [.full [],.full [],.d (.int .i64 0),.full [],.full [],.full [],.d (.int .i64 0),.full [],.full []]],.row true 4 [.agg [.fn (.func c) [] [],.fn (.func f) [] fc,.d (.bool kp),.fn (.func a) [] ac]],.row true 1 [.fn (.func k1) [] []],.row true 1 [.fn (.func k2) [] []]]
end Go.Koi
