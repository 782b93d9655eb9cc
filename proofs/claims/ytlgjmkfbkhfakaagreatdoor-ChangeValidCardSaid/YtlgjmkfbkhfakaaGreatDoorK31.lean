/- Part 32 of the proof that the law ChangeValid returns true for every input. -/
import Derived.Test.YtlgjmkfbkhfakaaGreatDoorK30
set_option maxHeartbeats 64000000
set_option maxRecDepth 100000
namespace Go.Koi
open Go.Proofs Tryz
structure FX where
 kind:Nat
 a:Nat
 b:Nat
 c:Nat
 DV:Nat
def Bt(x:FX):D:=.agg [D.int .u8 (x.kind:Nat),D.int .u8 (x.a:Nat),D.int .u8 (x.b:Nat),D.int .u8 (x.c:Nat),D.int .u8 (x.DV:Nat)]
@[simp] theorem Vz(x:FX):AAF (.d (Bt x))=[.d (D.int .u8 (x.kind:Nat)),.d (D.int .u8 (x.a:Nat)),.d (D.int .u8 (x.b:Nat)),.d (D.int .u8 (x.c:Nat)),.d (D.int .u8 (x.DV:Nat))]:=rfl
@[simp] theorem VJ(x:FX):Ar (.d (Bt x))=true:=rfl
@[simp] theorem YL(x:FX):AAW (.d (Bt x))=false:=rfl
@[simp] theorem Ut(x:FX):AAL (Bt x)=[D.int .u8 (x.kind:Nat),D.int .u8 (x.a:Nat),D.int .u8 (x.b:Nat),D.int .u8 (x.c:Nat),D.int .u8 (x.DV:Nat)]:=rfl
@[simp] theorem Xp(x:FX):AAe.oneD (Bt x)=true:=rfl
@[simp] theorem Z4(x:FX):WFD (Bt x)=AAY [D.int .u8 (x.kind:Nat),D.int .u8 (x.a:Nat),D.int .u8 (x.b:Nat),D.int .u8 (x.c:Nat),D.int .u8 (x.DV:Nat)]:=rfl
@[simp] theorem W0(S:Sg)(x:FX):AAr S (.d (Bt x))=some [D.int .u8 (x.kind:Nat),D.int .u8 (x.a:Nat),D.int .u8 (x.b:Nat),D.int .u8 (x.c:Nat),D.int .u8 (x.DV:Nat)]:=rfl
def Gg(g g':AF):Prop:=g'=g∨(∃l,LvQ g l∧g'={g with levels:=g.levels++[l]})∨(∃f,FlQ g f∧g'={g with AM:=g.AM++[f]})∨∃t,TkQ g t∧g'={g with Ak:=t}
structure Fk(g:AF)(x:FX):Prop where
 p0:0<g.AD.length
 p1:g.AD.length≤100
 n0:0<g.BC.length
 n1:g.BC.length≤100
 c1:g.conds.length≤3
 t1:g.Ak.length=11
 l1:g.levels.length≤100
 l2:∀l∈g.levels,l.AD.length≤100
 f1:g.AM.length≤100
 k1:x.kind<256
 k2:x.a<256
 k3:x.b<256
 k4:x.c<256
 k5:x.DV<256
theorem T6(g:AF)(x:FX)(h:Fk g x)(hr:x.kind % 8=7):∃F,Gg g F∧At prog 19 [.d (AB g),.d (Bt x)] [] (Ph fun g'=>g'=F):=by
 obtain⟨p0,p1,n0,n1,c1,tk1,lv1,lv2,f1,k1,k2,k3,k4,k5⟩:=h;have iF:=Cx x.DV g.conds.length k5 (by omega);have iw:=(Df k5 (show g.conds.length<4 by omega)).2;have lq:=AAx k5 (show g.conds.length<4 by omega);generalize E7 x.DV g.conds.length=d at *;obtain⟨A,hA⟩:∃A,x.a % g.AD.length=A:=⟨_,rfl⟩;have hAl:A<g.AD.length:=by rw[←hA];exact Nat.mod_lt _ p0
 obtain⟨B,hB⟩:∃B,x.b % g.AD.length=B:=⟨_,rfl⟩;have hBl:B<g.AD.length:=by rw[←hB];exact Nat.mod_lt _ p0
 have q0:((x.kind:Int).tmod 8)=7:=by rw[Int.tmod_eq_emod_of_nonneg (by omega)];omega
 have q0':(x.kind:Int) % 8=7:=by omega
 have qa:((x.a:Int).tmod g.AD.length)=A:=by rw[Int.tmod_eq_emod_of_nonneg (by omega),←hA];simp
 have qb:((x.b:Int).tmod g.AD.length)=B:=by rw[Int.tmod_eq_emod_of_nonneg (by omega),←hB];simp
 have w8:IntKind.u8.wrap (7:Int)=7:=by decide
 have wa:IntKind.i64.wrap (x.a:Int)=x.a:=by rw[IntKind.wrap_i64];omega
 have wb:IntKind.i64.wrap (x.b:Int)=x.b:=by rw[IntKind.wrap_i64];omega
 have wc:IntKind.i64.wrap (x.c:Int)=x.c:=by rw[IntKind.wrap_i64];omega
 have jX:¬g.AD.length=0:=by omega
 have jt:g.AD≠[]:=by intro e;simp[e]at p0
 have jK:g.BC≠[]:=by intro e;simp[e]at n0
 have iR:¬g.BC.length=0:=by omega
 have gm:1≤maxLen:=by unfold maxLen;omega
 have ib:0≤maxLen:=Nat.zero_le _;obtain⟨e,he⟩:∃e,x.a % 9=e:=⟨_,rfl⟩;have lE:e<g.Ak.length:=by omega
 have qe:((x.a:Int).tmod 9)=e:=by rw[Int.tmod_eq_emod_of_nonneg (by omega),←he];simp
 have qe':(x.a:Int) % 9=e:=by omega
 have jA:g.Ak.length≤1073741824:=by omega
 generalize g9:g.Ak[e]=tk;have cy:=Aa.eq_1 tk;have iE:g.Ak.isEmpty=false:=by cases h:g.Ak<;>simp[h]at lE⊢
 have jQ:(g.Ak.set e {tk with cond:=d}).map (·.cls)=g.Ak.map (·.cls):=by
  rw[List.map_set];apply List.ext_getElem (by simp);intro i h1 h2;rw[List.getElem_set];split
  ·rename_i hi;subst hi;simp[g9]
  ·rfl
 refine⟨{g with Ak:=g.Ak.set e {tk with cond:=d}},.inr (.inr (.inr ⟨_,⟨e,d,lq,lE,by rw[g9]⟩,rfl⟩)),?_⟩;refine At.AI func19 (by kernel_rfl) rfl (by simp) fun wf _=>?_;rw[ntmps19];refine xW fun K hK=>?_;simp;apply hK;refine Az fun K hK=>?_;refine xJ ?_;simp;refine Bp (iF) rfl (by simp[xN]) ?_;simp;refine xJ ?_;simp;refine Aj (hK _ _ ?_);refine xW fun K hK=>?_;simp[wa,qa,jX];apply hK;refine xW fun K hK=>?_;simp;apply hK;refine xS (xW fun K hK=>?_);simp[q0];apply hK;refine Bw ?_;refine xS (xW fun K hK=>?_);simp;apply hK;refine AU ?_;simp;refine xV fun K hK=>?_;simp;apply hK;refine AU ?_;simp;refine xS (xW fun K hK=>?_);simp;apply hK;refine AU ?_;simp;refine xV fun K hK=>?_;simp;apply hK;refine AU ?_;simp;refine xS (xW fun K hK=>?_);simp;apply hK;refine AU ?_;simp;refine xV fun K hK=>?_;simp;apply hK;refine AU ?_;simp;refine xW fun K hK=>?_;simp;apply hK;refine AU ?_;simp;refine xW fun K hK=>?_;simp[ib,jA,iE];apply hK;refine xW fun K hK=>?_;simp[wa,qe,lE,g9,cy];apply hK;refine xW fun K hK=>?_;simp;apply hK;refine xW fun K hK=>?_;simp;apply hK;refine AW.ghost (AJ.A2 5 (xs:=(g.Ak.set e {tk with cond:=d}).map Aa) rfl ?_) ?_
 ·rw[Bc,List.map_set,List.map_map,List.map_set,List.map_set,List.map_map];congr 1
 simp;refine Ag ?_;(try simp only[xQ,reduceIte]);refine⟨_,_,AJ.B6 5 (xs:=(g.Ak.set e {tk with cond:=d}).map Aa) rfl (by simpa using BT _ ((g.Ak.set e {tk with cond:=d}).map Aa)),by simp,_,_,⟨rfl,{g with Ak:=g.Ak.set e {tk with cond:=d}},rfl,rfl⟩,.inl ⟨AB {g with Ak:=g.Ak.set e {tk with cond:=d}},_,by simp[asD,AB],rfl,AJ.AY 0 rfl (by simp) (by simp) (by simp)⟩⟩
theorem UT(g:AF)(x:FX)(h:Fk g x)(hr:x.kind % 8=6):∃F,Gg g F∧At prog 19 [.d (AB g),.d (Bt x)] [] (Ph fun g'=>g'=F):=by
 obtain⟨p0,p1,n0,n1,c1,tk1,lv1,lv2,f1,k1,k2,k3,k4,k5⟩:=h;have iF:=Cx x.DV g.conds.length k5 (by omega);have iw:=(Df k5 (show g.conds.length<4 by omega)).2;have lq:=AAx k5 (show g.conds.length<4 by omega);generalize E7 x.DV g.conds.length=d at *;obtain⟨A,hA⟩:∃A,x.a % g.AD.length=A:=⟨_,rfl⟩;have hAl:A<g.AD.length:=by rw[←hA];exact Nat.mod_lt _ p0
 obtain⟨B,hB⟩:∃B,x.b % g.AD.length=B:=⟨_,rfl⟩;have hBl:B<g.AD.length:=by rw[←hB];exact Nat.mod_lt _ p0
 have q0:((x.kind:Int).tmod 8)=6:=by rw[Int.tmod_eq_emod_of_nonneg (by omega)];omega
 have q0':(x.kind:Int) % 8=6:=by omega
 have qa:((x.a:Int).tmod g.AD.length)=A:=by rw[Int.tmod_eq_emod_of_nonneg (by omega),←hA];simp
 have qb:((x.b:Int).tmod g.AD.length)=B:=by rw[Int.tmod_eq_emod_of_nonneg (by omega),←hB];simp
 have w8:IntKind.u8.wrap (6:Int)=6:=by decide
 have wa:IntKind.i64.wrap (x.a:Int)=x.a:=by rw[IntKind.wrap_i64];omega
 have wb:IntKind.i64.wrap (x.b:Int)=x.b:=by rw[IntKind.wrap_i64];omega
 have wc:IntKind.i64.wrap (x.c:Int)=x.c:=by rw[IntKind.wrap_i64];omega
 have jX:¬g.AD.length=0:=by omega
 have jt:g.AD≠[]:=by intro e;simp[e]at p0
 have jK:g.BC≠[]:=by intro e;simp[e]at n0
 have iR:¬g.BC.length=0:=by omega
 have gm:1≤maxLen:=by unfold maxLen;omega
 have ib:0≤maxLen:=Nat.zero_le _;obtain⟨bb,jh⟩:=V2 g 5 d (by omega) iw;refine⟨if bb then {g with AM:=g.AM++[(⟨5,0,0,0,0,0,[5],d⟩:Filter)]}else g,by cases bb;exact .inl rfl;exact .inr (.inr (.inl ⟨_,⟨d,lq,.inr (.inr rfl)⟩,rfl⟩)),?_⟩;refine At.AI func19 (by kernel_rfl) rfl (by simp) fun wf _=>?_;rw[ntmps19];refine xW fun K hK=>?_;simp;apply hK;refine Az fun K hK=>?_;refine xJ ?_;simp;refine Bp (iF) rfl (by simp[xN]) ?_;simp;refine xJ ?_;simp;refine Aj (hK _ _ ?_);refine xW fun K hK=>?_;simp[wa,qa,jX];apply hK;refine xW fun K hK=>?_;simp;apply hK;refine xS (xW fun K hK=>?_);simp[q0];apply hK;refine Bw ?_;refine xS (xW fun K hK=>?_);simp;apply hK;refine AU ?_;simp;refine xV fun K hK=>?_;simp;apply hK;refine AU ?_;simp;refine xS (xW fun K hK=>?_);simp;apply hK;refine AU ?_;simp;refine xV fun K hK=>?_;simp;apply hK;refine AU ?_;simp;refine xS (xW fun K hK=>?_);simp;apply hK;refine AU ?_;simp;refine xV fun K hK=>?_;simp;apply hK;refine AU ?_;simp;refine xW fun K hK=>?_;simp;apply hK;refine AU ?_;simp;refine xW fun K hK=>?_;simp;apply hK;refine xV fun K hK=>?_;simp[gm];apply hK;refine xS (Az fun K hK=>?_);refine xJ ?_;simp;refine Bp (jh) rfl (by simp[xN]) ?_;simp;refine xJ ?_;simp;refine Aj (hK _ _ ?_);(try simp only[xQ,reduceIte]);cases bb with
 |true=>
  refine AU ?_;simp;refine AW.ghost (AJ.A2 4 (xs:=[AK (⟨5,0,0,0,0,0,[5],d⟩:Filter)]) rfl (by simp[AAi,AA0,AAn,AK])) ?_;simp;have f2:g.AM.length≤1073741824:=by omega
  have f3:g.AM.length+1≤1073741824:=by omega
  refine xE [0,2,4,8,10,7,13,14,17] (by kernel_rfl) fun K hK=>?_;simp;refine xA 1 ?_;simp[gm,ib];refine xX 20 (by kernel_rfl) ?_;simp[AR,gm,ib,f2,Af,forall_and];refine xA 1 ?_;simp;refine xX 1 (by kernel_rfl) ?_;simp[AR,gm,f3,Af,forall_and];refine xA 1 ?_;simp;refine xX 7 (by kernel_rfl) ?_;simp[AR];refine xM (hK _ _ ?_);refine xW fun K hK=>?_;simp;apply hK;refine Ag ?_;(try simp only[xQ,reduceIte]);refine⟨_,_,AJ.B6 5 (xs:=(g.AM++[(⟨5,0,0,0,0,0,[5],d⟩:Filter)]).map AK) rfl (by simpa using BT _ ((g.AM++[(⟨5,0,0,0,0,0,[5],d⟩:Filter)]).map AK)),by simp,_,_,⟨rfl,{g with AM:=g.AM++[(⟨5,0,0,0,0,0,[5],d⟩:Filter)]},rfl,by simp⟩,.inl ⟨AB {g with AM:=g.AM++[(⟨5,0,0,0,0,0,[5],d⟩:Filter)]},_,by simp[asD,AB],rfl,AJ.AY 0 rfl (by simp) (by simp) (by simp)⟩⟩
 |false=>
  refine AU ?_;simp;refine xK ?_;refine xW fun K hK=>?_;simp;apply hK;refine Ag ?_;(try simp only[xQ,reduceIte]);refine⟨_,_,AJ.refl,by simp,_,_,⟨rfl,g,rfl,by simp⟩,.inl ⟨AB g,_,by simp,rfl,AJ.AY 0 rfl (by simp) (by simp) (by simp)⟩⟩
theorem V8(g:AF)(x:FX)(h:Fk g x)(hr:x.kind % 8=2):∃F,Gg g F∧At prog 19 [.d (AB g),.d (Bt x)] [] (Ph fun g'=>g'=F):=by
 obtain⟨p0,p1,n0,n1,c1,tk1,lv1,lv2,f1,k1,k2,k3,k4,k5⟩:=h;have iF:=Cx x.DV g.conds.length k5 (by omega);have iw:=(Df k5 (show g.conds.length<4 by omega)).2;have lq:=AAx k5 (show g.conds.length<4 by omega);generalize E7 x.DV g.conds.length=d at *;obtain⟨A,hA⟩:∃A,x.a % g.AD.length=A:=⟨_,rfl⟩;have hAl:A<g.AD.length:=by rw[←hA];exact Nat.mod_lt _ p0
 obtain⟨B,hB⟩:∃B,x.b % g.AD.length=B:=⟨_,rfl⟩;have hBl:B<g.AD.length:=by rw[←hB];exact Nat.mod_lt _ p0
 have q0:((x.kind:Int).tmod 8)=2:=by rw[Int.tmod_eq_emod_of_nonneg (by omega)];omega
 have q0':(x.kind:Int) % 8=2:=by omega
 have qa:((x.a:Int).tmod g.AD.length)=A:=by rw[Int.tmod_eq_emod_of_nonneg (by omega),←hA];simp
 have qb:((x.b:Int).tmod g.AD.length)=B:=by rw[Int.tmod_eq_emod_of_nonneg (by omega),←hB];simp
 have w8:IntKind.u8.wrap (2:Int)=2:=by decide
 have wa:IntKind.i64.wrap (x.a:Int)=x.a:=by rw[IntKind.wrap_i64];omega
 have wb:IntKind.i64.wrap (x.b:Int)=x.b:=by rw[IntKind.wrap_i64];omega
 have wc:IntKind.i64.wrap (x.c:Int)=x.c:=by rw[IntKind.wrap_i64];omega
 have jX:¬g.AD.length=0:=by omega
 have jt:g.AD≠[]:=by intro e;simp[e]at p0
 have jK:g.BC≠[]:=by intro e;simp[e]at n0
 have iR:¬g.BC.length=0:=by omega
 have gm:1≤maxLen:=by unfold maxLen;omega
 have ib:0≤maxLen:=Nat.zero_le _;obtain⟨C,hC⟩:∃C,x.c % 16=C:=⟨_,rfl⟩;have qc:((x.c:Int).tmod 16)=C:=by rw[Int.tmod_eq_emod_of_nonneg (by omega),←hC];simp
 have qc':(x.c:Int) % 16=C:=by omega
 have jh:=VO g A C B d hAl hBl iw;obtain⟨bb,kE⟩:∃bb,Ls g A C B=bb:=⟨_,rfl⟩;rw[kE]at jh;refine⟨if bb then {g with AM:=g.AM++[(⟨1,A,C,B,0,0,[],d⟩:Filter)]}else g,by cases kb:bb;exact .inl rfl;exact .inr (.inr (.inl ⟨_,⟨d,lq,.inl ⟨A,C,B,1,by simp,hAl,hBl,kE.trans kb,rfl⟩⟩,rfl⟩)),?_⟩;refine At.AI func19 (by kernel_rfl) rfl (by simp) fun wf _=>?_;rw[ntmps19];refine xW fun K hK=>?_;simp;apply hK;refine Az fun K hK=>?_;refine xJ ?_;simp;refine Bp (iF) rfl (by simp[xN]) ?_;simp;refine xJ ?_;simp;refine Aj (hK _ _ ?_);refine xW fun K hK=>?_;simp[wa,qa,jX];apply hK;refine xW fun K hK=>?_;simp;apply hK;refine xS (xW fun K hK=>?_);simp[q0];apply hK;refine Bw ?_;have z1:IntKind.i64.wrap 1=1:=by decide
 have z2:IntKind.i64.wrap 2=2:=by decide
 have z3:IntKind.i64.wrap 3=3:=by decide
 have z4:IntKind.i64.wrap 4=4:=by decide
 have z5:IntKind.i64.wrap 5=5:=by decide
 have z7:IntKind.i64.wrap 7=7:=by decide
 have z8:IntKind.i64.wrap 8=8:=by decide
 refine xS (xW fun K hK=>?_);simp;apply hK;refine AU ?_;simp;refine xV fun K hK=>?_;simp;apply hK;refine AU ?_;simp;refine xS (xW fun K hK=>?_);simp;apply hK;refine AU ?_;simp;refine xK ?_;refine AU ?_;simp;refine xW fun K hK=>?_;simp[q0,z1,z2,z3];apply hK;refine xW fun K hK=>?_;simp;apply hK;refine xW fun K hK=>?_;simp[wc,qc];apply hK;refine xV fun K hK=>?_;simp[wb,qb,jX];apply hK;refine xS (Az fun K hK=>?_);refine xJ ?_;simp;refine Bp (jh) rfl (by simp[xN]) ?_;simp;refine xJ ?_;simp;refine Aj (hK _ _ ?_);(try simp only[xQ,reduceIte]);cases bb with
 |true=>
  refine AU ?_;simp;refine AW.ghost (AJ.A2 4 (xs:=[AK (⟨1,A,C,B,0,0,[],d⟩:Filter)]) rfl (by simp[AAi,AA0,AAn,AK])) ?_;simp;have f2:g.AM.length≤1073741824:=by omega
  have f3:g.AM.length+1≤1073741824:=by omega
  refine xE [0,2,4,8,10,7,13,14,17] (by kernel_rfl) fun K hK=>?_;simp;refine xA 1 ?_;simp[gm,ib];refine xX 20 (by kernel_rfl) ?_;simp[AR,gm,ib,f2,Af,forall_and];refine xA 1 ?_;simp;refine xX 1 (by kernel_rfl) ?_;simp[AR,gm,f3,Af,forall_and];refine xA 1 ?_;simp;refine xX 7 (by kernel_rfl) ?_;simp[AR];refine xM (hK _ _ ?_);refine xW fun K hK=>?_;simp;apply hK;refine Ag ?_;(try simp only[xQ,reduceIte]);refine⟨_,_,AJ.B6 5 (xs:=(g.AM++[(⟨1,A,C,B,0,0,[],d⟩:Filter)]).map AK) rfl (by simpa using BT _ ((g.AM++[(⟨1,A,C,B,0,0,[],d⟩:Filter)]).map AK)),by simp,_,_,⟨rfl,{g with AM:=g.AM++[(⟨1,A,C,B,0,0,[],d⟩:Filter)]},rfl,by simp⟩,.inl ⟨AB {g with AM:=g.AM++[(⟨1,A,C,B,0,0,[],d⟩:Filter)]},_,by simp[asD,AB],rfl,AJ.AY 0 rfl (by simp) (by simp) (by simp)⟩⟩
 |false=>
  refine AU ?_;simp;refine xK ?_;refine xW fun K hK=>?_;simp;apply hK;refine Ag ?_;(try simp only[xQ,reduceIte]);refine⟨_,_,AJ.refl,by simp,_,_,⟨rfl,g,rfl,by simp⟩,.inl ⟨AB g,_,by simp,rfl,AJ.AY 0 rfl (by simp) (by simp) (by simp)⟩⟩
theorem VN(g:AF)(x:FX)(h:Fk g x)(hr:x.kind % 8=3):∃F,Gg g F∧At prog 19 [.d (AB g),.d (Bt x)] [] (Ph fun g'=>g'=F):=by
 obtain⟨p0,p1,n0,n1,c1,tk1,lv1,lv2,f1,k1,k2,k3,k4,k5⟩:=h;have iF:=Cx x.DV g.conds.length k5 (by omega);have iw:=(Df k5 (show g.conds.length<4 by omega)).2;have lq:=AAx k5 (show g.conds.length<4 by omega);generalize E7 x.DV g.conds.length=d at *;obtain⟨A,hA⟩:∃A,x.a % g.AD.length=A:=⟨_,rfl⟩;have hAl:A<g.AD.length:=by rw[←hA];exact Nat.mod_lt _ p0
 obtain⟨B,hB⟩:∃B,x.b % g.AD.length=B:=⟨_,rfl⟩;have hBl:B<g.AD.length:=by rw[←hB];exact Nat.mod_lt _ p0
 have q0:((x.kind:Int).tmod 8)=3:=by rw[Int.tmod_eq_emod_of_nonneg (by omega)];omega
 have q0':(x.kind:Int) % 8=3:=by omega
 have qa:((x.a:Int).tmod g.AD.length)=A:=by rw[Int.tmod_eq_emod_of_nonneg (by omega),←hA];simp
 have qb:((x.b:Int).tmod g.AD.length)=B:=by rw[Int.tmod_eq_emod_of_nonneg (by omega),←hB];simp
 have w8:IntKind.u8.wrap (3:Int)=3:=by decide
 have wa:IntKind.i64.wrap (x.a:Int)=x.a:=by rw[IntKind.wrap_i64];omega
 have wb:IntKind.i64.wrap (x.b:Int)=x.b:=by rw[IntKind.wrap_i64];omega
 have wc:IntKind.i64.wrap (x.c:Int)=x.c:=by rw[IntKind.wrap_i64];omega
 have jX:¬g.AD.length=0:=by omega
 have jt:g.AD≠[]:=by intro e;simp[e]at p0
 have jK:g.BC≠[]:=by intro e;simp[e]at n0
 have iR:¬g.BC.length=0:=by omega
 have gm:1≤maxLen:=by unfold maxLen;omega
 have ib:0≤maxLen:=Nat.zero_le _;obtain⟨C,hC⟩:∃C,x.c % 16=C:=⟨_,rfl⟩;have qc:((x.c:Int).tmod 16)=C:=by rw[Int.tmod_eq_emod_of_nonneg (by omega),←hC];simp
 have qc':(x.c:Int) % 16=C:=by omega
 have jh:=Td g A C B d hAl hBl iw;obtain⟨bb,kE⟩:∃bb,Ls g A C B=bb:=⟨_,rfl⟩;rw[kE]at jh;refine⟨if bb then {g with AM:=g.AM++[(⟨2,A,C,B,0,0,[],d⟩:Filter)]}else g,by cases kb:bb;exact .inl rfl;exact .inr (.inr (.inl ⟨_,⟨d,lq,.inl ⟨A,C,B,2,by simp,hAl,hBl,kE.trans kb,rfl⟩⟩,rfl⟩)),?_⟩;refine At.AI func19 (by kernel_rfl) rfl (by simp) fun wf _=>?_;rw[ntmps19];refine xW fun K hK=>?_;simp;apply hK;refine Az fun K hK=>?_;refine xJ ?_;simp;refine Bp (iF) rfl (by simp[xN]) ?_;simp;refine xJ ?_;simp;refine Aj (hK _ _ ?_);refine xW fun K hK=>?_;simp[wa,qa,jX];apply hK;refine xW fun K hK=>?_;simp;apply hK;refine xS (xW fun K hK=>?_);simp[q0];apply hK;refine Bw ?_;have z1:IntKind.i64.wrap 1=1:=by decide
 have z2:IntKind.i64.wrap 2=2:=by decide
 have z3:IntKind.i64.wrap 3=3:=by decide
 have z4:IntKind.i64.wrap 4=4:=by decide
 have z5:IntKind.i64.wrap 5=5:=by decide
 have z7:IntKind.i64.wrap 7=7:=by decide
 have z8:IntKind.i64.wrap 8=8:=by decide
 refine xS (xW fun K hK=>?_);simp;apply hK;refine AU ?_;simp;refine xV fun K hK=>?_;simp;apply hK;refine AU ?_;simp;refine xS (xW fun K hK=>?_);simp;apply hK;refine AU ?_;simp;refine xV fun K hK=>?_;simp;apply hK;refine AU ?_;simp;refine xW fun K hK=>?_;simp[q0,z2,z3,z4];apply hK;refine xW fun K hK=>?_;simp;apply hK;refine xW fun K hK=>?_;simp[wc,qc];apply hK;refine xV fun K hK=>?_;simp[wb,qb,jX];apply hK;refine xS (Az fun K hK=>?_);refine xJ ?_;simp;refine Bp (jh) rfl (by simp[xN]) ?_;simp;refine xJ ?_;simp;refine Aj (hK _ _ ?_);(try simp only[xQ,reduceIte]);cases bb with
 |true=>
  refine AU ?_;simp;refine AW.ghost (AJ.A2 4 (xs:=[AK (⟨2,A,C,B,0,0,[],d⟩:Filter)]) rfl (by simp[AAi,AA0,AAn,AK])) ?_;simp;have f2:g.AM.length≤1073741824:=by omega
  have f3:g.AM.length+1≤1073741824:=by omega
  refine xE [0,2,4,8,10,7,13,14,17] (by kernel_rfl) fun K hK=>?_;simp;refine xA 1 ?_;simp[gm,ib];refine xX 20 (by kernel_rfl) ?_;simp[AR,gm,ib,f2,Af,forall_and];refine xA 1 ?_;simp;refine xX 1 (by kernel_rfl) ?_;simp[AR,gm,f3,Af,forall_and];refine xA 1 ?_;simp;refine xX 7 (by kernel_rfl) ?_;simp[AR];refine xM (hK _ _ ?_);refine xW fun K hK=>?_;simp;apply hK;refine Ag ?_;(try simp only[xQ,reduceIte]);refine⟨_,_,AJ.B6 5 (xs:=(g.AM++[(⟨2,A,C,B,0,0,[],d⟩:Filter)]).map AK) rfl (by simpa using BT _ ((g.AM++[(⟨2,A,C,B,0,0,[],d⟩:Filter)]).map AK)),by simp,_,_,⟨rfl,{g with AM:=g.AM++[(⟨2,A,C,B,0,0,[],d⟩:Filter)]},rfl,by simp⟩,.inl ⟨AB {g with AM:=g.AM++[(⟨2,A,C,B,0,0,[],d⟩:Filter)]},_,by simp[asD,AB],rfl,AJ.AY 0 rfl (by simp) (by simp) (by simp)⟩⟩
 |false=>
  refine AU ?_;simp;refine xK ?_;refine xW fun K hK=>?_;simp;apply hK;refine Ag ?_;(try simp only[xQ,reduceIte]);refine⟨_,_,AJ.refl,by simp,_,_,⟨rfl,g,rfl,by simp⟩,.inl ⟨AB g,_,by simp,rfl,AJ.AY 0 rfl (by simp) (by simp) (by simp)⟩⟩
theorem UJ(g:AF)(x:FX)(h:Fk g x)(hr:x.kind % 8=4):∃F,Gg g F∧At prog 19 [.d (AB g),.d (Bt x)] [] (Ph fun g'=>g'=F):=by
 obtain⟨p0,p1,n0,n1,c1,tk1,lv1,lv2,f1,k1,k2,k3,k4,k5⟩:=h;have iF:=Cx x.DV g.conds.length k5 (by omega);have iw:=(Df k5 (show g.conds.length<4 by omega)).2;have lq:=AAx k5 (show g.conds.length<4 by omega);generalize E7 x.DV g.conds.length=d at *;obtain⟨A,hA⟩:∃A,x.a % g.AD.length=A:=⟨_,rfl⟩;have hAl:A<g.AD.length:=by rw[←hA];exact Nat.mod_lt _ p0
 obtain⟨B,hB⟩:∃B,x.b % g.AD.length=B:=⟨_,rfl⟩;have hBl:B<g.AD.length:=by rw[←hB];exact Nat.mod_lt _ p0
 have q0:((x.kind:Int).tmod 8)=4:=by rw[Int.tmod_eq_emod_of_nonneg (by omega)];omega
 have q0':(x.kind:Int) % 8=4:=by omega
 have qa:((x.a:Int).tmod g.AD.length)=A:=by rw[Int.tmod_eq_emod_of_nonneg (by omega),←hA];simp
 have qb:((x.b:Int).tmod g.AD.length)=B:=by rw[Int.tmod_eq_emod_of_nonneg (by omega),←hB];simp
 have w8:IntKind.u8.wrap (4:Int)=4:=by decide
 have wa:IntKind.i64.wrap (x.a:Int)=x.a:=by rw[IntKind.wrap_i64];omega
 have wb:IntKind.i64.wrap (x.b:Int)=x.b:=by rw[IntKind.wrap_i64];omega
 have wc:IntKind.i64.wrap (x.c:Int)=x.c:=by rw[IntKind.wrap_i64];omega
 have jX:¬g.AD.length=0:=by omega
 have jt:g.AD≠[]:=by intro e;simp[e]at p0
 have jK:g.BC≠[]:=by intro e;simp[e]at n0
 have iR:¬g.BC.length=0:=by omega
 have gm:1≤maxLen:=by unfold maxLen;omega
 have ib:0≤maxLen:=Nat.zero_le _;obtain⟨L,hL⟩:∃L,x.a % g.BC.length=L:=⟨_,rfl⟩;have hLl:L<g.BC.length:=by rw[←hL];exact Nat.mod_lt _ n0
 have ql:((x.a:Int).tmod g.BC.length)=L:=by rw[Int.tmod_eq_emod_of_nonneg (by omega),←hL];simp
 obtain⟨E,hE⟩:∃E,x.b % 9=E:=⟨_,rfl⟩;have qe:((x.b:Int).tmod 9)=E:=by rw[Int.tmod_eq_emod_of_nonneg (by omega),←hE];simp
 have qe':(x.b:Int) % 9=E:=by omega
 have jh:=WC g L E d hLl (by omega) iw;generalize(!(Q1 g.Ak[E] false))=bb at jh;refine⟨if bb then {g with AM:=g.AM++[(⟨3,0,0,0,L,0,[(E:Int)],d⟩:Filter)]}else g,by cases bb;exact .inl rfl;exact .inr (.inr (.inl ⟨_,⟨d,lq,.inr (.inl ⟨L,E,3,by simp,hLl,by omega,rfl⟩)⟩,rfl⟩)),?_⟩;refine At.AI func19 (by kernel_rfl) rfl (by simp) fun wf _=>?_;rw[ntmps19];refine xW fun K hK=>?_;simp;apply hK;refine Az fun K hK=>?_;refine xJ ?_;simp;refine Bp (iF) rfl (by simp[xN]) ?_;simp;refine xJ ?_;simp;refine Aj (hK _ _ ?_);refine xW fun K hK=>?_;simp[wa,qa,jX];apply hK;refine xW fun K hK=>?_;simp;apply hK;refine xS (xW fun K hK=>?_);simp[q0];apply hK;refine Bw ?_;have z1:IntKind.i64.wrap 1=1:=by decide
 have z2:IntKind.i64.wrap 2=2:=by decide
 have z3:IntKind.i64.wrap 3=3:=by decide
 have z4:IntKind.i64.wrap 4=4:=by decide
 have z5:IntKind.i64.wrap 5=5:=by decide
 have z7:IntKind.i64.wrap 7=7:=by decide
 have z8:IntKind.i64.wrap 8=8:=by decide
 refine xS (xW fun K hK=>?_);simp;apply hK;refine AU ?_;simp;refine xV fun K hK=>?_;simp;apply hK;refine AU ?_;simp;refine xS (xW fun K hK=>?_);simp;apply hK;refine AU ?_;simp;refine xV fun K hK=>?_;simp;apply hK;refine AU ?_;simp;refine xS (xW fun K hK=>?_);simp;apply hK;refine AU ?_;simp;refine xK ?_;refine AU ?_;simp;refine xW fun K hK=>?_;simp[q0,z3,z4,z7];apply hK;refine xW fun K hK=>?_;simp[wa,ql,iR];apply hK;refine xV fun K hK=>?_;simp[wb,qe,gm];apply hK;refine xS (Az fun K hK=>?_);refine xJ ?_;simp;refine Bp (jh) rfl (by simp[xN]) ?_;simp;refine xJ ?_;simp;refine Aj (hK _ _ ?_);(try simp only[xQ,reduceIte]);cases bb with
 |true=>
  refine AU ?_;simp;refine AW.ghost (AJ.A2 4 (xs:=[AK (⟨3,0,0,0,L,0,[(E:Int)],d⟩:Filter)]) rfl (by simp[AAi,AA0,AAn,AK])) ?_;simp;have f2:g.AM.length≤1073741824:=by omega
  have f3:g.AM.length+1≤1073741824:=by omega
  refine xE [0,2,4,8,10,7,13,14,17] (by kernel_rfl) fun K hK=>?_;simp;refine xA 1 ?_;simp[gm,ib];refine xX 20 (by kernel_rfl) ?_;simp[AR,gm,ib,f2,Af,forall_and];refine xA 1 ?_;simp;refine xX 1 (by kernel_rfl) ?_;simp[AR,gm,f3,Af,forall_and];refine xA 1 ?_;simp;refine xX 7 (by kernel_rfl) ?_;simp[AR];refine xM (hK _ _ ?_);refine xW fun K hK=>?_;simp;apply hK;refine Ag ?_;(try simp only[xQ,reduceIte]);refine⟨_,_,AJ.B6 5 (xs:=(g.AM++[(⟨3,0,0,0,L,0,[(E:Int)],d⟩:Filter)]).map AK) rfl (by simpa using BT _ ((g.AM++[(⟨3,0,0,0,L,0,[(E:Int)],d⟩:Filter)]).map AK)),by simp,_,_,⟨rfl,{g with AM:=g.AM++[(⟨3,0,0,0,L,0,[(E:Int)],d⟩:Filter)]},rfl,by simp⟩,.inl ⟨AB {g with AM:=g.AM++[(⟨3,0,0,0,L,0,[(E:Int)],d⟩:Filter)]},_,by simp[asD,AB],rfl,AJ.AY 0 rfl (by simp) (by simp) (by simp)⟩⟩
 |false=>
  refine AU ?_;simp;refine xK ?_;refine xW fun K hK=>?_;simp;apply hK;refine Ag ?_;(try simp only[xQ,reduceIte]);refine⟨_,_,AJ.refl,by simp,_,_,⟨rfl,g,rfl,by simp⟩,.inl ⟨AB g,_,by simp,rfl,AJ.AY 0 rfl (by simp) (by simp) (by simp)⟩⟩
theorem U4(g:AF)(x:FX)(h:Fk g x)(hr:x.kind % 8=5):∃F,Gg g F∧At prog 19 [.d (AB g),.d (Bt x)] [] (Ph fun g'=>g'=F):=by
 obtain⟨p0,p1,n0,n1,c1,tk1,lv1,lv2,f1,k1,k2,k3,k4,k5⟩:=h;have iF:=Cx x.DV g.conds.length k5 (by omega);have iw:=(Df k5 (show g.conds.length<4 by omega)).2;have lq:=AAx k5 (show g.conds.length<4 by omega);generalize E7 x.DV g.conds.length=d at *;obtain⟨A,hA⟩:∃A,x.a % g.AD.length=A:=⟨_,rfl⟩;have hAl:A<g.AD.length:=by rw[←hA];exact Nat.mod_lt _ p0
 obtain⟨B,hB⟩:∃B,x.b % g.AD.length=B:=⟨_,rfl⟩;have hBl:B<g.AD.length:=by rw[←hB];exact Nat.mod_lt _ p0
 have q0:((x.kind:Int).tmod 8)=5:=by rw[Int.tmod_eq_emod_of_nonneg (by omega)];omega
 have q0':(x.kind:Int) % 8=5:=by omega
 have qa:((x.a:Int).tmod g.AD.length)=A:=by rw[Int.tmod_eq_emod_of_nonneg (by omega),←hA];simp
 have qb:((x.b:Int).tmod g.AD.length)=B:=by rw[Int.tmod_eq_emod_of_nonneg (by omega),←hB];simp
 have w8:IntKind.u8.wrap (5:Int)=5:=by decide
 have wa:IntKind.i64.wrap (x.a:Int)=x.a:=by rw[IntKind.wrap_i64];omega
 have wb:IntKind.i64.wrap (x.b:Int)=x.b:=by rw[IntKind.wrap_i64];omega
 have wc:IntKind.i64.wrap (x.c:Int)=x.c:=by rw[IntKind.wrap_i64];omega
 have jX:¬g.AD.length=0:=by omega
 have jt:g.AD≠[]:=by intro e;simp[e]at p0
 have jK:g.BC≠[]:=by intro e;simp[e]at n0
 have iR:¬g.BC.length=0:=by omega
 have gm:1≤maxLen:=by unfold maxLen;omega
 have ib:0≤maxLen:=Nat.zero_le _;obtain⟨L,hL⟩:∃L,x.a % g.BC.length=L:=⟨_,rfl⟩;have hLl:L<g.BC.length:=by rw[←hL];exact Nat.mod_lt _ n0
 have ql:((x.a:Int).tmod g.BC.length)=L:=by rw[Int.tmod_eq_emod_of_nonneg (by omega),←hL];simp
 obtain⟨E,hE⟩:∃E,x.b % 9=E:=⟨_,rfl⟩;have qe:((x.b:Int).tmod 9)=E:=by rw[Int.tmod_eq_emod_of_nonneg (by omega),←hE];simp
 have qe':(x.b:Int) % 9=E:=by omega
 have jh:=Vy g L E d hLl (by omega) iw;generalize(!(Q1 g.Ak[E] false))=bb at jh;refine⟨if bb then {g with AM:=g.AM++[(⟨4,0,0,0,L,0,[(E:Int)],d⟩:Filter)]}else g,by cases bb;exact .inl rfl;exact .inr (.inr (.inl ⟨_,⟨d,lq,.inr (.inl ⟨L,E,4,by simp,hLl,by omega,rfl⟩)⟩,rfl⟩)),?_⟩;refine At.AI func19 (by kernel_rfl) rfl (by simp) fun wf _=>?_;rw[ntmps19];refine xW fun K hK=>?_;simp;apply hK;refine Az fun K hK=>?_;refine xJ ?_;simp;refine Bp (iF) rfl (by simp[xN]) ?_;simp;refine xJ ?_;simp;refine Aj (hK _ _ ?_);refine xW fun K hK=>?_;simp[wa,qa,jX];apply hK;refine xW fun K hK=>?_;simp;apply hK;refine xS (xW fun K hK=>?_);simp[q0];apply hK;refine Bw ?_;have z1:IntKind.i64.wrap 1=1:=by decide
 have z2:IntKind.i64.wrap 2=2:=by decide
 have z3:IntKind.i64.wrap 3=3:=by decide
 have z4:IntKind.i64.wrap 4=4:=by decide
 have z5:IntKind.i64.wrap 5=5:=by decide
 have z7:IntKind.i64.wrap 7=7:=by decide
 have z8:IntKind.i64.wrap 8=8:=by decide
 refine xS (xW fun K hK=>?_);simp;apply hK;refine AU ?_;simp;refine xV fun K hK=>?_;simp;apply hK;refine AU ?_;simp;refine xS (xW fun K hK=>?_);simp;apply hK;refine AU ?_;simp;refine xV fun K hK=>?_;simp;apply hK;refine AU ?_;simp;refine xS (xW fun K hK=>?_);simp;apply hK;refine AU ?_;simp;refine xV fun K hK=>?_;simp;apply hK;refine AU ?_;simp;refine xW fun K hK=>?_;simp[q0,z4,z5,z8];apply hK;refine xW fun K hK=>?_;simp[wa,ql,iR];apply hK;refine xV fun K hK=>?_;simp[wb,qe,gm];apply hK;refine xS (Az fun K hK=>?_);refine xJ ?_;simp;refine Bp (jh) rfl (by simp[xN]) ?_;simp;refine xJ ?_;simp;refine Aj (hK _ _ ?_);(try simp only[xQ,reduceIte]);cases bb with
 |true=>
  refine AU ?_;simp;refine AW.ghost (AJ.A2 4 (xs:=[AK (⟨4,0,0,0,L,0,[(E:Int)],d⟩:Filter)]) rfl (by simp[AAi,AA0,AAn,AK])) ?_;simp;have f2:g.AM.length≤1073741824:=by omega
  have f3:g.AM.length+1≤1073741824:=by omega
  refine xE [0,2,4,8,10,7,13,14,17] (by kernel_rfl) fun K hK=>?_;simp;refine xA 1 ?_;simp[gm,ib];refine xX 20 (by kernel_rfl) ?_;simp[AR,gm,ib,f2,Af,forall_and];refine xA 1 ?_;simp;refine xX 1 (by kernel_rfl) ?_;simp[AR,gm,f3,Af,forall_and];refine xA 1 ?_;simp;refine xX 7 (by kernel_rfl) ?_;simp[AR];refine xM (hK _ _ ?_);refine xW fun K hK=>?_;simp;apply hK;refine Ag ?_;(try simp only[xQ,reduceIte]);refine⟨_,_,AJ.B6 5 (xs:=(g.AM++[(⟨4,0,0,0,L,0,[(E:Int)],d⟩:Filter)]).map AK) rfl (by simpa using BT _ ((g.AM++[(⟨4,0,0,0,L,0,[(E:Int)],d⟩:Filter)]).map AK)),by simp,_,_,⟨rfl,{g with AM:=g.AM++[(⟨4,0,0,0,L,0,[(E:Int)],d⟩:Filter)]},rfl,by simp⟩,.inl ⟨AB {g with AM:=g.AM++[(⟨4,0,0,0,L,0,[(E:Int)],d⟩:Filter)]},_,by simp[asD,AB],rfl,AJ.AY 0 rfl (by simp) (by simp) (by simp)⟩⟩
 |false=>
  refine AU ?_;simp;refine xK ?_;refine xW fun K hK=>?_;simp;apply hK;refine Ag ?_;(try simp only[xQ,reduceIte]);refine⟨_,_,AJ.refl,by simp,_,_,⟨rfl,g,rfl,by simp⟩,.inl ⟨AB g,_,by simp,rfl,AJ.AY 0 rfl (by simp) (by simp) (by simp)⟩⟩
theorem UN(g:AF)(x:FX)(h:Fk g x)(hr:x.kind % 8=0):∃F,Gg g F∧At prog 19 [.d (AB g),.d (Bt x)] [] (Ph fun g'=>g'=F):=by
 obtain⟨p0,p1,n0,n1,c1,tk1,lv1,lv2,f1,k1,k2,k3,k4,k5⟩:=h;have iF:=Cx x.DV g.conds.length k5 (by omega);have iw:=(Df k5 (show g.conds.length<4 by omega)).2;have lq:=AAx k5 (show g.conds.length<4 by omega);generalize E7 x.DV g.conds.length=d at *;obtain⟨A,hA⟩:∃A,x.a % g.AD.length=A:=⟨_,rfl⟩;have hAl:A<g.AD.length:=by rw[←hA];exact Nat.mod_lt _ p0
 obtain⟨B,hB⟩:∃B,x.b % g.AD.length=B:=⟨_,rfl⟩;have hBl:B<g.AD.length:=by rw[←hB];exact Nat.mod_lt _ p0
 have q0:((x.kind:Int).tmod 8)=0:=by rw[Int.tmod_eq_emod_of_nonneg (by omega)];omega
 have q0':(x.kind:Int) % 8=0:=by omega
 have qa:((x.a:Int).tmod g.AD.length)=A:=by rw[Int.tmod_eq_emod_of_nonneg (by omega),←hA];simp
 have qb:((x.b:Int).tmod g.AD.length)=B:=by rw[Int.tmod_eq_emod_of_nonneg (by omega),←hB];simp
 have w8:IntKind.u8.wrap (0:Int)=0:=by decide
 have wa:IntKind.i64.wrap (x.a:Int)=x.a:=by rw[IntKind.wrap_i64];omega
 have wb:IntKind.i64.wrap (x.b:Int)=x.b:=by rw[IntKind.wrap_i64];omega
 have wc:IntKind.i64.wrap (x.c:Int)=x.c:=by rw[IntKind.wrap_i64];omega
 have jX:¬g.AD.length=0:=by omega
 have jt:g.AD≠[]:=by intro e;simp[e]at p0
 have jK:g.BC≠[]:=by intro e;simp[e]at n0
 have iR:¬g.BC.length=0:=by omega
 have gm:1≤maxLen:=by unfold maxLen;omega
 have ib:0≤maxLen:=Nat.zero_le _;obtain⟨C,hC⟩:∃C,x.c % 4=C:=⟨_,rfl⟩;have qc:((x.c:Int).tmod 4)=C:=by rw[Int.tmod_eq_emod_of_nonneg (by omega),←hC];simp
 have qc':(x.c:Int) % 4=C:=by omega
 have wC:IntKind.i64.wrap (C:Int)=C:=by rw[IntKind.wrap_i64];omega
 have lv3:g.levels.length≤1073741824:=by omega
 have lv4:g.levels.length+1≤1073741824:=by omega
 have mL:∀l∈g.levels,l.AD.length≤maxLen:=fun l hl=>by have:=lv2 l hl;unfold maxLen;omega
 have mP:=GJ g A (by unfold maxLen;omega) mL;have nT:=GJ g B (by unfold maxLen;omega) mL;obtain⟨la,qw⟩:∃la,OT g A=la:=⟨_,rfl⟩;obtain⟨lb,rW⟩:∃lb,OT g B=lb:=⟨_,rfl⟩;rw[qw]at mP;rw[rW]at nT;refine⟨if la then g else if B=A∨lb=true then {g with levels:=g.levels++[(⟨[(A:Int)],C,d⟩:Level)]}else {g with levels:=g.levels++[(⟨[(A:Int),(B:Int)],C,d⟩:Level)]},?_,?_⟩
 ·cases la
  ·simp only[Bool.false_eq_true,if_false];have hC4:C≤3:=by omega
   split
   ·refine .inr (.inl ⟨_,⟨by simp,by simp,by simp;omega,lq,by simp,fun p hp=>?_⟩,rfl⟩);simp only[List.mem_singleton]at hp;subst hp;exact⟨by omega,by omega,qw⟩
   ·next hn=>
    simp only[not_or,Bool.not_eq_true]at hn;refine .inr (.inl ⟨_,⟨by simp,by simp,by simp;omega,lq,by simp;omega,fun p hp=>?_⟩,rfl⟩);simp only[List.mem_cons,List.not_mem_nil,or_false]at hp;rcases hp with rfl|rfl
    ·exact⟨by omega,by omega,qw⟩
    ·exact⟨by omega,by omega,rW.trans hn.2⟩
  ·exact .inl rfl
 refine At.AI func19 (by kernel_rfl) rfl (by simp) fun wf _=>?_;rw[ntmps19];refine xW fun K hK=>?_;simp;apply hK;refine Az fun K hK=>?_;refine xJ ?_;simp;refine Bp (iF) rfl (by simp[xN]) ?_;simp;refine xJ ?_;simp;refine Aj (hK _ _ ?_);refine xW fun K hK=>?_;simp[wa,qa,jX];apply hK;refine xW fun K hK=>?_;simp;apply hK;refine xS (xW fun K hK=>?_);simp[q0];apply hK;refine Bw ?_;refine xS (xW fun K hK=>?_);simp;apply hK;refine AU ?_;simp;refine xK ?_;refine AU ?_;simp;refine xS (Az fun K hK=>?_);refine xJ ?_;simp;refine Bp (mP) rfl (by simp[xN]) ?_;simp;refine xJ ?_;simp;refine Aj (hK _ _ ?_);(try simp only[xQ,reduceIte]);cases la with
 |true=>
  refine AU ?_;simp;refine xK ?_;refine xW fun K hK=>?_;simp;apply hK;refine Ag ?_;(try simp only[xQ,reduceIte]);refine⟨_,_,AJ.refl,by simp,_,_,⟨rfl,g,rfl,by simp⟩,.inl ⟨AB g,_,by simp,rfl,AJ.AY 0 rfl (by simp) (by simp) (by simp)⟩⟩
 |false=>
  refine AU ?_;simp;refine xW fun K hK=>?_;simp[qc,wC,gm];apply hK;(repeat refine xS ?_);refine xV fun K hK=>?_;simp[wb,qb,jX];refine hK _ _ ?_;(try simp only[xQ,reduceIte]);by_cases ja:B=A
  ·have habF:=ja;have iv:(B:Int)=A:=by omega
   refine xS (Az fun K hK=>?_);refine xH ?_;simp[ja];refine Aj (hK _ _ ?_);(try simp only[xQ,reduceIte]);refine AU ?_;simp[ja];refine xK ?_;refine AW.ghost (AJ.A2 5 (xs:=[Ac (⟨[(A:Int)],C,d⟩:Level)]) rfl (by simp[AAi,AA0,AAn,Ac])) ?_;simp;refine xE [0,2,4,8,10,7,13,14,17] (by kernel_rfl) fun K hK=>?_;simp;refine xA 1 ?_;simp[gm,ib];refine xX 20 (by kernel_rfl) ?_;simp[AR,gm,ib,lv3,Af,forall_and];refine xA 1 ?_;simp;refine xX 1 (by kernel_rfl) ?_;simp[AR,gm,lv4,Af,forall_and];refine xA 1 ?_;simp;refine xX 7 (by kernel_rfl) ?_;simp[AR];refine xM (hK _ _ ?_);refine xW fun K hK=>?_;simp;apply hK;refine Ag ?_;(try simp only[xQ,reduceIte]);refine⟨_,_,AJ.B6 6 (xs:=(g.levels++[(⟨[(A:Int)],C,d⟩:Level)]).map Ac) rfl (by simpa using BT _ ((g.levels++[(⟨[(A:Int)],C,d⟩:Level)]).map Ac)),by simp,_,_,⟨rfl,{g with levels:=g.levels++[(⟨[(A:Int)],C,d⟩:Level)]},rfl,by simp⟩,.inl ⟨AB {g with levels:=g.levels++[(⟨[(A:Int)],C,d⟩:Level)]},_,by simp[asD,AB],rfl,AJ.AY 0 rfl (by simp) (by simp) (by simp)⟩⟩
  ·have habF:=ja;have iv:¬(B:Int)=A:=by omega
   refine xS (Az fun K hK=>?_);(repeat((first|refine Dp rfl ?_ ?_;(·simp[iv])|refine Jf rfl ?_ ?_;(·simp[iv])|refine B7 ?_ ?_;(·simp[iv]));simp));refine AS.Cj (nT) rfl rfl (by simp[iv,AA,AB];try rfl) ?_;simp;(repeat((first|refine Dp rfl ?_ ?_;(·simp[iv])|refine Jf rfl ?_ ?_;(·simp[iv])|refine B7 ?_ ?_;(·simp));simp));refine Aj (hK _ _ ?_);(try simp only[AAE,AAA,reduceIte]);cases lb with
   |true=>
    refine AU ?_;simp[ja];refine xK ?_;refine AW.ghost (AJ.A2 5 (xs:=[Ac (⟨[(A:Int)],C,d⟩:Level)]) rfl (by simp[AAi,AA0,AAn,Ac])) ?_;simp;refine xE [0,2,4,8,10,7,13,14,17] (by kernel_rfl) fun K hK=>?_;simp;refine xA 1 ?_;simp[gm,ib];refine xX 20 (by kernel_rfl) ?_;simp[AR,gm,ib,lv3,Af,forall_and];refine xA 1 ?_;simp;refine xX 1 (by kernel_rfl) ?_;simp[AR,gm,lv4,Af,forall_and];refine xA 1 ?_;simp;refine xX 7 (by kernel_rfl) ?_;simp[AR];refine xM (hK _ _ ?_);refine xW fun K hK=>?_;simp;apply hK;refine Ag ?_;(try simp only[xQ,reduceIte]);refine⟨_,_,AJ.B6 6 (xs:=(g.levels++[(⟨[(A:Int)],C,d⟩:Level)]).map Ac) rfl (by simpa using BT _ ((g.levels++[(⟨[(A:Int)],C,d⟩:Level)]).map Ac)),by simp,_,_,⟨rfl,{g with levels:=g.levels++[(⟨[(A:Int)],C,d⟩:Level)]},rfl,by simp⟩,.inl ⟨AB {g with levels:=g.levels++[(⟨[(A:Int)],C,d⟩:Level)]},_,by simp[asD,AB],rfl,AJ.AY 0 rfl (by simp) (by simp) (by simp)⟩⟩
   |false=>
    refine AU ?_;simp[ja,iv];refine xV fun K hK=>?_;simp[gm,Af];apply hK;refine AW.ghost (AJ.B6 6 (xs:=[.int .i64 A,.int .i64 B]) rfl (by simp[AAi,AAn])) ?_;simp;refine AW.ghost (AJ.A2 5 (xs:=[Ac (⟨[(A:Int),(B:Int)],C,d⟩:Level)]) rfl (by simp[AAi,AA0,AAn,Ac])) ?_;simp;refine xE [0,2,4,8,10,7,13,14,17] (by kernel_rfl) fun K hK=>?_;simp;refine xA 1 ?_;simp[gm,ib];refine xX 20 (by kernel_rfl) ?_;simp[AR,gm,ib,lv3,Af,forall_and];refine xA 1 ?_;simp;refine xX 1 (by kernel_rfl) ?_;simp[AR,gm,lv4,Af,forall_and];refine xA 1 ?_;simp;refine xX 7 (by kernel_rfl) ?_;simp[AR];refine xM (hK _ _ ?_);refine xW fun K hK=>?_;simp;apply hK;refine Ag ?_;(try simp only[xQ,reduceIte]);refine⟨_,_,AJ.B6 7 (xs:=(g.levels++[(⟨[(A:Int),(B:Int)],C,d⟩:Level)]).map Ac) rfl (by simpa using BT _ ((g.levels++[(⟨[(A:Int),(B:Int)],C,d⟩:Level)]).map Ac)),by simp,_,_,⟨rfl,{g with levels:=g.levels++[(⟨[(A:Int),(B:Int)],C,d⟩:Level)]},rfl,by simp⟩,.inl ⟨AB {g with levels:=g.levels++[(⟨[(A:Int),(B:Int)],C,d⟩:Level)]},_,by simp[asD,AB],rfl,AJ.AY 0 rfl (by simp) (by simp) (by simp)⟩⟩
theorem UW(g:AF)(x:FX)(h:Fk g x)(hr:x.kind % 8=1):∃F,Gg g F∧At prog 19 [.d (AB g),.d (Bt x)] [] (Ph fun g'=>g'=F):=by
 obtain⟨p0,p1,n0,n1,c1,tk1,lv1,lv2,f1,k1,k2,k3,k4,k5⟩:=h;have iF:=Cx x.DV g.conds.length k5 (by omega);have iw:=(Df k5 (show g.conds.length<4 by omega)).2;have lq:=AAx k5 (show g.conds.length<4 by omega);generalize E7 x.DV g.conds.length=d at *;obtain⟨A,hA⟩:∃A,x.a % g.AD.length=A:=⟨_,rfl⟩;have hAl:A<g.AD.length:=by rw[←hA];exact Nat.mod_lt _ p0
 obtain⟨B,hB⟩:∃B,x.b % g.AD.length=B:=⟨_,rfl⟩;have hBl:B<g.AD.length:=by rw[←hB];exact Nat.mod_lt _ p0
 have q0:((x.kind:Int).tmod 8)=1:=by rw[Int.tmod_eq_emod_of_nonneg (by omega)];omega
 have q0':(x.kind:Int) % 8=1:=by omega
 have qa:((x.a:Int).tmod g.AD.length)=A:=by rw[Int.tmod_eq_emod_of_nonneg (by omega),←hA];simp
 have qb:((x.b:Int).tmod g.AD.length)=B:=by rw[Int.tmod_eq_emod_of_nonneg (by omega),←hB];simp
 have w8:IntKind.u8.wrap (1:Int)=1:=by decide
 have wa:IntKind.i64.wrap (x.a:Int)=x.a:=by rw[IntKind.wrap_i64];omega
 have wb:IntKind.i64.wrap (x.b:Int)=x.b:=by rw[IntKind.wrap_i64];omega
 have wc:IntKind.i64.wrap (x.c:Int)=x.c:=by rw[IntKind.wrap_i64];omega
 have jX:¬g.AD.length=0:=by omega
 have jt:g.AD≠[]:=by intro e;simp[e]at p0
 have jK:g.BC≠[]:=by intro e;simp[e]at n0
 have iR:¬g.BC.length=0:=by omega
 have gm:1≤maxLen:=by unfold maxLen;omega
 have ib:0≤maxLen:=Nat.zero_le _;obtain⟨C,hC⟩:∃C,x.c % 4=C:=⟨_,rfl⟩;have qc:((x.c:Int).tmod 4)=C:=by rw[Int.tmod_eq_emod_of_nonneg (by omega),←hC];simp
 have qc':(x.c:Int) % 4=C:=by omega
 have wC:IntKind.i64.wrap (C:Int)=C:=by rw[IntKind.wrap_i64];omega
 have lv3:g.levels.length≤1073741824:=by omega
 have lv4:g.levels.length+1≤1073741824:=by omega
 have mL:∀l∈g.levels,l.AD.length≤maxLen:=fun l hl=>by have:=lv2 l hl;unfold maxLen;omega
 have mP:=GJ g A (by unfold maxLen;omega) mL;have nT:=GJ g B (by unfold maxLen;omega) mL;obtain⟨la,qw⟩:∃la,OT g A=la:=⟨_,rfl⟩;obtain⟨lb,rW⟩:∃lb,OT g B=lb:=⟨_,rfl⟩;rw[qw]at mP;rw[rW]at nT;refine⟨if la then g else if B=A∨lb=true then {g with levels:=g.levels++[(⟨[(A:Int)],C,d⟩:Level)]}else {g with levels:=g.levels++[(⟨[(A:Int),(B:Int)],C,d⟩:Level)]},?_,?_⟩
 ·cases la
  ·simp only[Bool.false_eq_true,if_false];have hC4:C≤3:=by omega
   split
   ·refine .inr (.inl ⟨_,⟨by simp,by simp,by simp;omega,lq,by simp,fun p hp=>?_⟩,rfl⟩);simp only[List.mem_singleton]at hp;subst hp;exact⟨by omega,by omega,qw⟩
   ·next hn=>
    simp only[not_or,Bool.not_eq_true]at hn;refine .inr (.inl ⟨_,⟨by simp,by simp,by simp;omega,lq,by simp;omega,fun p hp=>?_⟩,rfl⟩);simp only[List.mem_cons,List.not_mem_nil,or_false]at hp;rcases hp with rfl|rfl
    ·exact⟨by omega,by omega,qw⟩
    ·exact⟨by omega,by omega,rW.trans hn.2⟩
  ·exact .inl rfl
 refine At.AI func19 (by kernel_rfl) rfl (by simp) fun wf _=>?_;rw[ntmps19];refine xW fun K hK=>?_;simp;apply hK;refine Az fun K hK=>?_;refine xJ ?_;simp;refine Bp (iF) rfl (by simp[xN]) ?_;simp;refine xJ ?_;simp;refine Aj (hK _ _ ?_);refine xW fun K hK=>?_;simp[wa,qa,jX];apply hK;refine xW fun K hK=>?_;simp;apply hK;refine xS (xW fun K hK=>?_);simp[q0];apply hK;refine Bw ?_;refine xS (xW fun K hK=>?_);simp;apply hK;refine AU ?_;simp;refine xV fun K hK=>?_;simp;apply hK;refine AU ?_;simp;refine xS (Az fun K hK=>?_);refine xJ ?_;simp;refine Bp (mP) rfl (by simp[xN]) ?_;simp;refine xJ ?_;simp;refine Aj (hK _ _ ?_);(try simp only[xQ,reduceIte]);cases la with
 |true=>
  refine AU ?_;simp;refine xK ?_;refine xW fun K hK=>?_;simp;apply hK;refine Ag ?_;(try simp only[xQ,reduceIte]);refine⟨_,_,AJ.refl,by simp,_,_,⟨rfl,g,rfl,by simp⟩,.inl ⟨AB g,_,by simp,rfl,AJ.AY 0 rfl (by simp) (by simp) (by simp)⟩⟩
 |false=>
  refine AU ?_;simp;refine xW fun K hK=>?_;simp[qc,wC,gm];apply hK;(repeat refine xS ?_);refine xV fun K hK=>?_;simp[wb,qb,jX];refine hK _ _ ?_;(try simp only[xQ,reduceIte]);by_cases ja:B=A
  ·have habF:=ja;have iv:(B:Int)=A:=by omega
   refine xS (Az fun K hK=>?_);refine xH ?_;simp[ja];refine Aj (hK _ _ ?_);(try simp only[xQ,reduceIte]);refine AU ?_;simp[ja];refine xK ?_;refine AW.ghost (AJ.A2 5 (xs:=[Ac (⟨[(A:Int)],C,d⟩:Level)]) rfl (by simp[AAi,AA0,AAn,Ac])) ?_;simp;refine xE [0,2,4,8,10,7,13,14,17] (by kernel_rfl) fun K hK=>?_;simp;refine xA 1 ?_;simp[gm,ib];refine xX 20 (by kernel_rfl) ?_;simp[AR,gm,ib,lv3,Af,forall_and];refine xA 1 ?_;simp;refine xX 1 (by kernel_rfl) ?_;simp[AR,gm,lv4,Af,forall_and];refine xA 1 ?_;simp;refine xX 7 (by kernel_rfl) ?_;simp[AR];refine xM (hK _ _ ?_);refine xW fun K hK=>?_;simp;apply hK;refine Ag ?_;(try simp only[xQ,reduceIte]);refine⟨_,_,AJ.B6 6 (xs:=(g.levels++[(⟨[(A:Int)],C,d⟩:Level)]).map Ac) rfl (by simpa using BT _ ((g.levels++[(⟨[(A:Int)],C,d⟩:Level)]).map Ac)),by simp,_,_,⟨rfl,{g with levels:=g.levels++[(⟨[(A:Int)],C,d⟩:Level)]},rfl,by simp⟩,.inl ⟨AB {g with levels:=g.levels++[(⟨[(A:Int)],C,d⟩:Level)]},_,by simp[asD,AB],rfl,AJ.AY 0 rfl (by simp) (by simp) (by simp)⟩⟩
  ·have habF:=ja;have iv:¬(B:Int)=A:=by omega
   refine xS (Az fun K hK=>?_);(repeat((first|refine Dp rfl ?_ ?_;(·simp[iv])|refine Jf rfl ?_ ?_;(·simp[iv])|refine B7 ?_ ?_;(·simp[iv]));simp));refine AS.Cj (nT) rfl rfl (by simp[iv,AA,AB];try rfl) ?_;simp;(repeat((first|refine Dp rfl ?_ ?_;(·simp[iv])|refine Jf rfl ?_ ?_;(·simp[iv])|refine B7 ?_ ?_;(·simp));simp));refine Aj (hK _ _ ?_);(try simp only[AAE,AAA,reduceIte]);cases lb with
   |true=>
    refine AU ?_;simp[ja];refine xK ?_;refine AW.ghost (AJ.A2 5 (xs:=[Ac (⟨[(A:Int)],C,d⟩:Level)]) rfl (by simp[AAi,AA0,AAn,Ac])) ?_;simp;refine xE [0,2,4,8,10,7,13,14,17] (by kernel_rfl) fun K hK=>?_;simp;refine xA 1 ?_;simp[gm,ib];refine xX 20 (by kernel_rfl) ?_;simp[AR,gm,ib,lv3,Af,forall_and];refine xA 1 ?_;simp;refine xX 1 (by kernel_rfl) ?_;simp[AR,gm,lv4,Af,forall_and];refine xA 1 ?_;simp;refine xX 7 (by kernel_rfl) ?_;simp[AR];refine xM (hK _ _ ?_);refine xW fun K hK=>?_;simp;apply hK;refine Ag ?_;(try simp only[xQ,reduceIte]);refine⟨_,_,AJ.B6 6 (xs:=(g.levels++[(⟨[(A:Int)],C,d⟩:Level)]).map Ac) rfl (by simpa using BT _ ((g.levels++[(⟨[(A:Int)],C,d⟩:Level)]).map Ac)),by simp,_,_,⟨rfl,{g with levels:=g.levels++[(⟨[(A:Int)],C,d⟩:Level)]},rfl,by simp⟩,.inl ⟨AB {g with levels:=g.levels++[(⟨[(A:Int)],C,d⟩:Level)]},_,by simp[asD,AB],rfl,AJ.AY 0 rfl (by simp) (by simp) (by simp)⟩⟩
   |false=>
    refine AU ?_;simp[ja,iv];refine xV fun K hK=>?_;simp[gm,Af];apply hK;refine AW.ghost (AJ.B6 6 (xs:=[.int .i64 A,.int .i64 B]) rfl (by simp[AAi,AAn])) ?_;simp;refine AW.ghost (AJ.A2 5 (xs:=[Ac (⟨[(A:Int),(B:Int)],C,d⟩:Level)]) rfl (by simp[AAi,AA0,AAn,Ac])) ?_;simp;refine xE [0,2,4,8,10,7,13,14,17] (by kernel_rfl) fun K hK=>?_;simp;refine xA 1 ?_;simp[gm,ib];refine xX 20 (by kernel_rfl) ?_;simp[AR,gm,ib,lv3,Af,forall_and];refine xA 1 ?_;simp;refine xX 1 (by kernel_rfl) ?_;simp[AR,gm,lv4,Af,forall_and];refine xA 1 ?_;simp;refine xX 7 (by kernel_rfl) ?_;simp[AR];refine xM (hK _ _ ?_);refine xW fun K hK=>?_;simp;apply hK;refine Ag ?_;(try simp only[xQ,reduceIte]);refine⟨_,_,AJ.B6 7 (xs:=(g.levels++[(⟨[(A:Int),(B:Int)],C,d⟩:Level)]).map Ac) rfl (by simpa using BT _ ((g.levels++[(⟨[(A:Int),(B:Int)],C,d⟩:Level)]).map Ac)),by simp,_,_,⟨rfl,{g with levels:=g.levels++[(⟨[(A:Int),(B:Int)],C,d⟩:Level)]},rfl,by simp⟩,.inl ⟨AB {g with levels:=g.levels++[(⟨[(A:Int),(B:Int)],C,d⟩:Level)]},_,by simp[asD,AB],rfl,AJ.AY 0 rfl (by simp) (by simp) (by simp)⟩⟩
end Go.Koi
