/-
  Part 27 of the proof that the law ChangeRenames of the package koinelaw31 returns true for every input.
-/
import Derived.Test.YtknmpedpidhhbaaGreatDoorK25
set_option maxHeartbeats 64000000
set_option maxRecDepth 100000
namespace Go.Koi
open Go.Proofs Tryz DT
theorem AE.Hi{f:FuncId}{α:Type}{enc:α→D}{xs:List α}{wr:Bool}{sz:Nat}(h:AE prog f [.d (.sl (xs.map enc))] [] (.row 0 xs.length) [.row wr sz (xs.map fun x=>.d (enc x))]):Pure prog f [.sl (xs.map enc)] (.sl (xs.map enc)):=by
 have h':AE prog f [.d (.sl (xs.map enc))] [] (.row 0 (xs.map enc).length) [.row wr sz ((xs.map enc).map .d)]:=by
  simpa[Function.comp_def]using h
 exact h'.Xb
def GP(d:AN):Prop:=d.nodes.length≤2 ^ 30
theorem KB(d:AN)(hd:GP d):Pure prog 93 [AA d] (AA d):=by
 have hc:=(Mm d.nodes hd).Hi;refine Pure.AI func93 (by kernel_rfl) rfl (by simp) fun wf=>?_;rw[ntmps93];refine xW fun K hK=>?_;simp;apply hK;(repeat refine xS ?_);refine xE [0,2,4,6,8,10,13] (by kernel_rfl) fun K hK=>?_;simp;refine xA 0 ?_;simp[AA];refine Ae.CA (hc) rfl (by simp) ?_;simp;refine xA 0 ?_;simp;refine xX 63 (by kernel_rfl) ?_;simp;refine xM (hK _ _ ?_);(try simp only[xQ,reduceIte]);refine Ag ⟨_,_,AJ.refl,?_⟩;(try simp);simp[AA]
structure EO(g:AF):Prop where
 conds:g.conds.length≤2 ^ 30
 fam:GP g.fam
 BC:g.BC.length≤2 ^ 30
 Ak:g.Ak.length≤2 ^ 30∧∀t∈g.Ak,t.pattern.length≤2 ^ 30∧GP t.cond
 AD:g.AD.length≤2 ^ 30∧∀p∈g.AD,p.right.length≤2 ^ 30∧p.layout.length≤2 ^ 30∧GP p.cond
 levels:g.levels.length≤2 ^ 30∧∀l∈g.levels,l.AD.length≤2 ^ 30∧GP l.cond
 AM:g.AM.length≤2 ^ 30∧∀f∈g.AM,f.tokens.length≤2 ^ 30∧GP f.cond
theorem Bc{S:Sg}:∀{l:List V} {ds:List D},AAp S l=some ds↔l.map (asD S)=ds.map some
 |[],ds=>by cases ds<;>simp[AAp]
 |x::l,ds=>by
  simp only[AAp,List.map_cons];generalize asD S x=o;cases h2:AAp S l with
  |none=>
   constructor
   ·intro h;cases o<;>cases h
   ·intro h;cases ds with
    |nil=>cases h
    |cons d ds=>
     simp only[List.map_cons,List.cons.injEq]at h;rw[Bc.2 h.2]at h2;cases h2
  |some ds0=>
   have h3:=Bc.1 h2;cases o with
   |none=>
    constructor
    ·intro h;cases h
    ·intro h;cases ds with
     |nil=>cases h
     |cons d ds=>simp at h
   |some d0=>
    rw[h3];constructor
    ·intro h;cases h;rfl
    ·intro h;cases ds with
     |nil=>cases h
     |cons d ds=>
      simp only[List.map_cons,List.cons.injEq,Option.some.injEq]at h;rw[h.1,(List.map_inj_right (fun _ _ h=>Option.some.inj h)).1 h.2]
theorem Ic{S:Sg}{l:List V}{ds:List D}{i:Nat}{v:V}{d:D}(h:AAp S l=some ds)(hd:ds[i]?=some d)(hv:asD S v=some d):AAp S (l.set i v)=some ds:=by
 rw[Bc]at h⊢;rw[List.map_set,h,hv];apply List.ext_getElem?;intro j;by_cases e:i=j
 ·subst e;have hi:i<ds.length:=AZ hd;rw[List.getElem?_eq_getElem hi]at hd;simp[hi,Option.some.inj hd]
 ·simp[e]
def MD(g:AF):Sg:=[.row true 9 [.d (AB g)],.row true 9 [.agg [.full [],.full [],.d (AG 0),.full [],.full [],.full [],.d (AG 0),.full [],.full []]],.row true 9 [.agg [.row 3 g.conds.length,.d (AV g.fam.nodes),.d (AG g.fam.root),.row 5 g.Ak.length,.row 4 g.BC.length,.row 6 g.AD.length,.d (AG g.start),.row 7 g.levels.length,.row 8 g.AM.length]],.row (!g.conds.isEmpty) 1 (g.conds.map fun x=>.d (D.str x)),.row (!g.BC.isEmpty) 1 (g.BC.map fun x=>.d (D.str x)),.row (!g.Ak.isEmpty) 7 (g.Ak.map fun x=>.d (Aa x)),.row (!g.AD.isEmpty) 13 (g.AD.map fun x=>.d (AH x)),.row (!g.levels.isEmpty) 4 (g.levels.map fun x=>.d (Ac x)),.row (!g.AM.isEmpty) 9 (g.AM.map fun x=>.d (AK x))]
def XQ(g:AF):V:=.agg [.row 3 g.conds.length,.d (AV g.fam.nodes),.d (AG g.fam.root),.row 5 g.Ak.length,.row 4 g.BC.length,.row 6 g.AD.length,.d (AG g.start),.row 7 g.levels.length,.row 8 g.AM.length]
def SR(g:AF):Sg:=[.row true 9 [.d (AB g)],.row true 9 [XQ g],.row true 9 [XQ g],.row (!g.conds.isEmpty) 1 (g.conds.map fun x=>.d (D.str x)),.row (!g.BC.isEmpty) 1 (g.BC.map fun x=>.d (D.str x)),.row (!g.Ak.isEmpty) 7 (g.Ak.map fun x=>.d (Aa x)),.row (!g.AD.isEmpty) 13 (g.AD.map fun x=>.d (AH x)),.row (!g.levels.isEmpty) 4 (g.levels.map fun x=>.d (Ac x)),.row (!g.AM.isEmpty) 9 (g.AM.map fun x=>.d (AK x))]
theorem SU(g:AF)(hg:EO g):AE prog 18 [.d (AB g)] [] (XQ g) (SR g):=by
 have c1:=L9 g.conds hg.conds;have c2:=L9 g.BC hg.BC;have c3:=Sl g.Ak hg.Ak.1;have c4:=Pb g.AD hg.AD.1;have c5:=Nw g.levels hg.levels.1;have c6:=Mv g.AM hg.AM.1;have c7:=KB g.fam hg.fam;refine AE.AI func18 (by kernel_rfl) rfl (by simp) fun wf _=>?_;rw[ntmps18];refine xW fun K hK=>?_;simp;apply hK;refine xW fun K hK=>?_;simp[AB];apply hK;refine xD [0,2,6,8,12,14,5,18,11,16,21,22,25,26,29] (by kernel_rfl) fun K hK=>?_;simp;refine xA 1 ?_;simp;refine Ae.Ds (xT [0,0,0,0,1,0]) (c1) [] (by kernel_rfl) rfl (by simp[AR];try rfl) ?_;simp;refine xA 1 ?_;simp;refine Ae.Ds (xT [0,0,0,1,0,0]) (c2) [] (by kernel_rfl) rfl (by simp[AR];try rfl) ?_;simp;refine Bj (c7) rfl (by simp[AA]) ?_;simp[AA];refine xA 1 ?_;simp;refine xX 35 (by kernel_rfl) ?_;simp[AR,Al];refine xA 1 ?_;simp;refine xX 9 (by kernel_rfl) ?_;simp[AR];refine xA 1 ?_;simp;refine xX 7 (by kernel_rfl) ?_;simp[AR];refine xM (hK _ _ ?_);refine xD [0,2,6,8,5,12,11,15,16,19] (by kernel_rfl) fun K hK=>?_;simp;refine xA 1 ?_;simp;refine Ae.Ds (xT [0,0,1,0]) (c3) [] (by kernel_rfl) rfl (by simp[AR];try rfl) ?_;simp;refine xA 1 ?_;simp;refine Ae.Ds (xT [0,1,0,0]) (c4) [] (by kernel_rfl) rfl (by simp[AR];try rfl) ?_;simp;refine xX 5 (by kernel_rfl) ?_;simp[AR];refine xA 1 ?_;simp;refine xX 3 (by kernel_rfl) ?_;simp[AR];refine xM (hK _ _ ?_);refine xD [0,2,6,8,5,12,11,15,16,19] (by kernel_rfl) fun K hK=>?_;simp;refine xA 1 ?_;simp;refine Ae.Ds (xT [0,0,1,0]) (c5) [] (by kernel_rfl) rfl (by simp[AR];try rfl) ?_;simp;refine xA 1 ?_;simp;refine Ae.Ds (xT [0,1,0,0]) (c6) [] (by kernel_rfl) rfl (by simp[AR];try rfl) ?_;simp;refine xX 5 (by kernel_rfl) ?_;simp[AR];refine xA 1 ?_;simp;refine xX 3 (by kernel_rfl) ?_;simp[AR];refine xM (hK _ _ ?_);refine AW.El (R:=fun tm S=>tm 2=.ptr 1 1 0 0∧tm 3=.ptr 2 1 0 0∧S=MD g) ?_ ?_
 ·refine xW fun K hK=>?_;simp;apply hK;refine Bw ?_;refine DC g.Ak.length (fun i tm S=>tm 2=.ptr 1 1 0 0∧tm 3=.ptr 2 1 0 0∧tm 43=.d (.int .i64 g.Ak.length)∧tm 44=.d (.int .i64 i)∧S=MD g) (i0:=0) (Nat.zero_le _) (by simp[MD,AB]) ?_;rintro i tm S hi ⟨t2,t3,t43,t44,rfl⟩;refine xW fun K hK=>?_;simp[t43,t44];apply hK;refine xC ?_;simp;refine⟨fun hlt=>?_,fun hge=>?_⟩
  ·have hem:g.Ak.isEmpty=false:=by cases h:g.Ak<;>simp[h]at hlt⊢
   obtain⟨hs1,hs2⟩:=hg.Ak.2 _ (List.getElem_mem hlt);generalize hx:g.Ak[i]=x at *;have cP:=(N7 x.pattern hs1).Hi;have cS:=KB x.cond hs2;unfold MD;refine xK ?_;refine xB ?_;refine xW fun K hK=>?_;simp[t44];apply hK;(repeat refine xS ?_);refine xV fun K hK=>?_;simp[t3,hlt];refine hK _ _ ?_;(try simp only[xQ,reduceIte]);have henc:=Aa.eq_1 x;refine xE [0,2,4,6,8,10,12,14,16,18,20,22,24,26,29,30,32,35] (by kernel_rfl) fun K hK=>?_;simp;refine xA 1 ?_;simp[hlt,hx,henc];refine Bj (cP) rfl (by simp[xN]) ?_;simp;refine xA 1 ?_;simp[hlt,hx,henc];refine Bj (cS) rfl (by simp[AA,xN]) ?_;simp[AA];refine xA 1 ?_;simp[hlt];refine xX 12173 (by kernel_rfl) ?_;simp[hlt,hx,hem,AR,Al,henc];refine xA 1 ?_;simp[hlt];refine xX 125 (by kernel_rfl) ?_;simp[hlt,AR];refine xM (hK _ _ ?_);refine xV fun K hK=>?_;simp[t44];apply hK;refine⟨hlt,_,_,AJ.A2 5 rfl (Ic (Bz _ Aa g.Ak) (d:=Aa x) (by simp[hlt,hx]) (by simp[henc])),?_⟩;simp[t2,t3,t43,AQ hlt (by have:=hg.Ak.1;unfold maxLen;omega:g.Ak.length≤maxLen),hem,Function.comp_def]
  ·have hil:i=g.Ak.length:=by omega
   subst hil;refine Cu ?_;(try simp only[AAo,AAX,reduceIte]);exact⟨t2,t3,trivial⟩
 ·rintro tm S ⟨t2,t3,rfl⟩;refine AW.El (R:=fun tm S=>tm 2=.ptr 1 1 0 0∧tm 3=.ptr 2 1 0 0∧S=MD g) ?_ ?_
  ·skip;refine xW fun K hK=>?_;simp[t3,MD];apply hK;refine Bw ?_;refine DC g.AD.length (fun i tm S=>tm 2=.ptr 1 1 0 0∧tm 3=.ptr 2 1 0 0∧tm 70=.d (.int .i64 g.AD.length)∧tm 71=.d (.int .i64 i)∧S=MD g) (i0:=0) (Nat.zero_le _) (by simp[MD,AB,t2,t3]) ?_;rintro i tm S hi ⟨t2,t3,tl,ti,rfl⟩;refine xW fun K hK=>?_;simp[tl,ti];apply hK;refine xC ?_;simp;refine⟨fun hlt=>?_,fun hge=>?_⟩
   ·have hem:g.AD.isEmpty=false:=by cases h:g.AD<;>simp[h]at hlt⊢
    have hsm:=hg.AD.2 _ (List.getElem_mem hlt);generalize hx:g.AD[i]=x at *;have cR:=(GG x.right hsm.1).Hi;have cL:=(Mt x.layout hsm.2.1).Hi;have cS:=KB x.cond hsm.2.2;unfold MD;refine xK ?_;refine xB ?_;refine xW fun K hK=>?_;simp[ti];apply hK;(repeat refine xS ?_);refine xV fun K hK=>?_;simp[t3,hlt];refine hK _ _ ?_;(try simp only[xQ,reduceIte]);have henc:=AH.eq_1 x;refine xE [0,2,4,6,8,10,12,14,16,18,20,22,24,26,28,30,32,34,36,38,41,42,44,47,48,50,53] (by kernel_rfl) fun K hK=>?_;simp;refine xA 1 ?_;simp[hlt,hx,henc];refine Bj (cR) rfl (by simp[xN]) ?_;simp;refine xA 1 ?_;simp[hlt,hx,henc];refine Bj (cL) rfl (by simp[xN]) ?_;simp;refine xA 1 ?_;simp[hlt,hx,henc];refine Bj (cS) rfl (by simp[AA,xN]) ?_;simp[AA];refine xA 1 ?_;simp[hlt];refine xX 651661 (by kernel_rfl) ?_;simp[hlt,hx,hem,AR,Al,henc];refine xA 1 ?_;simp[hlt];refine xX 1477 (by kernel_rfl) ?_;simp[hlt,AR];refine xA 1 ?_;simp[hlt];refine xX 125 (by kernel_rfl) ?_;simp[hlt,AR];refine xM (hK _ _ ?_);refine xV fun K hK=>?_;simp[ti];apply hK;refine⟨hlt,_,_,AJ.A2 6 rfl (Ic (Bz _ AH g.AD) (d:=AH x) (by simp[hlt,hx]) (by simp[henc])),?_⟩;simp[t2,t3,tl,AQ hlt (by have:=hg.AD.1;unfold maxLen;omega:g.AD.length≤maxLen),hem,Function.comp_def]
   ·have hil:i=g.AD.length:=by omega
    subst hil;refine Cu ?_;(try simp only[AAo,AAX,reduceIte]);exact⟨t2,t3,trivial⟩
  ·rintro tm S ⟨t2,t3,rfl⟩;refine AW.El (R:=fun tm S=>tm 2=.ptr 1 1 0 0∧tm 3=.ptr 2 1 0 0∧S=MD g) ?_ ?_
   ·skip;refine xW fun K hK=>?_;simp[t3,MD];apply hK;refine Bw ?_;refine DC g.levels.length (fun i tm S=>tm 2=.ptr 1 1 0 0∧tm 3=.ptr 2 1 0 0∧tm 105=.d (.int .i64 g.levels.length)∧tm 106=.d (.int .i64 i)∧S=MD g) (i0:=0) (Nat.zero_le _) (by simp[MD,AB,t2,t3]) ?_;rintro i tm S hi ⟨t2,t3,tl,ti,rfl⟩;refine xW fun K hK=>?_;simp[tl,ti];apply hK;refine xC ?_;simp;refine⟨fun hlt=>?_,fun hge=>?_⟩
    ·have hem:g.levels.isEmpty=false:=by cases h:g.levels<;>simp[h]at hlt⊢
     have hsm:=hg.levels.2 _ (List.getElem_mem hlt);generalize hx:g.levels[i]=x at *;have cR:=(Ld x.AD hsm.1).Hi;have cS:=KB x.cond hsm.2;unfold MD;refine xK ?_;refine xB ?_;refine xW fun K hK=>?_;simp[ti];apply hK;(repeat refine xS ?_);refine xV fun K hK=>?_;simp[t3,hlt];refine hK _ _ ?_;(try simp only[xQ,reduceIte]);have henc:=Ac.eq_1 x;refine xE [0,2,4,6,8,10,12,14,16,18,20,22,24,26,29,30,32,35] (by kernel_rfl) fun K hK=>?_;simp;refine xA 1 ?_;simp[hlt,hx,henc];refine Bj (cR) rfl (by simp[xN]) ?_;simp;refine xA 1 ?_;simp[hlt,hx,henc];refine Bj (cS) rfl (by simp[AA,xN]) ?_;simp[AA];refine xA 1 ?_;simp[hlt];refine xX 12173 (by kernel_rfl) ?_;simp[hlt,hx,hem,AR,Al,henc];refine xA 1 ?_;simp[hlt];refine xX 125 (by kernel_rfl) ?_;simp[hlt,AR];refine xM (hK _ _ ?_);refine xV fun K hK=>?_;simp[ti];apply hK;refine⟨hlt,_,_,AJ.A2 7 rfl (Ic (Bz _ Ac g.levels) (d:=Ac x) (by simp[hlt,hx]) (by simp[henc])),?_⟩;simp[t2,t3,tl,AQ hlt (by have:=hg.levels.1;unfold maxLen;omega:g.levels.length≤maxLen),hem,Function.comp_def]
    ·have hil:i=g.levels.length:=by omega
     subst hil;refine Cu ?_;(try simp only[AAo,AAX,reduceIte]);exact⟨t2,t3,trivial⟩
   ·rintro tm S ⟨t2,t3,rfl⟩;refine AW.El (R:=fun tm S=>tm 2=.ptr 1 1 0 0∧tm 3=.ptr 2 1 0 0∧S=MD g) ?_ ?_
    ·skip;refine xW fun K hK=>?_;simp[t3,MD];apply hK;refine Bw ?_;refine DC g.AM.length (fun i tm S=>tm 2=.ptr 1 1 0 0∧tm 3=.ptr 2 1 0 0∧tm 132=.d (.int .i64 g.AM.length)∧tm 133=.d (.int .i64 i)∧S=MD g) (i0:=0) (Nat.zero_le _) (by simp[MD,AB,t2,t3]) ?_;rintro i tm S hi ⟨t2,t3,tl,ti,rfl⟩;refine xW fun K hK=>?_;simp[tl,ti];apply hK;refine xC ?_;simp;refine⟨fun hlt=>?_,fun hge=>?_⟩
     ·have hem:g.AM.isEmpty=false:=by cases h:g.AM<;>simp[h]at hlt⊢
      have hsm:=hg.AM.2 _ (List.getElem_mem hlt);generalize hx:g.AM[i]=x at *;have cR:=(Ld x.tokens hsm.1).Hi;have cS:=KB x.cond hsm.2;unfold MD;refine xK ?_;refine xB ?_;refine xW fun K hK=>?_;simp[ti];apply hK;(repeat refine xS ?_);refine xV fun K hK=>?_;simp[t3,hlt];refine hK _ _ ?_;(try simp only[xQ,reduceIte]);have henc:=AK.eq_1 x;refine xE [0,2,4,6,8,10,12,14,16,18,20,22,24,26,29,30,32,35] (by kernel_rfl) fun K hK=>?_;simp;refine xA 1 ?_;simp[hlt,hx,henc];refine Bj (cR) rfl (by simp[xN]) ?_;simp;refine xA 1 ?_;simp[hlt,hx,henc];refine Bj (cS) rfl (by simp[AA,xN]) ?_;simp[AA];refine xA 1 ?_;simp[hlt];refine xX 12173 (by kernel_rfl) ?_;simp[hlt,hx,hem,AR,Al,henc];refine xA 1 ?_;simp[hlt];refine xX 125 (by kernel_rfl) ?_;simp[hlt,AR];refine xM (hK _ _ ?_);refine xV fun K hK=>?_;simp[ti];apply hK;refine⟨hlt,_,_,AJ.A2 8 rfl (Ic (Bz _ AK g.AM) (d:=AK x) (by simp[hlt,hx]) (by simp[henc])),?_⟩;simp[t2,t3,tl,AQ hlt (by have:=hg.AM.1;unfold maxLen;omega:g.AM.length≤maxLen),hem,Function.comp_def]
     ·have hil:i=g.AM.length:=by omega
      subst hil;refine Cu ?_;(try simp only[AAo,AAX,reduceIte]);exact⟨t2,t3,trivial⟩
    ·rintro tm S ⟨t2,t3,rfl⟩;unfold MD;refine xW fun K hK=>?_;simp[t2,t3];apply hK;refine Ag ?_;(try simp only[xQ,reduceIte]);refine⟨_,AJ.JK (by simp[SR,XQ]),?_⟩;simp[Am,t2,SR,XQ]
def hV(g:AF):V:=.agg [.row 0 g.conds.length,.d (AV g.fam.nodes),.d (AG g.fam.root),.row 1 g.Ak.length,.row 2 g.BC.length,.row 3 g.AD.length,.d (AG g.start),.d (BI g.levels),.d (A8 g.AM)]
def hS(g:AF):Sg:=[.row (!g.conds.isEmpty) 1 (g.conds.map fun x=>.d (D.str x)),.row (!g.Ak.isEmpty) 7 (g.Ak.map fun x=>.d (Aa x)),.row (!g.BC.isEmpty) 1 (g.BC.map fun x=>.d (D.str x)),.row (!g.AD.isEmpty) 13 (g.AD.map fun x=>.d (AH x))]
theorem NY(g:AF)(hg:EO g):AE prog 18 [.d (AB g)] [] (hV g) (hS g):=
 (SU g hg).ghost fun tm h0=>by
  let S1:Sg:=[.row true 9 [.d (AB g)],.row true 9 [XQ g],.row true 9 [XQ g],.row (!g.conds.isEmpty) 1 (g.conds.map fun x=>.d (D.str x)),.row (!g.BC.isEmpty) 1 (g.BC.map fun x=>.d (D.str x)),.row (!g.Ak.isEmpty) 7 (g.Ak.map fun x=>.d (Aa x)),.row (!g.AD.isEmpty) 13 (g.AD.map fun x=>.d (AH x)),.BJ (g.levels.map Ac),.BJ (g.AM.map AK)];have g1:AJ prog 1 0 tm (SR g) tm S1:=
   (AJ.B6 7 (S:=SR g) rfl (Bz _ Ac g.levels)).trans (AJ.B6 8 (S:=(SR g).set 7 (.BJ (g.levels.map Ac))) rfl (Bz _ AK g.AM))
  let hV1:V:=.agg [.row 3 g.conds.length,.d (AV g.fam.nodes),.d (AG g.fam.root),.row 5 g.Ak.length,.row 4 g.BC.length,.row 6 g.AD.length,.d (AG g.start),.d (BI g.levels),.d (A8 g.AM)];have g2:AJ prog 1 0 tm S1 (EJ tm 0 hV1) S1:=AJ.fK 0 h0 rfl fun i h h'=>by
   match i,h' with
   |0,_=>exact .inl rfl
   |1,_=>exact .inl rfl
   |2,_=>exact .inl rfl
   |3,_=>exact .inl rfl
   |4,_=>exact .inl rfl
   |5,_=>exact .inl rfl
   |6,_=>exact .inl rfl
   |7,_=>exact .inr ⟨.sl (g.levels.map Ac),by simp[S1,asD,AAl],rfl⟩
   |8,_=>exact .inr ⟨.sl (g.AM.map AK),by simp[S1,asD,AAl],rfl⟩
  have hr:∀(ρ:Nat→Nat) {α:Type} (f:α→D) (l:List α),AAT ρ (l.map fun x=>V.d (f x))=l.map fun x=>V.d (f x):=fun ρ α f l=>by
   induction l with
   |nil=>rfl
   |cons x l ih=>simp[AAT,ih]
  let S2:Sg:=hS g++[.row true 9 [.d (AB g)],.row true 9 [AAI (nameOf [4,5,6,0,2,1,3,7,8]) (XQ g)],.row true 9 [AAI (nameOf [4,5,6,0,2,1,3,7,8]) (XQ g)],.BJ (g.levels.map Ac),.BJ (g.AM.map AK)];have g3:=AJ.perm (P:=prog) (n:=1) (b:=0) (tm:=EJ tm 0 hV1) (S:=S1) (S':=S2) [4,5,6,0,2,1,3,7,8] (by decide) rfl rfl (by simp[S1,S2,hS,AAc,hr,AAT]) (fun i h=>by omega) [3,5,4,6,0,1,2,7,8] rfl rfl;refine⟨_,(g1.trans (g2.trans g3)).trans (AJ.AY 4 (S':=hS g) rfl (Nat.zero_le _) (by simp[S2,hS]) (by simp[S2,hS])),?_⟩;simp[clean,EJ,hV1,hV,nameOf]
open Go.Proofs Tryz DT
def NV(d:AN):Bool:=((d.nodes.length:Int)==0)&&(d.root==0)
theorem Mp(d:AN):Pure prog 102 [AA d] (.bool (NV d)):=by
 refine Pure.AI func102 (by kernel_rfl) rfl (by simp) fun wf=>?_;rw[ntmps102];refine xW fun K hK=>?_;simp;apply hK;(repeat refine xS ?_);refine BX fun K hK=>?_;(repeat((refine B7 ?_ ?_);(focus(simp[AA];try(first|omega|(simp +contextual[AA];done)|grind);done));simp[AA]));refine Aj (hK _ _ ?_);(try simp only[xQ,reduceIte]);refine Ag ⟨_,_,AJ.refl,?_⟩;(try simp);simp[NV]
def cu(x:AAC):Bool:=(x.number==0)&&(x.at_==0)&&(x.to==0)&&decide (x.name=⟨#[]⟩)&&!x.value&&NV x.cond
def cQ(x:AAC):Bool:=((x.levels.length:Int)==0)&&((x.AM.length:Int)==0)&&((x.BL.length:Int)==0)
def dr(t:Token):Bool:=decide (t.name=⟨#[]⟩)&&(t.cls==0)&&decide (t.literal=⟨#[]⟩)&&((t.pattern.length:Int)==0)&&decide (t.Cr=⟨#[]⟩)&&NV t.cond
def dk(p:AT):Bool:=decide (p.name=⟨#[]⟩)&&(p.left==0)&&((p.right.length:Int)==0)&&NV p.cond&&!p.bracket&&(p.Di==0)&&((p.layout.length:Int)==0)&&decide (p.scope=⟨false,0,0,0,0⟩)
def Fi(x:AAC):Bool:=cu x&&cQ x&&dr x.token&&dk x.prod
theorem Mg(x:AAC):Pure prog 19 [AO x] (.bool (Fi x)):=by
 refine Pure.AI func19 (by kernel_rfl) rfl (by simp) fun wf=>?_;rw[ntmps19];have henc:=AO.eq_1 x;have htok:=Aa.eq_1 x.token;have hprd:=AH.eq_1 x.prod;have hsc:AAk [D.bool x.prod.scope.opens,D.int .i64 x.prod.scope.declares,D.int .i64 x.prod.scope.kind,D.int .i64 x.prod.scope.EA,D.int .i64 x.prod.scope.allowed] [D.bool false,D.int .i64 0,D.int .i64 0,D.int .i64 0,D.int .i64 0]=decide (x.prod.scope=⟨false,0,0,0,0⟩):=by
  cases x.prod.scope;rw[Bool.eq_iff_iff];simp[AAk,deq]
 refine xW fun K hK=>?_;simp;apply hK;refine AW.Ew (R:=fun tm S=>tm 1=.ptr 0 1 0 0∧tm 3=.ptr 1 1 0 0∧tm 4=.ptr 2 1 0 0∧S=[.row true 31 [.d (AO x)],.row true 7 [.agg (AAD (.d (Aa x.token)))],.row true 13 [.agg (AAD (.d (AH x.prod)))]]) ?_ ?_
 ·refine AW.regionF (by kernel_rfl) fun K hK=>?_;change Ad _ _ _ _ _ _ 8 (Array.replicate 8 false) _ _;refine Ad.CB 0 rfl (by kernel_rfl) ?_ ?_;(focus(simp[henc];done));simp;refine Ad.CB 1 rfl (by kernel_rfl) ?_ ?_;(focus(simp[henc];done));simp[henc];refine Ad.CB 2 rfl (by kernel_rfl) ?_ ?_;(focus(simp;done));simp;refine Ad.CB 3 rfl (by kernel_rfl) ?_ ?_;(focus(simp;done));simp;refine Ad.TZ 4 5 [false,false,false,false] [false,false,false,false] (by kernel_rfl) rfl rfl (by kernel_rfl) (by kernel_rfl) ?_ ?_ ?_ ?_
  ·simp[AR]
  ·simp[AR]
  ·simp;refine Ad.DE 5 [false,false,false,false] (by kernel_rfl) rfl (by kernel_rfl) ?_ ?_;(focus(simp[AR];done));simp;refine Ad.DE 6 [false,false,true,true] (by kernel_rfl) rfl (by kernel_rfl) ?_ ?_;(focus(simp[AR];done));simp;refine Ad.DE 7 [true,true] (by kernel_rfl) rfl (by kernel_rfl) ?_ ?_;(focus(simp[AR];done));simp;refine Ad.done (by kernel_rfl) (hK _ _ ⟨_,_,AJ.refl,?_⟩);simp[henc,htok,hprd]
  ·simp;refine Ad.DE 4 [false,false,false,false] (by kernel_rfl) rfl (by kernel_rfl) ?_ ?_;(focus(simp[AR];done));simp;refine Ad.DE 6 [false,false,true,true] (by kernel_rfl) rfl (by kernel_rfl) ?_ ?_;(focus(simp[AR];done));simp;refine Ad.DE 7 [true,true] (by kernel_rfl) rfl (by kernel_rfl) ?_ ?_;(focus(simp[AR];done));simp;refine Ad.done (by kernel_rfl) (hK _ _ ⟨_,_,AJ.perm (S':=[.row true 31 [.d (AO x)],.row true 7 [.agg (AAD (.d (Aa x.token)))],.row true 13 [.agg (AAD (.d (AH x.prod)))]]) [0,2,1] (by decide) (by simp) (by simp) ?_ (by simp) [0,2,1] (by simp;decide) (by simp),?_⟩)
   ·simp[henc,htok,hprd]
   ·simp
 ·rintro tm S ⟨t1,t3,t4,rfl⟩;refine Az fun K hK=>?_;(repeat((refine B7 ?_ ?_);(focus(simp[t1,henc];try(first|omega|(simp +contextual[t1,henc];done)|grind);done));simp[t1,henc]));refine AS.CE (ds:=[AA x.cond]) rfl rfl (by simp;rfl) (fun _=>Mp x.cond) (by simp[xN]) ?_;simp;(repeat((refine B7 ?_ ?_);(focus(simp;try(first|omega|(simp +contextual;done)|grind);done));simp));refine Aj (hK _ _ ?_);(repeat refine xS ?_);refine BX fun K hK=>?_;(repeat((refine B7 ?_ ?_);(focus(simp[t1];try(first|omega|(simp +contextual[t1,henc];done)|grind);done));simp[t1]));refine Aj (hK _ _ ?_);(try simp only[xQ,reduceIte]);refine Az fun K hK=>?_;(repeat((refine B7 ?_ ?_);(focus(simp[t3];try(first|omega|(simp +contextual[t3];done)|grind);done));simp[t3]));refine AS.CE (ds:=[AA x.token.cond]) rfl rfl (by simp;rfl) (fun _=>Mp x.token.cond) (by simp[xN]) ?_;simp;(repeat((refine B7 ?_ ?_);(focus(simp;try(first|omega|(simp +contextual;done)|grind);done));simp));refine Aj (hK _ _ ?_);refine Az fun K hK=>?_;(repeat((refine B7 ?_ ?_);(focus(simp[t4];try(first|omega|(simp +contextual[t4];done)|grind);done));simp[t4]));refine AS.CE (ds:=[AA x.prod.cond]) rfl rfl (by simp;rfl) (fun _=>Mp x.prod.cond) (by simp[xN]) ?_;simp;(repeat((refine B7 ?_ ?_);(focus(simp[t4];try(first|omega|(simp +contextual[t4,hsc];done)|grind);done));simp[t4,hsc]));refine Aj (hK _ _ ?_);(repeat refine xS ?_);refine BX fun K hK=>?_;(repeat((refine B7 ?_ ?_);(focus(simp;try(first|omega|(simp +contextual;done)|grind);done));simp));refine Aj (hK _ _ ?_);(try simp only[xQ,reduceIte]);refine Ag ⟨_,_,AJ.refl,?_⟩;(try simp);simp[Fi,cu,cQ,dr,dk,Bool.and_assoc]
open Go.Proofs Tryz DT
def Fm:Token:=⟨⟨#[]⟩,0,⟨#[]⟩,[],⟨#[]⟩,⟨[],0⟩⟩
def Dq:AT:=⟨⟨#[]⟩,0,[],⟨[],0⟩,false,0,[],⟨false,0,0,0,0⟩⟩
theorem Ce:ByteArray.empty=⟨#[]⟩:=rfl
def Py(x:AAC):Sg:=[.row true 31 [.d (AO x)]]
def R5(f:FuncId)(c:AAC→AAC):Prop:=∀x,AE prog f [.ptr 0 1 0 0] (Py x) (.Bd []) (Py (c x))
theorem Ko:R5 54 (fun x=>{x with number:=0,name:=⟨#[]⟩}):=fun x=>by
 have henc:=AO.eq_1 x;unfold Py;refine AE.AI func54 (by kernel_rfl) rfl (by simp) fun wf _=>?_;rw[ntmps54];refine BX fun K hK=>?_;refine xJ ?_;simp[henc];refine Aj (hK _ _ ?_);refine⟨_,AJ.A2 0 (xs:=[AO {x with number:=0,name:=⟨#[]⟩}]) rfl (by simp[AAp,AO]),?_⟩;simp[Am]
theorem Ua:R5 55 (fun x=>{x with number:=0,at_:=0,to:=0,name:=⟨#[]⟩}):=fun x=>by
 have henc:=AO.eq_1 x;unfold Py;refine AE.AI func55 (by kernel_rfl) rfl (by simp) fun wf _=>?_;rw[ntmps55];refine BX fun K hK=>?_;refine xJ ?_;simp[henc];refine Aj (hK _ _ ?_);refine⟨_,AJ.A2 0 (xs:=[AO {x with number:=0,at_:=0,to:=0,name:=⟨#[]⟩}]) rfl (by simp[AAp,AO]),?_⟩;simp[Am]
theorem V6:R5 74 (fun x=>{x with number:=0,at_:=0}):=fun x=>by
 have henc:=AO.eq_1 x;unfold Py;refine AE.AI func74 (by kernel_rfl) rfl (by simp) fun wf _=>?_;rw[ntmps74];refine BX fun K hK=>?_;refine xJ ?_;simp[henc];refine Aj (hK _ _ ?_);refine⟨_,AJ.A2 0 (xs:=[AO {x with number:=0,at_:=0}]) rfl (by simp[AAp,AO]),?_⟩;simp[Am]
theorem Vs:R5 80 (fun x=>{x with number:=0,at_:=0,name:=⟨#[]⟩}):=fun x=>by
 have henc:=AO.eq_1 x;unfold Py;refine AE.AI func80 (by kernel_rfl) rfl (by simp) fun wf _=>?_;rw[ntmps80];refine BX fun K hK=>?_;refine xJ ?_;simp[henc];refine Aj (hK _ _ ?_);refine⟨_,AJ.A2 0 (xs:=[AO {x with number:=0,at_:=0,name:=⟨#[]⟩}]) rfl (by simp[AAp,AO]),?_⟩;simp[Am]
open Go.Proofs Tryz DT
def bV(g:AF)(x:AAC)(h0 h1 h2 h3 h4 h5 h6 h7 h8 m:V)(lg:Bool):V:=.agg [.d (CW g.conds),.d (AV g.fam.nodes),.d (AG g.fam.root),.d (Bs g.Ak),.d (CW g.BC),.d (Bb g.AD),.d (AG g.start),.d (BI g.levels),.d (A8 g.AM),.d (AG x.kind),.d (AG x.number),.d (AG x.at_),.d (AG x.to),.d (Ba x.name),.d (CS x.value),.d (AV x.cond.nodes),.d (AG x.cond.root),.d (BI x.levels),.d (A8 x.AM),.d (Ba x.token.name),.d (AG x.token.cls),.d (Ba x.token.literal),.d (Ax x.token.pattern),.d (Ba x.token.Cr),.d (AV x.token.cond.nodes),.d (AG x.token.cond.root),.d (Ba x.prod.name),.d (AG x.prod.left),.d (As x.prod.right),.d (AV x.prod.cond.nodes),.d (AG x.prod.cond.root),.d (CS x.prod.bracket),.d (AG x.prod.Di),.d (Bf x.prod.layout),.d (CS x.prod.scope.opens),.d (AG x.prod.scope.declares),.d (AG x.prod.scope.kind),.d (AG x.prod.scope.EA),.d (AG x.prod.scope.allowed),.d (Bm x.BL),h0,h1,h2,h3,h4,h5,h6,h7,h8,m,.d (.bool lg)]
def Oj(S:Sg)(r:Nat)(g:AF)(x:AAC):Prop:=∃h0 h1 h2 h3 h4 h5 h6 h7 h8 m lg,S[r]?=some (.row true 51 [bV g x h0 h1 h2 h3 h4 h5 h6 h7 h8 m lg])
def Ck(g:AF)(x:AAC):Bool:=decide (0≤x.number)&&decide (x.number<g.AD.length)
theorem Ea{S:Sg}{r:Nat}{g:AF}{x:AAC}(hb:Oj S r g x):AE prog 61 [.ptr r 1 0 0] S (.d (.bool (Ck g x))) S:=by
 obtain⟨h0,h1,h2,h3,h4,h5,h6,h7,h8,m,lg,hb⟩:=hb;unfold bV at hb;refine AE.AI func61 (by kernel_rfl) rfl (by simp) fun wf _=>?_;rw[ntmps61];refine xW fun K hK=>?_;simp;apply hK;(repeat refine xS ?_);refine xE [0,2,4,6,8,10,12,14,16,18,20,22,24,26,28,30,32,34,36,38,40] (by kernel_rfl) fun K hK=>?_;simp;refine xA 0 ?_;simp[hb];refine xM (hK _ _ ?_);(try simp only[xQ,reduceIte]);refine Ag ?_;(try simp only[xQ,reduceIte]);refine⟨_,AJ.refl,?_⟩;simp[Am,Ck]
theorem YE(g:AF):Pure prog 59 [AB g] (AG g.BC.length):=by
 refine Pure.AI func59 (by kernel_rfl) rfl (by simp) fun wf=>?_;rw[ntmps59];refine xW fun K hK=>?_;simp;apply hK;refine xW fun K hK=>?_;simp[AB];apply hK;refine Ag ⟨_,_,AJ.refl,?_⟩;try simp
theorem XW(g:AF):Pure prog 63 [AB g] (AG g.conds.length):=by
 refine Pure.AI func63 (by kernel_rfl) rfl (by simp) fun wf=>?_;rw[ntmps63];refine xW fun K hK=>?_;simp;apply hK;refine xW fun K hK=>?_;simp[AB];apply hK;refine Ag ⟨_,_,AJ.refl,?_⟩;try simp
def F1:AT:=⟨⟨#[]⟩,0,[],⟨[],0⟩,false,0,[],⟨false,0,0,0,0⟩⟩
def CL(g:AF)(x:AAC):AT:=g.AD.getD x.number.toNat F1
theorem Hv{S:Sg}{r:Nat}{g:AF}{x:AAC}(hb:Oj S r g x)(hs:S.all (AAE S.length)=true)(hp:Ck g x=true):AE prog 78 [.ptr r 1 0 0] S (.d (AH (CL g x))) S:=by
 obtain⟨h0,h1,h2,h3,h4,h5,h6,h7,h8,m,lg,hb⟩:=hb;unfold bV at hb;have hr:=AZ hb;have hb':∀X,(S++[X])[r]?=_:=fun X=>(List.getElem?_append_left hr).trans hb;simp only[Ck,Bool.and_eq_true,decide_eq_true_eq]at hp;obtain⟨j,hj⟩:∃j:Nat,x.number=j:=⟨x.number.toNat,by omega⟩;have hj1:j<g.AD.length:=by omega
 have ho:CL g x=g.AD[j]:=by simp[CL,hj,hj1]
 rw[ho];generalize hpp:g.AD[j]=p;have henc:=AH.eq_1 p;refine AE.B9 func78 (by kernel_rfl) rfl (by simp) fun wf _=>?_;rw[ntmps78];refine xW fun K hK=>?_;simp;apply hK;(repeat refine xS ?_);refine xE [0,2,4,6,8,10,12,14,16,18,20,22,25] (by kernel_rfl) fun K hK=>?_;simp;refine xA 0 ?_;simp[hb',hj,hj1,hpp,henc];refine xX 4095 (by kernel_rfl) ?_;simp;refine xM (hK _ _ ?_);(try simp only[xQ,reduceIte]);refine Ag ?_;(try simp only[xQ,reduceIte]);refine⟨_,_,_,AJ.refl,?_,?_,AJ.AY S.length (by simp) (Nat.le_refl _) (by simp) (by simpa using hs)⟩
 ·simp
 ·simp[henc]
def Fz(x:AAC)(n:Nat):Bool:=decide (0≤x.number)&&decide (x.number<n)
theorem JX{S:Sg}{r q:Nat}{g:AF}{x:AAC}(hb:Oj S r g x){k:FuncId}{n:Nat}(hq:S[q]?=some (.row true 1 [.fn (.func k) [] []]))(hk:Pure prog k [AB g] (AG n)):
  AE prog 129 [.ptr r 1 0 0,.ptr q 1 0 0] S (.d (.bool (Fz x n))) S:=by
 obtain⟨h0,h1,h2,h3,h4,h5,h6,h7,h8,m,lg,hb⟩:=hb;unfold bV at hb;refine AE.AI func129 (by kernel_rfl) rfl (by simp) fun wf _=>?_;rw[ntmps129];refine xW fun K hK=>?_;simp;apply hK;(repeat refine xS ?_);refine xE [0,2,4,6,8,10,12,14,16,18,20,22,24,26,28,30,32,34,36,38,40] (by kernel_rfl) fun K hK=>?_;simp;refine xA 0 ?_;simp[hb,hq];refine Ae.CE (ds:=[AB g]) rfl rfl (by simp;rfl) (fun _=>hk) (by simp[xN]) ?_;simp;refine xA 0 ?_;simp;refine xM (hK _ _ ?_);(try simp only[xQ,reduceIte]);refine Ag ?_;(try simp only[xQ,reduceIte]);refine⟨_,AJ.refl,?_⟩;simp[Am,Fz]
def CH(g:AF)(x:AAC):Bool:=Ck g x&&decide (0≤x.at_)&&(match (CL g x).right[x.at_.toNat]? with|some s=>!s.token|none=>false)
theorem JU{S:Sg}{r:Nat}{g:AF}{x:AAC}(hb:Oj S r g x)(hs:S.all (AAE S.length)=true):AE prog 75 [.ptr r 1 0 0] S (.d (.bool (CH g x))) S:=by
 have hpr:=Ea hb;have hold:=Hv hb hs;obtain⟨h0,h1,h2,h3,h4,h5,h6,h7,h8,m,lg,hb⟩:=hb;unfold bV at hb;generalize hop:CL g x=o at *;have henc:=AH.eq_1 o;refine AE.AI func75 (by kernel_rfl) rfl (by simp) fun wf _=>?_;rw[ntmps75];(repeat refine xS ?_);refine xV fun K hK=>?_;simp;refine hK _ _ ?_;(try simp only[xQ,reduceIte]);cases hp:Ck g x with
 |false=>
  have hc:CH g x=false:=by simp[CH,hp]
  rw[hc];(repeat refine xS ?_);refine xE [0,2,4,6,8,10,12,14,16,18,20,22,24,26,28,30,32,34,36,38,40,42,44,46,48,50,52,54,56,58,60,62,64,66,68,70,72] (by kernel_rfl) fun K hK=>?_;simp;(iterate 1 (refine Ga (by simp) ?_;simp));refine Ae.Gt (f:=61) (args:=[.ptr r 1 0 0]) hpr rfl (by simp;try rfl) ?_;simp;(iterate 1 (refine Ga (by simp) ?_;simp));(repeat(refine Oi rfl rfl ?_ ?_;(·simp[hp]);simp[hp]));(iterate 2 (refine Ga (by simp) ?_;simp));(repeat(refine Oi rfl rfl ?_ ?_;(·simp);simp));(iterate 2 (refine Ga (by simp) ?_;simp));(repeat(refine Oi rfl rfl ?_ ?_;(·simp);simp));refine xA 0 ?_;simp;refine xM (hK _ _ ?_);(try simp only[xQ,reduceIte]);refine Ag ?_;(try simp only[xQ,reduceIte]);refine⟨_,AJ.refl,?_⟩;simp[Am]
 |true=>
  by_cases a0:0≤x.at_
  ·obtain⟨j,hj⟩:∃j:Nat,x.at_=j:=⟨x.at_.toNat,by omega⟩;by_cases a1:j<o.right.length
   ·have hc:CH g x=!o.right[j].token:=by simp[CH,hp,hop,hj,a1]
    rw[hc];(repeat refine xS ?_);refine xE [0,2,4,6,8,10,12,14,16,18,20,22,24,26,28,30,32,34,36,38,40,42,44,46,48,50,52,54,56,58,60,62,64,66,68,70,72] (by kernel_rfl) fun K hK=>?_;simp;(iterate 1 (refine Ga (by simp) ?_;simp));refine Ae.Gt (f:=61) (args:=[.ptr r 1 0 0]) hpr rfl (by simp;try rfl) ?_;simp;(iterate 1 (refine Ga (by simp) ?_;simp));(iterate 14 (refine Ga (by simp[hp,hb,hj]) ?_;simp[hp,hb,hj]));refine Ae.Gb (g:=true) (f:=78) (args:=[.ptr r 1 0 0]) (fun _=>hold hp) rfl rfl (by simp;try rfl) (by simp) (by simp) ?_;simp;(iterate 6 (refine Ga (by simp[henc]) ?_;simp[a1,henc]));refine Ae.Gb (g:=true) (f:=78) (args:=[.ptr r 1 0 0]) (fun _=>hold hp) rfl rfl (by simp;try rfl) (by simp) (by simp) ?_;simp;refine xA 0 ?_;simp[hb,hj,a1,henc,AL];refine xM (hK _ _ ?_);(try simp only[xQ,reduceIte]);refine Ag ?_;(try simp only[xQ,reduceIte]);refine⟨_,AJ.refl,?_⟩;simp[Am]
   ·have hc:CH g x=false:=by simp[CH,hp,hop,hj,a1]
    rw[hc];(repeat refine xS ?_);refine xE [0,2,4,6,8,10,12,14,16,18,20,22,24,26,28,30,32,34,36,38,40,42,44,46,48,50,52,54,56,58,60,62,64,66,68,70,72] (by kernel_rfl) fun K hK=>?_;simp;(iterate 1 (refine Ga (by simp) ?_;simp));refine Ae.Gt (f:=61) (args:=[.ptr r 1 0 0]) hpr rfl (by simp;try rfl) ?_;simp;(iterate 1 (refine Ga (by simp) ?_;simp));(iterate 14 (refine Ga (by simp[hp,hb,hj]) ?_;simp[hp,hb,hj]));refine Ae.Gb (g:=true) (f:=78) (args:=[.ptr r 1 0 0]) (fun _=>hold hp) rfl rfl (by simp;try rfl) (by simp) (by simp) ?_;simp;(iterate 5 (refine Ga (by simp[henc]) ?_;simp[a1,henc]));(repeat(refine Oi rfl rfl ?_ ?_;(·simp);simp));refine xA 0 ?_;simp;refine xM (hK _ _ ?_);(try simp only[xQ,reduceIte]);refine Ag ?_;(try simp only[xQ,reduceIte]);refine⟨_,AJ.refl,?_⟩;simp[Am]
  ·have hc:CH g x=false:=by simp[CH,a0]
   rw[hc];(repeat refine xS ?_);refine xE [0,2,4,6,8,10,12,14,16,18,20,22,24,26,28,30,32,34,36,38,40,42,44,46,48,50,52,54,56,58,60,62,64,66,68,70,72] (by kernel_rfl) fun K hK=>?_;simp;(iterate 1 (refine Ga (by simp) ?_;simp));refine Ae.Gt (f:=61) (args:=[.ptr r 1 0 0]) hpr rfl (by simp;try rfl) ?_;simp;(iterate 1 (refine Ga (by simp) ?_;simp));(iterate 8 (refine Ga (by simp[hp,hb]) ?_;simp[hp,hb,a0]));(repeat(refine Oi rfl rfl ?_ ?_;(·simp);simp));(iterate 2 (refine Ga (by simp) ?_;simp));(repeat(refine Oi rfl rfl ?_ ?_;(·simp);simp));refine xA 0 ?_;simp;refine xM (hK _ _ ?_);(try simp only[xQ,reduceIte]);refine Ag ?_;(try simp only[xQ,reduceIte]);refine⟨_,AJ.refl,?_⟩;simp[Am]
def FE(g:AF)(x:AAC):Bool:=Ck g x&&decide (0≤x.at_)&&decide (x.at_<x.to)&&decide (x.to≤(CL g x).right.length)
theorem Sa{S:Sg}{r:Nat}{g:AF}{x:AAC}(hb:Oj S r g x)(hs:S.all (AAE S.length)=true):AE prog 77 [.ptr r 1 0 0] S (.d (.bool (FE g x))) S:=by
 have hpr:=Ea hb;have hold:(Ck g x&&decide (0≤x.at_)&&decide (x.at_<x.to))=true→AE prog 78 [.ptr r 1 0 0] S (.d (AH (CL g x))) S:=fun e=>Hv hb hs (by simp only[Bool.and_eq_true]at e;exact e.1.1);obtain⟨h0,h1,h2,h3,h4,h5,h6,h7,h8,m,lg,hb⟩:=hb;unfold bV at hb;generalize hop:CL g x=o at *;have henc:=AH.eq_1 o;have hfi:FE g x=(Ck g x&&decide (0≤x.at_)&&decide (x.at_<x.to)&&decide (x.to≤o.right.length)):=by simp[FE,hop]
 rw[hfi];refine AE.AI func77 (by kernel_rfl) rfl (by simp) fun wf _=>?_;rw[ntmps77];refine xW fun K hK=>?_;simp;apply hK;(repeat refine xS ?_);refine xE [0,2,4,6,8,10,12,14,16,18,20,22,24,26,28,30,32,34,36,38,40,42,44,46,48,50,52,54,56,58,60,62,64,66,68,70] (by kernel_rfl) fun K hK=>?_;simp;(iterate 1 (refine Ga (by simp) ?_;simp));refine Ae.Gt (f:=61) (args:=[.ptr r 1 0 0]) hpr rfl (by simp;try rfl) ?_;simp;refine xA 0 ?_;simp[hb];refine Ae.Gb (g:=Ck g x&&decide (0≤x.at_)&&decide (x.at_<x.to)) (f:=78) (args:=[.ptr r 1 0 0]) hold rfl rfl (by simp;try rfl) (by simp) (by simp +contextual;try rfl) ?_;simp;refine xA 0 ?_;simp[henc];refine xM (hK _ _ ?_);(try simp only[xQ,reduceIte]);refine Ag ?_;(try simp only[xQ,reduceIte]);refine⟨_,AJ.refl,?_⟩;simp[Am]
open Go.Proofs Tryz DT
def H0(g:AF)(x:AAC)(h:AF)(mm:List Rewrite)(lg:Bool):D:=.agg [CW g.conds,AV g.fam.nodes,AG g.fam.root,Bs g.Ak,CW g.BC,Bb g.AD,AG g.start,BI g.levels,A8 g.AM,AG x.kind,AG x.number,AG x.at_,AG x.to,Ba x.name,CS x.value,AV x.cond.nodes,AG x.cond.root,BI x.levels,A8 x.AM,Ba x.token.name,AG x.token.cls,Ba x.token.literal,Ax x.token.pattern,Ba x.token.Cr,AV x.token.cond.nodes,AG x.token.cond.root,Ba x.prod.name,AG x.prod.left,As x.prod.right,AV x.prod.cond.nodes,AG x.prod.cond.root,CS x.prod.bracket,AG x.prod.Di,Bf x.prod.layout,CS x.prod.scope.opens,AG x.prod.scope.declares,AG x.prod.scope.kind,AG x.prod.scope.EA,AG x.prod.scope.allowed,Bm x.BL,CW h.conds,AV h.fam.nodes,AG h.fam.root,Bs h.Ak,CW h.BC,Bb h.AD,AG h.start,BI h.levels,A8 h.AM,An mm,.bool lg]
def CG(g:AF)(x:AAC)(h:AF)(m:V)(lg:Bool)(w0 w1 w2 w3:Bool):Sg:=
 [.row w0 1 (h.conds.map fun x=>.d (D.str x)),.row w1 7 (h.Ak.map fun x=>.d (Aa x)),.row w2 1 (h.BC.map fun x=>.d (D.str x)),.row w3 13 (h.AD.map fun x=>.d (AH x)),.row true 51 [bV g x (.row 0 h.conds.length) (.d (AV h.fam.nodes)) (.d (AG h.fam.root)) (.row 1 h.Ak.length) (.row 2 h.BC.length) (.row 3 h.AD.length) (.d (AG h.start)) (.d (BI h.levels)) (.d (A8 h.AM)) m lg]]
def bS(g:AF)(x:AAC):Sg:=CG g x g (.full []) false (!g.conds.isEmpty) (!g.Ak.isEmpty) (!g.BC.isEmpty) (!g.AD.isEmpty)
def D5(g:AF)(x:AAC)(h:AF)(mm:List Rewrite)(lg:Bool):Sg:=
 [.BJ (h.conds.map D.str),.BJ (h.Ak.map Aa),.BJ (h.BC.map D.str),.BJ (h.AD.map AH),.row true 51 [.d (H0 g x h mm lg)]]
theorem Jo{n b:Nat}{tm:Tm}(g:AF)(x:AAC)(h:AF)(m:V)(mm:List Rewrite)(lg w0 w1 w2 w3:Bool)
  (hm:m=.full (mm.map Ab)):AJ prog n b tm (CG g x h m lg w0 w1 w2 w3) tm (D5 g x h mm lg):=by
 subst hm;have g0:=AJ.B6 (P:=prog) (n:=n) (b:=b) (tm:=tm) (S:=CG g x h (.full (mm.map Ab)) lg w0 w1 w2 w3) 0 rfl (Bz _ D.str h.conds);have g1:=AJ.B6 (P:=prog) (n:=n) (b:=b) (tm:=tm) (S:=(CG g x h (.full (mm.map Ab)) lg w0 w1 w2 w3).set 0 (.BJ (h.conds.map D.str))) 1 rfl (Bz _ Aa h.Ak);have g2:=AJ.B6 (P:=prog) (n:=n) (b:=b) (tm:=tm) (S:=((CG g x h (.full (mm.map Ab)) lg w0 w1 w2 w3).set 0 (.BJ (h.conds.map D.str))).set 1 (.BJ (h.Ak.map Aa))) 2 rfl (Bz _ D.str h.BC);have g3:=AJ.B6 (P:=prog) (n:=n) (b:=b) (tm:=tm) (S:=(((CG g x h (.full (mm.map Ab)) lg w0 w1 w2 w3).set 0 (.BJ (h.conds.map D.str))).set 1 (.BJ (h.Ak.map Aa))).set 2 (.BJ (h.BC.map D.str))) 3 rfl (Bz _ AH h.AD);refine(((g0.trans g1).trans g2).trans g3).trans ?_;refine AJ.A2 (P:=prog) (n:=n) (b:=b) (tm:=tm) 4 (wr:=true) (sz:=51) (xs:=[H0 g x h mm lg]) rfl ?_;simp[AAp,CG,bV,AA0,AAl,H0]
theorem YZ(g:AF)(x:AAC)(hi:Fz x g.BC.length=true):AE prog 60 [.ptr 4 1 0 0] (bS g x) (.Bd []) (D5 g x {g with BC:=g.BC.set x.number.toNat x.name} [] false):=by
 simp only[Fz,Bool.and_eq_true,decide_eq_true_eq]at hi;obtain⟨j,hj⟩:∃j:Nat,x.number=j:=⟨x.number.toNat,by omega⟩;have hj1:j<g.BC.length:=by omega
 have hem:g.BC.isEmpty=false:=by cases h:g.BC<;>simp[h]at hj1⊢
 refine AE.AI func60 (by kernel_rfl) rfl (by simp) fun wf _=>?_;rw[ntmps60];unfold bS CG bV;refine xE [0,2,4,6,8,10,12,14,16,18,20,22,24,26,28,30,33] (by kernel_rfl) fun K hK=>?_;simp;refine xA 1 ?_;simp[hj,hj1,hem];refine xX 65535 (by kernel_rfl) ?_;simp[hj1,AR];refine xM (hK _ _ ?_);refine⟨_,(AJ.JK (S':=CG g x {g with BC:=g.BC.set x.number.toNat x.name} (.full []) false (!g.conds.isEmpty) (!g.Ak.isEmpty) (!g.BC.isEmpty) (!g.AD.isEmpty)) ?_).trans (Jo g x _ (.full []) [] false _ _ _ _ rfl),?_⟩
 ·simp[CG,bV,hj,hem,List.map_set]
 ·simp[Am]
theorem YO(g:AF)(x:AAC)(hi:Fz x g.conds.length=true):AE prog 64 [.ptr 4 1 0 0] (bS g x) (.Bd []) (D5 g x {g with conds:=g.conds.set x.number.toNat x.name} [] false):=by
 simp only[Fz,Bool.and_eq_true,decide_eq_true_eq]at hi;obtain⟨j,hj⟩:∃j:Nat,x.number=j:=⟨x.number.toNat,by omega⟩;have hj1:j<g.conds.length:=by omega
 have hem:g.conds.isEmpty=false:=by cases h:g.conds<;>simp[h]at hj1⊢
 refine AE.AI func64 (by kernel_rfl) rfl (by simp) fun wf _=>?_;rw[ntmps64];unfold bS CG bV;refine xE [0,2,4,6,8,10,12,14,16,18,20,22,24,26,28,30,33] (by kernel_rfl) fun K hK=>?_;simp;refine xA 1 ?_;simp[hj,hj1,hem];refine xX 65535 (by kernel_rfl) ?_;simp[hj1,AR];refine xM (hK _ _ ?_);refine⟨_,(AJ.JK (S':=CG g x {g with conds:=g.conds.set x.number.toNat x.name} (.full []) false (!g.conds.isEmpty) (!g.Ak.isEmpty) (!g.BC.isEmpty) (!g.AD.isEmpty)) ?_).trans (Jo g x _ (.full []) [] false _ _ _ _ rfl),?_⟩
 ·simp[CG,bV,hj,hem,List.map_set]
 ·simp[Am]
theorem X0(g:AF)(x:AAC)(hi:Fz x g.AD.length=true):AE prog 62 [.ptr 4 1 0 0] (bS g x) (.Bd []) (D5 g x {g with AD:=g.AD.set x.number.toNat {g.AD.getD x.number.toNat F1 with name:=x.name}} [] false):=by
 simp only[Fz,Bool.and_eq_true,decide_eq_true_eq]at hi;obtain⟨j,hj⟩:∃j:Nat,x.number=j:=⟨x.number.toNat,by omega⟩;have hj1:j<g.AD.length:=by omega
 have hem:g.AD.isEmpty=false:=by cases h:g.AD<;>simp[h]at hj1⊢
 have hgd:g.AD.getD x.number.toNat F1=g.AD[j]:=by simp[hj,hj1]
 rw[hgd];generalize hpp:g.AD[j]=p;have henc:=AH.eq_1 p;refine AE.AI func62 (by kernel_rfl) rfl (by simp) fun wf _=>?_;rw[ntmps62];unfold bS CG bV;refine xE [0,2,4,6,8,10,12,14,16,18,20,22,24,26,28,30,32,35] (by kernel_rfl) fun K hK=>?_;simp;refine xA 1 ?_;simp[hj,hj1,hem];refine xX 131069 (by kernel_rfl) ?_;simp[hj1,hpp,henc,AR];refine xM (hK _ _ ?_);refine⟨_,((AJ.A2 3 (xs:=(g.AD.set j {p with name:=x.name}).map AH) rfl ?_).trans (AJ.JK (S':=CG g x {g with AD:=g.AD.set x.number.toNat {p with name:=x.name}} (.full []) false (!g.conds.isEmpty) (!g.Ak.isEmpty) (!g.BC.isEmpty) (!g.AD.isEmpty)) ?_)).trans (Jo g x _ (.full []) [] false _ _ _ _ rfl),?_⟩
 ·rw[Bc,List.map_set,List.map_map,List.map_set,List.map_set,List.map_map];congr 1
 ·simp[CG,bV,hj,hem,List.map_set,Function.comp_def]
 ·simp[Am]
open Go.Proofs DT
open Go.Proofs Tryz DT
theorem AE.Ei{P:Program}{f:FuncId}{args args':List V}{S S':Sg}{v:V}(h:AE P f args S v S')(hl:args'.length=args.length)
  (hw:∀i (h:i<args.length) (h':i<args'.length),args[i]=args'[i]∨∃d,asD S args'[i]=some d∧args[i]=.d d):AE P f args' S v S':=
 ⟨h.1,fun G w cargs R hs ha=>h.2 G w cargs R (by omega) fun i hi hi'=>by
  have h2:=ha i (by omega) hi';rcases hw i hi (by omega)with e|⟨d,e1,e2⟩
  ·rw[e];exact h2
  ·rw[e2];exact .d _ _ (h2.asD R e1)⟩
theorem Pq{S:Sg}{r:Nat}{g:AF}{x:AAC}{h0 h1 h2 h3 h4 h5 h6 h7 h8 m:V}{lg:Bool}(hb:S[r]?=some (.row true 51 [bV g x h0 h1 h2 h3 h4 h5 h6 h7 h8 m lg]))(a b:AN)
  (hs:(S.set r (.row true 51 [bV g x h0 h1 h2 h3 h4 h5 h6 h7 h8 m (lg||(Du and a b).2!=0)])).all (AAE S.length)=true):
  AE prog 73 [.ptr r 1 0 0,.d (AA a),.d (AA b)] S (.d (AA (Du and a b).1)) (S.set r (.row true 51 [bV g x h0 h1 h2 h3 h4 h5 h6 h7 h8 m (lg||(Du and a b).2!=0)])):=by
 unfold bV at hb hs⊢;have hr:=AZ hb;have hb':∀T,(S++T)[r]?=_:=fun T=>(List.getElem?_append_left hr).trans hb;have hst:∀T o,(S++T).set r o=S.set r o++T:=fun T o=>List.set_append_left _ _ hr;refine AE.B9 func73 (by kernel_rfl) rfl (by simp) fun wf wfs=>?_;rw[ntmps73];refine xW fun K hK=>?_;simp[AA];apply hK;refine Az fun K hK=>?_;refine xJ ?_;simp;refine Bp (I2 a b) rfl (by simp[AA]) ?_;simp[AA];refine xJ ?_;simp;refine Aj (hK _ _ ?_);(repeat refine xS ?_);refine BX fun K hK=>?_;refine xJ ?_;simp[hb'];refine Aj (hK _ _ ?_);(try simp only[]);rw[hst];have hlen:∀o,(S.set r o).length=S.length:=fun o=>List.length_set;(repeat refine xS ?_);refine BX fun K hK=>?_;refine xJ ?_;simp[hlen,List.set_append_right];refine Aj (hK _ _ ?_);(try simp only[xQ,reduceIte]);refine Ag ?_;(try simp only[xQ,reduceIte]);refine⟨_,_,_,AJ.refl,?_,?_,AJ.AY S.length (by simp[hlen]) (Nat.le_refl _) (by simp[hlen]) (by simpa[hlen]using hs)⟩
 ·simp[hlen]
 ·simp[hlen,AA]
open Go.Proofs DT
open Go.Proofs DT
end Go.Koi
