/-
  Part 41 of the proof that the law ChangeCommutes of the package koinelaw31 returns true for every input.
-/
import Derived.Test.YtdhbnplflgihpaaGreatDoorK39
import Derived.Deep.Slices
import Derived.Test.YtdhbnplflgihpaaGreatDoorProg
import Derived.Test.YtdhbnplflgihpaaGreatDoorCards
import Derived.Test.YtdhbnplflgihpaaGreatDoorTie
import Derived.WalkKit
import Derived.ProofKit
import Derived.OpenShut
import Derived.Deep.DeepHandedRow
import Derived.Lib.LaidTab
import Derived.WideKeyArgs
set_option maxHeartbeats 64000000
set_option maxRecDepth 100000
namespace Go.Koi
open Go.Proofs Tryz DT
theorem aL{g:AF}{x:Change}{h:AF}{mm:List Rewrite}{k:FuncId}(k1 k2:FuncId)(ha:AE prog k [.ptr 4 1 0 0] (bS g x) (.d (AG 0)) (D5 g x h mm false)):
  AE prog k (.ptr 4 1 0 0::A3 false 6) (bS g x++bx k1 k2) (.d (AG 0)) (D5 g x h mm false++bx k1 k2):=
 ha.Iz (bx k1 k2) (by simp[bS,CG,D5]) (by simp[bS,CG,bV]) (by simp[bS,CG,D5]) (by simp[bS,CG,belowV]) (by simp[belowV])
theorem aZ(g:AF)(x:Change)(k1 k2:FuncId):(bS g x++bx k1 k2).all (belowO (bS g x++bx k1 k2).length)=true:=by simp[bS,CG,bV,bx,belowV,belowVs]
theorem Ll(hsm:∀g,DX g=0→EO g)(g:AF)(x:Change)(hk:x.kind=7)(hcn:g.conds.length≤12)(h:AF)(mm:List Rewrite)
  (hap:CH g x=true→AE prog 87 [.ptr 4 1 0 0] (bS g x) (.d (AG 0)) (D5 g x h mm false))
  (hmm:mm.length≤100∧∀x∈mm,x.BL.length≤2 ^ 30) (hc:h.conds.length≤12) (hmp:CH g x=true→At prog 27 [.d (AB g),.d (AB h),.d (An mm)] [] (bR g h)):
  At prog 7 [.d (AB g),.d (AO x)] [] (We g x (Fi ((fun x:Change=>{x with number:=0,at_:=0}) x)) (CH g x) h mm):=by
 have hfc:=Ca g hcn;refine At.AI func7 (by kernel_rfl) rfl (by simp) fun wf _=>?_;rw[ntmps7];refine xW fun K hK=>?_;simp;apply hK;refine xS (Az fun K hK=>?_);refine xJ ?_;simp;refine AS.Cf hfc [] rfl ?_ ?_ ?_
 ·simp
 ·rintro v S0' ⟨rfl,r,rfl,_⟩;simp
 rintro v S0' ⟨rfl,r1,rfl,hr1,hr2⟩;simp;refine xJ ?_;simp;refine Aj (hK _ _ ?_);(try simp only[]);by_cases hz:r1=0
 ·refine xW fun K hK=>?_;simp[hz];apply hK;refine AU ?_;simp;refine xK ?_;refine AW.Ew (R:=fun tm S=>tm 2=.ptr 0 1 0 0∧tm 3=.ptr 1 1 0 0∧tm 4=.ptr 2 1 0 0∧tm 8=.ptr 3 1 0 0∧tm 9=.d (.bool true)∧S=Cl g x 85 86 87 (A3 false 4) (A3 false 5) true 70 71) ?_ ?_
  ·refine AW.ED (by kernel_rfl) fun K hK=>?_;change Ad _ _ _ _ _ _ 10 (Array.replicate 10 false) _ _;refine Ad.CB 1 rfl (by kernel_rfl) ?_ ?_;(focus(simp;done));simp;refine Ad.CB 2 rfl (by kernel_rfl) ?_ ?_;(focus(simp;done));simp;refine Ad.Ih 0 7 [false,false] [false,false] (by kernel_rfl) rfl rfl (by kernel_rfl) (by kernel_rfl) (A7.call (args:=[]) rfl rfl rfl (by simp) (by simp[callee]) (by simp) (CJ.Bq [] (by simp) (by simp) (by simp))) ?_ (A7.B5 rfl ?_) ?_ ?_ ?_
   ·simp[AR]
   ·simp
   ·simp[AR]
   ·simp;simp[C7,DB,CN,renV,renVs,renO,hk];refine Ad.CB 3 rfl (by kernel_rfl) ?_ ?_;(focus(simp[goodKeys,goodK,goodC];done));simp[A4,deq];refine Ad.CB 4 rfl (by kernel_rfl) ?_ ?_;(focus(simp;done));simp;refine Ad.CB 5 rfl (by kernel_rfl) ?_ ?_;(focus(simp;done));simp;refine Ad.CB 6 rfl (by kernel_rfl) ?_ ?_;(focus(simp;done));simp;refine Ad.DE 7 [false,false,false,false,false,false] (by kernel_rfl) rfl (by kernel_rfl) ?_ ?_;(focus(simp[AR,hk,A4,deq,goodKeys,goodK,goodC];done));simp;refine Ad.DE 8 [false,true,true,true,true,true] (by kernel_rfl) rfl (by kernel_rfl) ?_ ?_;(focus(simp[AR];done));simp;refine Ad.CB 9 rfl (by kernel_rfl) ?_ ?_;(focus(simp;done));simp;refine Ad.done (by kernel_rfl) (hK _ _ ⟨_,_,AJ.Cy [0,1,2,18,4,5] (S0:=Cl g x 85 86 87 (A3 false 4) (A3 false 5) true 70 71) (by simp[Cl,A3];try decide) (by simp) (by simp),?_⟩);simp[pick];decide
   ·simp;(refine Ad.Mf 0 [false,false] (by kernel_rfl) rfl (by kernel_rfl) (A7.call (args:=[]) rfl rfl rfl (by simp) (by simp[callee]) (by simp) (CJ.Bq [] (by simp) (by simp) (by simp))) ?_ ?_)
    ·simp[AR]
    simp[C7,DB,CN,renV,renVs,renO,hk];refine Ad.CB 3 rfl (by kernel_rfl) ?_ ?_;(focus(simp[goodKeys,goodK,goodC];done));simp[A4,deq];refine Ad.CB 4 rfl (by kernel_rfl) ?_ ?_;(focus(simp;done));simp;refine Ad.CB 5 rfl (by kernel_rfl) ?_ ?_;(focus(simp;done));simp;refine Ad.CB 6 rfl (by kernel_rfl) ?_ ?_;(focus(simp;done));simp;refine Ad.DE 8 [false,true,true,true,true,true] (by kernel_rfl) rfl (by kernel_rfl) ?_ ?_;(focus(simp[AR];done));simp;refine Ad.CB 9 rfl (by kernel_rfl) ?_ ?_;(focus(simp;done));simp;refine Ad.done (by kernel_rfl) (hK _ _ ⟨_,_,AJ.Cy [0,1,2,3,5,6] (S0:=Cl g x 85 86 87 (A3 false 4) (A3 false 5) true 70 71) (by simp[Cl,A3];try decide) (by simp) (by simp),?_⟩);simp[pick];decide
  ·rintro tm S ⟨t2,t3,t4,t8,t9,rfl⟩;have hg0:DX g=0:=by rcases hr2 with e|e<;>omega
   refine AW.mono (DI hsm g x 85 86 87 70 71 ((fun x:Change=>{x with number:=0,at_:=0})) false false true (CH g x) h mm false hg0 V6 (fun _=>JU (RY g x 70 71) (aZ g x 70 71)) (fun hf=>aL 70 71 (hap hf)) hmm hc hmp t2 t3 t4 t8 t9) ?_;intro ex tm S hq;exact hq.XA
 ·refine xW fun K hK=>?_;simp;apply hK;refine AU ?_;simp[hz];refine xW fun K hK=>?_;simp;apply hK;refine Ag ?_;(try simp only[xQ,reduceIte]);refine⟨_,_,AJ.refl,by simp,_,_,⟨rfl,BV,[],r1,rfl,by decide,fun h=>absurd h hz,fun h1 _=>absurd ((hr1 (.inr h1.2)).trans h1.1) hz,fun h1 _ _=>(hr1 (.inr h1.2)).trans h1.1⟩,.inl ⟨.Bd [AB BV,An [],AG r1],_,by simp[asD,AB,BV],rfl,AJ.AY 0 rfl (by simp) (by simp) (by simp)⟩⟩
theorem RT(hsm:∀g,DX g=0→EO g)(g:AF)(x:Change)(hk:x.kind=8)(hcn:g.conds.length≤12)(h:AF)(mm:List Rewrite)
  (hap:FE g x=true→AE prog 90 [.ptr 4 1 0 0] (bS g x) (.d (AG 0)) (D5 g x h mm false))
  (hmm:mm.length≤100∧∀x∈mm,x.BL.length≤2 ^ 30) (hc:h.conds.length≤12) (hmp:FE g x=true→At prog 27 [.d (AB g),.d (AB h),.d (An mm)] [] (bR g h)):
  At prog 7 [.d (AB g),.d (AO x)] [] (We g x (Fi ((fun x:Change=>{x with number:=0,at_:=0,to:=0,name:=⟨#[]⟩}) x)) (FE g x) h mm):=by
 have hfc:=Ca g hcn;refine At.AI func7 (by kernel_rfl) rfl (by simp) fun wf _=>?_;rw[ntmps7];refine xW fun K hK=>?_;simp;apply hK;refine xS (Az fun K hK=>?_);refine xJ ?_;simp;refine AS.Cf hfc [] rfl ?_ ?_ ?_
 ·simp
 ·rintro v S0' ⟨rfl,r,rfl,_⟩;simp
 rintro v S0' ⟨rfl,r1,rfl,hr1,hr2⟩;simp;refine xJ ?_;simp;refine Aj (hK _ _ ?_);(try simp only[]);by_cases hz:r1=0
 ·refine xW fun K hK=>?_;simp[hz];apply hK;refine AU ?_;simp;refine xK ?_;refine AW.Ew (R:=fun tm S=>tm 2=.ptr 0 1 0 0∧tm 3=.ptr 1 1 0 0∧tm 4=.ptr 2 1 0 0∧tm 8=.ptr 3 1 0 0∧tm 9=.d (.bool true)∧S=Cl g x 66 88 90 (A3 false 4) (A3 false 5) true 70 71) ?_ ?_
  ·refine AW.ED (by kernel_rfl) fun K hK=>?_;change Ad _ _ _ _ _ _ 10 (Array.replicate 10 false) _ _;refine Ad.CB 1 rfl (by kernel_rfl) ?_ ?_;(focus(simp;done));simp;refine Ad.CB 2 rfl (by kernel_rfl) ?_ ?_;(focus(simp;done));simp;refine Ad.Ih 0 7 [false,false] [false,false] (by kernel_rfl) rfl rfl (by kernel_rfl) (by kernel_rfl) (A7.call (args:=[]) rfl rfl rfl (by simp) (by simp[callee]) (by simp) (CJ.Bq [] (by simp) (by simp) (by simp))) ?_ (A7.B5 rfl ?_) ?_ ?_ ?_
   ·simp[AR]
   ·simp
   ·simp[AR]
   ·simp;simp[C7,DB,CN,renV,renVs,renO,hk];refine Ad.CB 3 rfl (by kernel_rfl) ?_ ?_;(focus(simp[goodKeys,goodK,goodC];done));simp[A4,deq];refine Ad.CB 4 rfl (by kernel_rfl) ?_ ?_;(focus(simp;done));simp;refine Ad.CB 5 rfl (by kernel_rfl) ?_ ?_;(focus(simp;done));simp;refine Ad.CB 6 rfl (by kernel_rfl) ?_ ?_;(focus(simp;done));simp;refine Ad.DE 7 [false,false,false,false,false,false] (by kernel_rfl) rfl (by kernel_rfl) ?_ ?_;(focus(simp[AR,hk,A4,deq,goodKeys,goodK,goodC];done));simp;refine Ad.DE 8 [false,true,true,true,true,true] (by kernel_rfl) rfl (by kernel_rfl) ?_ ?_;(focus(simp[AR];done));simp;refine Ad.CB 9 rfl (by kernel_rfl) ?_ ?_;(focus(simp;done));simp;refine Ad.done (by kernel_rfl) (hK _ _ ⟨_,_,AJ.Cy [0,1,2,18,4,5] (S0:=Cl g x 66 88 90 (A3 false 4) (A3 false 5) true 70 71) (by simp[Cl,A3];try decide) (by simp) (by simp),?_⟩);simp[pick];decide
   ·simp;(refine Ad.Mf 0 [false,false] (by kernel_rfl) rfl (by kernel_rfl) (A7.call (args:=[]) rfl rfl rfl (by simp) (by simp[callee]) (by simp) (CJ.Bq [] (by simp) (by simp) (by simp))) ?_ ?_)
    ·simp[AR]
    simp[C7,DB,CN,renV,renVs,renO,hk];refine Ad.CB 3 rfl (by kernel_rfl) ?_ ?_;(focus(simp[goodKeys,goodK,goodC];done));simp[A4,deq];refine Ad.CB 4 rfl (by kernel_rfl) ?_ ?_;(focus(simp;done));simp;refine Ad.CB 5 rfl (by kernel_rfl) ?_ ?_;(focus(simp;done));simp;refine Ad.CB 6 rfl (by kernel_rfl) ?_ ?_;(focus(simp;done));simp;refine Ad.DE 8 [false,true,true,true,true,true] (by kernel_rfl) rfl (by kernel_rfl) ?_ ?_;(focus(simp[AR];done));simp;refine Ad.CB 9 rfl (by kernel_rfl) ?_ ?_;(focus(simp;done));simp;refine Ad.done (by kernel_rfl) (hK _ _ ⟨_,_,AJ.Cy [0,1,2,3,5,6] (S0:=Cl g x 66 88 90 (A3 false 4) (A3 false 5) true 70 71) (by simp[Cl,A3];try decide) (by simp) (by simp),?_⟩);simp[pick];decide
  ·rintro tm S ⟨t2,t3,t4,t8,t9,rfl⟩;have hg0:DX g=0:=by rcases hr2 with e|e<;>omega
   refine AW.mono (DI hsm g x 66 88 90 70 71 ((fun x:Change=>{x with number:=0,at_:=0,to:=0,name:=⟨#[]⟩})) false false true (FE g x) h mm false hg0 Ua (fun _=>Sa (RY g x 70 71) (aZ g x 70 71)) (fun hf=>aL 70 71 (hap hf)) hmm hc hmp t2 t3 t4 t8 t9) ?_;intro ex tm S hq;exact hq.XA
 ·refine xW fun K hK=>?_;simp;apply hK;refine AU ?_;simp[hz];refine xW fun K hK=>?_;simp;apply hK;refine Ag ?_;(try simp only[xQ,reduceIte]);refine⟨_,_,AJ.refl,by simp,_,_,⟨rfl,BV,[],r1,rfl,by decide,fun h=>absurd h hz,fun h1 _=>absurd ((hr1 (.inr h1.2)).trans h1.1) hz,fun h1 _ _=>(hr1 (.inr h1.2)).trans h1.1⟩,.inl ⟨.Bd [AB BV,An [],AG r1],_,by simp[asD,AB,BV],rfl,AJ.AY 0 rfl (by simp) (by simp) (by simp)⟩⟩
theorem Rp(hsm:∀g,DX g=0→EO g)(g:AF)(x:Change)(hk:x.kind=9)(hcn:g.conds.length≤12)(h:AF)(mm:List Rewrite)
  (hap:CH g x=true→AE prog 92 [.ptr 4 1 0 0] (bS g x) (.d (AG 0)) (D5 g x h mm false))
  (hmm:mm.length≤100∧∀x∈mm,x.BL.length≤2 ^ 30) (hc:h.conds.length≤12) (hmp:CH g x=true→At prog 27 [.d (AB g),.d (AB h),.d (An mm)] [] (bR g h)):
  At prog 7 [.d (AB g),.d (AO x)] [] (We g x (Fi ((fun x:Change=>{x with number:=0,at_:=0,name:=⟨#[]⟩}) x)) (CH g x) h mm):=by
 have hfc:=Ca g hcn;refine At.AI func7 (by kernel_rfl) rfl (by simp) fun wf _=>?_;rw[ntmps7];refine xW fun K hK=>?_;simp;apply hK;refine xS (Az fun K hK=>?_);refine xJ ?_;simp;refine AS.Cf hfc [] rfl ?_ ?_ ?_
 ·simp
 ·rintro v S0' ⟨rfl,r,rfl,_⟩;simp
 rintro v S0' ⟨rfl,r1,rfl,hr1,hr2⟩;simp;refine xJ ?_;simp;refine Aj (hK _ _ ?_);(try simp only[]);by_cases hz:r1=0
 ·refine xW fun K hK=>?_;simp[hz];apply hK;refine AU ?_;simp;refine xK ?_;refine AW.Ew (R:=fun tm S=>tm 2=.ptr 0 1 0 0∧tm 3=.ptr 1 1 0 0∧tm 4=.ptr 2 1 0 0∧tm 8=.ptr 3 1 0 0∧tm 9=.d (.bool true)∧S=Cl g x 91 86 92 (A3 false 4) (A3 false 5) true 70 71) ?_ ?_
  ·refine AW.ED (by kernel_rfl) fun K hK=>?_;change Ad _ _ _ _ _ _ 10 (Array.replicate 10 false) _ _;refine Ad.CB 1 rfl (by kernel_rfl) ?_ ?_;(focus(simp;done));simp;refine Ad.CB 2 rfl (by kernel_rfl) ?_ ?_;(focus(simp;done));simp;refine Ad.Ih 0 7 [false,false] [false,false] (by kernel_rfl) rfl rfl (by kernel_rfl) (by kernel_rfl) (A7.call (args:=[]) rfl rfl rfl (by simp) (by simp[callee]) (by simp) (CJ.Bq [] (by simp) (by simp) (by simp))) ?_ (A7.B5 rfl ?_) ?_ ?_ ?_
   ·simp[AR]
   ·simp
   ·simp[AR]
   ·simp;simp[C7,DB,CN,renV,renVs,renO,hk];refine Ad.CB 3 rfl (by kernel_rfl) ?_ ?_;(focus(simp[goodKeys,goodK,goodC];done));simp[A4,deq];refine Ad.CB 4 rfl (by kernel_rfl) ?_ ?_;(focus(simp;done));simp;refine Ad.CB 5 rfl (by kernel_rfl) ?_ ?_;(focus(simp;done));simp;refine Ad.CB 6 rfl (by kernel_rfl) ?_ ?_;(focus(simp;done));simp;refine Ad.DE 7 [false,false,false,false,false,false] (by kernel_rfl) rfl (by kernel_rfl) ?_ ?_;(focus(simp[AR,hk,A4,deq,goodKeys,goodK,goodC];done));simp;refine Ad.DE 8 [false,true,true,true,true,true] (by kernel_rfl) rfl (by kernel_rfl) ?_ ?_;(focus(simp[AR];done));simp;refine Ad.CB 9 rfl (by kernel_rfl) ?_ ?_;(focus(simp;done));simp;refine Ad.done (by kernel_rfl) (hK _ _ ⟨_,_,AJ.Cy [0,1,2,18,4,5] (S0:=Cl g x 91 86 92 (A3 false 4) (A3 false 5) true 70 71) (by simp[Cl,A3];try decide) (by simp) (by simp),?_⟩);simp[pick];decide
   ·simp;(refine Ad.Mf 0 [false,false] (by kernel_rfl) rfl (by kernel_rfl) (A7.call (args:=[]) rfl rfl rfl (by simp) (by simp[callee]) (by simp) (CJ.Bq [] (by simp) (by simp) (by simp))) ?_ ?_)
    ·simp[AR]
    simp[C7,DB,CN,renV,renVs,renO,hk];refine Ad.CB 3 rfl (by kernel_rfl) ?_ ?_;(focus(simp[goodKeys,goodK,goodC];done));simp[A4,deq];refine Ad.CB 4 rfl (by kernel_rfl) ?_ ?_;(focus(simp;done));simp;refine Ad.CB 5 rfl (by kernel_rfl) ?_ ?_;(focus(simp;done));simp;refine Ad.CB 6 rfl (by kernel_rfl) ?_ ?_;(focus(simp;done));simp;refine Ad.DE 8 [false,true,true,true,true,true] (by kernel_rfl) rfl (by kernel_rfl) ?_ ?_;(focus(simp[AR];done));simp;refine Ad.CB 9 rfl (by kernel_rfl) ?_ ?_;(focus(simp;done));simp;refine Ad.done (by kernel_rfl) (hK _ _ ⟨_,_,AJ.Cy [0,1,2,3,5,6] (S0:=Cl g x 91 86 92 (A3 false 4) (A3 false 5) true 70 71) (by simp[Cl,A3];try decide) (by simp) (by simp),?_⟩);simp[pick];decide
  ·rintro tm S ⟨t2,t3,t4,t8,t9,rfl⟩;have hg0:DX g=0:=by rcases hr2 with e|e<;>omega
   refine AW.mono (DI hsm g x 91 86 92 70 71 ((fun x:Change=>{x with number:=0,at_:=0,name:=⟨#[]⟩})) false false true (CH g x) h mm false hg0 Vs (fun _=>JU (RY g x 70 71) (aZ g x 70 71)) (fun hf=>aL 70 71 (hap hf)) hmm hc hmp t2 t3 t4 t8 t9) ?_;intro ex tm S hq;exact hq.XA
 ·refine xW fun K hK=>?_;simp;apply hK;refine AU ?_;simp[hz];refine xW fun K hK=>?_;simp;apply hK;refine Ag ?_;(try simp only[xQ,reduceIte]);refine⟨_,_,AJ.refl,by simp,_,_,⟨rfl,BV,[],r1,rfl,by decide,fun h=>absurd h hz,fun h1 _=>absurd ((hr1 (.inr h1.2)).trans h1.1) hz,fun h1 _ _=>(hr1 (.inr h1.2)).trans h1.1⟩,.inl ⟨.Bd [AB BV,An [],AG r1],_,by simp[asD,AB,BV],rfl,AJ.AY 0 rfl (by simp) (by simp) (by simp)⟩⟩
open Go.Proofs Tryz DT
theorem At.exact{P:Program}{f:FuncId}{args:List V}{S S':Sg}{v:V}{R:V→Sg→Prop}(h:At P f args S R)(hR:∀u T,R u T→u=v∧T=S'):AE P f args S v S':=
 ⟨h.1,fun G w cargs r hs ha=>(h.2 G w cargs r hs ha).mono fun e w' ⟨cv,G',u,T,h0,h1,h2,h3,h4,h5⟩=>by
  obtain⟨rfl,rfl⟩:=hR _ _ h0;exact⟨cv,G',h1,h2,h3,h4,h5⟩⟩
theorem ND:Du and Cn Cn=(Cn,0):=by
 have hg:(DT.leaf true).Good:=trivial;have h1:tr Cn=.leaf true:=Ou hg;have hv:Valid Cn:=⟨.leaf true,trivial,rfl⟩;have hc:HW Cn=0:=by
  unfold HW;rw[if_neg (by decide),if_pos hv]
 have ho:Yv and Cn Cn=Cn:=by
  unfold Yv;rw[JN (t:=.leaf true) hg (fun c=>by rw[h1];rfl)];rfl
 have hz:chks [Cn,Cn]=0:=by simp[chks,hc]
 unfold Du;rw[hz,ho];simp[Cn]
def eT(BC:List ByteArray)(AD:List AT):AF:=⟨[⟨#[65]⟩,⟨#[66]⟩],Cn,Dr,BC,AD,0,[],[]⟩
def Tw(name:ByteArray)(left:Int)(right:List Symbol):AT:=⟨name,left,right,Cn,false,0,[],Av⟩
def Yy(k n a t:Int)(name:ByteArray):Change:=⟨k,n,a,t,name,false,⟨[],0⟩,[],[],Fm,Dq,[]⟩
def fB:AT:=Tw ⟨#[110,117,109]⟩ 0 [⟨true,0⟩]
def eZ:AT:=Tw ⟨#[98,105,110]⟩ 0 [⟨false,0⟩,⟨false,1⟩,⟨false,0⟩]
def fE:AT:=Tw ⟨#[112,108,117,115]⟩ 1 [⟨true,1⟩]
def eV:AT:=Tw ⟨#[116,105,109,101,115]⟩ 1 [⟨true,2⟩]
def KL:ByteArray:=⟨#[98,105,110,95,112,108,117,115]⟩
def Ln:ByteArray:=⟨#[98,105,110,95,99,111,112,121]⟩
def cH:Change:=Yy 7 1 1 0 ⟨#[]⟩
def gH:AF:=eT [⟨#[69]⟩,⟨#[79]⟩] [fB,{eZ with cond:=fT},fE,eV,Tw KL 0 [⟨false,0⟩,⟨true,1⟩,⟨false,0⟩],Tw ⟨#[98,105,110,95,116,105,109,101,115]⟩ 0 [⟨false,0⟩,⟨true,2⟩,⟨false,0⟩]]
def mH:List Rewrite:=[⟨1,1,2,Bh 4::Cg 0 3⟩,⟨1,1,3,Bh 5::Cg 0 3⟩]
def cK:Change:=Yy 8 1 1 3 ⟨#[114,101,115,116]⟩
def gK:AF:=eT [⟨#[69]⟩,⟨#[79]⟩,⟨#[114,101,115,116]⟩] [fB,{eZ with right:=[⟨false,0⟩,⟨false,2⟩]},fE,eV,Tw ⟨#[114,101,115,116]⟩ 2 [⟨false,1⟩,⟨false,0⟩]]
def mK:List Rewrite:=[⟨1,-1,-1,[Bh 1,Dk 0,Bh 4,Dk 1,Dk 2]⟩]
def cS:Change:=Yy 9 1 2 0 ⟨#[114,105,103,104,116]⟩
def gS:AF:=eT [⟨#[69]⟩,⟨#[79]⟩,⟨#[114,105,103,104,116]⟩] [fB,{eZ with right:=[⟨false,0⟩,⟨false,1⟩,⟨false,2⟩]},fE,eV,Tw ⟨#[110,117,109,95,99,111,112,121]⟩ 2 [⟨true,0⟩],Tw Ln 2 [⟨false,0⟩,⟨false,1⟩,⟨false,0⟩]]
def bu:List Rewrite:=[⟨1,2,0,[Bh 1,Dk 0,Dk 1,Bh 4,Dk 2]⟩,⟨1,2,1,[Bh 1,Dk 0,Dk 1,Bh 5,Dk 2,Dk 3,Dk 4]⟩]
def cN:Change:=Yy 7 0 0 0 ⟨#[]⟩
theorem bM:QK gH:=⟨MV _ _ (by decide+kernel),Qk _ (by decide+kernel)⟩
theorem ai:QK gK:=⟨MV _ _ (by decide+kernel),Qk _ (by decide+kernel)⟩
theorem aO:QK gS:=⟨MV _ _ (by decide+kernel),Qk _ (by decide+kernel)⟩
theorem O1:B1 GH cH=[2,3]:=by decide+kernel
theorem WQ:B1 GH cS=[0,1]:=by decide+kernel
theorem aw:X1 GH cH=gH:=by
 have h2:F9 GH cH 2=Tw KL 0 [⟨false,0⟩,⟨true,1⟩,⟨false,0⟩]:=by
  unfold F9;rw[show Du and (CL GH cH).cond (CO GH 2).cond=(Cn,0)from ND];decide+kernel
 have h3:F9 GH cH 3=Tw ⟨#[98,105,110,95,116,105,109,101,115]⟩ 0 [⟨false,0⟩,⟨true,2⟩,⟨false,0⟩]:=by
  unfold F9;rw[show Du and (CL GH cH).cond (CO GH 3).cond=(Cn,0)from ND];decide+kernel
 unfold X1;rw[O1];simp only[List.map_cons,List.map_nil,h2,h3];rfl
theorem Zd:Iy GH cH GH.AD.length (B1 GH cH)=mH:=by decide+kernel
theorem Xv:Vu GH cK=gK:=by rfl
theorem XE:foldM GH cK=mK:=by decide+kernel
theorem cW:eP GH cS=gS:=by unfold eP;rw[WQ];rfl
theorem cT:SK GH cS GH.AD.length (B1 GH cS)=bu:=by decide+kernel
theorem Ke{g h:AF}{m:List Rewrite}(hs:m.all (Pw g h)=true):∀x∈m,Pure prog 114 [AB g,AB h,Ab x] (.bool true):=
 fun x hx=>T4 g h x (List.all_eq_true.1 hs x hx)
theorem fC{p:Nat}(h:p<4):p=0∨p=1∨p=2∨p=3:=by omega
theorem Zv:Pure prog 7 [AB GH,AO cH] (.Bd [AB gH,An mH,AG 0]):=by
 refine(Ll DP GH cH rfl (by decide) gH mH (fun hf=>?_) ⟨by decide,by decide⟩ (by decide) (fun hf=>?_)).exact ?_
 ·have h:=SY GH cH hf (by decide+kernel) (by decide+kernel) (by decide+kernel) (by
   rw[O1];intro i hi;have:i=2∨i=3:=by simpa using hi
   rcases this with rfl|rfl<;>exact congrArg Prod.snd ND) (by decide) (by decide) (by rw[O1];decide+kernel) (by decide)
  rw[aw,Zd]at h;exact h
 ·refine Fj GH gH mH (by decide) (by decide) (by decide) (by decide) (Ke (by decide+kernel)) fun p hp=>.inl ?_;rcases fC hp with rfl|rfl|rfl|rfl<;>exact⟨by decide,by decide,rfl,rfl⟩
 ·rintro u T ⟨rfl,h',m',e,rfl,_,h1,_,h2⟩;have h0:=h2 Jv bM (by decide+kernel);obtain⟨rfl,rfl⟩:=h1 h0;subst h0;exact⟨rfl,rfl⟩
theorem aT:Pure prog 7 [AB GH,AO cK] (.Bd [AB gK,An mK,AG 0]):=by
 refine(RT DP GH cK rfl (by decide) gK mK (fun hf=>?_) ⟨by decide,by decide⟩ (by decide) (fun hf=>?_)).exact ?_
 ·have h:=YI GH cK hf (by decide+kernel) (by decide) (by decide) (by decide);rw[Xv,XE]at h;exact h
 ·refine Fj GH gK mK (by decide) (by decide) (by decide) (by decide) (Ke (by decide+kernel)) fun p hp=>?_;rcases fC hp with rfl|rfl|rfl|rfl
  ·exact .inl ⟨by decide,by decide,rfl,rfl⟩
  ·exact .inr (NR GH mK 1 (by decide) (by decide) (by decide+kernel))
  ·exact .inl ⟨by decide,by decide,rfl,rfl⟩
  ·exact .inl ⟨by decide,by decide,rfl,rfl⟩
 ·rintro u T ⟨rfl,h',m',e,rfl,_,h1,_,h2⟩;have h0:=h2 Jv ai (by decide+kernel);obtain⟨rfl,rfl⟩:=h1 h0;subst h0;exact⟨rfl,rfl⟩
theorem af:Pure prog 7 [AB GH,AO cS] (.Bd [AB gS,An bu,AG 0]):=by
 refine(Rp DP GH cS rfl (by decide) gS bu (fun hf=>?_) ⟨by decide,by decide⟩ (by decide) (fun hf=>?_)).exact ?_
 ·have h:=VM GH cS hf (by decide+kernel) (by decide+kernel) (by decide) (by decide) (by decide) (by rw[WQ];decide+kernel);rw[cW,cT]at h;exact h
 ·refine Fj GH gS bu (by decide) (by decide) (by decide) (by decide) (Ke (by decide+kernel)) fun p hp=>?_;rcases fC hp with rfl|rfl|rfl|rfl
  ·exact .inl ⟨by decide,by decide,rfl,rfl⟩
  ·exact .inr (NR GH bu 1 (by decide) (by decide) (by decide+kernel))
  ·exact .inl ⟨by decide,by decide,rfl,rfl⟩
  ·exact .inl ⟨by decide,by decide,rfl,rfl⟩
 ·rintro u T ⟨rfl,h',m',e,rfl,_,h1,_,h2⟩;have h0:=h2 Jv aO (by decide+kernel);obtain⟨rfl,rfl⟩:=h1 h0;subst h0;exact⟨rfl,rfl⟩
def gZ(v:V)(S':Sg):Prop:=S'=[]∧∃(h:AF) (m:List Rewrite),v=.d (.Bd [AB h,An m,AG 310])
theorem applyN:At prog 7 [.d (AB GH),.d (AO cN)] [] gZ:=by
 refine(Ll DP GH cN rfl (by decide) GH [] (fun hf=>absurd hf (by decide+kernel)) ⟨by decide,by simp⟩ (by decide) (fun hf=>absurd hf (by decide+kernel))).mono ?_;rintro u T ⟨rfl,h',m',e,rfl,_,_,h2,_⟩;have h0:=h2 Jv (by decide+kernel);subst h0;exact⟨rfl,h',m',rfl⟩
open Go.Proofs Tryz DT
theorem Q7:Pure prog 4 [] (.bool true):=by
 have aH:=Zv;have aK:=aT;have aS:=af;have aN:=applyN;have hl:(5:Nat)≤maxLen:=by decide
 obtain⟨fH1,fH2,fH3,fH4,fH5⟩:gH.AD.length=6∧(∃p,gH.AD[4]?=some p∧p.name=KL)∧(∃p,gH.AD[1]?=some p∧p.cond.root=0)∧mH.length=2∧(∃r,mH[1]?=some r∧r.child=3):=
  ⟨rfl,⟨_,rfl,rfl⟩,⟨_,rfl,rfl⟩,rfl,⟨_,rfl,rfl⟩⟩
 obtain⟨fK1,fK2,fK3,fK4,fK5⟩:gK.AD.length=5∧(∃p,gK.AD[4]?=some p∧p.right.length=2)∧(∃p,gK.AD[1]?=some p∧p.right.length=2)∧mK.length=1∧(∃r n,mK[0]?=some r∧r.BL.length=5∧r.BL[2]?=some n∧n.prod=4):=
  ⟨rfl,⟨_,rfl,rfl⟩,⟨_,rfl,rfl⟩,rfl,⟨_,_,rfl,rfl,rfl,rfl⟩⟩
 obtain⟨fS1,fS2,fS3⟩:gS.AD.length=6∧(∃p y,gS.AD[5]?=some p∧p.name=Ln∧p.right.length=3∧p.right[2]?=some y∧y.index=0)∧(∃p y,gS.AD[1]?=some p∧p.right.length=3∧p.right[2]?=some y∧y.index=2):=
  ⟨rfl,⟨_,_,rfl,rfl,rfl,rfl,rfl⟩,⟨_,_,rfl,rfl,rfl,rfl⟩⟩
 generalize gH=H at *;generalize mH=MH at *;generalize gK=K at *;generalize mK=MK at *;generalize gS=T at *;generalize bu=MT at *;have hcH:AO cH=_:=AO.eq_1 cH;have hcK:AO cK=_:=AO.eq_1 cK;have hcS:AO cS=_:=AO.eq_1 cS;have hcN:AO cN=_:=AO.eq_1 cN;refine Pure.AI func4 (by kernel_rfl) rfl (by simp) fun wf=>?_;rw[ntmps4];refine xW fun K hK=>?_;simp;apply hK;(repeat refine xS ?_);refine BX fun K hK=>?_;refine xJ ?_;simp;refine Bp (aB) rfl (by simp) ?_;simp;refine xJ ?_;simp;refine Aj (hK _ _ ?_);(try simp only[xQ,reduceIte]);generalize GH=G at *;refine Az fun K hK=>?_;refine xJ ?_;simp[maxLen];refine AS.ghost (AJ.bI 18 (AO cH) (by simp[asD,AO,cH,Yy,Fm,Dq,Ce])) ?_;refine Bp (aH) rfl (by simp[xN]) ?_;simp;refine xJ ?_;simp;refine Aj (hK _ _ ?_);refine Az fun K hK=>?_;refine xJ ?_;simp[maxLen];refine AS.ghost (AJ.bI 25 (AO cK) (by simp[asD,AO,cK,Yy,Fm,Dq,Ce])) ?_;refine Bp (aK) rfl (by simp[xN]) ?_;simp;refine xJ ?_;simp;refine Aj (hK _ _ ?_);refine Az fun K hK=>?_;refine xJ ?_;simp[maxLen];refine AS.ghost (AJ.bI 32 (AO cS) (by simp[asD,AO,cS,Yy,Fm,Dq,Ce])) ?_;refine Bp (aS) rfl (by simp[xN]) ?_;simp;refine xJ ?_;simp;refine Aj (hK _ _ ?_);(repeat refine xS ?_);refine BX fun K hK=>?_;refine xJ ?_;simp[maxLen];refine AS.ghost (AJ.bI 39 (AO cN) (by simp[asD,AO,cN,Yy,Fm,Dq,Ce])) ?_;refine AS.Cf aN [] rfl ?_ ?_ ?_
 ·simp
 ·rintro v S0' ⟨rfl,h,m,rfl⟩;simp
 rintro v S0' ⟨rfl,h,m,rfl⟩;simp;refine xJ ?_;simp;refine Aj (hK _ _ ?_);(try simp only[xQ,reduceIte]);obtain⟨a4,hA4,nA4⟩:=fH2;obtain⟨a1,hA1,nA1⟩:=fH3;obtain⟨r1,hR1,nR1⟩:=fH5;obtain⟨k4,hK4,nK4⟩:=fK2;obtain⟨k1,hK1,nK1⟩:=fK3;obtain⟨r0,n2,hR0,nR0,hN2,nN2⟩:=fK5;obtain⟨s5,y5,hS5,nS5,lS5,hY5,nY5⟩:=fS2;obtain⟨s1,y1,hS1,lS1,hY1,nY1⟩:=fS3;obtain⟨_,hA4⟩:=List.getElem?_eq_some_iff.1 hA4;obtain⟨_,hA1⟩:=List.getElem?_eq_some_iff.1 hA1;obtain⟨_,hR1⟩:=List.getElem?_eq_some_iff.1 hR1;obtain⟨_,hK4⟩:=List.getElem?_eq_some_iff.1 hK4;obtain⟨_,hK1⟩:=List.getElem?_eq_some_iff.1 hK1;obtain⟨_,hR0⟩:=List.getElem?_eq_some_iff.1 hR0;obtain⟨_,hN2⟩:=List.getElem?_eq_some_iff.1 hN2;obtain⟨_,hS5⟩:=List.getElem?_eq_some_iff.1 hS5;obtain⟨_,hY5⟩:=List.getElem?_eq_some_iff.1 hY5;obtain⟨_,hS1⟩:=List.getElem?_eq_some_iff.1 hS1;obtain⟨_,hY1⟩:=List.getElem?_eq_some_iff.1 hY1;have eA4:=AH.eq_1 a4;have eA1:=AH.eq_1 a1;have eR1:=Ab.eq_1 r1;have eK4:=AH.eq_1 k4;have eK1:=AH.eq_1 k1;have eR0:=Ab.eq_1 r0;have eN2:=A1.eq_1 n2;have eS5:=AH.eq_1 s5;have eS1:=AH.eq_1 s1;have eY5:=AL.eq_1 y5;have eY1:=AL.eq_1 y1;refine xS (Az fun K hK=>?_);refine xH ?_;simp[fH1,fH4,fK1,fK4,fS1];refine Aj (hK _ _ ?_);(try simp only[xQ,reduceIte]);refine AU ?_;simp;refine xK ?_;refine Az fun K hK=>?_;refine xH ?_;simp[hR0,eR0,nR0,fK4,hN2,eN2,nN2,hK4,eK4,nK4,hK1,eK1,nK1,fK1];refine Aj (hK _ _ ?_);(repeat refine xS ?_);refine BX fun K hK=>?_;(repeat((first|refine Dp rfl ?_ ?_;(·simp)|refine Jf rfl ?_ ?_;(·simp[hA1,eA1,nA1,fH1,hR1,eR1,nR1,fH4,hS5,eS5,nS5,lS5,hY5,eY5,nY5,hS1,eS1,lS1,hY1,eY1,nY1,fS1,Ln,maxLen])|refine B7 ?_ ?_;(·simp[hA4,eA4,nA4,fH1,KL,maxLen]));simp[hA4,eA4,nA4,hA1,eA1,nA1,fH1,hR1,eR1,nR1,fH4,hS5,eS5,nS5,lS5,hY5,eY5,nY5,hS1,eS1,lS1,hY1,eY1,nY1,fS1,KL,Ln,maxLen]));refine Aj (hK _ _ ?_);(try simp only[xQ,reduceIte]);refine Ag ⟨_,_,AJ.refl,?_⟩;try simp
open Go.Proofs Tryz
abbrev IB(w:World):Nat→Prop:=fun b=>b<w.heap.size
section
variable {H:Type} {enc:TypeId×Value→H} {w:World} {sp:Nat→Bool} {held:Bool}
theorem Jq{w:World}{a:Addr}{v:Value}(h:w.cell? a=some v):a.block<w.heap.size∧a.spot=none:=by
 unfold World.cell? at h;split at h
 ·rename_i c t f hb;refine⟨?_,?_⟩
  ·rcases Nat.lt_or_ge a.block w.heap.size with h1|h1
   ·exact h1
   ·simp[Array.getElem?_eq_none h1]at hb
  ·split at h
   ·cases h
   ·rename_i hs;cases hs':a.spot<;>simp[hs']at hs⊢
 ·cases h
theorem MC(a:Addr)(n:Nat):(a.add n).block=a.block∧(a.add n).off=a.off+n:=by
 unfold Addr.add;split
 ·rename_i h;subst h;simp
 ·simp
theorem XP{w:World}{a:Addr}{i j:Nat}{v:Value}(h:w.cell? ((a.add i).add j)=some v):w.cell? ⟨a.block,a.off+i+j,none⟩=some v:=by
 obtain⟨_,h2⟩:=Jq h;have h3:=MC (a.add i) j;have h4:=MC a i;have:(a.add i).add j=⟨a.block,a.off+i+j,none⟩:=by
  cases hx:(a.add i).add j with
  |mk b o s=>
   rw[hx]at h2 h3;simp only at h2 h3;rw[h2,h3.1,h3.2,h4.1,h4.2]
 rw[←this];exact h
theorem FT{fuel:Nat}{cs:List Value}{x:DataW H×List MemPlace}(h:DataW.trod enc prog w 0 sp held fuel 5 cs=some x):∃n:Nat,cs=[.int .u8 n]∧rng .u8 n=true:=by
 obtain⟨n,rfl,rfl,hw⟩:=DataW.trod_int Tryz.underlying5 h;rw[PT]at hw;have h0:0≤n:=by simp[rng]at hw;omega
 obtain⟨m,rfl⟩:=Int.eq_ofNat_of_zero_le h0;exact⟨m,rfl,hw⟩
instance:Inhabited D:=⟨.bool false⟩
theorem VX{t e sz fuel:Nat}{cs:List Value}{x:DataW H×List MemPlace}(ht:prog.underlying t=some (.slice e))(hc:prog.cellsOf e=sz)(hz:0<sz)(Q:D→Prop)
  (hel:∀n cs x,DataW.trod enc prog w 0 sp held n e cs=some x→∃u v,v.cells.toList=cs∧CD (IB w) w u v∧Q u)
  (h:DataW.trod enc prog w 0 sp held fuel t cs=some x):∃xs v,cs=[v]∧one v=true∧CD (IB w) w (.sl xs) v∧∀u∈xs,Q u:=by
 rcases Go.Deep.open_slice ht h with⟨rfl,_⟩|⟨a,len,cap,m,n,DD,Pl,rfl,_,h1,h2,hm,_,hx⟩
 ·exact⟨[],_,rfl,rfl,.nil _ _,by simp⟩
 ·have hlm:len≤m:=by subst hm;split<;>omega
  obtain⟨f,hf⟩:=Go.Deep.choose_lt (α:=D×Value) (n:=len) (p:=fun i p=>p.2.cells.size=sz∧(∀j,j<sz→w.cell? ⟨a.block,a.off+i * sz+j,none⟩=p.2.cells[j]?)∧CD (IB w) w p.1 p.2∧Q p.1) (fun i hi=>by
   obtain⟨cs',e1,e2⟩:=hx i (by omega);obtain⟨u,v,rfl,k1,k2⟩:=hel _ _ _ e2;obtain⟨_,e3,e4⟩:=World.cells?_some e1;rw[hc]at e3 e4;have e5:v.cells.size=sz:=by simpa using e3
   refine⟨(u,v),e5,fun j hj=>?_,k1,k2⟩;have e6:=e4 j hj;have hjl:j<v.cells.size:=by omega
   rw[Array.getElem?_toList,Array.getElem?_eq_getElem hjl]at e6;rw[XP e6,Array.getElem?_eq_getElem hjl])
  refine⟨(List.range len).map fun i=>(f i).1,_,rfl,rfl,?_,?_⟩
  ·cases len with
   |zero=>exact .nil _ _
   |succ k=>
    have h0:=hf 0 (by omega);have h00:=h0.2.1 0 hz;rw[Array.getElem?_eq_getElem (by omega)]at h00;have hlt:=(Jq h00).1;obtain⟨cs',e1,_⟩:=hx 0 (by omega);obtain⟨_,e3,e4⟩:=World.cells?_some e1;rw[hc]at e3 e4;have e5:=e4 0 hz;rw[List.getElem?_eq_getElem (by omega)]at e5;have hs:=(Jq e5).2;have ha:(a.add (0 * sz)).add 0=a:=by simp[Addr.add]
    rw[ha]at hs;obtain⟨b,o,s⟩:=a;simp only at hs;subst hs;have:=CD.sl (I:=IB w) (w:=w) sz ((List.range (k+1)).map fun i=>(f i).1) b o cap (fun i=>(f i).2) hlt (by simp;omega) (by simpa using h1) (fun i hi=>by simpa using(hf i (by simpa using hi)).2.2.1) (fun i hi=>⟨(hf i (by simpa using hi)).1,(hf i (by simpa using hi)).2.1⟩);simpa using this
  ·intro u hu;obtain⟨i,hi,rfl⟩:=List.mem_map.1 hu;exact(hf i (List.mem_range.1 hi)).2.2.2
theorem all_map{α:Type}{xs:List D}{g:α→D}(h:∀u∈xs,∃k,u=g k):∃ks:List α,xs=ks.map g:=by
 induction xs with
 |nil=>exact⟨[],rfl⟩
 |cons x l ih=>
  obtain⟨k,rfl⟩:=h x (by simp);obtain⟨ks,rfl⟩:=ih fun u hu=>h u (by simp[hu]);exact⟨k::ks,rfl⟩
theorem K1{fuel:Nat}{cs:List Value}{x:DataW H×List MemPlace}(h:DataW.trod enc prog w 0 sp held fuel 22 cs=some x):
  ∃(ks:List Nat) (v:Value),cs=[v]∧one v=true∧CD (IB w) w (.sl (ks.map fun(k:Nat)=>D.int .u8 k)) v:=by
 obtain⟨xs,v,rfl,h1,h2,h3⟩:=VX Tryz.underlying22 (sz:=1) (by kernel_rfl) (by decide) (fun u=>∃k:Nat,u=D.int .u8 k) (fun n cs x h=>by
  obtain⟨n,rfl,hr⟩:=FT h;exact⟨D.int .u8 n,.int .u8 n,rfl,.int _ _ hr,n,rfl⟩) h
 obtain⟨ks,rfl⟩:=all_map h3;exact⟨ks,v,rfl,h1,h2⟩
theorem HR{t fuel k:Nat}{fs:Array Field}{cs:List Value}{x:DataW H×List MemPlace}(ht:prog.underlying t=some (.struct fs))(hc:prog.cellsOf t=k)(hk:fs.size=k)
  (hf:∀i (hi:i<fs.size),fs[i].offset=i∧prog.cellsOf fs[i].type=1) (h:DataW.trod enc prog w 0 sp held fuel t cs=some x):
  cs.length=k∧∃n,∀i (hi:i<fs.size) (hj:i<cs.length),∃y,DataW.trod enc prog w 0 sp held n fs[i].type [cs[i]]=some y:=by
 obtain⟨xs,n,rfl,rfl,h1,h2,h3⟩:=DataW.trod_struct ht h;refine⟨by omega,n,fun i hi hj=>?_⟩;obtain⟨f1,f2⟩:=hf i hi;have h4:=h3 i fs[i] (by simp[hi]);rw[f1,f2,List.getElem?_eq_getElem (by omega)]at h4;rw[List.drop_eq_getElem_cons hj]at h4;exact⟨_,h4⟩
theorem fP{a b c d e:D}{x y z u v:Value}(h1:CD (IB w) w a x)(h2:CD (IB w) w b y)(h3:CD (IB w) w c z)(h4:CD (IB w) w d u)(h5:CD (IB w) w e v)(ho:one x=true∧one y=true∧one z=true∧one u=true∧one v=true):
  CD (IB w) w (.agg [a,b,c,d,e]) (.agg #[x,y,z,u,v]):=
 .agg _ _ rfl (fun i h=>by
  match i,h with
  |0,_=>exact h1
  |1,_=>exact h2
  |2,_=>exact h3
  |3,_=>exact h4
  |4,_=>exact h5) (fun i h=>by
  obtain⟨o1,o2,o3,o4,o5⟩:=ho;match i,h with
  |0,_=>exact o1
  |1,_=>exact o2
  |2,_=>exact o3
  |3,_=>exact o4
  |4,_=>exact o5)
theorem gd{a b c d:D}{x y z u:Value}(h1:CD (IB w) w a x)(h2:CD (IB w) w b y)(h3:CD (IB w) w c z)(h4:CD (IB w) w d u)(ho:one x=true∧one y=true∧one z=true∧one u=true):
  CD (IB w) w (.agg [a,b,c,d]) (.agg #[x,y,z,u]):=
 .agg _ _ rfl (fun i h=>by
  match i,h with
  |0,_=>exact h1
  |1,_=>exact h2
  |2,_=>exact h3
  |3,_=>exact h4) (fun i h=>by
  obtain⟨o1,o2,o3,o4⟩:=ho;match i,h with
  |0,_=>exact o1
  |1,_=>exact o2
  |2,_=>exact o3
  |3,_=>exact o4)
theorem ei{cs:List Value}(h:cs.length=4):∃a b c d,cs=[a,b,c,d]:=by
 match cs,h with
 |[a,b,c,d],_=>exact⟨a,b,c,d,rfl⟩
theorem aR{cs:List Value}(h:cs.length=5):∃a b c d e,cs=[a,b,c,d,e]:=by
 match cs,h with
 |[a,b,c,d,e],_=>exact⟨a,b,c,d,e,rfl⟩
theorem Yc{fuel:Nat}{cs:List Value}{x:DataW H×List MemPlace}(h:DataW.trod enc prog w 0 sp held fuel 76 cs=some x):∃l:Fu,CD (IB w) w (CY l) (.agg cs.toArray):=by
 obtain⟨hl,n,hf⟩:=HR Tryz.underlying76 (k:=4) (by kernel_rfl) rfl (fun i hi=>by
  match i,hi with
  |0,_=>exact⟨rfl,by kernel_rfl⟩
  |1,_=>exact⟨rfl,by kernel_rfl⟩
  |2,_=>exact⟨rfl,by kernel_rfl⟩
  |3,_=>exact⟨rfl,by kernel_rfl⟩) h
 obtain⟨a,b,c,d,rfl⟩:=ei hl;obtain⟨y0,h0⟩:=hf 0 (by decide) (by simp);obtain⟨y1,h1⟩:=hf 1 (by decide) (by simp);obtain⟨y2,h2⟩:=hf 2 (by decide) (by simp);obtain⟨y3,h3⟩:=hf 3 (by decide) (by simp);obtain⟨n0,e0,r0⟩:=FT h0;obtain⟨ks,v,e1,o1,r1⟩:=K1 h1;obtain⟨n2,e2,r2⟩:=FT h2;obtain⟨n3,e3,r3⟩:=FT h3;simp at e0 e1 e2 e3;subst e0 e1 e2 e3;exact⟨⟨n0,ks,n2,n3⟩,gd (.int _ _ r0) r1 (.int _ _ r2) (.int _ _ r3) ⟨rfl,o1,rfl,rfl⟩⟩
theorem Yi{fuel:Nat}{cs:List Value}{x:DataW H×List MemPlace}(h:DataW.trod enc prog w 0 sp held fuel 79 cs=some x):∃l:FX,CD (IB w) w (Bt l) (.agg cs.toArray):=by
 obtain⟨hl,n,hf⟩:=HR Tryz.underlying79 (k:=5) (by kernel_rfl) rfl (fun i hi=>by
  match i,hi with
  |0,_=>exact⟨rfl,by kernel_rfl⟩
  |1,_=>exact⟨rfl,by kernel_rfl⟩
  |2,_=>exact⟨rfl,by kernel_rfl⟩
  |3,_=>exact⟨rfl,by kernel_rfl⟩
  |4,_=>exact⟨rfl,by kernel_rfl⟩) h
 obtain⟨a,b,c,d,e,rfl⟩:=aR hl;obtain⟨y0,h0⟩:=hf 0 (by decide) (by simp);obtain⟨y1,h1⟩:=hf 1 (by decide) (by simp);obtain⟨y2,h2⟩:=hf 2 (by decide) (by simp);obtain⟨y3,h3⟩:=hf 3 (by decide) (by simp);obtain⟨y4,h4⟩:=hf 4 (by decide) (by simp);obtain⟨n0,e0,r0⟩:=FT h0;obtain⟨n1,e1,r1⟩:=FT h1;obtain⟨n2,e2,r2⟩:=FT h2;obtain⟨n3,e3,r3⟩:=FT h3;obtain⟨n4,e4,r4⟩:=FT h4;simp at e0 e1 e2 e3 e4;subst e0 e1 e2 e3 e4;exact⟨⟨n0,n1,n2,n3,n4⟩,fP (.int _ _ r0) (.int _ _ r1) (.int _ _ r2) (.int _ _ r3) (.int _ _ r4) ⟨rfl,rfl,rfl,rfl,rfl⟩⟩
theorem Nh{fuel:Nat}{cs:List Value}{x:DataW H×List MemPlace}(h:DataW.trod enc prog w 0 sp held fuel 28 cs=some x):∃l:Dw,CD (IB w) w (BN l) (.agg cs.toArray):=by
 obtain⟨hl,n,hf⟩:=HR Tryz.underlying28 (k:=5) (by kernel_rfl) rfl (fun i hi=>by
  match i,hi with
  |0,_=>exact⟨rfl,by kernel_rfl⟩
  |1,_=>exact⟨rfl,by kernel_rfl⟩
  |2,_=>exact⟨rfl,by kernel_rfl⟩
  |3,_=>exact⟨rfl,by kernel_rfl⟩
  |4,_=>exact⟨rfl,by kernel_rfl⟩) h
 obtain⟨a,b,c,d,e,rfl⟩:=aR hl;obtain⟨y0,h0⟩:=hf 0 (by decide) (by simp);obtain⟨y1,h1⟩:=hf 1 (by decide) (by simp);obtain⟨y2,h2⟩:=hf 2 (by decide) (by simp);obtain⟨y3,h3⟩:=hf 3 (by decide) (by simp);obtain⟨y4,h4⟩:=hf 4 (by decide) (by simp);obtain⟨n0,e0,r0⟩:=FT h0;obtain⟨n1,e1,r1⟩:=FT h1;obtain⟨n2,e2,r2⟩:=FT h2;obtain⟨n3,e3,r3⟩:=FT h3;obtain⟨ks,v,e4,o4,r4⟩:=K1 h4;simp at e0 e1 e2 e3 e4;subst e0 e1 e2 e3 e4;exact⟨⟨n0,n1,n2,n3,ks⟩,fP (.int _ _ r0) (.int _ _ r1) (.int _ _ r2) (.int _ _ r3) r4 ⟨rfl,rfl,rfl,rfl,o4⟩⟩
theorem US{fuel:Nat}{cs:List Value}{x:DataW H×List MemPlace}(h:DataW.trod enc prog w 0 sp held fuel 23 cs=some x):∃(ls:List Fu) (v:Value),cs=[v]∧one v=true∧CD (IB w) w (.sl (ls.map CY)) v:=by
 obtain⟨xs,v,rfl,h1,h2,h3⟩:=VX Tryz.underlying23 (sz:=4) (by kernel_rfl) (by decide) (fun u=>∃k:Fu,u=CY k) (fun n cs x h=>by
  obtain⟨l,hl⟩:=Yc h;exact⟨_,.agg cs.toArray,by simp[Value.cells],hl,l,rfl⟩) h
 obtain⟨ks,rfl⟩:=all_map h3;exact⟨ks,v,rfl,h1,h2⟩
theorem VY{fuel:Nat}{cs:List Value}{x:DataW H×List MemPlace}(h:DataW.trod enc prog w 0 sp held fuel 24 cs=some x):∃(ls:List FX) (v:Value),cs=[v]∧one v=true∧CD (IB w) w (.sl (ls.map Bt)) v:=by
 obtain⟨xs,v,rfl,h1,h2,h3⟩:=VX Tryz.underlying24 (sz:=5) (by kernel_rfl) (by decide) (fun u=>∃k:FX,u=Bt k) (fun n cs x h=>by
  obtain⟨l,hl⟩:=Yi h;exact⟨_,.agg cs.toArray,by simp[Value.cells],hl,l,rfl⟩) h
 obtain⟨ks,rfl⟩:=all_map h3;exact⟨ks,v,rfl,h1,h2⟩
theorem bH{fuel:Nat}{cs:List Value}{x:DataW H×List MemPlace}(h:DataW.trod enc prog w 0 sp held fuel 26 cs=some x):∃l:Raw,CD (IB w) w (En l) (.agg cs.toArray):=by
 obtain⟨hl,n,hf⟩:=HR Tryz.underlying26 (k:=5) (by kernel_rfl) rfl (fun i hi=>by
  match i,hi with
  |0,_=>exact⟨rfl,by kernel_rfl⟩
  |1,_=>exact⟨rfl,by kernel_rfl⟩
  |2,_=>exact⟨rfl,by kernel_rfl⟩
  |3,_=>exact⟨rfl,by kernel_rfl⟩
  |4,_=>exact⟨rfl,by kernel_rfl⟩) h
 obtain⟨a,b,c,d,e,rfl⟩:=aR hl;obtain⟨y0,h0⟩:=hf 0 (by decide) (by simp);obtain⟨y1,h1⟩:=hf 1 (by decide) (by simp);obtain⟨y2,h2⟩:=hf 2 (by decide) (by simp);obtain⟨y3,h3⟩:=hf 3 (by decide) (by simp);obtain⟨y4,h4⟩:=hf 4 (by decide) (by simp);obtain⟨n0,e0,r0⟩:=FT h0;obtain⟨n1,e1,r1⟩:=FT h1;obtain⟨k2,v2,e2,o2,r2⟩:=K1 h2;obtain⟨k3,v3,e3,o3,r3⟩:=US h3;obtain⟨k4,v4,e4,o4,r4⟩:=VY h4;simp at e0 e1 e2 e3 e4;subst e0 e1 e2 e3 e4;exact⟨⟨n0,n1,k2,k3,k4⟩,fP (.int _ _ r0) (.int _ _ r1) r2 r3 r4 ⟨rfl,rfl,o2,o3,o4⟩⟩
end
end Go.Koi
namespace Go.Proofs.YtdhbnplflgihpaaGreatDoor
open Go.ChangeShapes Go.WideShapes Go.ChangeAt Go.RowKit Go.Koi
theorem own:ownKnob Tryz.prog.godebug=none:=by kernel_rfl
theorem dD:Tryz.prog.globalNamed "math/bits.deBruijn64tab"=some 0:=by kernel_rfl
theorem WM:(Tryz.prog.globals[0]?).map (·.type)=some 297:=by kernel_rfl
theorem dL:((List.range Tryz.prog.globals.size).all fun g=>decide (g=0)||!decide ((Tryz.prog.globals[g]?).map (·.name)=some "math/bits.deBruijn64tab"))=true:=by kernel_rfl
theorem dW{g:Nat}(h:(Tryz.prog.globals[g]?).map (·.name)=some "math/bits.deBruijn64tab"):g=0:=by
 have hg:g<Tryz.prog.globals.size:=by
  rcases Nat.lt_or_ge g Tryz.prog.globals.size with h1|h1
  ·exact h1
  ·rw[Array.getElem?_eq_none h1]at h;cases h
 have h2:=List.all_eq_true.1 dL g (List.mem_range.2 hg);simpa[h]using h2
theorem table{W:World}(h:laidMetH Tryz.prog Rows.changeCommutesRow.laid W):Lib.TabIs Tryz.prog W "math/bits.deBruijn64tab" .u8 BY:=
 Lib.tabIs_of_head (rest:=[]) dD WM Tryz.underlying297 Tryz.underlying5 (by kernel_rfl) (by kernel_rfl) h
noncomputable def gh(W:World):Gh:=⟨IB W,fun _=>0,fun _=>(0,0),fun _=>none⟩
theorem cM{W:World}(h:laidMetH Tryz.prog Rows.changeCommutesRow.laid W):Rel Tryz.prog (gh W) [] W where
 Es:=fun g hg=>by
  obtain rfl:=dW hg;have hc:∀j (hj:j<BY.length),W.cell? ⟨0,j,none⟩=some (.int .u8 BY[j]):=fun j hj=>by
   have:=(table h).cell dD j hj;simpa[List.getD,hj]using this
  exact⟨(Jq (hc 0 (by decide))).1,hc⟩
 CT:=fun r o h=>by simp at h
 inj:=fun r r' o o' h=>by simp at h
 nI:=fun b ⟨r,o,h,_⟩=>by simp at h
 G5:=fun b h=>h
 FW:=fun b ⟨r,o,h,_⟩=>by simp at h
theorem walk(r:Raw)(x y:Dw){W:World}(h:laidMetH Tryz.prog Rows.changeCommutesRow.laid W){a b c:Value}(ha:CD (IB W) W (En r) a)(hb:CD (IB W) W (BN x) b)(hc:CD (IB W) W (BN y) c):
  Calls Tryz.prog 3 #[a,b,c] W fun e W'=>e=.returned (.bool true)∧W'.os=W.os∧W'.output=W.output∧W.heap.size≤W'.heap.size∧∀k,k<W.heap.size→W'.heap[k]?=W.heap[k]?:=by
 refine((ax Q7 r x y).2 (gh W) W #[a,b,c] (cM h) rfl (fun i h1 h2=>by
  match i,h1 with
  |0,_=>exact .d _ _ ha
  |1,_=>exact .d _ _ hb
  |2,_=>exact .d _ _ hc)).mono ?_
 rintro e W' ⟨cv,G',rfl,hcv,_,ht,_⟩;refine⟨?_,ht.os,ht.out,ht.size,fun k hk=>ht.DG k hk fun⟨r,o,h,_⟩=>by simp at h⟩;cases hcv with
 |d _ _ hd=>cases hd with|bool=>rfl
theorem Iv{P:Program}{W:World}{base:Nat}{t:TypeId}{fs:Array Field}{v:Value}(ht:P.underlying t=some (.struct fs))(h:Value.okWide P W .any base t v):∃cs,v=.agg cs∧cs.size=P.cellsOf t:=by
 unfold Value.okWide at h;rw[ht]at h;obtain⟨cs,h1,h2,_⟩:=h;exact⟨cs,h1,h2⟩
theorem laidOut:laidOutB Tryz.prog=true:=by kernel_rfl
theorem dJ:decide (28<Tryz.prog.types.size)=true:=by kernel_rfl
theorem ah(t:Nat)(h:t≤28):t<Tryz.prog.types.size:=by have:=of_decide_eq_true dJ;omega
theorem Ta(H:Type)(enc:TypeId×Value→H)(W:World)(base:Nat)(args:Array Value)(ds gs:List (DataW H))(before:List MemPlace)
  (hval:∀(j:Nat) t v,Tryz.f3.params[j]?=some t→args[j]?=some v→Value.okWide Tryz.prog W .any base t v)
  (hW:DataW.Whole enc Tryz.prog Tryz.f3.params.toList Rows.changeCommutesSpec.vars false W args.toList ds gs before) (hL:laidMetH Tryz.prog Rows.changeCommutesRow.laid W):
  Calls Tryz.prog 3 args W fun e W'=>∃v,e=.returned v∧Rows.changeCommutesSpec.post enc Tryz.prog Tryz.f3 false true false false W args v W':=by
 have hW':=hW;obtain⟨p,q,hA0,hV,rfl,hfz,hnd⟩:=hW;have hA:DataW.TrodAll enc Tryz.prog W 0 (fun _=>true) true Tryz.f3.params.toList args.toList ds p:=hA0;rw[Tryz.params3]at hA hval;obtain⟨v0,vs0,d0,ds0,p0,q0,hargs,rfl,rfl,h0,r0⟩:=trodAll_cons hA;obtain⟨v1,vs1,d1,ds1,p1,q1,rfl,rfl,rfl,h1,r1⟩:=trodAll_cons r0;obtain⟨v2,vs2,d2,ds2,p2,q2,rfl,rfl,rfl,h2,r2⟩:=trodAll_cons r1;obtain⟨rfl,rfl,rfl⟩:=trodAll_nil r2;obtain rfl:args=#[v0,v1,v2]:=by cases args;simp_all
 obtain⟨rfl,rfl⟩:=trodVars_none hV;have hlt:=fun p hp=>hW'.lt p hp;obtain⟨c0,rfl,-⟩:=Iv Tryz.underlying26 (hval 0 26 v0 rfl rfl);obtain⟨c1,rfl,-⟩:=Iv Tryz.underlying28 (hval 1 28 v1 rfl rfl);obtain⟨c2,rfl,-⟩:=Iv Tryz.underlying28 (hval 2 28 v2 rfl rfl);obtain⟨f0,g0⟩:=id h0;obtain⟨f1,g1⟩:=id h1;obtain⟨f2,g2⟩:=id h2;obtain⟨r,k0⟩:=bH g0;obtain⟨x,k1⟩:=Nh g1;obtain⟨y,k2⟩:=Nh g2;simp only[Value.cells,Array.toArray_toList]at k0 k1 k2;refine(walk r x y hL k0 k1 k2).mono fun e W' ⟨he,h3,h4,h5,h6⟩=>?_;subst he;have hs:∀p:MemPlace,p.block<W.heap.size→W.sameAt W' p:=fun p hp=>by
  cases p with
  |cell b o=>exact World.cell?_of_block (w:=W) (h6 b hp)
  |map b=>exact h6 b hp
 have st:∀{t:TypeId} {v:Value} {d:DataW H} {ps:List MemPlace},t=26∨t=28→DataW.Trod enc Tryz.prog W 0 (fun _=>true) true t v d ps→(∀p∈ps,p.block<W.heap.size)→DataW.Trod enc Tryz.prog W' 0 (fun b=>decide (b<W.heap.size)) true t v d ps:=fun ht h hp=>by
  refine WideElems.Trod_stays laidOut ?_ ?_ h (fun p hp'=>hs p (hp p hp')) (fun p hp'=>by simpa using hp p hp')
  ·rcases ht with rfl|rfl<;>kernel_rfl
  ·rcases ht with rfl|rfl<;>exact ah _ (by decide)
 refine⟨_,rfl,_,_,_,[],p0++(p1++(p2++[])),[],hW',trodAll_mk1 (shut_bool Tryz.underlying4 _),?_,rfl,?_,fun h=>by cases h⟩
 ·rw[Tryz.params3];exact trodAll_cons_mk (st (.inl rfl) h0 fun p hp=>hlt p (by simp[hp])) (trodAll_cons_mk (st (.inr rfl) h1 fun p hp=>hlt p (by simp[hp])) (trodAll_cons_mk (st (.inr rfl) h2 fun p hp=>hlt p (by simp[hp])) trodAll_mk0))
 ·refine⟨h3,h4,fun i hi=>?_⟩;rw[h6 i hi];split<;>simp_all
end Go.Proofs.YtdhbnplflgihpaaGreatDoor
