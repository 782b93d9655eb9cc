/-
  Part 40 of the proof that the law ChangeRenames of the package koinelaw31 returns true for every input.
-/
import Derived.Test.YtknmpedpidhhbaaGreatDoorK38
set_option maxHeartbeats 64000000
set_option maxRecDepth 100000
namespace Go.Koi
open Go.Proofs Tryz DT
theorem aL{g:AF}{x:AAC}{h:AF}{mm:List Rewrite}{k:FuncId}(k1 k2:FuncId)(ha:AE prog k [.ptr 4 1 0 0] (bS g x) (.d (AG 0)) (D5 g x h mm false)):
  AE prog k (.ptr 4 1 0 0::A3 false 6) (bS g x++bx k1 k2) (.d (AG 0)) (D5 g x h mm false++bx k1 k2):=
 ha.Iz (bx k1 k2) (by simp[bS,CG,D5]) (by simp[bS,CG,bV]) (by simp[bS,CG,D5]) (by simp[bS,CG,AAB]) (by simp[AAB])
theorem aZ(g:AF)(x:AAC)(k1 k2:FuncId):(bS g x++bx k1 k2).all (AAE (bS g x++bx k1 k2).length)=true:=by simp[bS,CG,bV,bx,AAB,AAG]
theorem Ll(hsm:∀g,DX g=0→EO g)(g:AF)(x:AAC)(hk:x.kind=7)(hcn:g.conds.length≤12)(h:AF)(mm:List Rewrite)
  (hap:CH g x=true→AE prog 76 [.ptr 4 1 0 0] (bS g x) (.d (AG 0)) (D5 g x h mm false))
  (hmm:mm.length≤100∧∀x∈mm,x.BL.length≤2 ^ 30) (hc:h.conds.length≤12) (hmp:CH g x=true→At prog 20 [.d (AB g),.d (AB h),.d (An mm)] [] (bR g h)):
  At prog 6 [.d (AB g),.d (AO x)] [] (We g x (Fi ((fun x:AAC=>{x with number:=0,at_:=0}) x)) (CH g x) h mm):=by
 have hfc:=Ca g hcn;refine At.AI func6 (by kernel_rfl) rfl (by simp) fun wf _=>?_;rw[ntmps6];refine xW fun K hK=>?_;simp;apply hK;refine xS (Az fun K hK=>?_);refine xJ ?_;simp;refine AS.Cf hfc [] rfl ?_ ?_ ?_
 ·simp
 ·rintro v S0' ⟨rfl,r,rfl,_⟩;simp
 rintro v S0' ⟨rfl,r1,rfl,hr1,hr2⟩;simp;refine xJ ?_;simp;refine Aj (hK _ _ ?_);(try simp only[]);by_cases hz:r1=0
 ·refine xW fun K hK=>?_;simp[hz];apply hK;refine AU ?_;simp;refine xK ?_;refine AW.Ew (R:=fun tm S=>tm 2=.ptr 0 1 0 0∧tm 3=.ptr 1 1 0 0∧tm 4=.ptr 2 1 0 0∧tm 8=.ptr 3 1 0 0∧tm 9=.d (.bool true)∧S=Cl g x 74 75 76 (A3 false 4) (A3 false 5) true 59 60) ?_ ?_
  ·refine AW.regionF (by kernel_rfl) fun K hK=>?_;change Ad _ _ _ _ _ _ 10 (Array.replicate 10 false) _ _;refine Ad.CB 1 rfl (by kernel_rfl) ?_ ?_;(focus(simp;done));simp;refine Ad.CB 2 rfl (by kernel_rfl) ?_ ?_;(focus(simp;done));simp;refine Ad.Ih 0 7 [false,false] [false,false] (by kernel_rfl) rfl rfl (by kernel_rfl) (by kernel_rfl) (A7.call (args:=[]) rfl rfl rfl (by simp) (by simp[callee]) (by simp) (CJ.Bq [] (by simp) (by simp) (by simp))) ?_ (A7.B5 rfl ?_) ?_ ?_ ?_
   ·simp[AR]
   ·simp
   ·simp[AR]
   ·simp;simp[C7,DB,CN,AAI,AAT,AAc,hk];refine Ad.CB 3 rfl (by kernel_rfl) ?_ ?_;(focus(simp[AAH,AAK,AAP];done));simp[A4,deq];refine Ad.CB 4 rfl (by kernel_rfl) ?_ ?_;(focus(simp;done));simp;refine Ad.CB 5 rfl (by kernel_rfl) ?_ ?_;(focus(simp;done));simp;refine Ad.CB 6 rfl (by kernel_rfl) ?_ ?_;(focus(simp;done));simp;refine Ad.DE 7 [false,false,false,false,false,false] (by kernel_rfl) rfl (by kernel_rfl) ?_ ?_;(focus(simp[AR,hk,A4,deq,AAH,AAK,AAP];done));simp;refine Ad.DE 8 [false,true,true,true,true,true] (by kernel_rfl) rfl (by kernel_rfl) ?_ ?_;(focus(simp[AR];done));simp;refine Ad.CB 9 rfl (by kernel_rfl) ?_ ?_;(focus(simp;done));simp;refine Ad.done (by kernel_rfl) (hK _ _ ⟨_,_,AJ.Cy [0,1,2,18,4,5] (S0:=Cl g x 74 75 76 (A3 false 4) (A3 false 5) true 59 60) (by simp[Cl,A3];try decide) (by simp) (by simp),?_⟩);simp[pick];decide
   ·simp;(refine Ad.Mf 0 [false,false] (by kernel_rfl) rfl (by kernel_rfl) (A7.call (args:=[]) rfl rfl rfl (by simp) (by simp[callee]) (by simp) (CJ.Bq [] (by simp) (by simp) (by simp))) ?_ ?_)
    ·simp[AR]
    simp[C7,DB,CN,AAI,AAT,AAc,hk];refine Ad.CB 3 rfl (by kernel_rfl) ?_ ?_;(focus(simp[AAH,AAK,AAP];done));simp[A4,deq];refine Ad.CB 4 rfl (by kernel_rfl) ?_ ?_;(focus(simp;done));simp;refine Ad.CB 5 rfl (by kernel_rfl) ?_ ?_;(focus(simp;done));simp;refine Ad.CB 6 rfl (by kernel_rfl) ?_ ?_;(focus(simp;done));simp;refine Ad.DE 8 [false,true,true,true,true,true] (by kernel_rfl) rfl (by kernel_rfl) ?_ ?_;(focus(simp[AR];done));simp;refine Ad.CB 9 rfl (by kernel_rfl) ?_ ?_;(focus(simp;done));simp;refine Ad.done (by kernel_rfl) (hK _ _ ⟨_,_,AJ.Cy [0,1,2,3,5,6] (S0:=Cl g x 74 75 76 (A3 false 4) (A3 false 5) true 59 60) (by simp[Cl,A3];try decide) (by simp) (by simp),?_⟩);simp[pick];decide
  ·rintro tm S ⟨t2,t3,t4,t8,t9,rfl⟩;have hg0:DX g=0:=by rcases hr2 with e|e<;>omega
   refine AW.mono (DI hsm g x 74 75 76 59 60 ((fun x:AAC=>{x with number:=0,at_:=0})) false false true (CH g x) h mm false hg0 V6 (fun _=>JU (RY g x 59 60) (aZ g x 59 60)) (fun hf=>aL 59 60 (hap hf)) hmm hc hmp t2 t3 t4 t8 t9) ?_;intro ex tm S hq;exact hq.XA
 ·refine xW fun K hK=>?_;simp;apply hK;refine AU ?_;simp[hz];refine xW fun K hK=>?_;simp;apply hK;refine Ag ?_;(try simp only[xQ,reduceIte]);refine⟨_,_,AJ.refl,by simp,_,_,⟨rfl,BV,[],r1,rfl,by decide,fun h=>absurd h hz,fun h1 _=>absurd ((hr1 (.inr h1.2)).trans h1.1) hz,fun h1 _ _=>(hr1 (.inr h1.2)).trans h1.1⟩,.inl ⟨.Bd [AB BV,An [],AG r1],_,by simp[asD,AB,BV],rfl,AJ.AY 0 rfl (by simp) (by simp) (by simp)⟩⟩
theorem RT(hsm:∀g,DX g=0→EO g)(g:AF)(x:AAC)(hk:x.kind=8)(hcn:g.conds.length≤12)(h:AF)(mm:List Rewrite)
  (hap:FE g x=true→AE prog 79 [.ptr 4 1 0 0] (bS g x) (.d (AG 0)) (D5 g x h mm false))
  (hmm:mm.length≤100∧∀x∈mm,x.BL.length≤2 ^ 30) (hc:h.conds.length≤12) (hmp:FE g x=true→At prog 20 [.d (AB g),.d (AB h),.d (An mm)] [] (bR g h)):
  At prog 6 [.d (AB g),.d (AO x)] [] (We g x (Fi ((fun x:AAC=>{x with number:=0,at_:=0,to:=0,name:=⟨#[]⟩}) x)) (FE g x) h mm):=by
 have hfc:=Ca g hcn;refine At.AI func6 (by kernel_rfl) rfl (by simp) fun wf _=>?_;rw[ntmps6];refine xW fun K hK=>?_;simp;apply hK;refine xS (Az fun K hK=>?_);refine xJ ?_;simp;refine AS.Cf hfc [] rfl ?_ ?_ ?_
 ·simp
 ·rintro v S0' ⟨rfl,r,rfl,_⟩;simp
 rintro v S0' ⟨rfl,r1,rfl,hr1,hr2⟩;simp;refine xJ ?_;simp;refine Aj (hK _ _ ?_);(try simp only[]);by_cases hz:r1=0
 ·refine xW fun K hK=>?_;simp[hz];apply hK;refine AU ?_;simp;refine xK ?_;refine AW.Ew (R:=fun tm S=>tm 2=.ptr 0 1 0 0∧tm 3=.ptr 1 1 0 0∧tm 4=.ptr 2 1 0 0∧tm 8=.ptr 3 1 0 0∧tm 9=.d (.bool true)∧S=Cl g x 55 77 79 (A3 false 4) (A3 false 5) true 59 60) ?_ ?_
  ·refine AW.regionF (by kernel_rfl) fun K hK=>?_;change Ad _ _ _ _ _ _ 10 (Array.replicate 10 false) _ _;refine Ad.CB 1 rfl (by kernel_rfl) ?_ ?_;(focus(simp;done));simp;refine Ad.CB 2 rfl (by kernel_rfl) ?_ ?_;(focus(simp;done));simp;refine Ad.Ih 0 7 [false,false] [false,false] (by kernel_rfl) rfl rfl (by kernel_rfl) (by kernel_rfl) (A7.call (args:=[]) rfl rfl rfl (by simp) (by simp[callee]) (by simp) (CJ.Bq [] (by simp) (by simp) (by simp))) ?_ (A7.B5 rfl ?_) ?_ ?_ ?_
   ·simp[AR]
   ·simp
   ·simp[AR]
   ·simp;simp[C7,DB,CN,AAI,AAT,AAc,hk];refine Ad.CB 3 rfl (by kernel_rfl) ?_ ?_;(focus(simp[AAH,AAK,AAP];done));simp[A4,deq];refine Ad.CB 4 rfl (by kernel_rfl) ?_ ?_;(focus(simp;done));simp;refine Ad.CB 5 rfl (by kernel_rfl) ?_ ?_;(focus(simp;done));simp;refine Ad.CB 6 rfl (by kernel_rfl) ?_ ?_;(focus(simp;done));simp;refine Ad.DE 7 [false,false,false,false,false,false] (by kernel_rfl) rfl (by kernel_rfl) ?_ ?_;(focus(simp[AR,hk,A4,deq,AAH,AAK,AAP];done));simp;refine Ad.DE 8 [false,true,true,true,true,true] (by kernel_rfl) rfl (by kernel_rfl) ?_ ?_;(focus(simp[AR];done));simp;refine Ad.CB 9 rfl (by kernel_rfl) ?_ ?_;(focus(simp;done));simp;refine Ad.done (by kernel_rfl) (hK _ _ ⟨_,_,AJ.Cy [0,1,2,18,4,5] (S0:=Cl g x 55 77 79 (A3 false 4) (A3 false 5) true 59 60) (by simp[Cl,A3];try decide) (by simp) (by simp),?_⟩);simp[pick];decide
   ·simp;(refine Ad.Mf 0 [false,false] (by kernel_rfl) rfl (by kernel_rfl) (A7.call (args:=[]) rfl rfl rfl (by simp) (by simp[callee]) (by simp) (CJ.Bq [] (by simp) (by simp) (by simp))) ?_ ?_)
    ·simp[AR]
    simp[C7,DB,CN,AAI,AAT,AAc,hk];refine Ad.CB 3 rfl (by kernel_rfl) ?_ ?_;(focus(simp[AAH,AAK,AAP];done));simp[A4,deq];refine Ad.CB 4 rfl (by kernel_rfl) ?_ ?_;(focus(simp;done));simp;refine Ad.CB 5 rfl (by kernel_rfl) ?_ ?_;(focus(simp;done));simp;refine Ad.CB 6 rfl (by kernel_rfl) ?_ ?_;(focus(simp;done));simp;refine Ad.DE 8 [false,true,true,true,true,true] (by kernel_rfl) rfl (by kernel_rfl) ?_ ?_;(focus(simp[AR];done));simp;refine Ad.CB 9 rfl (by kernel_rfl) ?_ ?_;(focus(simp;done));simp;refine Ad.done (by kernel_rfl) (hK _ _ ⟨_,_,AJ.Cy [0,1,2,3,5,6] (S0:=Cl g x 55 77 79 (A3 false 4) (A3 false 5) true 59 60) (by simp[Cl,A3];try decide) (by simp) (by simp),?_⟩);simp[pick];decide
  ·rintro tm S ⟨t2,t3,t4,t8,t9,rfl⟩;have hg0:DX g=0:=by rcases hr2 with e|e<;>omega
   refine AW.mono (DI hsm g x 55 77 79 59 60 ((fun x:AAC=>{x with number:=0,at_:=0,to:=0,name:=⟨#[]⟩})) false false true (FE g x) h mm false hg0 Ua (fun _=>Sa (RY g x 59 60) (aZ g x 59 60)) (fun hf=>aL 59 60 (hap hf)) hmm hc hmp t2 t3 t4 t8 t9) ?_;intro ex tm S hq;exact hq.XA
 ·refine xW fun K hK=>?_;simp;apply hK;refine AU ?_;simp[hz];refine xW fun K hK=>?_;simp;apply hK;refine Ag ?_;(try simp only[xQ,reduceIte]);refine⟨_,_,AJ.refl,by simp,_,_,⟨rfl,BV,[],r1,rfl,by decide,fun h=>absurd h hz,fun h1 _=>absurd ((hr1 (.inr h1.2)).trans h1.1) hz,fun h1 _ _=>(hr1 (.inr h1.2)).trans h1.1⟩,.inl ⟨.Bd [AB BV,An [],AG r1],_,by simp[asD,AB,BV],rfl,AJ.AY 0 rfl (by simp) (by simp) (by simp)⟩⟩
theorem Rp(hsm:∀g,DX g=0→EO g)(g:AF)(x:AAC)(hk:x.kind=9)(hcn:g.conds.length≤12)(h:AF)(mm:List Rewrite)
  (hap:CH g x=true→AE prog 81 [.ptr 4 1 0 0] (bS g x) (.d (AG 0)) (D5 g x h mm false))
  (hmm:mm.length≤100∧∀x∈mm,x.BL.length≤2 ^ 30) (hc:h.conds.length≤12) (hmp:CH g x=true→At prog 20 [.d (AB g),.d (AB h),.d (An mm)] [] (bR g h)):
  At prog 6 [.d (AB g),.d (AO x)] [] (We g x (Fi ((fun x:AAC=>{x with number:=0,at_:=0,name:=⟨#[]⟩}) x)) (CH g x) h mm):=by
 have hfc:=Ca g hcn;refine At.AI func6 (by kernel_rfl) rfl (by simp) fun wf _=>?_;rw[ntmps6];refine xW fun K hK=>?_;simp;apply hK;refine xS (Az fun K hK=>?_);refine xJ ?_;simp;refine AS.Cf hfc [] rfl ?_ ?_ ?_
 ·simp
 ·rintro v S0' ⟨rfl,r,rfl,_⟩;simp
 rintro v S0' ⟨rfl,r1,rfl,hr1,hr2⟩;simp;refine xJ ?_;simp;refine Aj (hK _ _ ?_);(try simp only[]);by_cases hz:r1=0
 ·refine xW fun K hK=>?_;simp[hz];apply hK;refine AU ?_;simp;refine xK ?_;refine AW.Ew (R:=fun tm S=>tm 2=.ptr 0 1 0 0∧tm 3=.ptr 1 1 0 0∧tm 4=.ptr 2 1 0 0∧tm 8=.ptr 3 1 0 0∧tm 9=.d (.bool true)∧S=Cl g x 80 75 81 (A3 false 4) (A3 false 5) true 59 60) ?_ ?_
  ·refine AW.regionF (by kernel_rfl) fun K hK=>?_;change Ad _ _ _ _ _ _ 10 (Array.replicate 10 false) _ _;refine Ad.CB 1 rfl (by kernel_rfl) ?_ ?_;(focus(simp;done));simp;refine Ad.CB 2 rfl (by kernel_rfl) ?_ ?_;(focus(simp;done));simp;refine Ad.Ih 0 7 [false,false] [false,false] (by kernel_rfl) rfl rfl (by kernel_rfl) (by kernel_rfl) (A7.call (args:=[]) rfl rfl rfl (by simp) (by simp[callee]) (by simp) (CJ.Bq [] (by simp) (by simp) (by simp))) ?_ (A7.B5 rfl ?_) ?_ ?_ ?_
   ·simp[AR]
   ·simp
   ·simp[AR]
   ·simp;simp[C7,DB,CN,AAI,AAT,AAc,hk];refine Ad.CB 3 rfl (by kernel_rfl) ?_ ?_;(focus(simp[AAH,AAK,AAP];done));simp[A4,deq];refine Ad.CB 4 rfl (by kernel_rfl) ?_ ?_;(focus(simp;done));simp;refine Ad.CB 5 rfl (by kernel_rfl) ?_ ?_;(focus(simp;done));simp;refine Ad.CB 6 rfl (by kernel_rfl) ?_ ?_;(focus(simp;done));simp;refine Ad.DE 7 [false,false,false,false,false,false] (by kernel_rfl) rfl (by kernel_rfl) ?_ ?_;(focus(simp[AR,hk,A4,deq,AAH,AAK,AAP];done));simp;refine Ad.DE 8 [false,true,true,true,true,true] (by kernel_rfl) rfl (by kernel_rfl) ?_ ?_;(focus(simp[AR];done));simp;refine Ad.CB 9 rfl (by kernel_rfl) ?_ ?_;(focus(simp;done));simp;refine Ad.done (by kernel_rfl) (hK _ _ ⟨_,_,AJ.Cy [0,1,2,18,4,5] (S0:=Cl g x 80 75 81 (A3 false 4) (A3 false 5) true 59 60) (by simp[Cl,A3];try decide) (by simp) (by simp),?_⟩);simp[pick];decide
   ·simp;(refine Ad.Mf 0 [false,false] (by kernel_rfl) rfl (by kernel_rfl) (A7.call (args:=[]) rfl rfl rfl (by simp) (by simp[callee]) (by simp) (CJ.Bq [] (by simp) (by simp) (by simp))) ?_ ?_)
    ·simp[AR]
    simp[C7,DB,CN,AAI,AAT,AAc,hk];refine Ad.CB 3 rfl (by kernel_rfl) ?_ ?_;(focus(simp[AAH,AAK,AAP];done));simp[A4,deq];refine Ad.CB 4 rfl (by kernel_rfl) ?_ ?_;(focus(simp;done));simp;refine Ad.CB 5 rfl (by kernel_rfl) ?_ ?_;(focus(simp;done));simp;refine Ad.CB 6 rfl (by kernel_rfl) ?_ ?_;(focus(simp;done));simp;refine Ad.DE 8 [false,true,true,true,true,true] (by kernel_rfl) rfl (by kernel_rfl) ?_ ?_;(focus(simp[AR];done));simp;refine Ad.CB 9 rfl (by kernel_rfl) ?_ ?_;(focus(simp;done));simp;refine Ad.done (by kernel_rfl) (hK _ _ ⟨_,_,AJ.Cy [0,1,2,3,5,6] (S0:=Cl g x 80 75 81 (A3 false 4) (A3 false 5) true 59 60) (by simp[Cl,A3];try decide) (by simp) (by simp),?_⟩);simp[pick];decide
  ·rintro tm S ⟨t2,t3,t4,t8,t9,rfl⟩;have hg0:DX g=0:=by rcases hr2 with e|e<;>omega
   refine AW.mono (DI hsm g x 80 75 81 59 60 ((fun x:AAC=>{x with number:=0,at_:=0,name:=⟨#[]⟩})) false false true (CH g x) h mm false hg0 Vs (fun _=>JU (RY g x 59 60) (aZ g x 59 60)) (fun hf=>aL 59 60 (hap hf)) hmm hc hmp t2 t3 t4 t8 t9) ?_;intro ex tm S hq;exact hq.XA
 ·refine xW fun K hK=>?_;simp;apply hK;refine AU ?_;simp[hz];refine xW fun K hK=>?_;simp;apply hK;refine Ag ?_;(try simp only[xQ,reduceIte]);refine⟨_,_,AJ.refl,by simp,_,_,⟨rfl,BV,[],r1,rfl,by decide,fun h=>absurd h hz,fun h1 _=>absurd ((hr1 (.inr h1.2)).trans h1.1) hz,fun h1 _ _=>(hr1 (.inr h1.2)).trans h1.1⟩,.inl ⟨.Bd [AB BV,An [],AG r1],_,by simp[asD,AB,BV],rfl,AJ.AY 0 rfl (by simp) (by simp) (by simp)⟩⟩
open Go.Proofs Tryz DT
theorem At.exact{P:Program}{f:FuncId}{args:List V}{S S':Sg}{v:V}{R:V→Sg→Prop}(h:At P f args S R)(hR:∀u T,R u T→u=v∧T=S'):AE P f args S v S':=
 ⟨h.1,fun G w cargs r hs ha=>(h.2 G w cargs r hs ha).mono fun e w' ⟨cv,G',u,T,h0,h1,h2,h3,h4,h5⟩=>by
  obtain⟨rfl,rfl⟩:=hR _ _ h0;exact⟨cv,G',h1,h2,h3,h4,h5⟩⟩
theorem ND:Du and Cn Cn=(Cn,0):=by
 have hg:(DT.leaf true).Good:=trivial;have h1:tr Cn=.leaf true:=Ou hg;have hv:Valid Cn:=⟨.leaf true,trivial,rfl⟩;have hc:HW Cn=0:=by
  unfold HW;rw[if_neg (by decide),if_pos hv]
 have ho:Yv and Cn Cn=Cn:=by
  unfold Yv;rw[JN (t:=.leaf true) hg (fun c=>by rw[h1];rfl)];rfl
 have hz:ABi [Cn,Cn]=0:=by simp[ABi,hc]
 unfold Du;rw[hz,ho];simp[Cn]
def eT(BC:List ByteArray)(AD:List AT):AF:=⟨[⟨#[65]⟩,⟨#[66]⟩],Cn,Dr,BC,AD,0,[],[]⟩
def Tw(name:ByteArray)(left:Int)(right:List Symbol):AT:=⟨name,left,right,Cn,false,0,[],Av⟩
def Yy(k n a t:Int)(name:ByteArray):AAC:=⟨k,n,a,t,name,false,⟨[],0⟩,[],[],Fm,Dq,[]⟩
def fB:AT:=Tw ⟨#[110,117,109]⟩ 0 [⟨true,0⟩]
def eZ:AT:=Tw ⟨#[98,105,110]⟩ 0 [⟨false,0⟩,⟨false,1⟩,⟨false,0⟩]
def fE:AT:=Tw ⟨#[112,108,117,115]⟩ 1 [⟨true,1⟩]
def eV:AT:=Tw ⟨#[116,105,109,101,115]⟩ 1 [⟨true,2⟩]
def KL:ByteArray:=⟨#[98,105,110,95,112,108,117,115]⟩
def Ln:ByteArray:=⟨#[98,105,110,95,99,111,112,121]⟩
def cH:AAC:=Yy 7 1 1 0 ⟨#[]⟩
def gH:AF:=eT [⟨#[69]⟩,⟨#[79]⟩] [fB,{eZ with cond:=fT},fE,eV,Tw KL 0 [⟨false,0⟩,⟨true,1⟩,⟨false,0⟩],Tw ⟨#[98,105,110,95,116,105,109,101,115]⟩ 0 [⟨false,0⟩,⟨true,2⟩,⟨false,0⟩]]
def mH:List Rewrite:=[⟨1,1,2,Bh 4::Cg 0 3⟩,⟨1,1,3,Bh 5::Cg 0 3⟩]
def cK:AAC:=Yy 8 1 1 3 ⟨#[114,101,115,116]⟩
def gK:AF:=eT [⟨#[69]⟩,⟨#[79]⟩,⟨#[114,101,115,116]⟩] [fB,{eZ with right:=[⟨false,0⟩,⟨false,2⟩]},fE,eV,Tw ⟨#[114,101,115,116]⟩ 2 [⟨false,1⟩,⟨false,0⟩]]
def mK:List Rewrite:=[⟨1,-1,-1,[Bh 1,Dk 0,Bh 4,Dk 1,Dk 2]⟩]
def cS:AAC:=Yy 9 1 2 0 ⟨#[114,105,103,104,116]⟩
def gS:AF:=eT [⟨#[69]⟩,⟨#[79]⟩,⟨#[114,105,103,104,116]⟩] [fB,{eZ with right:=[⟨false,0⟩,⟨false,1⟩,⟨false,2⟩]},fE,eV,Tw ⟨#[110,117,109,95,99,111,112,121]⟩ 2 [⟨true,0⟩],Tw Ln 2 [⟨false,0⟩,⟨false,1⟩,⟨false,0⟩]]
def bu:List Rewrite:=[⟨1,2,0,[Bh 1,Dk 0,Dk 1,Bh 4,Dk 2]⟩,⟨1,2,1,[Bh 1,Dk 0,Dk 1,Bh 5,Dk 2,Dk 3,Dk 4]⟩]
def cN:AAC:=Yy 7 0 0 0 ⟨#[]⟩
theorem bM:okF gH:=⟨MV _ _ (by decide+kernel),Qk _ (by decide+kernel)⟩
theorem ai:okF gK:=⟨MV _ _ (by decide+kernel),Qk _ (by decide+kernel)⟩
theorem aO:okF gS:=⟨MV _ _ (by decide+kernel),Qk _ (by decide+kernel)⟩
theorem O1:B1 GH cH=[2,3]:=by decide+kernel
theorem WQ:B1 GH cS=[0,1]:=by decide+kernel
theorem aw:X1 GH cH=gH:=by
 have h2:F9 GH cH 2=Tw KL 0 [⟨false,0⟩,⟨true,1⟩,⟨false,0⟩]:=by
  unfold F9;rw[show Du and (CL GH cH).cond (CO GH 2).cond=(Cn,0)from ND];decide+kernel
 have h3:F9 GH cH 3=Tw ⟨#[98,105,110,95,116,105,109,101,115]⟩ 0 [⟨false,0⟩,⟨true,2⟩,⟨false,0⟩]:=by
  unfold F9;rw[show Du and (CL GH cH).cond (CO GH 3).cond=(Cn,0)from ND];decide+kernel
 unfold X1;rw[O1];simp only[List.map_cons,List.map_nil,h2,h3];rfl
theorem Zd:Iy GH cH GH.AD.length (B1 GH cH)=mH:=by decide+kernel
theorem Xv:Vu GH cK=gK:=by rfl
theorem XE:foldM GH cK=mK:=by decide+kernel
theorem cW:eP GH cS=gS:=by unfold eP;rw[WQ];rfl
theorem cT:SK GH cS GH.AD.length (B1 GH cS)=bu:=by decide+kernel
theorem Ke{g h:AF}{m:List Rewrite}(hs:m.all (Pw g h)=true):∀x∈m,Pure prog 103 [AB g,AB h,Ab x] (.bool true):=
 fun x hx=>T4 g h x (List.all_eq_true.1 hs x hx)
theorem fC{p:Nat}(h:p<4):p=0∨p=1∨p=2∨p=3:=by omega
theorem Zv:Pure prog 6 [AB GH,AO cH] (.Bd [AB gH,An mH,AG 0]):=by
 refine(Ll DP GH cH rfl (by decide) gH mH (fun hf=>?_) ⟨by decide,by decide⟩ (by decide) (fun hf=>?_)).exact ?_
 ·have h:=SY GH cH hf (by decide+kernel) (by decide+kernel) (by decide+kernel) (by
   rw[O1];intro i hi;have:i=2∨i=3:=by simpa using hi
   rcases this with rfl|rfl<;>exact congrArg Prod.snd ND) (by decide) (by decide) (by rw[O1];decide+kernel) (by decide)
  rw[aw,Zd]at h;exact h
 ·refine Fj GH gH mH (by decide) (by decide) (by decide) (by decide) (Ke (by decide+kernel)) fun p hp=>.inl ?_;rcases fC hp with rfl|rfl|rfl|rfl<;>exact⟨by decide,by decide,rfl,rfl⟩
 ·rintro u T ⟨rfl,h',m',e,rfl,_,h1,_,h2⟩;have h0:=h2 Jv bM (by decide+kernel);obtain⟨rfl,rfl,_⟩:=h1 h0;subst h0;exact⟨rfl,rfl⟩
theorem aT:Pure prog 6 [AB GH,AO cK] (.Bd [AB gK,An mK,AG 0]):=by
 refine(RT DP GH cK rfl (by decide) gK mK (fun hf=>?_) ⟨by decide,by decide⟩ (by decide) (fun hf=>?_)).exact ?_
 ·have h:=YI GH cK hf (by decide+kernel) (by decide) (by decide) (by decide);rw[Xv,XE]at h;exact h
 ·refine Fj GH gK mK (by decide) (by decide) (by decide) (by decide) (Ke (by decide+kernel)) fun p hp=>?_;rcases fC hp with rfl|rfl|rfl|rfl
  ·exact .inl ⟨by decide,by decide,rfl,rfl⟩
  ·exact .inr (NR GH mK 1 (by decide) (by decide) (by decide+kernel))
  ·exact .inl ⟨by decide,by decide,rfl,rfl⟩
  ·exact .inl ⟨by decide,by decide,rfl,rfl⟩
 ·rintro u T ⟨rfl,h',m',e,rfl,_,h1,_,h2⟩;have h0:=h2 Jv ai (by decide+kernel);obtain⟨rfl,rfl,_⟩:=h1 h0;subst h0;exact⟨rfl,rfl⟩
theorem af:Pure prog 6 [AB GH,AO cS] (.Bd [AB gS,An bu,AG 0]):=by
 refine(Rp DP GH cS rfl (by decide) gS bu (fun hf=>?_) ⟨by decide,by decide⟩ (by decide) (fun hf=>?_)).exact ?_
 ·have h:=VM GH cS hf (by decide+kernel) (by decide+kernel) (by decide) (by decide) (by decide) (by rw[WQ];decide+kernel);rw[cW,cT]at h;exact h
 ·refine Fj GH gS bu (by decide) (by decide) (by decide) (by decide) (Ke (by decide+kernel)) fun p hp=>?_;rcases fC hp with rfl|rfl|rfl|rfl
  ·exact .inl ⟨by decide,by decide,rfl,rfl⟩
  ·exact .inr (NR GH bu 1 (by decide) (by decide) (by decide+kernel))
  ·exact .inl ⟨by decide,by decide,rfl,rfl⟩
  ·exact .inl ⟨by decide,by decide,rfl,rfl⟩
 ·rintro u T ⟨rfl,h',m',e,rfl,_,h1,_,h2⟩;have h0:=h2 Jv aO (by decide+kernel);obtain⟨rfl,rfl,_⟩:=h1 h0;subst h0;exact⟨rfl,rfl⟩
def gZ(v:V)(S':Sg):Prop:=S'=[]∧∃(h:AF) (m:List Rewrite),v=.d (.Bd [AB h,An m,AG 310])
theorem applyN:At prog 6 [.d (AB GH),.d (AO cN)] [] gZ:=by
 refine(Ll DP GH cN rfl (by decide) GH [] (fun hf=>absurd hf (by decide+kernel)) ⟨by decide,by simp⟩ (by decide) (fun hf=>absurd hf (by decide+kernel))).mono ?_;rintro u T ⟨rfl,h',m',e,rfl,_,_,h2,_⟩;have h0:=h2 Jv (by decide+kernel);subst h0;exact⟨rfl,h',m',rfl⟩
open Go.Proofs Tryz DT
theorem Q7:Pure prog 4 [] (.bool true):=by
 have aH:=Zv;have aK:=aT;have aS:=af;have aN:=applyN;have hl:(5:Nat)≤maxLen:=by decide
 obtain⟨fH1,fH2,fH3,fH4,fH5⟩:gH.AD.length=6∧(∃p,gH.AD[4]?=some p∧p.name=KL)∧(∃p,gH.AD[1]?=some p∧p.cond.root=0)∧mH.length=2∧(∃r,mH[1]?=some r∧r.child=3):=
  ⟨rfl,⟨_,rfl,rfl⟩,⟨_,rfl,rfl⟩,rfl,⟨_,rfl,rfl⟩⟩
 obtain⟨fK1,fK2,fK3,fK4,fK5⟩:gK.AD.length=5∧(∃p,gK.AD[4]?=some p∧p.right.length=2)∧(∃p,gK.AD[1]?=some p∧p.right.length=2)∧mK.length=1∧(∃r n,mK[0]?=some r∧r.BL.length=5∧r.BL[2]?=some n∧n.prod=4):=
  ⟨rfl,⟨_,rfl,rfl⟩,⟨_,rfl,rfl⟩,rfl,⟨_,_,rfl,rfl,rfl,rfl⟩⟩
 obtain⟨fS1,fS2,fS3⟩:gS.AD.length=6∧(∃p y,gS.AD[5]?=some p∧p.name=Ln∧p.right.length=3∧p.right[2]?=some y∧y.index=0)∧(∃p y,gS.AD[1]?=some p∧p.right.length=3∧p.right[2]?=some y∧y.index=2):=
  ⟨rfl,⟨_,_,rfl,rfl,rfl,rfl,rfl⟩,⟨_,_,rfl,rfl,rfl,rfl⟩⟩
 generalize gH=H at *;generalize mH=MH at *;generalize gK=K at *;generalize mK=MK at *;generalize gS=T at *;generalize bu=MT at *;have hcH:AO cH=_:=AO.eq_1 cH;have hcK:AO cK=_:=AO.eq_1 cK;have hcS:AO cS=_:=AO.eq_1 cS;have hcN:AO cN=_:=AO.eq_1 cN;refine Pure.AI func4 (by kernel_rfl) rfl (by simp) fun wf=>?_;rw[ntmps4];refine xW fun K hK=>?_;simp;apply hK;(repeat refine xS ?_);refine BX fun K hK=>?_;refine xJ ?_;simp;refine Bp (aB) rfl (by simp) ?_;simp;refine xJ ?_;simp;refine Aj (hK _ _ ?_);(try simp only[xQ,reduceIte]);generalize GH=G at *;refine Az fun K hK=>?_;refine xJ ?_;simp[maxLen];refine AS.ghost (AJ.bI 18 (AO cH) (by simp[asD,AO,cH,Yy,Fm,Dq,Ce])) ?_;refine Bp (aH) rfl (by simp[xN]) ?_;simp;refine xJ ?_;simp;refine Aj (hK _ _ ?_);refine Az fun K hK=>?_;refine xJ ?_;simp[maxLen];refine AS.ghost (AJ.bI 25 (AO cK) (by simp[asD,AO,cK,Yy,Fm,Dq,Ce])) ?_;refine Bp (aK) rfl (by simp[xN]) ?_;simp;refine xJ ?_;simp;refine Aj (hK _ _ ?_);refine Az fun K hK=>?_;refine xJ ?_;simp[maxLen];refine AS.ghost (AJ.bI 32 (AO cS) (by simp[asD,AO,cS,Yy,Fm,Dq,Ce])) ?_;refine Bp (aS) rfl (by simp[xN]) ?_;simp;refine xJ ?_;simp;refine Aj (hK _ _ ?_);(repeat refine xS ?_);refine BX fun K hK=>?_;refine xJ ?_;simp[maxLen];refine AS.ghost (AJ.bI 39 (AO cN) (by simp[asD,AO,cN,Yy,Fm,Dq,Ce])) ?_;refine AS.Cf aN [] rfl ?_ ?_ ?_
 ·simp
 ·rintro v S0' ⟨rfl,h,m,rfl⟩;simp
 rintro v S0' ⟨rfl,h,m,rfl⟩;simp;refine xJ ?_;simp;refine Aj (hK _ _ ?_);(try simp only[xQ,reduceIte]);obtain⟨a4,hA4,nA4⟩:=fH2;obtain⟨a1,hA1,nA1⟩:=fH3;obtain⟨r1,hR1,nR1⟩:=fH5;obtain⟨k4,hK4,nK4⟩:=fK2;obtain⟨k1,hK1,nK1⟩:=fK3;obtain⟨r0,n2,hR0,nR0,hN2,nN2⟩:=fK5;obtain⟨s5,y5,hS5,nS5,lS5,hY5,nY5⟩:=fS2;obtain⟨s1,y1,hS1,lS1,hY1,nY1⟩:=fS3;obtain⟨_,hA4⟩:=List.getElem?_eq_some_iff.1 hA4;obtain⟨_,hA1⟩:=List.getElem?_eq_some_iff.1 hA1;obtain⟨_,hR1⟩:=List.getElem?_eq_some_iff.1 hR1;obtain⟨_,hK4⟩:=List.getElem?_eq_some_iff.1 hK4;obtain⟨_,hK1⟩:=List.getElem?_eq_some_iff.1 hK1;obtain⟨_,hR0⟩:=List.getElem?_eq_some_iff.1 hR0;obtain⟨_,hN2⟩:=List.getElem?_eq_some_iff.1 hN2;obtain⟨_,hS5⟩:=List.getElem?_eq_some_iff.1 hS5;obtain⟨_,hY5⟩:=List.getElem?_eq_some_iff.1 hY5;obtain⟨_,hS1⟩:=List.getElem?_eq_some_iff.1 hS1;obtain⟨_,hY1⟩:=List.getElem?_eq_some_iff.1 hY1;have eA4:=AH.eq_1 a4;have eA1:=AH.eq_1 a1;have eR1:=Ab.eq_1 r1;have eK4:=AH.eq_1 k4;have eK1:=AH.eq_1 k1;have eR0:=Ab.eq_1 r0;have eN2:=A1.eq_1 n2;have eS5:=AH.eq_1 s5;have eS1:=AH.eq_1 s1;have eY5:=AL.eq_1 y5;have eY1:=AL.eq_1 y1;refine xS (Az fun K hK=>?_);refine xH ?_;simp[fH1,fH4,fK1,fK4,fS1];refine Aj (hK _ _ ?_);(try simp only[xQ,reduceIte]);refine AU ?_;simp;refine xK ?_;refine Az fun K hK=>?_;refine xH ?_;simp[hR0,eR0,nR0,fK4,hN2,eN2,nN2,hK4,eK4,nK4,hK1,eK1,nK1,fK1];refine Aj (hK _ _ ?_);(repeat refine xS ?_);refine BX fun K hK=>?_;(repeat((first|refine Dp rfl ?_ ?_;(·simp)|refine Jf rfl ?_ ?_;(·simp[hA1,eA1,nA1,fH1,hR1,eR1,nR1,fH4,hS5,eS5,nS5,lS5,hY5,eY5,nY5,hS1,eS1,lS1,hY1,eY1,nY1,fS1,Ln,maxLen])|refine B7 ?_ ?_;(·simp[hA4,eA4,nA4,fH1,KL,maxLen]));simp[hA4,eA4,nA4,hA1,eA1,nA1,fH1,hR1,eR1,nR1,fH4,hS5,eS5,nS5,lS5,hY5,eY5,nY5,hS1,eS1,lS1,hY1,eY1,nY1,fS1,KL,Ln,maxLen]));refine Aj (hK _ _ ?_);(try simp only[xQ,reduceIte]);refine Ag ⟨_,_,AJ.refl,?_⟩;try simp
open Go.Proofs Tryz DT
theorem ACj{k:Nat}(hk:k=1∨k=2∨k=3)(g:AF)(i:Nat)(n:ByteArray)(hi:i<(lst k g).length)(hc:g.conds.length≤12)(h1:okF g)(h2:okF (rn k g i n)):
  Pure prog 6 [AB g,AO (chg k i n)] (.Bd [AB (rn k g i n),An [],AG 0]):=
 At.cZ ((ADQ hk g i n hi hc).mono fun v S' ⟨a1,h',m',e,a2,a3,a4,a5⟩=>by
  have e0:=a5 h1 h2;obtain⟨b1,b2,_⟩:=a4 e0;subst b1;subst b2;subst e0;exact⟨a2,a1⟩)
def ABs(g:AF)(i:Nat):List ByteArray:=(g.AD.take i).map (·.name)
theorem AC1{g:AF}{i:Nat}(h:i<g.AD.length):ABs g (i+1)=ABs g i++[g.AD[i].name]:=by
 unfold ABs;rw[List.take_succ_eq_append_getElem h,List.map_append];rfl
theorem ADP{g:AF}{i:Nat}(h:i≤g.AD.length):(ABs g i).length=i:=by
 unfold ABs;rw[List.length_map,List.length_take];omega
theorem ADC(g:AF):ABs g g.AD.length=lst 2 g:=by
 unfold ABs lst;rw[List.take_length,if_neg (by decide),if_pos rfl]
theorem ax(hsan:Pure prog 4 [] (.bool true))(r:Raw)(kd nb:Nat):AE prog 3 [.d (En r),.d (.int .u8 kd),.d (.int .u8 nb)] [] (.d (.bool true)) []:=by
 obtain⟨k,hkd⟩:∃k,1+kd % 3=k:=⟨_,rfl⟩;have hk:k=1∨k=2∨k=3:=by omega
 refine AE.B9 func3 (by kernel_rfl) rfl (by simp) fun wf _=>?_;have hkr:kd<256:=by have:=wf.2.1;simp[WFV,WFD,rng]at this;omega
 have hnr:nb<256:=by have:=wf.2.2.1;simp[WFV,WFD,rng]at this;omega
 have w1:IntKind.i64.wrap (kd:Int)=kd:=by rw[IntKind.wrap_i64];omega
 have w2:IntKind.i64.wrap (1+(kd:Int).tmod 3)=k:=by rw[Int.tmod_eq_emod_of_nonneg (by omega),IntKind.wrap_i64];omega
 have w3:IntKind.i64.wrap (nb:Int)=nb:=by rw[IntKind.wrap_i64];omega
 have z0:IntKind.i64.wrap 0=0:=by decide
 have z1:IntKind.i64.wrap 1=1:=by decide
 have z2:IntKind.i64.wrap 2=2:=by decide
 rw[ntmps3];refine xW fun K hK=>?_;simp;apply hK;refine Az fun K hK=>?_;refine xJ ?_;simp;refine Bp (hsan) rfl (by simp) ?_;simp;refine xJ ?_;simp;refine Aj (hK _ _ ?_);refine Az fun K hK=>?_;refine xJ ?_;simp;refine AS.Cf (ADV r) [] rfl ?_ ?_ ?_
 ·simp
 ·rintro v S0' ⟨rfl,g,rfl,_⟩;simp
 rintro v S0' ⟨rfl,g,rfl,kn,hg⟩;simp;refine xJ ?_;simp;refine Aj (hK _ _ ?_);(repeat refine xS ?_);refine xV fun K hK=>?_;simp[w1,w2];refine hK _ _ ?_;(try simp only[xQ,reduceIte]);have hcl:g.conds.length≤12:=by have:=hg.c1;omega
 have hokg:=hg.okF;have nl1:g.BC.length≤1000:=by have:=hg.n1;omega
 have nl2:g.AD.length≤1000:=by have:=hg.p1;omega
 refine AW.Ew (R:=fun tm S=>tm 2=.d (.int .u8 nb)∧tm 7=.d (.bool true)∧tm 8=.ptr 1 1 0 0∧tm 9=.d (.int .i64 k)∧tm 10=(if k=2 then .full []else .d (CW (lst k g)))∧S=[.row true 5 [.d (En r)],.row true 9 [.d (AB g)]]) ?_ ?_
 ·rcases hk with rfl|rfl|rfl;all_goals
   refine BX fun K hK=>?_
   (repeat(refine B7 ?_ ?_;(·simp);simp))
   ((refine AS.Gi rfl ?_ ?_);(focus(simp[AA3,maxLen];done));simp)
   refine xJ ?_;simp[z0,z1,z2]
   refine Aj (hK _ _ ?_)
   refine⟨_,_,AJ.EL 2 (S':=[.row true 5 [.d (En r)],.row true 9 [.d (AB g)]]) rfl (by simp) (by simp) (by simp),?_⟩
   simp[clean,AAB,lst]
 rintro tm S ⟨t2,t7,t8,t9,t10,rfl⟩;refine AW.Ew (R:=fun tm S=>tm 2=.d (.int .u8 nb)∧tm 7=.d (.bool true)∧tm 8=.ptr 1 1 0 0∧tm 9=.d (.int .i64 k)∧tm 10=.d (CW (lst k g))∧S=[.row true 5 [.d (En r)],.row true 9 [.d (AB g)]]) ?_ ?_
 ·refine xW fun K hK=>?_;simp[t9];apply hK;refine AU ?_;simp;refine⟨fun h2=>?_,fun h2=>?_⟩
  ·have hk2:k=2:=by omega
   subst hk2;rw[if_pos rfl]at t10;refine xW fun K hK=>?_;simp;apply hK;refine AW.ghost (AJ.BB 10 1 (xs:=[]) (by simp[t10])) ?_;refine Bw ?_;refine DC g.AD.length (fun i tm S=>tm 2=.d (.int .u8 nb)∧tm 7=.d (.bool true)∧tm 8=.ptr 1 1 0 0∧tm 9=.d (.int .i64 2)∧tm 10=.row 2 (ABs g i).length∧tm 11=.d (.int .i64 i)∧S=[.row true 5 [.d (En r)],.row true 9 [.d (AB g)],.row (!(ABs g i).isEmpty) 1 ((ABs g i).map fun s=>.d (Ba s))]) (Nat.zero_le _) (by simp[EJ,ABs,t2,t7,t8,t9]) ?_;rintro i tm S hi ⟨t2,t7,t8,t9,t10,t11,rfl⟩;refine xS (xW fun K hK=>?_);simp[t8,t11];apply hK;refine AU ?_;simp;refine⟨fun hlt=>?_,fun hge=>?_⟩
   ·have hst:=AC1 hlt;have hln:=ADP (g:=g) (Nat.le_of_lt hlt);generalize hpp:g.AD[i]=p at *;have henc:=AH.eq_1 p;have hl1:(ABs g i).length+1≤1073741824:=by omega
    have h1m:1≤maxLen:=by unfold maxLen;omega
    refine xK ?_;refine xB ?_;refine xV fun K hK=>?_;simp[t8,t10,t11,hlt,hpp,henc,h1m,hl1,Af];apply hK;have hwi:IntKind.i64.wrap ((i:Int)+1)=(i+1:Nat):=by rw[IntKind.wrap_i64];omega
    refine xV fun K hK=>?_;simp[t11,hwi];apply hK;refine⟨hlt,_,_,AJ.EL 3 (S':=[.row true 5 [.d (En r)],.row true 9 [.d (AB g)],.row (!(ABs g (i+1)).isEmpty) 1 ((ABs g (i+1)).map fun s=>.d (Ba s))]) ?_ (by simp) (by simp) (by simp[AAE]),?_⟩
    ·simp[hst]
    simp[clean,AAB,t2,t7,t8,t9,hst]
   ·have e:i=g.AD.length:=by omega
    subst e;have hall:=ADC g;refine Cu ?_;refine⟨_,_,(AJ.B6 2 (xs:=(lst 2 g).map Ba) rfl (by rw[←hall];simp)).trans ((AJ.bI 10 (CW (lst 2 g)) (by simp[t10,asD,AAl,hall])).trans (AJ.EL 2 (S':=[.row true 5 [.d (En r)],.row true 9 [.d (AB g)]]) rfl (by simp) (by simp) (by simp))),?_⟩;simp[clean,AAB,EJ,t2,t7,t8,t9]
  ·have hk2:¬k=2:=by omega
   rw[if_neg hk2]at t10;refine CC ?_;exact⟨_,_,AJ.refl,t2,t7,t8,t9,t10,rfl⟩
 rintro tm S ⟨t2,t7,t8,t9,t10,rfl⟩;refine xS (xW fun K hK=>?_);simp[t10];apply hK;refine AU ?_;simp;refine⟨fun h0=>?_,fun h0=>?_⟩
 ·(repeat refine xS ?_);refine xV fun K hK=>?_;simp[t7];refine hK _ _ ?_;(try simp only[xQ,reduceIte]);(refine Ag ?_;(try simp only[xQ,reduceIte]);refine⟨_,_,_,AJ.refl,?_,?_,AJ.AY 0 (S':=[]) rfl (by simp) (by simp) (by simp)⟩<;>simp[asD])
 refine CC ?_;obtain⟨i,hie⟩:∃i,nb % (lst k g).length=i:=⟨_,rfl⟩;have hln:(lst k g).length≤1000:=by rcases hk with rfl|rfl|rfl<;>simp[lst]<;>omega
 have h0':0<(lst k g).length:=by
  rcases Nat.eq_zero_or_pos (lst k g).length with h|h
  ·exact absurd (List.eq_nil_of_length_eq_zero h) (by simpa using h0)
  ·exact h
 have hi:i<(lst k g).length:=by rw[←hie];exact Nat.mod_lt _ h0'
 have hq:((nb:Int).tmod (lst k g).length)=i:=by rw[Int.tmod_eq_emod_of_nonneg (by omega)];omega
 have hq':(nb:Int) % (lst k g).length=i:=by omega
 (repeat refine xS ?_);refine xV fun K hK=>?_;simp[t2,t10,w3,hq,h0];refine hK _ _ ?_;(try simp only[xQ,reduceIte]);have ho1:=AD6 hk hg hi;have P1:=ACj hk g i AAi hi hcl hokg ho1;have hr:=AD7 hk g i i AAi;have P2:=ACj hk (rn k g i AAi) i (lst k g)[i] (by rw[hr.1];exact hi) (by rw[hr.2];exact hcl) ho1 (by rw[ACx hk g hi];exact hokg);rw[ACx hk g hi]at P2;have P3:=ADQ hk g i ⟨#[]⟩ hi hcl;have hbad:=AD1 hk g hi;have hne:=AEF hk hg.sh hi;generalize rn k g i AAi=h1 at *;generalize rn k g i ⟨#[]⟩=h2 at *;refine Az fun K hK=>?_;refine xJ ?_;simp[t8,t9,maxLen];refine AS.ghost (AJ.bI 70 (AO (chg k i AAi)) (by simp[asD,AO,chg,Ce,AAi])) ?_;refine Bp (P1) rfl (by simp[xN]) ?_;simp;refine xJ ?_;simp;refine Aj (hK _ _ ?_);refine xD [0,2,4,6,8,10,12,14,16,18,20,22,24,27,29,30,32] (by kernel_rfl) fun K hK=>?_;simp;refine xA 1 ?_;simp[t9,t10,hi];refine Bj (P2) rfl (by simp[asD,chg,xN]) ?_;simp[chg];refine xA 1 ?_;simp;refine xX 0 (by kernel_rfl) ?_;simp[AR,Al,t9,t10,hi,asD];refine xX 8188 (by kernel_rfl) ?_;simp[AR,Al];refine xA 1 ?_;simp;refine xM (hK _ _ ?_);(repeat refine xS ?_);refine BX fun K hK=>?_;refine xJ ?_;simp[t8,t9,maxLen];refine AS.ghost (AJ.bI 92 (AO (chg k i ⟨#[]⟩)) (by simp[asD,AO,chg,Ce,AAi])) ?_;refine AS.Cf P3 [] rfl ?_ ?_ ?_
 ·simp
 ·rintro v S0' ⟨rfl,h,m,e,rfl,_⟩;simp
 rintro v S0' ⟨rfl,h3,m3,e3,rfl,hl3,he3,_⟩;simp;refine xJ ?_;simp;refine Aj (hK _ _ ?_);(try simp only[xQ,reduceIte]);have z3:¬e3=0:=fun h=>hbad (he3 h).2.2;(repeat refine xS ?_);refine BX fun K hK=>?_;(repeat((first|refine Dp rfl ?_ ?_;(·simp[z3])|refine Jf rfl ?_ ?_;(·simp[z3,t8])|refine B7 ?_ ?_;(·simp[z3]));simp[t8]));refine AS.Cj (Kw g g) rfl rfl (by simp[z3,AB,AO];try rfl) ?_;simp;(repeat((first|refine Dp rfl ?_ ?_;(·simp[z3])|refine Jf rfl ?_ ?_;(·simp[z3,t8])|refine B7 ?_ ?_;(·simp[z3]));simp[t8]));refine AS.Cj (Kw h1 g) rfl rfl (by simp[z3,AB,AO];try rfl) ?_;simp[hne];(repeat((first|refine Dp rfl ?_ ?_;(·simp[z3])|refine Jf rfl ?_ ?_;(·simp[z3])|refine B7 ?_ ?_;(·simp));simp[t7]));refine Aj (hK _ _ ?_);(try simp only[AAo]);(refine Ag ?_;(try simp only[xQ,reduceIte]);refine⟨_,_,_,AJ.refl,?_,?_,AJ.AY 0 (S':=[]) rfl (by simp) (by simp) (by simp)⟩<;>simp[asD,z3])
end Go.Koi
