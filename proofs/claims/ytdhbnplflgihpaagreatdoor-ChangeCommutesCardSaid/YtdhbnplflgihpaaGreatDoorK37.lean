/-
  Part 38 of the proof that the law ChangeCommutes of the package koinelaw31 returns true for every input.
-/
import Derived.Test.YtdhbnplflgihpaaGreatDoorK36
set_option maxHeartbeats 64000000
set_option maxRecDepth 100000
namespace Go.Koi
open Go.Proofs Tryz DT
theorem I9{g:AF}{x:Change}{h:AF}{mm:List Rewrite}{lg:Bool}{k1 k:FuncId}(ha:AE prog k [.ptr 4 1 0 0] (bS g x) (.Bd []) (D5 g x h mm lg)):
  AE prog 68 (.ptr 4 1 0 0::A3 true 6) (bS g x++bx k1 k) (.d (AG 0)) (D5 g x h mm lg++bx k1 k):=by
 have h1:=ha.Iz (bx k1 k) (by simp[bS,CG,D5]) (by simp[bS,CG,bV]) (by simp[bS,CG,D5]) (by simp[bS,CG,belowV]) (by simp[belowV,belowVs]);exact VL h1 rfl
theorem RY(g:AF)(x:Change)(k1 k2:FuncId):Oj (bS g x++bx k1 k2) 4 g x:=⟨_,_,_,_,_,_,_,_,_,_,_,rfl⟩
theorem HL(g h:AF)(hg:g.conds.length≤12)(hh:h.conds.length≤12)(ht:g.Ak.length≤h.Ak.length)(hn:g.BC.length≤h.BC.length)(hp:∀p,p<g.AD.length→Uj g h p):
  At prog 27 [.d (AB g),.d (AB h),.d (An [])] [] (bR g h):=
 Fj g h [] hg hh ht hn (fun x hx=>by cases hx) fun p hp'=>.inl (hp p hp')
theorem Rj(g:AF)(x:Change)(p:Nat)(hp:p<g.AD.length):Uj g {g with AD:=g.AD.set x.number.toNat {g.AD.getD x.number.toNat F1 with name:=x.name}} p:=by
 refine⟨hp,by simpa using hp,?_⟩;simp only[List.getElem_set];split
 ·rename_i e;subst e;simp[hp]
 ·exact⟨rfl,rfl⟩
theorem XI{g:AF}(h:DX g=0):g.Ak.length≤2 ^ 20:=by
 have:=(Ir h).1;simp[Dg]at this;omega
def We(g:AF)(_:Change)(u fit:Bool)(h:AF)(mm:List Rewrite)(v:V)(S':Sg):Prop:=
 S'=[]∧∃(h':AF) (m':List Rewrite) (e:Int),v=.d (.Bd [AB h',An m',AG e])∧h'.conds.length≤12∧(e=0→h'=h∧m'=mm)∧(QK g→u&&fit=false→e=310)∧(QK g→QK h→u&&fit=true→e=0)
theorem Jm.XA{g:AF}{x:Change}{u fit:Bool}{h:AF}{mm:List Rewrite}{n b:Nat}{rs:List ResultVar}{ex:Exit}{tm:Tm}{S:Sg}
  (hq:Jm prog n b rs (fZ g u fit h mm false) ex tm S):Jm prog n b rs (We g x u fit h mm) ex tm S:=by
 cases ex<;>first
  |exact hq
  |(obtain⟨tm1,S2,h1,h2,v,S',⟨rfl,h',m',e,rfl,p0,p1,p2,p3⟩,h4⟩:=hq
    exact⟨tm1,S2,h1,h2,_,_,⟨rfl,h',m',e,rfl,p0,p1,p2,fun a1 a2 a3=>p3 a1 a2 a3 rfl⟩,h4⟩)
theorem Rh(hsm:∀g,DX g=0→EO g)(g:AF)(x:Change)(hk:x.kind=1)(hcn:g.conds.length≤12):
  At prog 7 [.d (AB g),.d (AO x)] [] (We g x (Fi ((fun x:Change=>{x with number:=0,name:=⟨#[]⟩}) x)) (Fz x g.BC.length) {g with BC:=g.BC.set x.number.toNat x.name} []):=by
 have hfc:=Ca g hcn;refine At.AI func7 (by kernel_rfl) rfl (by simp) fun wf _=>?_;rw[ntmps7];refine xW fun K hK=>?_;simp;apply hK;refine xS (Az fun K hK=>?_);refine xJ ?_;simp;refine AS.Cf hfc [] rfl ?_ ?_ ?_
 ·simp
 ·rintro v S0' ⟨rfl,r,rfl,_⟩;simp
 rintro v S0' ⟨rfl,r1,rfl,hr1,hr2⟩;simp;refine xJ ?_;simp;refine Aj (hK _ _ ?_);(try simp only[]);by_cases hz:r1=0
 ·refine xW fun K hK=>?_;simp[hz];apply hK;refine AU ?_;simp;refine xK ?_;refine AW.Ew (R:=fun tm S=>tm 2=.ptr 0 1 0 0∧tm 3=.ptr 1 1 0 0∧tm 4=.ptr 2 1 0 0∧tm 8=.ptr 3 1 0 0∧tm 9=.d (.bool true)∧S=Cl g x 65 139 68 (A3 true 4) (A3 true 5) true 70 71) ?_ ?_
  ·refine AW.ED (by kernel_rfl) fun K hK=>?_;change Ad _ _ _ _ _ _ 10 (Array.replicate 10 false) _ _;refine Ad.CB 1 rfl (by kernel_rfl) ?_ ?_;(focus(simp;done));simp;refine Ad.CB 2 rfl (by kernel_rfl) ?_ ?_;(focus(simp;done));simp;refine Ad.Ih 0 7 [false,false] [false,false] (by kernel_rfl) rfl rfl (by kernel_rfl) (by kernel_rfl) (A7.call (args:=[]) rfl rfl rfl (by simp) (by simp[callee]) (by simp) (CJ.Bq [] (by simp) (by simp) (by simp))) ?_ (A7.B5 rfl ?_) ?_ ?_ ?_
   ·simp[AR]
   ·simp
   ·simp[AR]
   ·simp;simp[C7,DB,CN,renV,renVs,renO,hk];refine Ad.CB 3 rfl (by kernel_rfl) ?_ ?_;(focus(simp[goodKeys,goodK,goodC];done));simp[A4,deq];refine Ad.CB 4 rfl (by kernel_rfl) ?_ ?_;(focus(simp;done));simp;refine Ad.CB 5 rfl (by kernel_rfl) ?_ ?_;(focus(simp;done));simp;refine Ad.CB 6 rfl (by kernel_rfl) ?_ ?_;(focus(simp;done));simp;refine Ad.DE 7 [false,false,false,false,false,false] (by kernel_rfl) rfl (by kernel_rfl) ?_ ?_;(focus(simp[AR,hk,A4,deq,goodKeys,goodK,goodC];done));simp;refine Ad.DE 8 [false,true,true,true,true,true] (by kernel_rfl) rfl (by kernel_rfl) ?_ ?_;(focus(simp[AR];done));simp;refine Ad.CB 9 rfl (by kernel_rfl) ?_ ?_;(focus(simp;done));simp;refine Ad.done (by kernel_rfl) (hK _ _ ⟨_,_,AJ.Cy [0,1,2,18,4,5] (S0:=Cl g x 65 139 68 (A3 true 4) (A3 true 5) true 70 71) (by simp[Cl,A3];try decide) (by simp) (by simp),?_⟩);simp[pick];decide
   ·simp;(refine Ad.Mf 0 [false,false] (by kernel_rfl) rfl (by kernel_rfl) (A7.call (args:=[]) rfl rfl rfl (by simp) (by simp[callee]) (by simp) (CJ.Bq [] (by simp) (by simp) (by simp))) ?_ ?_)
    ·simp[AR]
    simp[C7,DB,CN,renV,renVs,renO,hk];refine Ad.CB 3 rfl (by kernel_rfl) ?_ ?_;(focus(simp[goodKeys,goodK,goodC];done));simp[A4,deq];refine Ad.CB 4 rfl (by kernel_rfl) ?_ ?_;(focus(simp;done));simp;refine Ad.CB 5 rfl (by kernel_rfl) ?_ ?_;(focus(simp;done));simp;refine Ad.CB 6 rfl (by kernel_rfl) ?_ ?_;(focus(simp;done));simp;refine Ad.DE 8 [false,true,true,true,true,true] (by kernel_rfl) rfl (by kernel_rfl) ?_ ?_;(focus(simp[AR];done));simp;refine Ad.CB 9 rfl (by kernel_rfl) ?_ ?_;(focus(simp;done));simp;refine Ad.done (by kernel_rfl) (hK _ _ ⟨_,_,AJ.Cy [0,1,2,3,5,6] (S0:=Cl g x 65 139 68 (A3 true 4) (A3 true 5) true 70 71) (by simp[Cl,A3];try decide) (by simp) (by simp),?_⟩);simp[pick];decide
  ·rintro tm S ⟨t2,t3,t4,t8,t9,rfl⟩;have hg0:DX g=0:=by rcases hr2 with e|e<;>omega
   refine AW.mono (DI hsm g x 65 139 68 70 71 ((fun x:Change=>{x with number:=0,name:=⟨#[]⟩})) true true true (Fz x g.BC.length) ({g with BC:=g.BC.set x.number.toNat x.name}) [] false hg0 Ko (fun _=>JX (q:=5) (RY g x 70 71) rfl (YE g)) (fun hf=>I9 (YZ g x hf)) ⟨by simp,by simp⟩ (by simpa using hcn) (fun hf=>HL g _ hcn (by simpa using hcn) (Nat.le_refl _) (by simp) fun p hp=>⟨hp,hp,rfl,rfl⟩) t2 t3 t4 t8 t9) ?_;intro ex tm S hq;exact hq.XA
 ·refine xW fun K hK=>?_;simp;apply hK;refine AU ?_;simp[hz];refine xW fun K hK=>?_;simp;apply hK;refine Ag ?_;(try simp only[xQ,reduceIte]);refine⟨_,_,AJ.refl,by simp,_,_,⟨rfl,BV,[],r1,rfl,by decide,fun h=>absurd h hz,fun h1 _=>absurd ((hr1 (.inr h1.2)).trans h1.1) hz,fun h1 _ _=>(hr1 (.inr h1.2)).trans h1.1⟩,.inl ⟨.Bd [AB BV,An [],AG r1],_,by simp[asD,AB,BV],rfl,AJ.AY 0 rfl (by simp) (by simp) (by simp)⟩⟩
theorem RO(hsm:∀g,DX g=0→EO g)(g:AF)(x:Change)(hk:x.kind=2)(hcn:g.conds.length≤12):
  At prog 7 [.d (AB g),.d (AO x)] [] (We g x (Fi ((fun x:Change=>{x with number:=0,name:=⟨#[]⟩}) x)) (Ck g x) {g with AD:=g.AD.set x.number.toNat {g.AD.getD x.number.toNat F1 with name:=x.name}} []):=by
 have hfc:=Ca g hcn;refine At.AI func7 (by kernel_rfl) rfl (by simp) fun wf _=>?_;rw[ntmps7];refine xW fun K hK=>?_;simp;apply hK;refine xS (Az fun K hK=>?_);refine xJ ?_;simp;refine AS.Cf hfc [] rfl ?_ ?_ ?_
 ·simp
 ·rintro v S0' ⟨rfl,r,rfl,_⟩;simp
 rintro v S0' ⟨rfl,r1,rfl,hr1,hr2⟩;simp;refine xJ ?_;simp;refine Aj (hK _ _ ?_);(try simp only[]);by_cases hz:r1=0
 ·refine xW fun K hK=>?_;simp[hz];apply hK;refine AU ?_;simp;refine xK ?_;refine AW.Ew (R:=fun tm S=>tm 2=.ptr 0 1 0 0∧tm 3=.ptr 1 1 0 0∧tm 4=.ptr 2 1 0 0∧tm 8=.ptr 3 1 0 0∧tm 9=.d (.bool true)∧S=Cl g x 65 72 68 (A3 false 4) (A3 true 5) true 70 73) ?_ ?_
  ·refine AW.ED (by kernel_rfl) fun K hK=>?_;change Ad _ _ _ _ _ _ 10 (Array.replicate 10 false) _ _;refine Ad.CB 1 rfl (by kernel_rfl) ?_ ?_;(focus(simp;done));simp;refine Ad.CB 2 rfl (by kernel_rfl) ?_ ?_;(focus(simp;done));simp;refine Ad.Ih 0 7 [false,false] [false,false] (by kernel_rfl) rfl rfl (by kernel_rfl) (by kernel_rfl) (A7.call (args:=[]) rfl rfl rfl (by simp) (by simp[callee]) (by simp) (CJ.Bq [] (by simp) (by simp) (by simp))) ?_ (A7.B5 rfl ?_) ?_ ?_ ?_
   ·simp[AR]
   ·simp
   ·simp[AR]
   ·simp;simp[C7,DB,CN,renV,renVs,renO,hk];refine Ad.CB 3 rfl (by kernel_rfl) ?_ ?_;(focus(simp[goodKeys,goodK,goodC];done));simp[A4,deq];refine Ad.CB 4 rfl (by kernel_rfl) ?_ ?_;(focus(simp;done));simp;refine Ad.CB 5 rfl (by kernel_rfl) ?_ ?_;(focus(simp;done));simp;refine Ad.CB 6 rfl (by kernel_rfl) ?_ ?_;(focus(simp;done));simp;refine Ad.DE 7 [false,false,false,false,false,false] (by kernel_rfl) rfl (by kernel_rfl) ?_ ?_;(focus(simp[AR,hk,A4,deq,goodKeys,goodK,goodC];done));simp;refine Ad.DE 8 [false,true,true,true,true,true] (by kernel_rfl) rfl (by kernel_rfl) ?_ ?_;(focus(simp[AR];done));simp;refine Ad.CB 9 rfl (by kernel_rfl) ?_ ?_;(focus(simp;done));simp;refine Ad.done (by kernel_rfl) (hK _ _ ⟨_,_,AJ.Cy [0,1,2,18,4,6] (S0:=Cl g x 65 72 68 (A3 false 4) (A3 true 5) true 70 73) (by simp[Cl,A3];try decide) (by simp) (by simp),?_⟩);simp[pick];decide
   ·simp;(refine Ad.Mf 0 [false,false] (by kernel_rfl) rfl (by kernel_rfl) (A7.call (args:=[]) rfl rfl rfl (by simp) (by simp[callee]) (by simp) (CJ.Bq [] (by simp) (by simp) (by simp))) ?_ ?_)
    ·simp[AR]
    simp[C7,DB,CN,renV,renVs,renO,hk];refine Ad.CB 3 rfl (by kernel_rfl) ?_ ?_;(focus(simp[goodKeys,goodK,goodC];done));simp[A4,deq];refine Ad.CB 4 rfl (by kernel_rfl) ?_ ?_;(focus(simp;done));simp;refine Ad.CB 5 rfl (by kernel_rfl) ?_ ?_;(focus(simp;done));simp;refine Ad.CB 6 rfl (by kernel_rfl) ?_ ?_;(focus(simp;done));simp;refine Ad.DE 8 [false,true,true,true,true,true] (by kernel_rfl) rfl (by kernel_rfl) ?_ ?_;(focus(simp[AR];done));simp;refine Ad.CB 9 rfl (by kernel_rfl) ?_ ?_;(focus(simp;done));simp;refine Ad.done (by kernel_rfl) (hK _ _ ⟨_,_,AJ.Cy [0,1,2,3,5,7] (S0:=Cl g x 65 72 68 (A3 false 4) (A3 true 5) true 70 73) (by simp[Cl,A3];try decide) (by simp) (by simp),?_⟩);simp[pick];decide
  ·rintro tm S ⟨t2,t3,t4,t8,t9,rfl⟩;have hg0:DX g=0:=by rcases hr2 with e|e<;>omega
   refine AW.mono (DI hsm g x 65 72 68 70 73 ((fun x:Change=>{x with number:=0,name:=⟨#[]⟩})) false true true (Ck g x) ({g with AD:=g.AD.set x.number.toNat {g.AD.getD x.number.toNat F1 with name:=x.name}}) [] false hg0 Ko (fun _=>Ea (RY g x 70 73)) (fun hf=>I9 (X0 g x (by simpa[Fz,Ck]using hf))) ⟨by simp,by simp⟩ (by simpa using hcn) (fun hf=>HL g _ hcn (by simpa using hcn) (Nat.le_refl _) (Nat.le_refl _) fun p hp=>Rj g _ p hp) t2 t3 t4 t8 t9) ?_;intro ex tm S hq;exact hq.XA
 ·refine xW fun K hK=>?_;simp;apply hK;refine AU ?_;simp[hz];refine xW fun K hK=>?_;simp;apply hK;refine Ag ?_;(try simp only[xQ,reduceIte]);refine⟨_,_,AJ.refl,by simp,_,_,⟨rfl,BV,[],r1,rfl,by decide,fun h=>absurd h hz,fun h1 _=>absurd ((hr1 (.inr h1.2)).trans h1.1) hz,fun h1 _ _=>(hr1 (.inr h1.2)).trans h1.1⟩,.inl ⟨.Bd [AB BV,An [],AG r1],_,by simp[asD,AB,BV],rfl,AJ.AY 0 rfl (by simp) (by simp) (by simp)⟩⟩
theorem RD(hsm:∀g,DX g=0→EO g)(g:AF)(x:Change)(hk:x.kind=3)(hcn:g.conds.length≤12):
  At prog 7 [.d (AB g),.d (AO x)] [] (We g x (Fi ((fun x:Change=>{x with number:=0,name:=⟨#[]⟩}) x)) (Fz x g.conds.length) {g with conds:=g.conds.set x.number.toNat x.name} []):=by
 have hfc:=Ca g hcn;refine At.AI func7 (by kernel_rfl) rfl (by simp) fun wf _=>?_;rw[ntmps7];refine xW fun K hK=>?_;simp;apply hK;refine xS (Az fun K hK=>?_);refine xJ ?_;simp;refine AS.Cf hfc [] rfl ?_ ?_ ?_
 ·simp
 ·rintro v S0' ⟨rfl,r,rfl,_⟩;simp
 rintro v S0' ⟨rfl,r1,rfl,hr1,hr2⟩;simp;refine xJ ?_;simp;refine Aj (hK _ _ ?_);(try simp only[]);by_cases hz:r1=0
 ·refine xW fun K hK=>?_;simp[hz];apply hK;refine AU ?_;simp;refine xK ?_;refine AW.Ew (R:=fun tm S=>tm 2=.ptr 0 1 0 0∧tm 3=.ptr 1 1 0 0∧tm 4=.ptr 2 1 0 0∧tm 8=.ptr 3 1 0 0∧tm 9=.d (.bool true)∧S=Cl g x 65 139 68 (A3 true 4) (A3 true 5) true 74 75) ?_ ?_
  ·refine AW.ED (by kernel_rfl) fun K hK=>?_;change Ad _ _ _ _ _ _ 10 (Array.replicate 10 false) _ _;refine Ad.CB 1 rfl (by kernel_rfl) ?_ ?_;(focus(simp;done));simp;refine Ad.CB 2 rfl (by kernel_rfl) ?_ ?_;(focus(simp;done));simp;refine Ad.Ih 0 7 [false,false] [false,false] (by kernel_rfl) rfl rfl (by kernel_rfl) (by kernel_rfl) (A7.call (args:=[]) rfl rfl rfl (by simp) (by simp[callee]) (by simp) (CJ.Bq [] (by simp) (by simp) (by simp))) ?_ (A7.B5 rfl ?_) ?_ ?_ ?_
   ·simp[AR]
   ·simp
   ·simp[AR]
   ·simp;simp[C7,DB,CN,renV,renVs,renO,hk];refine Ad.CB 3 rfl (by kernel_rfl) ?_ ?_;(focus(simp[goodKeys,goodK,goodC];done));simp[A4,deq];refine Ad.CB 4 rfl (by kernel_rfl) ?_ ?_;(focus(simp;done));simp;refine Ad.CB 5 rfl (by kernel_rfl) ?_ ?_;(focus(simp;done));simp;refine Ad.CB 6 rfl (by kernel_rfl) ?_ ?_;(focus(simp;done));simp;refine Ad.DE 7 [false,false,false,false,false,false] (by kernel_rfl) rfl (by kernel_rfl) ?_ ?_;(focus(simp[AR,hk,A4,deq,goodKeys,goodK,goodC];done));simp;refine Ad.DE 8 [false,true,true,true,true,true] (by kernel_rfl) rfl (by kernel_rfl) ?_ ?_;(focus(simp[AR];done));simp;refine Ad.CB 9 rfl (by kernel_rfl) ?_ ?_;(focus(simp;done));simp;refine Ad.done (by kernel_rfl) (hK _ _ ⟨_,_,AJ.Cy [0,1,2,18,7,8] (S0:=Cl g x 65 139 68 (A3 true 4) (A3 true 5) true 74 75) (by simp[Cl,A3];try decide) (by simp) (by simp),?_⟩);simp[pick];decide
   ·simp;(refine Ad.Mf 0 [false,false] (by kernel_rfl) rfl (by kernel_rfl) (A7.call (args:=[]) rfl rfl rfl (by simp) (by simp[callee]) (by simp) (CJ.Bq [] (by simp) (by simp) (by simp))) ?_ ?_)
    ·simp[AR]
    simp[C7,DB,CN,renV,renVs,renO,hk];refine Ad.CB 3 rfl (by kernel_rfl) ?_ ?_;(focus(simp[goodKeys,goodK,goodC];done));simp[A4,deq];refine Ad.CB 4 rfl (by kernel_rfl) ?_ ?_;(focus(simp;done));simp;refine Ad.CB 5 rfl (by kernel_rfl) ?_ ?_;(focus(simp;done));simp;refine Ad.CB 6 rfl (by kernel_rfl) ?_ ?_;(focus(simp;done));simp;refine Ad.DE 8 [false,true,true,true,true,true] (by kernel_rfl) rfl (by kernel_rfl) ?_ ?_;(focus(simp[AR];done));simp;refine Ad.CB 9 rfl (by kernel_rfl) ?_ ?_;(focus(simp;done));simp;refine Ad.done (by kernel_rfl) (hK _ _ ⟨_,_,AJ.Cy [0,1,2,3,8,9] (S0:=Cl g x 65 139 68 (A3 true 4) (A3 true 5) true 74 75) (by simp[Cl,A3];try decide) (by simp) (by simp),?_⟩);simp[pick];decide
  ·rintro tm S ⟨t2,t3,t4,t8,t9,rfl⟩;have hg0:DX g=0:=by rcases hr2 with e|e<;>omega
   refine AW.mono (DI hsm g x 65 139 68 74 75 ((fun x:Change=>{x with number:=0,name:=⟨#[]⟩})) true true true (Fz x g.conds.length) ({g with conds:=g.conds.set x.number.toNat x.name}) [] false hg0 Ko (fun _=>JX (q:=5) (RY g x 74 75) rfl (XW g)) (fun hf=>I9 (YO g x hf)) ⟨by simp,by simp⟩ (by simpa using hcn) (fun hf=>HL g _ hcn (by simpa using hcn) (Nat.le_refl _) (Nat.le_refl _) fun p hp=>⟨hp,hp,rfl,rfl⟩) t2 t3 t4 t8 t9) ?_;intro ex tm S hq;exact hq.XA
 ·refine xW fun K hK=>?_;simp;apply hK;refine AU ?_;simp[hz];refine xW fun K hK=>?_;simp;apply hK;refine Ag ?_;(try simp only[xQ,reduceIte]);refine⟨_,_,AJ.refl,by simp,_,_,⟨rfl,BV,[],r1,rfl,by decide,fun h=>absurd h hz,fun h1 _=>absurd ((hr1 (.inr h1.2)).trans h1.1) hz,fun h1 _ _=>(hr1 (.inr h1.2)).trans h1.1⟩,.inl ⟨.Bd [AB BV,An [],AG r1],_,by simp[asD,AB,BV],rfl,AJ.AY 0 rfl (by simp) (by simp) (by simp)⟩⟩
theorem P4(hsm:∀g,DX g=0→EO g)(g:AF)(x:Change)(hk:x.kind=10)(hcn:g.conds.length≤12):
  At prog 7 [.d (AB g),.d (AO x)] [] (We g x (Fi ((fun x:Change=>{x with levels:=[]}) x)) (true) {g with levels:=x.levels} []):=by
 have hfc:=Ca g hcn;refine At.AI func7 (by kernel_rfl) rfl (by simp) fun wf _=>?_;rw[ntmps7];refine xW fun K hK=>?_;simp;apply hK;refine xS (Az fun K hK=>?_);refine xJ ?_;simp;refine AS.Cf hfc [] rfl ?_ ?_ ?_
 ·simp
 ·rintro v S0' ⟨rfl,r,rfl,_⟩;simp
 rintro v S0' ⟨rfl,r1,rfl,hr1,hr2⟩;simp;refine xJ ?_;simp;refine Aj (hK _ _ ?_);(try simp only[]);by_cases hz:r1=0
 ·refine xW fun K hK=>?_;simp[hz];apply hK;refine AU ?_;simp;refine xK ?_;refine AW.Ew (R:=fun tm S=>tm 2=.ptr 0 1 0 0∧tm 3=.ptr 1 1 0 0∧tm 4=.ptr 2 1 0 0∧tm 8=.ptr 3 1 0 0∧tm 9=.d (.bool true)∧S=Cl g x 93 64 68 (A3 false 4) (A3 true 5) false 70 94) ?_ ?_
  ·refine AW.ED (by kernel_rfl) fun K hK=>?_;change Ad _ _ _ _ _ _ 10 (Array.replicate 10 false) _ _;refine Ad.CB 1 rfl (by kernel_rfl) ?_ ?_;(focus(simp;done));simp;refine Ad.CB 2 rfl (by kernel_rfl) ?_ ?_;(focus(simp;done));simp;refine Ad.Ih 0 7 [false,false] [false,false] (by kernel_rfl) rfl rfl (by kernel_rfl) (by kernel_rfl) (A7.call (args:=[]) rfl rfl rfl (by simp) (by simp[callee]) (by simp) (CJ.Bq [] (by simp) (by simp) (by simp))) ?_ (A7.B5 rfl ?_) ?_ ?_ ?_
   ·simp[AR]
   ·simp
   ·simp[AR]
   ·simp;simp[C7,DB,CN,renV,renVs,renO,hk];refine Ad.CB 3 rfl (by kernel_rfl) ?_ ?_;(focus(simp[goodKeys,goodK,goodC];done));simp[A4,deq];refine Ad.CB 4 rfl (by kernel_rfl) ?_ ?_;(focus(simp;done));simp;refine Ad.CB 5 rfl (by kernel_rfl) ?_ ?_;(focus(simp;done));simp;refine Ad.CB 6 rfl (by kernel_rfl) ?_ ?_;(focus(simp;done));simp;refine Ad.DE 7 [false,false,false,false,false,false] (by kernel_rfl) rfl (by kernel_rfl) ?_ ?_;(focus(simp[AR,hk,A4,deq,goodKeys,goodK,goodC];done));simp;refine Ad.DE 8 [false,true,true,true,true,true] (by kernel_rfl) rfl (by kernel_rfl) ?_ ?_;(focus(simp[AR];done));simp;refine Ad.CB 9 rfl (by kernel_rfl) ?_ ?_;(focus(simp;done));simp;refine Ad.done (by kernel_rfl) (hK _ _ ⟨_,_,AJ.Cy [0,1,2,18,4,13] (S0:=Cl g x 93 64 68 (A3 false 4) (A3 true 5) false 70 94) (by simp[Cl,A3];try decide) (by simp) (by simp),?_⟩);simp[pick];decide
   ·simp;(refine Ad.Mf 0 [false,false] (by kernel_rfl) rfl (by kernel_rfl) (A7.call (args:=[]) rfl rfl rfl (by simp) (by simp[callee]) (by simp) (CJ.Bq [] (by simp) (by simp) (by simp))) ?_ ?_)
    ·simp[AR]
    simp[C7,DB,CN,renV,renVs,renO,hk];refine Ad.CB 3 rfl (by kernel_rfl) ?_ ?_;(focus(simp[goodKeys,goodK,goodC];done));simp[A4,deq];refine Ad.CB 4 rfl (by kernel_rfl) ?_ ?_;(focus(simp;done));simp;refine Ad.CB 5 rfl (by kernel_rfl) ?_ ?_;(focus(simp;done));simp;refine Ad.CB 6 rfl (by kernel_rfl) ?_ ?_;(focus(simp;done));simp;refine Ad.DE 8 [false,true,true,true,true,true] (by kernel_rfl) rfl (by kernel_rfl) ?_ ?_;(focus(simp[AR];done));simp;refine Ad.CB 9 rfl (by kernel_rfl) ?_ ?_;(focus(simp;done));simp;refine Ad.done (by kernel_rfl) (hK _ _ ⟨_,_,AJ.Cy [0,1,2,3,5,14] (S0:=Cl g x 93 64 68 (A3 false 4) (A3 true 5) false 70 94) (by simp[Cl,A3];try decide) (by simp) (by simp),?_⟩);simp[pick];decide
  ·rintro tm S ⟨t2,t3,t4,t8,t9,rfl⟩;have hg0:DX g=0:=by rcases hr2 with e|e<;>omega
   refine AW.mono (DI hsm g x 93 64 68 70 94 ((fun x:Change=>{x with levels:=[]})) false true false (true) ({g with levels:=x.levels}) [] false hg0 Ui (fun _=>Is _ _) (fun hf=>I9 (Xc g x)) ⟨by simp,by simp⟩ (by simpa using hcn) (fun hf=>HL g _ hcn hcn (Nat.le_refl _) (Nat.le_refl _) fun p hp=>⟨hp,hp,rfl,rfl⟩) t2 t3 t4 t8 t9) ?_;intro ex tm S hq;exact hq.XA
 ·refine xW fun K hK=>?_;simp;apply hK;refine AU ?_;simp[hz];refine xW fun K hK=>?_;simp;apply hK;refine Ag ?_;(try simp only[xQ,reduceIte]);refine⟨_,_,AJ.refl,by simp,_,_,⟨rfl,BV,[],r1,rfl,by decide,fun h=>absurd h hz,fun h1 _=>absurd ((hr1 (.inr h1.2)).trans h1.1) hz,fun h1 _ _=>(hr1 (.inr h1.2)).trans h1.1⟩,.inl ⟨.Bd [AB BV,An [],AG r1],_,by simp[asD,AB,BV],rfl,AJ.AY 0 rfl (by simp) (by simp) (by simp)⟩⟩
theorem O0(hsm:∀g,DX g=0→EO g)(g:AF)(x:Change)(hk:x.kind=11)(hcn:g.conds.length≤12):
  At prog 7 [.d (AB g),.d (AO x)] [] (We g x (Fi ((fun x:Change=>{x with AM:=[]}) x)) (true) {g with AM:=x.AM} []):=by
 have hfc:=Ca g hcn;refine At.AI func7 (by kernel_rfl) rfl (by simp) fun wf _=>?_;rw[ntmps7];refine xW fun K hK=>?_;simp;apply hK;refine xS (Az fun K hK=>?_);refine xJ ?_;simp;refine AS.Cf hfc [] rfl ?_ ?_ ?_
 ·simp
 ·rintro v S0' ⟨rfl,r,rfl,_⟩;simp
 rintro v S0' ⟨rfl,r1,rfl,hr1,hr2⟩;simp;refine xJ ?_;simp;refine Aj (hK _ _ ?_);(try simp only[]);by_cases hz:r1=0
 ·refine xW fun K hK=>?_;simp[hz];apply hK;refine AU ?_;simp;refine xK ?_;refine AW.Ew (R:=fun tm S=>tm 2=.ptr 0 1 0 0∧tm 3=.ptr 1 1 0 0∧tm 4=.ptr 2 1 0 0∧tm 8=.ptr 3 1 0 0∧tm 9=.d (.bool true)∧S=Cl g x 95 64 68 (A3 false 4) (A3 true 5) false 70 96) ?_ ?_
  ·refine AW.ED (by kernel_rfl) fun K hK=>?_;change Ad _ _ _ _ _ _ 10 (Array.replicate 10 false) _ _;refine Ad.CB 1 rfl (by kernel_rfl) ?_ ?_;(focus(simp;done));simp;refine Ad.CB 2 rfl (by kernel_rfl) ?_ ?_;(focus(simp;done));simp;refine Ad.Ih 0 7 [false,false] [false,false] (by kernel_rfl) rfl rfl (by kernel_rfl) (by kernel_rfl) (A7.call (args:=[]) rfl rfl rfl (by simp) (by simp[callee]) (by simp) (CJ.Bq [] (by simp) (by simp) (by simp))) ?_ (A7.B5 rfl ?_) ?_ ?_ ?_
   ·simp[AR]
   ·simp
   ·simp[AR]
   ·simp;simp[C7,DB,CN,renV,renVs,renO,hk];refine Ad.CB 3 rfl (by kernel_rfl) ?_ ?_;(focus(simp[goodKeys,goodK,goodC];done));simp[A4,deq];refine Ad.CB 4 rfl (by kernel_rfl) ?_ ?_;(focus(simp;done));simp;refine Ad.CB 5 rfl (by kernel_rfl) ?_ ?_;(focus(simp;done));simp;refine Ad.CB 6 rfl (by kernel_rfl) ?_ ?_;(focus(simp;done));simp;refine Ad.DE 7 [false,false,false,false,false,false] (by kernel_rfl) rfl (by kernel_rfl) ?_ ?_;(focus(simp[AR,hk,A4,deq,goodKeys,goodK,goodC];done));simp;refine Ad.DE 8 [false,true,true,true,true,true] (by kernel_rfl) rfl (by kernel_rfl) ?_ ?_;(focus(simp[AR];done));simp;refine Ad.CB 9 rfl (by kernel_rfl) ?_ ?_;(focus(simp;done));simp;refine Ad.done (by kernel_rfl) (hK _ _ ⟨_,_,AJ.Cy [0,1,2,18,4,14] (S0:=Cl g x 95 64 68 (A3 false 4) (A3 true 5) false 70 96) (by simp[Cl,A3];try decide) (by simp) (by simp),?_⟩);simp[pick];decide
   ·simp;(refine Ad.Mf 0 [false,false] (by kernel_rfl) rfl (by kernel_rfl) (A7.call (args:=[]) rfl rfl rfl (by simp) (by simp[callee]) (by simp) (CJ.Bq [] (by simp) (by simp) (by simp))) ?_ ?_)
    ·simp[AR]
    simp[C7,DB,CN,renV,renVs,renO,hk];refine Ad.CB 3 rfl (by kernel_rfl) ?_ ?_;(focus(simp[goodKeys,goodK,goodC];done));simp[A4,deq];refine Ad.CB 4 rfl (by kernel_rfl) ?_ ?_;(focus(simp;done));simp;refine Ad.CB 5 rfl (by kernel_rfl) ?_ ?_;(focus(simp;done));simp;refine Ad.CB 6 rfl (by kernel_rfl) ?_ ?_;(focus(simp;done));simp;refine Ad.DE 8 [false,true,true,true,true,true] (by kernel_rfl) rfl (by kernel_rfl) ?_ ?_;(focus(simp[AR];done));simp;refine Ad.CB 9 rfl (by kernel_rfl) ?_ ?_;(focus(simp;done));simp;refine Ad.done (by kernel_rfl) (hK _ _ ⟨_,_,AJ.Cy [0,1,2,3,5,15] (S0:=Cl g x 95 64 68 (A3 false 4) (A3 true 5) false 70 96) (by simp[Cl,A3];try decide) (by simp) (by simp),?_⟩);simp[pick];decide
  ·rintro tm S ⟨t2,t3,t4,t8,t9,rfl⟩;have hg0:DX g=0:=by rcases hr2 with e|e<;>omega
   refine AW.mono (DI hsm g x 95 64 68 70 96 ((fun x:Change=>{x with AM:=[]})) false true false (true) ({g with AM:=x.AM}) [] false hg0 Va (fun _=>Is _ _) (fun hf=>I9 (XY g x)) ⟨by simp,by simp⟩ (by simpa using hcn) (fun hf=>HL g _ hcn hcn (Nat.le_refl _) (Nat.le_refl _) fun p hp=>⟨hp,hp,rfl,rfl⟩) t2 t3 t4 t8 t9) ?_;intro ex tm S hq;exact hq.XA
 ·refine xW fun K hK=>?_;simp;apply hK;refine AU ?_;simp[hz];refine xW fun K hK=>?_;simp;apply hK;refine Ag ?_;(try simp only[xQ,reduceIte]);refine⟨_,_,AJ.refl,by simp,_,_,⟨rfl,BV,[],r1,rfl,by decide,fun h=>absurd h hz,fun h1 _=>absurd ((hr1 (.inr h1.2)).trans h1.1) hz,fun h1 _ _=>(hr1 (.inr h1.2)).trans h1.1⟩,.inl ⟨.Bd [AB BV,An [],AG r1],_,by simp[asD,AB,BV],rfl,AJ.AY 0 rfl (by simp) (by simp) (by simp)⟩⟩
theorem PG(hsm:∀g,DX g=0→EO g)(g:AF)(x:Change)(hk:x.kind=12)(hcn:g.conds.length≤12):
  At prog 7 [.d (AB g),.d (AO x)] [] (We g x (Fi ((fun x:Change=>{x with token:=Fm}) x)) (true) {g with Ak:=g.Ak++[x.token]} []):=by
 have hfc:=Ca g hcn;refine At.AI func7 (by kernel_rfl) rfl (by simp) fun wf _=>?_;rw[ntmps7];refine xW fun K hK=>?_;simp;apply hK;refine xS (Az fun K hK=>?_);refine xJ ?_;simp;refine AS.Cf hfc [] rfl ?_ ?_ ?_
 ·simp
 ·rintro v S0' ⟨rfl,r,rfl,_⟩;simp
 rintro v S0' ⟨rfl,r1,rfl,hr1,hr2⟩;simp;refine xJ ?_;simp;refine Aj (hK _ _ ?_);(try simp only[]);by_cases hz:r1=0
 ·refine xW fun K hK=>?_;simp[hz];apply hK;refine AU ?_;simp;refine xK ?_;refine AW.Ew (R:=fun tm S=>tm 2=.ptr 0 1 0 0∧tm 3=.ptr 1 1 0 0∧tm 4=.ptr 2 1 0 0∧tm 8=.ptr 3 1 0 0∧tm 9=.d (.bool true)∧S=Cl g x 97 64 68 (A3 false 4) (A3 true 5) false 70 98) ?_ ?_
  ·refine AW.ED (by kernel_rfl) fun K hK=>?_;change Ad _ _ _ _ _ _ 10 (Array.replicate 10 false) _ _;refine Ad.CB 1 rfl (by kernel_rfl) ?_ ?_;(focus(simp;done));simp;refine Ad.CB 2 rfl (by kernel_rfl) ?_ ?_;(focus(simp;done));simp;refine Ad.Ih 0 7 [false,false] [false,false] (by kernel_rfl) rfl rfl (by kernel_rfl) (by kernel_rfl) (A7.call (args:=[]) rfl rfl rfl (by simp) (by simp[callee]) (by simp) (CJ.Bq [] (by simp) (by simp) (by simp))) ?_ (A7.B5 rfl ?_) ?_ ?_ ?_
   ·simp[AR]
   ·simp
   ·simp[AR]
   ·simp;simp[C7,DB,CN,renV,renVs,renO,hk];refine Ad.CB 3 rfl (by kernel_rfl) ?_ ?_;(focus(simp[goodKeys,goodK,goodC];done));simp[A4,deq];refine Ad.CB 4 rfl (by kernel_rfl) ?_ ?_;(focus(simp;done));simp;refine Ad.CB 5 rfl (by kernel_rfl) ?_ ?_;(focus(simp;done));simp;refine Ad.CB 6 rfl (by kernel_rfl) ?_ ?_;(focus(simp;done));simp;refine Ad.DE 7 [false,false,false,false,false,false] (by kernel_rfl) rfl (by kernel_rfl) ?_ ?_;(focus(simp[AR,hk,A4,deq,goodKeys,goodK,goodC];done));simp;refine Ad.DE 8 [false,true,true,true,true,true] (by kernel_rfl) rfl (by kernel_rfl) ?_ ?_;(focus(simp[AR];done));simp;refine Ad.CB 9 rfl (by kernel_rfl) ?_ ?_;(focus(simp;done));simp;refine Ad.done (by kernel_rfl) (hK _ _ ⟨_,_,AJ.Cy [0,1,2,18,4,15] (S0:=Cl g x 97 64 68 (A3 false 4) (A3 true 5) false 70 98) (by simp[Cl,A3];try decide) (by simp) (by simp),?_⟩);simp[pick];decide
   ·simp;(refine Ad.Mf 0 [false,false] (by kernel_rfl) rfl (by kernel_rfl) (A7.call (args:=[]) rfl rfl rfl (by simp) (by simp[callee]) (by simp) (CJ.Bq [] (by simp) (by simp) (by simp))) ?_ ?_)
    ·simp[AR]
    simp[C7,DB,CN,renV,renVs,renO,hk];refine Ad.CB 3 rfl (by kernel_rfl) ?_ ?_;(focus(simp[goodKeys,goodK,goodC];done));simp[A4,deq];refine Ad.CB 4 rfl (by kernel_rfl) ?_ ?_;(focus(simp;done));simp;refine Ad.CB 5 rfl (by kernel_rfl) ?_ ?_;(focus(simp;done));simp;refine Ad.CB 6 rfl (by kernel_rfl) ?_ ?_;(focus(simp;done));simp;refine Ad.DE 8 [false,true,true,true,true,true] (by kernel_rfl) rfl (by kernel_rfl) ?_ ?_;(focus(simp[AR];done));simp;refine Ad.CB 9 rfl (by kernel_rfl) ?_ ?_;(focus(simp;done));simp;refine Ad.done (by kernel_rfl) (hK _ _ ⟨_,_,AJ.Cy [0,1,2,3,5,16] (S0:=Cl g x 97 64 68 (A3 false 4) (A3 true 5) false 70 98) (by simp[Cl,A3];try decide) (by simp) (by simp),?_⟩);simp[pick];decide
  ·rintro tm S ⟨t2,t3,t4,t8,t9,rfl⟩;have hg0:DX g=0:=by rcases hr2 with e|e<;>omega
   refine AW.mono (DI hsm g x 97 64 68 70 98 ((fun x:Change=>{x with token:=Fm})) false true false (true) ({g with Ak:=g.Ak++[x.token]}) [] false hg0 VV (fun _=>Is _ _) (fun hf=>I9 (YG g x (XI hg0))) ⟨by simp,by simp⟩ (by simpa using hcn) (fun hf=>HL g _ hcn hcn (by simp) (Nat.le_refl _) fun p hp=>⟨hp,hp,rfl,rfl⟩) t2 t3 t4 t8 t9) ?_;intro ex tm S hq;exact hq.XA
 ·refine xW fun K hK=>?_;simp;apply hK;refine AU ?_;simp[hz];refine xW fun K hK=>?_;simp;apply hK;refine Ag ?_;(try simp only[xQ,reduceIte]);refine⟨_,_,AJ.refl,by simp,_,_,⟨rfl,BV,[],r1,rfl,by decide,fun h=>absurd h hz,fun h1 _=>absurd ((hr1 (.inr h1.2)).trans h1.1) hz,fun h1 _ _=>(hr1 (.inr h1.2)).trans h1.1⟩,.inl ⟨.Bd [AB BV,An [],AG r1],_,by simp[asD,AB,BV],rfl,AJ.AY 0 rfl (by simp) (by simp) (by simp)⟩⟩
open Go.Proofs DT
theorem EW{d:AN}{n:Int}(h:DS d n=true):GP d:=by
 simp only[DS,Bool.and_eq_true,decide_eq_true_eq]at h;have h1:=h.1;unfold HW at h1;unfold GP;split at h1
 ·cases h1
 ·omega
theorem U0:∀(N:Nat) (l:List Int),l.Nodup→(∀y∈l,0≤y∧y<N)→l.length≤N:=by
 intro N;induction N with
 |zero=>
  intro l _ h;cases l with
  |nil=>simp
  |cons a l=>have:=h a (by simp);omega
 |succ N ih=>
  intro l hn h;by_cases hm:(N:Int)∈l
  ·have h1:=ih (l.erase N) (hn.erase _) (fun y hy=>by
    have h2:=h y (List.mem_of_mem_erase hy);have h3:y≠N:=fun e=>by subst e;exact(List.Nodup.mem_erase_iff hn).1 hy |>.1 rfl
    omega)
   have:=List.length_erase_of_mem hm;omega
  ·have h1:=ih l hn (fun y hy=>by
    have h2:=h y hy;have h3:y≠N:=fun e=>by subst e;exact hm hy
    omega)
   omega
theorem QX{N:Nat}:∀{ps u v:List Int},lvlProds N u ps=some v→u.Nodup→(∀y∈u,0≤y∧y<N)→v.Nodup∧(∀y∈v,0≤y∧y<N)∧v.length=u.length+ps.length
 |[],u,v,h,h1,h2=>by simp only[lvlProds,Option.some.injEq]at h;subst h;exact⟨h1,h2,by simp⟩
 |p::ps,u,v,h,h1,h2=>by
  unfold lvlProds at h;split at h
  ·cases h
  ·rename_i hn;have hp:0≤p∧p<N∧p∉u:=by
    refine⟨by omega,?_,fun hm=>hn (.inr (.inr hm))⟩;by_cases e:(N:Int)≤p
    ·exact absurd (.inr (.inl e)) hn
    ·omega
   obtain⟨a1,a2,a3⟩:=QX h (by
    rw[List.nodup_append];exact⟨h1,by simp,fun a ha b hb=>by rw[List.mem_singleton.1 hb];intro e;subst e;exact hp.2.2 ha⟩) (fun y hy=>by
    rcases List.mem_append.1 hy with hy|hy
    ·exact h2 y hy
    ·rw[List.mem_singleton.1 hy];exact⟨hp.1,hp.2.1⟩)
   exact⟨a1,a2,by simp at a3;simp;omega⟩
theorem K0{g:AF}:∀{ls:List Level} {u:List Int},lvlsK g u ls=true→u.Nodup→(∀y∈u,0≤y∧y<g.AD.length)→∀l∈ls,l.AD.length≤g.AD.length∧GP l.cond
 |[],_,_,_,_=>fun l hl=>by cases hl
 |l::ls,u,h,h1,h2=>by
  unfold lvlsK at h;split at h
  ·rename_i hc;split at h
   ·cases h
   ·rename_i v hv;obtain⟨a1,a2,a3⟩:=QX hv h1 h2;have hl:=U0 _ _ a1 a2;intro y hy;rcases List.mem_cons.1 hy with rfl|hy
    ·refine⟨by omega,?_⟩;simp only[Bool.and_eq_true]at hc;exact EW hc.2
    ·exact K0 h a1 a2 y hy
  ·cases h
theorem Lo{g:AF}{kind:Token→Bool}{l:List Int}(h:LM g kind l=true):l.length≤g.Ak.length:=by
 simp only[LM,Bool.and_eq_true,List.all_eq_true,List.mem_range,decide_eq_true_eq]at h;obtain⟨h1,h2⟩:=h;have key:∀i,i<l.length→(i:Int)≤l.getD i 0:=by
  intro i;induction i with
  |zero=>
   intro hi;have:=h1 0 hi;simp only[ascAt,Bool.and_eq_true,decide_eq_true_eq]at this;exact this.1.1.1
  |succ i ih=>
   intro hi;have h3:=ih (by omega);have:=h1 (i+1) hi;simp only[ascAt,Bool.and_eq_true,decide_eq_true_eq,Bool.not_eq_true',Bool.and_eq_false_iff,decide_eq_false_iff_not,Nat.add_sub_cancel]at this;have h4:=this.1.2;omega
 have h3:=key (l.length - 1) (by omega);have h4:=h1 (l.length - 1) (by omega);simp only[ascAt,Bool.and_eq_true,decide_eq_true_eq]at h4;have:=h4.1.1.2;omega
theorem DP(g:AF)(h:DX g=0):EO g:=by
 obtain⟨hl,hf,ht,hn,hp,hv,hfl⟩:=Ir h;simp only[Dg,Bool.or_eq_false_iff,decide_eq_false_iff_not,List.any_eq_false]at hl;obtain⟨⟨⟨⟨⟨⟨l1,l2⟩,l3⟩,l4⟩,l5⟩,l6⟩,l7⟩:=hl;refine⟨by omega,?_,by omega,⟨by omega,fun t hm=>?_⟩,⟨by omega,fun p hm=>?_⟩,⟨by omega,fun l hm=>?_⟩,⟨by omega,fun f hm=>?_⟩⟩
 ·simp only[FY,Bool.and_eq_true]at hf;exact EW hf.1.2
 ·simp only[ES,Bool.and_eq_true,List.all_eq_true]at ht;have h1:=ht.2 t hm;simp only[F6,Bool.and_eq_true]at h1;refine⟨?_,EW h1.1.2⟩;have h2:=h1.2;unfold II at h2;split at h2
  ·split at h2
   ·rename_i hc;unfold checkPat at hc;split at hc
    ·cases hc
    ·omega
   ·cases h2
  ·simp only[Bool.and_eq_true,decide_eq_true_eq]at h2;rw[h2.2];simp
 ·have h1:=(Gm hp p hm).2;simp only[Mz,Bool.and_eq_true]at h1;have h2:=l7 p hm;simp only[Lp,Bool.or_eq_true,decide_eq_true_eq,not_or]at h2;exact⟨by omega,by omega,EW h1.1.1.1⟩
 ·obtain⟨h1,h2⟩:=K0 hv (by simp) (fun y hy=>by cases hy) l hm;exact⟨by omega,h2⟩
 ·simp only[FH,List.all_eq_true]at hfl;have h1:=hfl f hm;simp only[GU,Bool.and_eq_true]at h1;obtain⟨h1,h2⟩:=h1;unfold FZ at h1;unfold D8 at h2;split at h1
  ·rename_i hk;rw[if_pos hk]at h2;simp only[Og,Bool.and_eq_true,decide_eq_true_eq]at h1 h2;exact⟨by rw[h2.2];simp,EW h1.1⟩
  ·split at h1
   ·simp only[Bool.and_eq_true]at h1;have:=Lo h1.2;exact⟨by omega,EW h1.1.1.1⟩
   ·split at h1
    ·simp only[Bool.and_eq_true]at h1;have:=Lo h1.1.2;exact⟨by omega,EW h1.1.1⟩
    ·cases h1
end Go.Koi
