/-
  Part 37 of the proof that the law ChangeRenames of the package koinelaw31 returns true for every input.
-/
import Derived.Test.YtknmpedpidhhbaaGreatDoorK35
set_option maxHeartbeats 64000000
set_option maxRecDepth 100000
namespace Go.Koi
open Go.Proofs Tryz DT
theorem At.Ei{P:Program}{f:FuncId}{args args':List V}{S:Sg}{R:V→Sg→Prop}(h:At P f args S R)(hl:args'.length=args.length)
  (hw:∀i (h:i<args.length) (h':i<args'.length),args[i]=args'[i]∨∃d,asD S args'[i]=some d∧args[i]=.d d):At P f args' S R:=
 ⟨h.1,fun G w cargs R hs ha=>h.2 G w cargs R (by omega) fun i hi hi'=>by
  have h2:=ha i (by omega) hi';rcases hw i hi (by omega)with e|⟨d,e1,e2⟩
  ·rw[e];exact h2
  ·rw[e2];exact .d _ _ (h2.asD R e1)⟩
theorem At.PW{P:Program}{f:FuncId}{ds:List D}{p:Int→Prop}(h:At P f (ds.map .d) [] fun v S'=>S'=[]∧∃e:Int,v=.d (AG e)∧p e)(S:Sg):
  At P f (ds.map .d) S fun v S'=>(∃e:Int,v=.d (AG e)∧p e)∧S'=S:=by
 have h1:=h.Bq (S:=S) [] (by simp) (fun v S0' _=>Nat.zero_le _) (by simp[AAB]);have e1:(ds.map V.d).map (AAI (nameOf []))=ds.map .d:=by simp[Function.comp_def,AAI]
 rw[e1]at h1;refine h1.mono ?_;rintro v' S' ⟨v,S0',⟨rfl,e,rfl,hp⟩,rfl,rfl⟩;exact⟨⟨e,by simp[AAI],hp⟩,by simp⟩
def Yk:Code→Code
 |.seq _ y=>y
 |c=>c
noncomputable def Y3:Code:=Yk (Yk (Yk ((Tryz.f6.body).getD .skip)))
def bx(k1 k2:FuncId):Sg:=[.row true 1 [.fn (.func k1) [] []],.row true 1 [.fn (.func k2) [] []]]
def BV:AF:=⟨[],⟨[],0⟩,[],[],[],0,[],[]⟩
def A3(b:Bool)(r:Nat):List V:=if b then [.ptr r 1 0 0]else []
def fZ(g:AF)(u fit:Bool)(h:AF)(mm:List Rewrite)(lg:Bool)(v:V)(S':Sg):Prop:=
 S'=[]∧∃(h':AF) (m':List Rewrite) (e:Int),v=.d (.Bd [AB h',An m',AG e])∧h'.conds.length≤12∧(e=0→h'=h∧m'=mm∧DX h=0)∧(okF g→u&&fit=false→e=310)∧(okF g→okF h→u&&fit=true→lg=false→e=0)
def Uv:Rewrite:=⟨0,0,0,[]⟩
def mD(mm:List Rewrite)(i:Nat):List Rewrite:=(List.range mm.length).map fun k=>if k<i then mm.getD k Uv else Uv
theorem Z7(mm:List Rewrite)(i:Nat):(mD mm i).length=mm.length:=by simp[mD]
theorem YK(mm:List Rewrite):mD mm 0=List.replicate mm.length Uv:=by
 unfold mD;apply List.ext_getElem (by simp);intro k h1 h2;simp
theorem YF(mm:List Rewrite){i:Nat}(h:i<mm.length):mD mm (i+1)=(mD mm i).set i mm[i]:=by
 unfold mD;apply List.ext_getElem (by simp);intro k h1 h2;have hk:k<mm.length:=by simpa using h1
 rw[List.getElem_set];by_cases e:i=k
 ·subst e;simp[h]
 ·rw[if_neg e];have e1:(k<i+1)=(k<i):=by apply propext;omega
  simp[e1]
theorem ZV(mm:List Rewrite):mD mm mm.length=mm:=by
 unfold mD;apply List.ext_getElem (by simp);intro k h1 h2;simp[h2]
def mS(g h:AF)(x:AAC)(mm:List Rewrite)(lg:Bool)(l:List Rewrite):Sg:=
 [.row true 9 [.d (AB g)],.row true 31 [.d (AO x)],.row true 9 [.agg [.full [],.full [],.d (.int .i64 0),.full [],.full [],.full [],.d (.int .i64 0),.full [],.full []]],.row true 51 [.d (H0 g x h mm lg)],.row true 4 (l.map fun r=>.d (Ab r))]
theorem DI(hsm:∀g,DX g=0→EO g)(g:AF)(x:AAC)(c f a k1 k2:FuncId)(cF:AAC→AAC)(fb ab kp fit:Bool)(h:AF)(mm:List Rewrite)(lg:Bool)
  (hg0:DX g=0) (hclr:R5 c cF)
  (hfit:Fi (cF x)=true→AE prog f (.ptr 4 1 0 0::A3 fb 5) (bS g x++bx k1 k2) (.d (.bool fit)) (bS g x++bx k1 k2))
  (hap:fit=true→AE prog a (.ptr 4 1 0 0::A3 ab 6) (bS g x++bx k1 k2) (.d (AG 0)) (D5 g x h mm lg++bx k1 k2))
  (hmm:mm.length≤100∧∀x∈mm,x.BL.length≤2 ^ 30) (hc:h.conds.length≤12) (hmp:fit=true→At prog 20 [.d (AB g),.d (AB h),.d (An mm)] [] (bR g h)) {tm:Tm}
  (t2:tm 2=.ptr 0 1 0 0) (t3:tm 3=.ptr 1 1 0 0) (t4:tm 4=.ptr 2 1 0 0) (t8:tm 8=.ptr 3 1 0 0) (t9:tm 9=.d (.bool true)):
  AW prog 124 0 Y3 (Jm prog 124 0 Tryz.f6.results.toList (fZ g (Fi (cF x)) fit h mm lg)) tm (Cl g x c f a (A3 fb 4) (A3 ab 5) kp k1 k2):=by
 have hcl:=NY g (hsm g hg0);unfold Y3 Tryz.f6;simp only[Yk,Option.getD_some];unfold Cl;(repeat refine xS ?_);refine xE [0,2,4,7,8,11,12] (by kernel_rfl) fun K hK=>?_;simp;refine xA 1 ?_;simp[t2,t3];refine Ae.Ds (xT [1,0,0]) (hcl) [] (by kernel_rfl) rfl (by simp[AR,t2,t3];try rfl) ?_;simp;refine xA 1 ?_;simp[hV];refine xX 1 (by kernel_rfl) ?_;simp[AR,hS,t2,t3];refine xA 1 ?_;simp;refine xM (hK _ _ ?_);(try simp only[xQ,reduceIte]);have hcx:=hclr x;unfold Py at hcx;have hun:=Mg (cF x);generalize cF x=y at *;refine xW fun K hK=>?_;simp[t3];apply hK;refine xS (xW fun K hK=>?_);simp[t9];apply hK;refine AU ?_;simp;refine BX fun K hK=>?_;refine xJ ?_;simp[t8];refine xF (hcx) [11] rfl ?_;simp;refine xJ ?_;simp;refine Aj (hK _ _ ?_);cases hu:Fi y with
 |false=>
  rw[hu]at hun;refine xS (Az fun K hK=>?_);refine xH ?_;simp[t9];refine AS.Cj (hun) rfl rfl (by simp[xN];try rfl) ?_;simp;refine xH ?_;simp;refine Aj (hK _ _ ?_);(try simp only[xQ,reduceIte]);refine AU ?_;simp;refine xW fun K hK=>?_;simp[t4];apply hK;refine Ag ?_;(try simp only[xQ,reduceIte]);refine⟨_,_,AJ.refl,by simp[t4],_,_,⟨rfl,BV,[],310,rfl,by decide,fun h=>absurd h (by decide),fun _ _=>rfl,fun _ _ h=>absurd h (by simp)⟩,.inl ⟨.Bd [AB BV,An [],AG 310],_,by simp[t4,asD,AB,BV],rfl,AJ.AY 0 rfl (by simp) (by simp) (by simp)⟩⟩
 |true=>
  rw[hu]at hun;have hf1:=hfit hu;unfold bS CG bV bx at hf1;simp at hf1;refine xS (Az fun K hK=>?_);refine xH ?_;simp[t9];refine AS.Cj (hun) rfl rfl (by simp[xN];try rfl) ?_;simp;refine xH ?_;simp[t8];refine AS.KR hf1 [6,7,8,9,10,4,5] rfl rfl (by cases fb<;>simp[A3,AAZ,callee,nameOf,AAI,AAT]<;>decide) ?_;simp;refine xH ?_;simp;refine Aj (hK _ _ ?_);(try simp only[xQ,reduceIte]);clear hf1;cases fit with
  |false=>
   refine AU ?_;simp;refine xW fun K hK=>?_;simp[t4];apply hK;refine Ag ?_;(try simp only[xQ,reduceIte]);refine⟨_,_,AJ.refl,by simp[t4],_,_,⟨rfl,BV,[],310,rfl,by decide,fun h=>absurd h (by decide),fun _ _=>rfl,fun _ _ h=>absurd h (by simp)⟩,.inl ⟨.Bd [AB BV,An [],AG 310],_,by simp[t4,asD,AB,BV],rfl,AJ.AY 0 rfl (by simp) (by simp) (by simp)⟩⟩
  |true=>
   have ha1:=hap rfl;unfold bS D5 CG bV bx at ha1;simp at ha1;refine AU ?_;simp;refine xK ?_;refine xS (Az fun K hK=>?_);refine xJ ?_;simp[t8];refine AS.Ds ha1 [6,7,8,9,10,4,5] rfl (by cases ab<;>simp[A3,AAZ,callee,nameOf,AAI,AAT]<;>decide) ?_;simp;refine xJ ?_;simp;refine Aj (hK _ _ ?_);(try simp only[xQ,reduceIte]);clear ha1;refine xW fun K hK=>?_;simp;apply hK;refine AU ?_;simp;refine CC ?_;have heB:=H0.eq_1 g x h mm lg;refine xS (xW fun K hK=>?_);simp[heB];apply hK;cases hlg:lg with
   |true=>
    refine AU ?_;simp;refine xW fun K hK=>?_;simp[t4];apply hK;refine Ag ?_;(try simp only[xQ,reduceIte]);refine⟨_,_,AJ.refl,by simp[t4],_,_,⟨rfl,BV,[],2,rfl,by decide,fun h=>absurd h (by decide),fun _ h=>absurd h (by simp),fun _ _ _ h=>absurd h (by simp)⟩,.inl ⟨.Bd [AB BV,An [],AG 2],_,by simp[t4,asD,AB,BV],rfl,AJ.AY 0 rfl (by simp) (by simp) (by simp)⟩⟩
   |false=>
    have fh:=Ca h hc;refine AU ?_;simp;refine CC ?_;rw[hlg]at heB;refine xS (Az fun K hK=>?_);refine xJ ?_;simp;refine AS.ghost (AJ.bI 73 (AB h) (by simp[asD,AB])) ?_;refine AS.Cf fh [] rfl ?_ ?_ ?_
    ·simp
    ·rintro v S0' ⟨rfl,r,rfl,_⟩;simp
    rintro v S0' ⟨rfl,r,rfl,hr1,hr2⟩;simp;refine xJ ?_;simp;refine Aj (hK _ _ ?_);(try simp only[xQ,reduceIte]);by_cases hz:r=0
    ·refine xW fun K hK=>?_;simp[hz];apply hK;refine AU ?_;simp;refine CC ?_;have hr0:DX h=0:=by rcases hr2 with e|e<;>omega
     have hm1:=At.PW (P:=prog) (f:=20) (ds:=[AB g,AB h,An mm]) (p:=fun e=>okF g→okF h→e=0) (hmp rfl);have hm2:∀S,_:=fun S=>(hm1 S).Ei (args':=[.d (AB g),.agg [.d (CW h.conds),.d (AV h.fam.nodes),.d (AG h.fam.root),.d (Bs h.Ak),.d (CW h.BC),.d (Bb h.AD),.d (AG h.start),.d (BI h.levels),.d (A8 h.AM)],.d (An mm)]) rfl fun i h1 h2=>by
      match i,h1 with
      |0,_=>exact .inl rfl
      |1,_=>exact .inr ⟨AB h,by simp[asD,AB],rfl⟩
      |2,_=>exact .inl rfl
     (repeat refine xS ?_);refine AW.Yf [(0,true),(1,true),(2,true),(3,true),(4,true),(5,true),(6,true),(7,true),(8,true),(9,false),(10,true)] (by kernel_rfl) rfl (by kernel_rfl) (by decide) fun K hK=>?_;simp;(repeat((refine I8.fU ?_ ?_);(focus(simp[t2];done));simp[t2]));(refine I8.J4 (hm2 _) rfl (by simp[callee];try rfl) ?_);rintro _ ⟨e3,rfl,he3⟩;simp;(repeat((refine I8.fU ?_ ?_);(focus(simp;done));simp));refine I8.nil (hK _ _ ?_);(try simp only[xQ,reduceIte]);by_cases hz3:e3=0
     ·refine xW fun K hK=>?_;simp[hz3];apply hK;refine AU ?_;simp;refine CC ?_;have hml:(mm.length:Int)≤1073741824:=by omega
      refine AW.Ew (R:=fun tm S=>tm 4=.ptr 2 1 0 0∧tm 10=.ptr 3 1 0 0∧tm 15=.row 4 mm.length∧S=mS g h x mm false (mD mm 0)) ?_ ?_
      ·refine xV fun K hK=>?_;simp[hml];apply hK;refine⟨_,_,(AJ.A2 12 (xs:=(List.replicate mm.length Uv).map Ab) rfl ?_).trans (AJ.Cy [0,1,2,10,12] (S0:=mS g h x mm false (mD mm 0)) ?_ (by simp) (by simp)),?_⟩
       ·rw[Bc];simp[Uv,Ab,asD]
       ·rw[YK];simp[mS,heB]
       ·simp[pick,t4];decide
      rintro tm S ⟨t4,t10,t15,rfl⟩;refine AW.El (R:=fun tm S=>tm 4=.ptr 2 1 0 0∧tm 10=.ptr 3 1 0 0∧tm 15=.row 4 mm.length∧S=mS g h x mm false mm) ?_ ?_
      ·unfold mS;refine xW fun K hK=>?_;simp[t10,heB];apply hK;refine Bw ?_;refine DC mm.length (fun i tm S=>tm 4=.ptr 2 1 0 0∧tm 10=.ptr 3 1 0 0∧tm 15=.row 4 mm.length∧tm 102=.d (An mm)∧tm 103=.d (.int .i64 mm.length)∧tm 104=.d (.int .i64 i)∧S=mS g h x mm false (mD mm i)) (Nat.zero_le _) (by simp[t4,t10,t15,mS,heB]) ?_;rintro i tm S hi ⟨t4,t10,t15,t102,t103,t104,rfl⟩;refine xW fun K hK=>?_;simp[t103,t104];apply hK;refine xC ?_;simp;refine⟨fun hlt=>?_,fun hge=>?_⟩
       ·have hms:=YF mm hlt;have hmlen:=Z7 mm i;have htl:=hmm.2 _ (List.getElem_mem hlt);generalize hr:mm[i]=rw at *;have henc:=Ab.eq_1 rw;have hclt:=NU rw.BL htl;generalize mD mm i=ml at *;unfold mS;refine xK ?_;refine xB ?_;refine xW fun K hK=>?_;simp[t102,t104,hlt,hr,henc];apply hK;refine Az fun K hK=>?_;refine xJ ?_;simp;refine xF (hclt) [] rfl ?_;simp;refine xJ ?_;simp;refine Aj (hK _ _ ?_);refine AW.ghost (AJ.B6 6 (xs:=rw.BL.map A1) rfl (by simp)) ?_;simp;refine xV fun K hK=>?_;simp[t15,hlt,hmlen];apply hK;have hwi:IntKind.i64.wrap ((i:Int)+1)=(i+1:Nat):=by rw[IntKind.wrap_i64];omega
        refine xV fun K hK=>?_;simp[t104,hwi];apply hK;obtain⟨ml2,hm2⟩:∃ml2,ml.set i rw=ml2:=⟨_,rfl⟩;rw[hm2]at hms;refine⟨hlt,_,_,(AJ.A2 4 (xs:=(ml.set i rw).map Ab) rfl ?_).trans (AJ.EL 5 (S':=mS g h x mm false ml2) ?_ (by simp) (by simp) (by simp[mS])),?_⟩
        ·rw[Bc,List.map_set,List.map_map,List.map_set,List.map_set,List.map_map];congr 1;simp[asD,henc]
        ·rw[←hm2];simp[mS,List.map_set,Function.comp_def]
        ·simp[clean,AAB,t4,t10,t15,t102,t103,hms,mS]
       ·have e:i=mm.length:=by omega
        subst e;rw[ZV];refine Cu ?_;simp[t4,t10,t15,mS]
      ·rintro tm S ⟨t4,t10,t15,rfl⟩;have hch:=NY h (hsm h hr0);unfold hV hS at hch;unfold mS;(repeat refine xS ?_);refine BX fun K hK=>?_;refine xJ ?_;simp[t10,heB];refine AS.ghost (AJ.bI 121 (AB h) (by simp[asD,AB])) ?_;refine xF (hch) [] rfl ?_;simp;refine xJ ?_;simp[t4,t15];refine Aj (hK _ _ ?_);(try simp only[xQ,reduceIte]);refine Ag ?_;(try simp only[xQ,reduceIte]);refine⟨_,_,(AJ.B6 4 (xs:=mm.map Ab) rfl (by simp)).trans ((AJ.B6 5 (xs:=h.conds.map D.str) rfl (by simp)).trans ((AJ.B6 6 (xs:=h.Ak.map Aa) rfl (by simp)).trans ((AJ.B6 7 (xs:=h.BC.map D.str) rfl (by simp)).trans (AJ.B6 8 (xs:=h.AD.map AH) rfl (by simp))))),by simp[t4],_,_,⟨rfl,h,mm,0,rfl,hc,fun _=>⟨rfl,rfl,hr0⟩,fun _ h=>absurd h (by simp),fun _ _ _ _=>rfl⟩,.inl ⟨.Bd [AB h,An mm,AG 0],_,by simp[t4,asD,AB],rfl,AJ.AY 0 rfl (by simp) (by simp) (by simp)⟩⟩
     ·refine xW fun K hK=>?_;simp;apply hK;refine AU ?_;simp[hz3];refine xW fun K hK=>?_;simp[t4];apply hK;refine Ag ?_;(try simp only[xQ,reduceIte]);refine⟨_,_,AJ.refl,by simp[t4],_,_,⟨rfl,BV,[],e3,rfl,by decide,fun h=>absurd h hz3,fun _ h=>absurd h (by simp),fun h1 h2 _ _=>he3 h1 h2⟩,.inl ⟨.Bd [AB BV,An [],AG e3],_,by simp[t4,asD,AB,BV],rfl,AJ.AY 0 rfl (by simp) (by simp) (by simp)⟩⟩
    ·refine xW fun K hK=>?_;simp;apply hK;refine AU ?_;simp[hz];refine xW fun K hK=>?_;simp[t4];apply hK;refine Ag ?_;(try simp only[xQ,reduceIte]);refine⟨_,_,AJ.refl,by simp[t4],_,_,⟨rfl,BV,[],r,rfl,by decide,fun h=>absurd h hz,fun _ h=>absurd h (by simp),fun _ h1 _ _=>(hr1 (.inr h1.2)).trans h1.1⟩,.inl ⟨.Bd [AB BV,An [],AG r],_,by simp[t4,asD,AB,BV],rfl,AJ.AY 0 rfl (by simp) (by simp) (by simp)⟩⟩
open Go.Proofs Tryz DT
theorem I9{g:AF}{x:AAC}{h:AF}{mm:List Rewrite}{lg:Bool}{k1 k:FuncId}(ha:AE prog k [.ptr 4 1 0 0] (bS g x) (.Bd []) (D5 g x h mm lg)):
  AE prog 57 (.ptr 4 1 0 0::A3 true 6) (bS g x++bx k1 k) (.d (AG 0)) (D5 g x h mm lg++bx k1 k):=by
 have h1:=ha.Iz (bx k1 k) (by simp[bS,CG,D5]) (by simp[bS,CG,bV]) (by simp[bS,CG,D5]) (by simp[bS,CG,AAB]) (by simp[AAB,AAG]);exact VL h1 rfl
theorem RY(g:AF)(x:AAC)(k1 k2:FuncId):Oj (bS g x++bx k1 k2) 4 g x:=⟨_,_,_,_,_,_,_,_,_,_,_,rfl⟩
theorem HL(g h:AF)(hg:g.conds.length≤12)(hh:h.conds.length≤12)(ht:g.Ak.length≤h.Ak.length)(hn:g.BC.length≤h.BC.length)(hp:∀p,p<g.AD.length→Uj g h p):
  At prog 20 [.d (AB g),.d (AB h),.d (An [])] [] (bR g h):=
 Fj g h [] hg hh ht hn (fun x hx=>by cases hx) fun p hp'=>.inl (hp p hp')
theorem Rj(g:AF)(x:AAC)(p:Nat)(hp:p<g.AD.length):Uj g {g with AD:=g.AD.set x.number.toNat {g.AD.getD x.number.toNat F1 with name:=x.name}} p:=by
 refine⟨hp,by simpa using hp,?_⟩;simp only[List.getElem_set];split
 ·rename_i e;subst e;simp[hp]
 ·exact⟨rfl,rfl⟩
def We(g:AF)(_:AAC)(u fit:Bool)(h:AF)(mm:List Rewrite)(v:V)(S':Sg):Prop:=
 S'=[]∧∃(h':AF) (m':List Rewrite) (e:Int),v=.d (.Bd [AB h',An m',AG e])∧h'.conds.length≤12∧(e=0→h'=h∧m'=mm∧DX h=0)∧(okF g→u&&fit=false→e=310)∧(okF g→okF h→u&&fit=true→e=0)
theorem Jm.XA{g:AF}{x:AAC}{u fit:Bool}{h:AF}{mm:List Rewrite}{n b:Nat}{rs:List ResultVar}{ex:Exit}{tm:Tm}{S:Sg}
  (hq:Jm prog n b rs (fZ g u fit h mm false) ex tm S):Jm prog n b rs (We g x u fit h mm) ex tm S:=by
 cases ex<;>first
  |exact hq
  |(obtain⟨tm1,S2,h1,h2,v,S',⟨rfl,h',m',e,rfl,p0,p1,p2,p3⟩,h4⟩:=hq
    exact⟨tm1,S2,h1,h2,_,_,⟨rfl,h',m',e,rfl,p0,p1,p2,fun a1 a2 a3=>p3 a1 a2 a3 rfl⟩,h4⟩)
theorem Rh(hsm:∀g,DX g=0→EO g)(g:AF)(x:AAC)(hk:x.kind=1)(hcn:g.conds.length≤12):
  At prog 6 [.d (AB g),.d (AO x)] [] (We g x (Fi ((fun x:AAC=>{x with number:=0,name:=⟨#[]⟩}) x)) (Fz x g.BC.length) {g with BC:=g.BC.set x.number.toNat x.name} []):=by
 have hfc:=Ca g hcn;refine At.AI func6 (by kernel_rfl) rfl (by simp) fun wf _=>?_;rw[ntmps6];refine xW fun K hK=>?_;simp;apply hK;refine xS (Az fun K hK=>?_);refine xJ ?_;simp;refine AS.Cf hfc [] rfl ?_ ?_ ?_
 ·simp
 ·rintro v S0' ⟨rfl,r,rfl,_⟩;simp
 rintro v S0' ⟨rfl,r1,rfl,hr1,hr2⟩;simp;refine xJ ?_;simp;refine Aj (hK _ _ ?_);(try simp only[]);by_cases hz:r1=0
 ·refine xW fun K hK=>?_;simp[hz];apply hK;refine AU ?_;simp;refine xK ?_;refine AW.Ew (R:=fun tm S=>tm 2=.ptr 0 1 0 0∧tm 3=.ptr 1 1 0 0∧tm 4=.ptr 2 1 0 0∧tm 8=.ptr 3 1 0 0∧tm 9=.d (.bool true)∧S=Cl g x 54 129 57 (A3 true 4) (A3 true 5) true 59 60) ?_ ?_
  ·refine AW.regionF (by kernel_rfl) fun K hK=>?_;change Ad _ _ _ _ _ _ 10 (Array.replicate 10 false) _ _;refine Ad.CB 1 rfl (by kernel_rfl) ?_ ?_;(focus(simp;done));simp;refine Ad.CB 2 rfl (by kernel_rfl) ?_ ?_;(focus(simp;done));simp;refine Ad.Ih 0 7 [false,false] [false,false] (by kernel_rfl) rfl rfl (by kernel_rfl) (by kernel_rfl) (A7.call (args:=[]) rfl rfl rfl (by simp) (by simp[callee]) (by simp) (CJ.Bq [] (by simp) (by simp) (by simp))) ?_ (A7.B5 rfl ?_) ?_ ?_ ?_
   ·simp[AR]
   ·simp
   ·simp[AR]
   ·simp;simp[C7,DB,CN,AAI,AAT,AAc,hk];refine Ad.CB 3 rfl (by kernel_rfl) ?_ ?_;(focus(simp[AAH,AAK,AAP];done));simp[A4,deq];refine Ad.CB 4 rfl (by kernel_rfl) ?_ ?_;(focus(simp;done));simp;refine Ad.CB 5 rfl (by kernel_rfl) ?_ ?_;(focus(simp;done));simp;refine Ad.CB 6 rfl (by kernel_rfl) ?_ ?_;(focus(simp;done));simp;refine Ad.DE 7 [false,false,false,false,false,false] (by kernel_rfl) rfl (by kernel_rfl) ?_ ?_;(focus(simp[AR,hk,A4,deq,AAH,AAK,AAP];done));simp;refine Ad.DE 8 [false,true,true,true,true,true] (by kernel_rfl) rfl (by kernel_rfl) ?_ ?_;(focus(simp[AR];done));simp;refine Ad.CB 9 rfl (by kernel_rfl) ?_ ?_;(focus(simp;done));simp;refine Ad.done (by kernel_rfl) (hK _ _ ⟨_,_,AJ.Cy [0,1,2,18,4,5] (S0:=Cl g x 54 129 57 (A3 true 4) (A3 true 5) true 59 60) (by simp[Cl,A3];try decide) (by simp) (by simp),?_⟩);simp[pick];decide
   ·simp;(refine Ad.Mf 0 [false,false] (by kernel_rfl) rfl (by kernel_rfl) (A7.call (args:=[]) rfl rfl rfl (by simp) (by simp[callee]) (by simp) (CJ.Bq [] (by simp) (by simp) (by simp))) ?_ ?_)
    ·simp[AR]
    simp[C7,DB,CN,AAI,AAT,AAc,hk];refine Ad.CB 3 rfl (by kernel_rfl) ?_ ?_;(focus(simp[AAH,AAK,AAP];done));simp[A4,deq];refine Ad.CB 4 rfl (by kernel_rfl) ?_ ?_;(focus(simp;done));simp;refine Ad.CB 5 rfl (by kernel_rfl) ?_ ?_;(focus(simp;done));simp;refine Ad.CB 6 rfl (by kernel_rfl) ?_ ?_;(focus(simp;done));simp;refine Ad.DE 8 [false,true,true,true,true,true] (by kernel_rfl) rfl (by kernel_rfl) ?_ ?_;(focus(simp[AR];done));simp;refine Ad.CB 9 rfl (by kernel_rfl) ?_ ?_;(focus(simp;done));simp;refine Ad.done (by kernel_rfl) (hK _ _ ⟨_,_,AJ.Cy [0,1,2,3,5,6] (S0:=Cl g x 54 129 57 (A3 true 4) (A3 true 5) true 59 60) (by simp[Cl,A3];try decide) (by simp) (by simp),?_⟩);simp[pick];decide
  ·rintro tm S ⟨t2,t3,t4,t8,t9,rfl⟩;have hg0:DX g=0:=by rcases hr2 with e|e<;>omega
   refine AW.mono (DI hsm g x 54 129 57 59 60 ((fun x:AAC=>{x with number:=0,name:=⟨#[]⟩})) true true true (Fz x g.BC.length) ({g with BC:=g.BC.set x.number.toNat x.name}) [] false hg0 Ko (fun _=>JX (q:=5) (RY g x 59 60) rfl (YE g)) (fun hf=>I9 (YZ g x hf)) ⟨by simp,by simp⟩ (by simpa using hcn) (fun hf=>HL g _ hcn (by simpa using hcn) (Nat.le_refl _) (by simp) fun p hp=>⟨hp,hp,rfl,rfl⟩) t2 t3 t4 t8 t9) ?_;intro ex tm S hq;exact hq.XA
 ·refine xW fun K hK=>?_;simp;apply hK;refine AU ?_;simp[hz];refine xW fun K hK=>?_;simp;apply hK;refine Ag ?_;(try simp only[xQ,reduceIte]);refine⟨_,_,AJ.refl,by simp,_,_,⟨rfl,BV,[],r1,rfl,by decide,fun h=>absurd h hz,fun h1 _=>absurd ((hr1 (.inr h1.2)).trans h1.1) hz,fun h1 _ _=>(hr1 (.inr h1.2)).trans h1.1⟩,.inl ⟨.Bd [AB BV,An [],AG r1],_,by simp[asD,AB,BV],rfl,AJ.AY 0 rfl (by simp) (by simp) (by simp)⟩⟩
theorem RO(hsm:∀g,DX g=0→EO g)(g:AF)(x:AAC)(hk:x.kind=2)(hcn:g.conds.length≤12):
  At prog 6 [.d (AB g),.d (AO x)] [] (We g x (Fi ((fun x:AAC=>{x with number:=0,name:=⟨#[]⟩}) x)) (Ck g x) {g with AD:=g.AD.set x.number.toNat {g.AD.getD x.number.toNat F1 with name:=x.name}} []):=by
 have hfc:=Ca g hcn;refine At.AI func6 (by kernel_rfl) rfl (by simp) fun wf _=>?_;rw[ntmps6];refine xW fun K hK=>?_;simp;apply hK;refine xS (Az fun K hK=>?_);refine xJ ?_;simp;refine AS.Cf hfc [] rfl ?_ ?_ ?_
 ·simp
 ·rintro v S0' ⟨rfl,r,rfl,_⟩;simp
 rintro v S0' ⟨rfl,r1,rfl,hr1,hr2⟩;simp;refine xJ ?_;simp;refine Aj (hK _ _ ?_);(try simp only[]);by_cases hz:r1=0
 ·refine xW fun K hK=>?_;simp[hz];apply hK;refine AU ?_;simp;refine xK ?_;refine AW.Ew (R:=fun tm S=>tm 2=.ptr 0 1 0 0∧tm 3=.ptr 1 1 0 0∧tm 4=.ptr 2 1 0 0∧tm 8=.ptr 3 1 0 0∧tm 9=.d (.bool true)∧S=Cl g x 54 61 57 (A3 false 4) (A3 true 5) true 59 62) ?_ ?_
  ·refine AW.regionF (by kernel_rfl) fun K hK=>?_;change Ad _ _ _ _ _ _ 10 (Array.replicate 10 false) _ _;refine Ad.CB 1 rfl (by kernel_rfl) ?_ ?_;(focus(simp;done));simp;refine Ad.CB 2 rfl (by kernel_rfl) ?_ ?_;(focus(simp;done));simp;refine Ad.Ih 0 7 [false,false] [false,false] (by kernel_rfl) rfl rfl (by kernel_rfl) (by kernel_rfl) (A7.call (args:=[]) rfl rfl rfl (by simp) (by simp[callee]) (by simp) (CJ.Bq [] (by simp) (by simp) (by simp))) ?_ (A7.B5 rfl ?_) ?_ ?_ ?_
   ·simp[AR]
   ·simp
   ·simp[AR]
   ·simp;simp[C7,DB,CN,AAI,AAT,AAc,hk];refine Ad.CB 3 rfl (by kernel_rfl) ?_ ?_;(focus(simp[AAH,AAK,AAP];done));simp[A4,deq];refine Ad.CB 4 rfl (by kernel_rfl) ?_ ?_;(focus(simp;done));simp;refine Ad.CB 5 rfl (by kernel_rfl) ?_ ?_;(focus(simp;done));simp;refine Ad.CB 6 rfl (by kernel_rfl) ?_ ?_;(focus(simp;done));simp;refine Ad.DE 7 [false,false,false,false,false,false] (by kernel_rfl) rfl (by kernel_rfl) ?_ ?_;(focus(simp[AR,hk,A4,deq,AAH,AAK,AAP];done));simp;refine Ad.DE 8 [false,true,true,true,true,true] (by kernel_rfl) rfl (by kernel_rfl) ?_ ?_;(focus(simp[AR];done));simp;refine Ad.CB 9 rfl (by kernel_rfl) ?_ ?_;(focus(simp;done));simp;refine Ad.done (by kernel_rfl) (hK _ _ ⟨_,_,AJ.Cy [0,1,2,18,4,6] (S0:=Cl g x 54 61 57 (A3 false 4) (A3 true 5) true 59 62) (by simp[Cl,A3];try decide) (by simp) (by simp),?_⟩);simp[pick];decide
   ·simp;(refine Ad.Mf 0 [false,false] (by kernel_rfl) rfl (by kernel_rfl) (A7.call (args:=[]) rfl rfl rfl (by simp) (by simp[callee]) (by simp) (CJ.Bq [] (by simp) (by simp) (by simp))) ?_ ?_)
    ·simp[AR]
    simp[C7,DB,CN,AAI,AAT,AAc,hk];refine Ad.CB 3 rfl (by kernel_rfl) ?_ ?_;(focus(simp[AAH,AAK,AAP];done));simp[A4,deq];refine Ad.CB 4 rfl (by kernel_rfl) ?_ ?_;(focus(simp;done));simp;refine Ad.CB 5 rfl (by kernel_rfl) ?_ ?_;(focus(simp;done));simp;refine Ad.CB 6 rfl (by kernel_rfl) ?_ ?_;(focus(simp;done));simp;refine Ad.DE 8 [false,true,true,true,true,true] (by kernel_rfl) rfl (by kernel_rfl) ?_ ?_;(focus(simp[AR];done));simp;refine Ad.CB 9 rfl (by kernel_rfl) ?_ ?_;(focus(simp;done));simp;refine Ad.done (by kernel_rfl) (hK _ _ ⟨_,_,AJ.Cy [0,1,2,3,5,7] (S0:=Cl g x 54 61 57 (A3 false 4) (A3 true 5) true 59 62) (by simp[Cl,A3];try decide) (by simp) (by simp),?_⟩);simp[pick];decide
  ·rintro tm S ⟨t2,t3,t4,t8,t9,rfl⟩;have hg0:DX g=0:=by rcases hr2 with e|e<;>omega
   refine AW.mono (DI hsm g x 54 61 57 59 62 ((fun x:AAC=>{x with number:=0,name:=⟨#[]⟩})) false true true (Ck g x) ({g with AD:=g.AD.set x.number.toNat {g.AD.getD x.number.toNat F1 with name:=x.name}}) [] false hg0 Ko (fun _=>Ea (RY g x 59 62)) (fun hf=>I9 (X0 g x (by simpa[Fz,Ck]using hf))) ⟨by simp,by simp⟩ (by simpa using hcn) (fun hf=>HL g _ hcn (by simpa using hcn) (Nat.le_refl _) (Nat.le_refl _) fun p hp=>Rj g _ p hp) t2 t3 t4 t8 t9) ?_;intro ex tm S hq;exact hq.XA
 ·refine xW fun K hK=>?_;simp;apply hK;refine AU ?_;simp[hz];refine xW fun K hK=>?_;simp;apply hK;refine Ag ?_;(try simp only[xQ,reduceIte]);refine⟨_,_,AJ.refl,by simp,_,_,⟨rfl,BV,[],r1,rfl,by decide,fun h=>absurd h hz,fun h1 _=>absurd ((hr1 (.inr h1.2)).trans h1.1) hz,fun h1 _ _=>(hr1 (.inr h1.2)).trans h1.1⟩,.inl ⟨.Bd [AB BV,An [],AG r1],_,by simp[asD,AB,BV],rfl,AJ.AY 0 rfl (by simp) (by simp) (by simp)⟩⟩
theorem RD(hsm:∀g,DX g=0→EO g)(g:AF)(x:AAC)(hk:x.kind=3)(hcn:g.conds.length≤12):
  At prog 6 [.d (AB g),.d (AO x)] [] (We g x (Fi ((fun x:AAC=>{x with number:=0,name:=⟨#[]⟩}) x)) (Fz x g.conds.length) {g with conds:=g.conds.set x.number.toNat x.name} []):=by
 have hfc:=Ca g hcn;refine At.AI func6 (by kernel_rfl) rfl (by simp) fun wf _=>?_;rw[ntmps6];refine xW fun K hK=>?_;simp;apply hK;refine xS (Az fun K hK=>?_);refine xJ ?_;simp;refine AS.Cf hfc [] rfl ?_ ?_ ?_
 ·simp
 ·rintro v S0' ⟨rfl,r,rfl,_⟩;simp
 rintro v S0' ⟨rfl,r1,rfl,hr1,hr2⟩;simp;refine xJ ?_;simp;refine Aj (hK _ _ ?_);(try simp only[]);by_cases hz:r1=0
 ·refine xW fun K hK=>?_;simp[hz];apply hK;refine AU ?_;simp;refine xK ?_;refine AW.Ew (R:=fun tm S=>tm 2=.ptr 0 1 0 0∧tm 3=.ptr 1 1 0 0∧tm 4=.ptr 2 1 0 0∧tm 8=.ptr 3 1 0 0∧tm 9=.d (.bool true)∧S=Cl g x 54 129 57 (A3 true 4) (A3 true 5) true 63 64) ?_ ?_
  ·refine AW.regionF (by kernel_rfl) fun K hK=>?_;change Ad _ _ _ _ _ _ 10 (Array.replicate 10 false) _ _;refine Ad.CB 1 rfl (by kernel_rfl) ?_ ?_;(focus(simp;done));simp;refine Ad.CB 2 rfl (by kernel_rfl) ?_ ?_;(focus(simp;done));simp;refine Ad.Ih 0 7 [false,false] [false,false] (by kernel_rfl) rfl rfl (by kernel_rfl) (by kernel_rfl) (A7.call (args:=[]) rfl rfl rfl (by simp) (by simp[callee]) (by simp) (CJ.Bq [] (by simp) (by simp) (by simp))) ?_ (A7.B5 rfl ?_) ?_ ?_ ?_
   ·simp[AR]
   ·simp
   ·simp[AR]
   ·simp;simp[C7,DB,CN,AAI,AAT,AAc,hk];refine Ad.CB 3 rfl (by kernel_rfl) ?_ ?_;(focus(simp[AAH,AAK,AAP];done));simp[A4,deq];refine Ad.CB 4 rfl (by kernel_rfl) ?_ ?_;(focus(simp;done));simp;refine Ad.CB 5 rfl (by kernel_rfl) ?_ ?_;(focus(simp;done));simp;refine Ad.CB 6 rfl (by kernel_rfl) ?_ ?_;(focus(simp;done));simp;refine Ad.DE 7 [false,false,false,false,false,false] (by kernel_rfl) rfl (by kernel_rfl) ?_ ?_;(focus(simp[AR,hk,A4,deq,AAH,AAK,AAP];done));simp;refine Ad.DE 8 [false,true,true,true,true,true] (by kernel_rfl) rfl (by kernel_rfl) ?_ ?_;(focus(simp[AR];done));simp;refine Ad.CB 9 rfl (by kernel_rfl) ?_ ?_;(focus(simp;done));simp;refine Ad.done (by kernel_rfl) (hK _ _ ⟨_,_,AJ.Cy [0,1,2,18,7,8] (S0:=Cl g x 54 129 57 (A3 true 4) (A3 true 5) true 63 64) (by simp[Cl,A3];try decide) (by simp) (by simp),?_⟩);simp[pick];decide
   ·simp;(refine Ad.Mf 0 [false,false] (by kernel_rfl) rfl (by kernel_rfl) (A7.call (args:=[]) rfl rfl rfl (by simp) (by simp[callee]) (by simp) (CJ.Bq [] (by simp) (by simp) (by simp))) ?_ ?_)
    ·simp[AR]
    simp[C7,DB,CN,AAI,AAT,AAc,hk];refine Ad.CB 3 rfl (by kernel_rfl) ?_ ?_;(focus(simp[AAH,AAK,AAP];done));simp[A4,deq];refine Ad.CB 4 rfl (by kernel_rfl) ?_ ?_;(focus(simp;done));simp;refine Ad.CB 5 rfl (by kernel_rfl) ?_ ?_;(focus(simp;done));simp;refine Ad.CB 6 rfl (by kernel_rfl) ?_ ?_;(focus(simp;done));simp;refine Ad.DE 8 [false,true,true,true,true,true] (by kernel_rfl) rfl (by kernel_rfl) ?_ ?_;(focus(simp[AR];done));simp;refine Ad.CB 9 rfl (by kernel_rfl) ?_ ?_;(focus(simp;done));simp;refine Ad.done (by kernel_rfl) (hK _ _ ⟨_,_,AJ.Cy [0,1,2,3,8,9] (S0:=Cl g x 54 129 57 (A3 true 4) (A3 true 5) true 63 64) (by simp[Cl,A3];try decide) (by simp) (by simp),?_⟩);simp[pick];decide
  ·rintro tm S ⟨t2,t3,t4,t8,t9,rfl⟩;have hg0:DX g=0:=by rcases hr2 with e|e<;>omega
   refine AW.mono (DI hsm g x 54 129 57 63 64 ((fun x:AAC=>{x with number:=0,name:=⟨#[]⟩})) true true true (Fz x g.conds.length) ({g with conds:=g.conds.set x.number.toNat x.name}) [] false hg0 Ko (fun _=>JX (q:=5) (RY g x 63 64) rfl (XW g)) (fun hf=>I9 (YO g x hf)) ⟨by simp,by simp⟩ (by simpa using hcn) (fun hf=>HL g _ hcn (by simpa using hcn) (Nat.le_refl _) (Nat.le_refl _) fun p hp=>⟨hp,hp,rfl,rfl⟩) t2 t3 t4 t8 t9) ?_;intro ex tm S hq;exact hq.XA
 ·refine xW fun K hK=>?_;simp;apply hK;refine AU ?_;simp[hz];refine xW fun K hK=>?_;simp;apply hK;refine Ag ?_;(try simp only[xQ,reduceIte]);refine⟨_,_,AJ.refl,by simp,_,_,⟨rfl,BV,[],r1,rfl,by decide,fun h=>absurd h hz,fun h1 _=>absurd ((hr1 (.inr h1.2)).trans h1.1) hz,fun h1 _ _=>(hr1 (.inr h1.2)).trans h1.1⟩,.inl ⟨.Bd [AB BV,An [],AG r1],_,by simp[asD,AB,BV],rfl,AJ.AY 0 rfl (by simp) (by simp) (by simp)⟩⟩
open Go.Proofs DT
theorem ABL:∀{l L:List ByteArray},AAS L l=true↔l.Nodup∧∀s∈l,s∉L
 |[],L=>by simp[AAS]
 |s::l,L=>by
  simp only[AAS,Bool.and_eq_true,Bool.not_eq_true',ABL (l:=l),List.nodup_cons,List.mem_cons,List.mem_append,not_or];have hs:FV L s=false↔s∉L:=by rw[←dS];simp
  rw[hs];constructor
  ·rintro⟨h1,h2,h3⟩;refine⟨⟨fun hm=>(h3 s hm).2.1 rfl,h2⟩,fun x hx=>?_⟩;rcases hx with rfl|hx
   ·exact h1
   ·exact(h3 x hx).1
  ·rintro⟨⟨h1,h2⟩,h3⟩;exact⟨h3 s (.inl rfl),h2,fun x hx=>⟨h3 x (.inr hx),fun e=>h1 (e▸hx),by simp⟩⟩
theorem ABW{g:AF}:∀{l:List AT} {L:List ByteArray},AAg g L l=0↔(∀p∈l,LX g p=true∧Mz g p=true)∧AAS L (l.map (·.name))=true
 |[],L=>by simp[AAg,AAS]
 |p::l,L=>by
  unfold AAg;simp only[List.map_cons,AAS,List.mem_cons,forall_eq_or_imp,Bool.and_eq_true,Bool.not_eq_true'];by_cases h1:LX g p=true
  ·rw[if_neg (by simp[h1])];by_cases h2:FV L p.name=true∨Mz g p=false
   ·rw[if_pos h2];rcases h2 with h2|h2<;>simp[h2]
   ·rw[if_neg h2,ABW (l:=l)];simp only[not_or,Bool.not_eq_true,Bool.not_eq_false]at h2;simp only[h1,h2.1,h2.2,and_self,true_and]
  ·rw[if_pos (by simpa using h1)];simp[h1]
theorem ACU{α:Type}:∀{l:List α} {i:Nat} {n:α},l.Nodup→n∉l→(l.set i n).Nodup
 |[],_,_,_,_=>by simp
 |a::l,0,n,h,hn=>by
  simp only[List.mem_cons,not_or]at hn;simp only[List.set_cons_zero,List.nodup_cons];exact⟨hn.2,(List.nodup_cons.1 h).2⟩
 |a::l,i+1,n,h,hn=>by
  simp only[List.mem_cons,not_or]at hn;obtain⟨h1,h2⟩:=List.nodup_cons.1 h;simp only[List.set_cons_succ,List.nodup_cons];refine⟨fun hm=>?_,ACU h2 hn.2⟩;rcases List.mem_or_eq_of_mem_set hm with hm|rfl
  ·exact h1 hm
  ·exact hn.1 rfl
theorem ABK{l:List ByteArray}{i:Nat}{n:ByteArray}(h:AAS [⟨#[]⟩] l=true)(hn:n∉l)(he:n≠⟨#[]⟩):AAS [⟨#[]⟩] (l.set i n)=true:=by
 rw[ABL]at h⊢;refine⟨ACU h.1 hn,fun s hs=>?_⟩;rcases List.mem_or_eq_of_mem_set hs with hs|rfl
 ·exact h.2 s hs
 ·simpa using he
theorem ABO{l:List ByteArray}{i:Nat}(hi:i<l.length):AAS [⟨#[]⟩] (l.set i ⟨#[]⟩)=false:=by
 cases h:AAS [⟨#[]⟩] (l.set i ⟨#[]⟩)with
 |false=>rfl
 |true=>
  have:=(ABL.1 h).2 ⟨#[]⟩ (List.mem_iff_getElem.2 ⟨i,by simpa using hi,by simp⟩);simp at this
def AAi:ByteArray:=⟨#[113,117,105,116,101,95,110,101,119]⟩
theorem ABD{l:List ByteArray}(h:∀s∈l,s.size≤8):AAi∉l:=fun hm=>by
 have:=h _ hm;exact absurd this (by decide)
def rnN(g:AF)(i:Nat)(n:ByteArray):AF:={g with BC:=g.BC.set i n}
def rnP(g:AF)(i:Nat)(n:ByteArray):AF:={g with AD:=g.AD.set i {g.AD.getD i F1 with name:=n}}
def rnC(g:AF)(i:Nat)(n:ByteArray):AF:={g with conds:=g.conds.set i n}
theorem VG.rnN{g:AF}{kn:Bool}(h:VG g kn)(hs:Sh g)(i:Nat):VG (rnN g i AAi) kn:=by
 have hl:(g.BC.set i AAi).length=g.BC.length:=by simp
 refine⟨h.tk,h.tf,h.fam,?_,(AAw (g:=g) (g':=Koi.rnN g i AAi) (fun p=>?_) (fun _=>rfl) _ _).trans h.pr,AAv (g:=g) (g':=Koi.rnN g i AAi) rfl (Nat.le_refl _) h.lv,?_,h.sz,h.nm,h.ac⟩
 ·have:=h.BC;simp only[IY,Bool.and_eq_true,Koi.rnN,hl]at this⊢;exact⟨⟨ABK this.1.1 (ABD hs.n) (by decide),this.1.2⟩,this.2⟩
 ·have:ABC (Koi.rnN g i AAi)=ABC g:=funext fun s=>by simp only[ABC,Koi.rnN,hl]
  unfold LX;rw[this]
 ·simp only[FH,List.all_eq_true];intro f hf;have:=List.all_eq_true.1 h.fl f hf;simp only[GU,Bool.and_eq_true]at this⊢;refine⟨?_,this.2⟩;have h1:=this.1;unfold FZ at h1⊢;simp only[Koi.rnN,hl];exact h1
theorem VG.rnC{g:AF}{kn:Bool}(h:VG g kn)(hs:Sh g)(i:Nat):VG (rnC g i AAi) kn:=by
 have hl:(g.conds.set i AAi).length=g.conds.length:=by simp
 have hq:Dz AAi=true:=by unfold Dz;decide+kernel
 refine⟨h.tk,fun t ht=>by simp only[Koi.rnC,hl];exact h.tf t ht,?_,h.BC,(AAw (g:=g) (g':=Koi.rnC g i AAi) (fun _=>rfl) (fun p=>by simp only[Mz,Koi.rnC,hl]) _ _).trans h.pr,?_,?_,h.sz,h.nm,h.ac⟩
 ·have:=h.fam;simp only[FY,Bool.and_eq_true,Koi.rnC,hl]at this⊢;refine⟨⟨⟨?_,ABK this.1.1.2 (ABD hs.c) (by decide)⟩,this.1.2⟩,this.2⟩;rw[List.all_eq_true];intro s hm;rcases List.mem_or_eq_of_mem_set hm with hm|rfl
  ·exact List.all_eq_true.1 this.1.1.1 s hm
  ·exact hq
 ·have:∀(ls:List Level) (u:List Int),AAq (Koi.rnC g i AAi) u ls=AAq g u ls:=by
   intro ls;induction ls with
   |nil=>intro u;rfl
   |cons l ls ih=>intro u;simp only[AAq,ih];simp only[Koi.rnC,hl]
  exact(this _ _).trans h.lv
 ·simp only[FH,List.all_eq_true];intro f hf;have:=List.all_eq_true.1 h.fl f hf;simp only[GU,Bool.and_eq_true]at this⊢;refine⟨?_,this.2⟩;have h1:=this.1;unfold FZ at h1⊢;simp only[Koi.rnC,hl];exact h1
theorem ACZ{l:List AT}{i:Nat}(hi:i<l.length){n:ByteArray}{p:AT}(hp:p∈l.set i {l.getD i F1 with name:=n}):∃q∈l,p=q∨p={q with name:=n}:=by
 have e:l.getD i F1=l[i]:=by simp[List.getD,hi]
 rcases List.mem_or_eq_of_mem_set hp with hp|rfl
 ·exact⟨p,hp,.inl rfl⟩
 ·exact⟨l[i],List.getElem_mem hi,.inr (by rw[e])⟩
theorem VG.rnP{g:AF}{kn:Bool}(h:VG g kn)(hs:Sh g){i:Nat}(hi:i<g.AD.length):VG (rnP g i AAi) kn:=by
 have e:g.AD.getD i F1=g.AD[i]:=by simp[List.getD,hi]
 have hl:(Koi.rnP g i AAi).AD.length=g.AD.length:=by simp[Koi.rnP]
 have hmem:∀p∈(Koi.rnP g i AAi).AD,∃q∈g.AD,p=q∨p={q with name:=AAi}:=fun p hp=>ACZ hi hp;have hpr:=ABW.1 h.pr;refine⟨h.tk,h.tf,h.fam,h.BC,ABW.2 ⟨fun p hp=>?_,?_⟩,AAv (g:=g) (g':=Koi.rnP g i AAi) rfl (by rw[hl];exact Nat.le_refl _) h.lv,?_,fun p hp=>?_,fun p hp k hk hk2=>?_,?_⟩
 ·obtain⟨q,hq,rfl|rfl⟩:=hmem p hp
  ·exact hpr.1 p hq
  ·exact hpr.1 q hq
 ·have:(Koi.rnP g i AAi).AD.map (·.name)=(g.AD.map (·.name)).set i AAi:=by simp[Koi.rnP,List.map_set]
  rw[this];exact ABK hpr.2 (ABD fun s hm=>by obtain⟨p,hp,rfl⟩:=List.mem_map.1 hm;exact hs.p p hp) (by decide)
 ·simp only[FH,List.all_eq_true];intro f hf;have h0:=List.all_eq_true.1 h.fl f hf;simp only[GU,Bool.and_eq_true]at h0⊢;refine⟨?_,h0.2⟩;have h1:=h0.1;unfold FZ at h1⊢;have hpk:ABR (Koi.rnP g i AAi) f=ABR g f:=by
   have hat:∀j:Nat,(Koi.rnP g i AAi).AD[j]?=(g.AD[j]?).map fun p=>if j=i then {p with name:=AAi}else p:=fun j=>by
    simp only[Koi.rnP,List.getElem?_set,e];split
    ·next hj=>subst hj;simp[hi]
    ·next hj=>cases g.AD[j]?<;>simp[Ne.symm hj]
   have hr1:∀(j:Nat) (p:AT),(if j=i then {p with name:=AAi}else p).right=p.right:=fun j p=>by split<;>rfl
   have hr2:∀(j:Nat) (p:AT),(if j=i then {p with name:=AAi}else p).left=p.left:=fun j p=>by split<;>rfl
   unfold ABR;rw[hat,hat];cases g.AD[f.parent.toNat]? with
   |none=>rfl
   |some p=>
    cases g.AD[f.child.toNat]? with
    |none=>rfl
    |some c=>
     simp only[Option.map_some,hr1,hr2]
  rw[hpk];exact h1
 ·obtain⟨q,hq,rfl|rfl⟩:=hmem p hp
  ·exact h.sz p hq
  ·exact h.sz q hq
 ·rw[hl]at hk;obtain⟨q,hq,rfl|rfl⟩:=hmem p hp
  ·exact h.nm p hq k hk hk2
  ·intro e1;have:=congrArg ByteArray.size e1;simp[ABg,Hm,AAi]at this
 ·obtain⟨N,hN,hk⟩:=h.ac;refine⟨N,⟨fun p hp=>?_,fun p hp=>?_⟩,hk⟩
  ·obtain⟨q,hq,rfl|rfl⟩:=hmem p hp
   ·exact hN.1 p hq
   ·exact hN.1 q hq
  ·obtain⟨q,hq,rfl|rfl⟩:=hmem p hp
   ·exact hN.2 p hq
   ·exact hN.2 q hq
theorem ADj{g:AF}{i:Nat}(hi:i<g.BC.length):DX (rnN g i ⟨#[]⟩)≠0:=fun h=>by
 have:=(Ir h).2.2.2.1;simp only[IY,rnN,ABO hi,Bool.false_and]at this;cases this
theorem ADn{g:AF}{i:Nat}(hi:i<g.conds.length):DX (rnC g i ⟨#[]⟩)≠0:=fun h=>by
 have:=(Ir h).2.1;simp only[FY,rnC,ABO hi,Bool.and_false,Bool.false_and]at this;cases this
theorem ADi{g:AF}{i:Nat}(hi:i<g.AD.length):DX (rnP g i ⟨#[]⟩)≠0:=fun h=>by
 have:=(ABW.1 (Ir h).2.2.2.2.1).2;have e:(rnP g i ⟨#[]⟩).AD.map (·.name)=(g.AD.map (·.name)).set i ⟨#[]⟩:=by simp[rnP,List.map_set]
 rw[e,ABO (by simpa using hi)]at this;cases this
theorem ADY{g:AF}{i:Nat}(hi:i<g.BC.length)(n:ByteArray):rnN (rnN g i n) i g.BC[i]=g:=by simp[rnN,List.set_set]
theorem ADZ{g:AF}{i:Nat}(hi:i<g.conds.length)(n:ByteArray):rnC (rnC g i n) i g.conds[i]=g:=by simp[rnC,List.set_set]
theorem ADJ{g:AF}{i:Nat}(hi:i<g.AD.length)(n:ByteArray):rnP (rnP g i n) i g.AD[i].name=g:=by
 simp[rnP,List.getD,hi,List.set_set];exact congrArg (fun l=>({g with AD:=l}:AF)) (List.set_getElem_self hi)
open Go.Proofs DT
theorem EW{d:AN}{n:Int}(h:DS d n=true):GP d:=by
 simp only[DS,Bool.and_eq_true,decide_eq_true_eq]at h;have h1:=h.1;unfold HW at h1;unfold GP;split at h1
 ·cases h1
 ·omega
theorem U0:∀(N:Nat) (l:List Int),l.Nodup→(∀y∈l,0≤y∧y<N)→l.length≤N:=by
 intro N;induction N with
 |zero=>
  intro l _ h;cases l with
  |nil=>simp
  |cons a l=>have:=h a (by simp);omega
 |succ N ih=>
  intro l hn h;by_cases hm:(N:Int)∈l
  ·have h1:=ih (l.erase N) (hn.erase _) (fun y hy=>by
    have h2:=h y (List.mem_of_mem_erase hy);have h3:y≠N:=fun e=>by subst e;exact(List.Nodup.mem_erase_iff hn).1 hy |>.1 rfl
    omega)
   have:=List.length_erase_of_mem hm;omega
  ·have h1:=ih l hn (fun y hy=>by
    have h2:=h y hy;have h3:y≠N:=fun e=>by subst e;exact hm hy
    omega)
   omega
theorem QX{N:Nat}:∀{ps u v:List Int},AAa N u ps=some v→u.Nodup→(∀y∈u,0≤y∧y<N)→v.Nodup∧(∀y∈v,0≤y∧y<N)∧v.length=u.length+ps.length
 |[],u,v,h,h1,h2=>by simp only[AAa,Option.some.injEq]at h;subst h;exact⟨h1,h2,by simp⟩
 |p::ps,u,v,h,h1,h2=>by
  unfold AAa at h;split at h
  ·cases h
  ·rename_i hn;have hp:0≤p∧p<N∧p∉u:=by
    refine⟨by omega,?_,fun hm=>hn (.inr (.inr hm))⟩;by_cases e:(N:Int)≤p
    ·exact absurd (.inr (.inl e)) hn
    ·omega
   obtain⟨a1,a2,a3⟩:=QX h (by
    rw[List.nodup_append];exact⟨h1,by simp,fun a ha b hb=>by rw[List.mem_singleton.1 hb];intro e;subst e;exact hp.2.2 ha⟩) (fun y hy=>by
    rcases List.mem_append.1 hy with hy|hy
    ·exact h2 y hy
    ·rw[List.mem_singleton.1 hy];exact⟨hp.1,hp.2.1⟩)
   exact⟨a1,a2,by simp at a3;simp;omega⟩
theorem K0{g:AF}:∀{ls:List Level} {u:List Int},AAq g u ls=true→u.Nodup→(∀y∈u,0≤y∧y<g.AD.length)→∀l∈ls,l.AD.length≤g.AD.length∧GP l.cond
 |[],_,_,_,_=>fun l hl=>by cases hl
 |l::ls,u,h,h1,h2=>by
  unfold AAq at h;split at h
  ·rename_i hc;split at h
   ·cases h
   ·rename_i v hv;obtain⟨a1,a2,a3⟩:=QX hv h1 h2;have hl:=U0 _ _ a1 a2;intro y hy;rcases List.mem_cons.1 hy with rfl|hy
    ·refine⟨by omega,?_⟩;simp only[Bool.and_eq_true]at hc;exact EW hc.2
    ·exact K0 h a1 a2 y hy
  ·cases h
theorem Lo{g:AF}{kind:Token→Bool}{l:List Int}(h:LM g kind l=true):l.length≤g.Ak.length:=by
 simp only[LM,Bool.and_eq_true,List.all_eq_true,List.mem_range,decide_eq_true_eq]at h;obtain⟨h1,h2⟩:=h;have key:∀i,i<l.length→(i:Int)≤l.getD i 0:=by
  intro i;induction i with
  |zero=>
   intro hi;have:=h1 0 hi;simp only[AA6,Bool.and_eq_true,decide_eq_true_eq]at this;exact this.1.1.1
  |succ i ih=>
   intro hi;have h3:=ih (by omega);have:=h1 (i+1) hi;simp only[AA6,Bool.and_eq_true,decide_eq_true_eq,Bool.not_eq_true',Bool.and_eq_false_iff,decide_eq_false_iff_not,Nat.add_sub_cancel]at this;have h4:=this.1.2;omega
 have h3:=key (l.length - 1) (by omega);have h4:=h1 (l.length - 1) (by omega);simp only[AA6,Bool.and_eq_true,decide_eq_true_eq]at h4;have:=h4.1.1.2;omega
theorem DP(g:AF)(h:DX g=0):EO g:=by
 obtain⟨hl,hf,ht,hn,hp,hv,hfl⟩:=Ir h;simp only[Dg,Bool.or_eq_false_iff,decide_eq_false_iff_not,List.any_eq_false]at hl;obtain⟨⟨⟨⟨⟨⟨l1,l2⟩,l3⟩,l4⟩,l5⟩,l6⟩,l7⟩:=hl;refine⟨by omega,?_,by omega,⟨by omega,fun t hm=>?_⟩,⟨by omega,fun p hm=>?_⟩,⟨by omega,fun l hm=>?_⟩,⟨by omega,fun f hm=>?_⟩⟩
 ·simp only[FY,Bool.and_eq_true]at hf;exact EW hf.1.2
 ·simp only[ES,Bool.and_eq_true,List.all_eq_true]at ht;have h1:=ht.2 t hm;simp only[F6,Bool.and_eq_true]at h1;refine⟨?_,EW h1.1.2⟩;have h2:=h1.2;unfold II at h2;split at h2
  ·split at h2
   ·rename_i hc;unfold AAr at hc;split at hc
    ·cases hc
    ·omega
   ·cases h2
  ·simp only[Bool.and_eq_true,decide_eq_true_eq]at h2;rw[h2.2];simp
 ·have h1:=(Gm hp p hm).2;simp only[Mz,Bool.and_eq_true]at h1;have h2:=l7 p hm;simp only[Lp,Bool.or_eq_true,decide_eq_true_eq,not_or]at h2;exact⟨by omega,by omega,EW h1.1.1.1⟩
 ·obtain⟨h1,h2⟩:=K0 hv (by simp) (fun y hy=>by cases hy) l hm;exact⟨by omega,h2⟩
 ·simp only[FH,List.all_eq_true]at hfl;have h1:=hfl f hm;simp only[GU,Bool.and_eq_true]at h1;obtain⟨h1,h2⟩:=h1;unfold FZ at h1;unfold D8 at h2;split at h1
  ·rename_i hk;rw[if_pos hk]at h2;simp only[Og,Bool.and_eq_true,decide_eq_true_eq]at h1 h2;exact⟨by rw[h2.2];simp,EW h1.1⟩
  ·split at h1
   ·simp only[Bool.and_eq_true]at h1;have:=Lo h1.2;exact⟨by omega,EW h1.1.1.1⟩
   ·split at h1
    ·simp only[Bool.and_eq_true]at h1;have:=Lo h1.1.2;exact⟨by omega,EW h1.1.1⟩
    ·cases h1
end Go.Koi
