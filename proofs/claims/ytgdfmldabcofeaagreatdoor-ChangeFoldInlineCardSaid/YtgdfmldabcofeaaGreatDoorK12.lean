/-
  Part 13 of the proof that the law ChangeFoldInline returns true for every input.
-/
import Derived.Test.YtgdfmldabcofeaaGreatDoorK11
set_option maxHeartbeats 64000000
set_option maxRecDepth 100000
namespace Go.Koi
open Go renaming maxLen->al
open Go.Proofs Tryz DT
def bV(g:AE)(x:AX)(h0 h1 h i j k o q s m:V)(t:Bool):V:=.agg [.d (By g.conds),.d (AY g.fam.nodes),.d (AF g.fam.root),.d (DI g.Ae),.d (By g.A2),.d (Co g.AD),.d (AF g.start),.d (Bp g.levels),.d (BX g.AU),.d (AF x.kind),.d (AF x.number),.d (AF x.at_),.d (AF x.to),.d (BO x.name),.d (DN x.value),.d (AY x.cond.nodes),.d (AF x.cond.root),.d (Bp x.levels),.d (BX x.AU),.d (BO x.token.name),.d (AF x.token.cls),.d (BO x.token.literal),.d (Ay x.token.pattern),.d (BO x.token.Dk),.d (AY x.token.cond.nodes),.d (AF x.token.cond.root),.d (BO x.prod.name),.d (AF x.prod.left),.d (Az x.prod.right),.d (AY x.prod.cond.nodes),.d (AF x.prod.cond.root),.d (DN x.prod.bracket),.d (AF x.prod.D6),.d (Cc x.prod.layout),.d (DN x.prod.scope.opens),.d (AF x.prod.scope.declares),.d (AF x.prod.scope.kind),.d (AF x.prod.scope.FW),.d (AF x.prod.scope.allowed),.d (CP x.A4),h0,h1,h,i,j,k,o,q,s,m,.d (.bool t)]
def U6(S:Sg)(r:Nat)(g:AE)(x:AX):Prop:=∃h0 h1 h i j k o q s m t,S[r]?=some (.row true 51 [bV g x h0 h1 h i j k o q s m t])
def D1(g:AE)(x:AX):Bool:=decide (0<=x.number)&&decide (x.number<g.AD.length)
theorem Kr{S:Sg}{r:Nat}{g:AE}{x:AX}(hb:U6 S r g x):AG prog 68 [.ptr r 1 0 0] S (.d (.bool (D1 g x))) S:=by
 obtain⟨h0,h1,h,i,j,k,o,q,s,m,t,hb⟩:=hb;unfold bV at hb;refine zC func68 23 rfl λwf _=>?_;apply yW;simp;(repeat apply xS);refine yE [0,2,4,6,8,10,12,14,16,18,20,22,24,26,28,30,32,34,36,38,40] (by kernel_rfl) ?_;simp;apply yA 0;simp[hb];apply Af;refine⟨_,am,?_⟩;simp[Au,D1]
def FV:AO:=⟨⟨#[]⟩,0,[],⟨[],0⟩,false,0,[],⟨false,0,0,0,0⟩⟩
def A3(g:AE)(x:AX):AO:=g.AD.getD x.number.toNat FV
theorem KB{S:Sg}{r:Nat}{g:AE}{x:AX}(hb:U6 S r g x)(hs:S.all (Ar S.length)=true)(q:D1 g x=true):AG prog 85 [.ptr r 1 0 0] S (.d (AH (A3 g x))) S:=by
 obtain⟨h0,h1,u,v,w,z,A,B,C,m,E,hb⟩:=hb;unfold bV at hb;have s:=AZ hb;have o:∀X,(S++[X])[r]?=_:=λX=>(ej s).trans hb;simp[D1]at q;obtain⟨j,hj⟩:∃j:Nat,x.number=j:=⟨x.number.toNat,by omega⟩;have i:j<g.AD.length:=by omega
 have t:A3 g x=g.AD[j]:=by simp[A3,hj,i]
 rw[t];generalize h:g.AD[j]=p;have k:=AH.eq_1 p;refine zD func85 15 rfl λwf _=>?_;apply yW;simp;(repeat apply xS);refine yE [0,2,4,6,8,10,12,14,16,18,20,22,25] (by kernel_rfl) ?_;simp;apply yA 0;simp[o,hj,i,h,k];apply xX 4095 (by kernel_rfl);simp;apply xM;apply Af;refine⟨_,_,_,am,?_,?_,a8 S.length (by simp) (br _) (by simp) (by simpa using hs)⟩
 .simp
 .simp[k]
def Ci(g:AE)(x:AX):Bool:=D1 g x&&decide (0<=x.at_)&&(match (A3 g x).right[x.at_.toNat]? with|some s=>!s.token|none=>false)
theorem N6{S:Sg}{r:Nat}{g:AE}{x:AX}(hb:U6 S r g x)(hs:S.all (Ar S.length)=true):AG prog 82 [.ptr r 1 0 0] S (.d (.bool (Ci g x))) S:=by
 have u:=Kr hb;have k:=KB hb hs;obtain⟨h0,h1,w,z,A,B,C,E,F,m,G,hb⟩:=hb;unfold bV at hb;generalize v:A3 g x=o at *;have t:=AH.eq_1 o;refine zC func82 39 rfl λwf _=>?_;(repeat apply xS);apply yV;simp;cases h:D1 g x with
 |false=>
  have s:Ci g x=false:=by simp[Ci,h]
  rw[s];(repeat apply xS);refine yE [0,2,4,6,8,10,12,14,16,18,20,22,24,26,28,30,32,34,36,38,40,42,44,46,48,50,52,54,56,58,60,62,64,66,68,70,72] (by kernel_rfl) ?_;simp;(iterate 1 (refine Hz (by simp) ?_;simp));refine Ag.Gs (f:=68) (args:=[.ptr r 1 0 0]) u rfl (by simp;try rfl) ?_;simp;(iterate 1 (refine Hz (by simp) ?_;simp));(repeat(refine Pv rfl rfl ?_ ?_;(·simp[h]);simp[h]));(iterate 2 (refine Hz (by simp) ?_;simp));(repeat(refine Pv rfl rfl ?_ ?_;(·simp);simp));(iterate 2 (refine Hz (by simp) ?_;simp));(repeat(refine Pv rfl rfl ?_ ?_;(·simp);simp));apply yA 0;simp;apply Af;refine⟨_,am,?_⟩;simp[Au]
 |true=>
  by_cases q:0<=x.at_
  .obtain⟨j,hj⟩:∃j:Nat,x.at_=j:=⟨x.at_.toNat,by omega⟩;by_cases i:j<o.right.length
   .have s:Ci g x=!o.right[j].token:=by simp[Ci,h,v,hj,i]
    rw[s];(repeat apply xS);refine yE [0,2,4,6,8,10,12,14,16,18,20,22,24,26,28,30,32,34,36,38,40,42,44,46,48,50,52,54,56,58,60,62,64,66,68,70,72] (by kernel_rfl) ?_;simp;(iterate 1 (refine Hz (by simp) ?_;simp));refine Ag.Gs (f:=68) (args:=[.ptr r 1 0 0]) u rfl (by simp;try rfl) ?_;simp;(iterate 1 (refine Hz (by simp) ?_;simp));(iterate 14 (refine Hz (by simp[h,hb,hj]) ?_;simp[h,hb,hj]));refine Ag.I7 (g:=true) (f:=85) (args:=[.ptr r 1 0 0]) (λ_=>k h) rfl rfl (by simp;try rfl) (by simp) (by simp) ?_;simp;(iterate 6 (refine Hz (by simp[t]) ?_;simp[i,t]));refine Ag.I7 (g:=true) (f:=85) (args:=[.ptr r 1 0 0]) (λ_=>k h) rfl rfl (by simp;try rfl) (by simp) (by simp) ?_;simp;apply yA 0;simp[hb,hj,i,t,AI];apply Af;refine⟨_,am,?_⟩;simp[Au]
   .have s:Ci g x=false:=by simp[Ci,h,v,hj,i]
    rw[s];(repeat apply xS);refine yE [0,2,4,6,8,10,12,14,16,18,20,22,24,26,28,30,32,34,36,38,40,42,44,46,48,50,52,54,56,58,60,62,64,66,68,70,72] (by kernel_rfl) ?_;simp;(iterate 1 (refine Hz (by simp) ?_;simp));refine Ag.Gs (f:=68) (args:=[.ptr r 1 0 0]) u rfl (by simp;try rfl) ?_;simp;(iterate 1 (refine Hz (by simp) ?_;simp));(iterate 14 (refine Hz (by simp[h,hb,hj]) ?_;simp[h,hb,hj]));refine Ag.I7 (g:=true) (f:=85) (args:=[.ptr r 1 0 0]) (λ_=>k h) rfl rfl (by simp;try rfl) (by simp) (by simp) ?_;simp;(iterate 5 (refine Hz (by simp[t]) ?_;simp[i,t]));(repeat(refine Pv rfl rfl ?_ ?_;(·simp);simp));apply yA 0;simp;apply Af;refine⟨_,am,?_⟩;simp[Au]
  .have s:Ci g x=false:=by simp[Ci,q]
   rw[s];(repeat apply xS);refine yE [0,2,4,6,8,10,12,14,16,18,20,22,24,26,28,30,32,34,36,38,40,42,44,46,48,50,52,54,56,58,60,62,64,66,68,70,72] (by kernel_rfl) ?_;simp;(iterate 1 (refine Hz (by simp) ?_;simp));refine Ag.Gs (f:=68) (args:=[.ptr r 1 0 0]) u rfl (by simp;try rfl) ?_;simp;(iterate 1 (refine Hz (by simp) ?_;simp));(iterate 8 (refine Hz (by simp[h,hb]) ?_;simp[h,hb,q]));(repeat(refine Pv rfl rfl ?_ ?_;(·simp);simp));(iterate 2 (refine Hz (by simp) ?_;simp));(repeat(refine Pv rfl rfl ?_ ?_;(·simp);simp));apply yA 0;simp;apply Af;refine⟨_,am,?_⟩;simp[Au]
def IF(g:AE)(x:AX):Bool:=D1 g x&&decide (0<=x.at_)&&decide (x.at_<x.to)&&decide (x.to<=(A3 g x).right.length)
theorem Zq{S:Sg}{r:Nat}{g:AE}{x:AX}(hb:U6 S r g x)(hs:S.all (Ar S.length)=true):AG prog 84 [.ptr r 1 0 0] S (.d (.bool (IF g x))) S:=by
 have i:=Kr hb;have h:(D1 g x&&decide (0<=x.at_)&&decide (x.at_<x.to))=true->AG prog 85 [.ptr r 1 0 0] S (.d (AH (A3 g x))) S:=λe=>KB hb hs (by simp at e;exact e.1.1);obtain⟨h0,h1,s,t,u,v,w,z,A,m,B,hb⟩:=hb;unfold bV at hb;generalize j:A3 g x=o at *;have k:=AH.eq_1 o;have q:IF g x=(D1 g x&&decide (0<=x.at_)&&decide (x.at_<x.to)&&decide (x.to<=o.right.length)):=by simp[IF,j]
 rw[q];refine zC func84 38 rfl λwf _=>?_;apply yW;simp;(repeat apply xS);refine yE [0,2,4,6,8,10,12,14,16,18,20,22,24,26,28,30,32,34,36,38,40,42,44,46,48,50,52,54,56,58,60,62,64,66,68,70] (by kernel_rfl) ?_;simp;(iterate 1 (refine Hz (by simp) ?_;simp));refine Ag.Gs (f:=68) (args:=[.ptr r 1 0 0]) i rfl (by simp;try rfl) ?_;simp;apply yA 0;simp[hb];refine Ag.I7 (g:=D1 g x&&decide (0<=x.at_)&&decide (x.at_<x.to)) (f:=85) (args:=[.ptr r 1 0 0]) h rfl rfl (by simp;try rfl) (by simp) (by simp +contextual;try rfl) ?_;simp;apply yA 0;simp[k];apply Af;refine⟨_,am,?_⟩;simp[Au]
def LG(g:AE)(x:AX)(h:AE)(i:List Rewrite)(j:Bool):D:=.agg [By g.conds,AY g.fam.nodes,AF g.fam.root,DI g.Ae,By g.A2,Co g.AD,AF g.start,Bp g.levels,BX g.AU,AF x.kind,AF x.number,AF x.at_,AF x.to,BO x.name,DN x.value,AY x.cond.nodes,AF x.cond.root,Bp x.levels,BX x.AU,BO x.token.name,AF x.token.cls,BO x.token.literal,Ay x.token.pattern,BO x.token.Dk,AY x.token.cond.nodes,AF x.token.cond.root,BO x.prod.name,AF x.prod.left,Az x.prod.right,AY x.prod.cond.nodes,AF x.prod.cond.root,DN x.prod.bracket,AF x.prod.D6,Cc x.prod.layout,DN x.prod.scope.opens,AF x.prod.scope.declares,AF x.prod.scope.kind,AF x.prod.scope.FW,AF x.prod.scope.allowed,CP x.A4,By h.conds,AY h.fam.nodes,AF h.fam.root,DI h.Ae,By h.A2,Co h.AD,AF h.start,Bp h.levels,BX h.AU,A8 i,.bool j]
def Dl(g:AE)(x:AX)(h:AE)(m:V)(i:Bool)(j k o q:Bool):Sg:=
 [.row j 1 (h.conds.map λx=>.d (D.str x)),.row k 7 (h.Ae.map λx=>.d (Ad x)),.row o 1 (h.A2.map λx=>.d (D.str x)),.row q 13 (h.AD.map λx=>.d (AH x)),.row true 51 [bV g x (.row 0 h.conds.length) (.d (AY h.fam.nodes)) (.d (AF h.fam.root)) (.row 1 h.Ae.length) (.row 2 h.A2.length) (.row 3 h.AD.length) (.d (AF h.start)) (.d (Bp h.levels)) (.d (BX h.AU)) m i]]
def bS(g:AE)(x:AX):Sg:=Dl g x g (.full []) false (!g.conds.isEmpty) (!g.Ae.isEmpty) (!g.A2.isEmpty) (!g.AD.isEmpty)
def Jk(g:AE)(x:AX)(h:AE)(i:List Rewrite)(j:Bool):Sg:=
 [.BY (h.conds.map D.str),.BY (h.Ae.map Ad),.BY (h.A2.map D.str),.BY (h.AD.map AH),.row true 51 [.d (LG g x h i j)]]
theorem WA{n b:Nat}{tm:Tm}(g:AE)(x:AX)(h:AE)(m:V)(i:List Rewrite)(j k o q s:Bool)
  (t:m=.full (i.map Ab)):AJ prog n b tm (Dl g x h m j k o q s) tm (Jk g x h i j):=by
 subst t;have u:=c9 (P:=prog) (n:=n) (b:=b) (tm:=tm) (S:=Dl g x h (.full (i.map Ab)) j k o q s) 0 rfl (Cy _ D.str h.conds);have v:=c9 (P:=prog) (n:=n) (b:=b) (tm:=tm) (S:=(Dl g x h (.full (i.map Ab)) j k o q s).set 0 (.BY (h.conds.map D.str))) 1 rfl (Cy _ Ad h.Ae);have w:=c9 (P:=prog) (n:=n) (b:=b) (tm:=tm) (S:=((Dl g x h (.full (i.map Ab)) j k o q s).set 0 (.BY (h.conds.map D.str))).set 1 (.BY (h.Ae.map Ad))) 2 rfl (Cy _ D.str h.A2);have z:=c9 (P:=prog) (n:=n) (b:=b) (tm:=tm) (S:=(((Dl g x h (.full (i.map Ab)) j k o q s).set 0 (.BY (h.conds.map D.str))).set 1 (.BY (h.Ae.map Ad))).set 2 (.BY (h.A2.map D.str))) 3 rfl (Cy _ AH h.AD);refine(((u.trans v).trans w).trans z).trans ?_;refine i5 (P:=prog) (n:=n) (b:=b) (tm:=tm) 4 (wr:=true) (sz:=51) (xs:=[LG g x h i j]) rfl ?_;simp[Dw,Dl,bV,Dx,CF,LG]
open Go.Proofs DT
theorem AG.Fm{P:Program}{f:FuncId}{args args':List V}{S S':Sg}{v:V}(h:AG P f args S v S')(s:args'.length=args.length)
  (k:∀i (h:i<args.length) (t:i<args'.length),args[i]=args'[i]\/∃d,Ba S args'[i]=some d/\args[i]=.d d):AG P f args' S v S':=
 ⟨h.1,λG w g R u ha=>h.2 G w g R (by omega) λi hi m=>by
  have j:=ha i (by omega) m;rcases k i hi (by omega)with e|⟨d,o,q⟩
  .rw[e];exact j
  .rw[q];exact .d _ _ (j.Ba R o)⟩
abbrev Ks:=@List.set_append_left
theorem p9{S:Sg}{r:Nat}{g:AE}{x:AX}{h0 h1 i j k q s t u m:V}{v:Bool}(hb:S[r]?=some (.row true 51 [bV g x h0 h1 i j k q s t u m v]))(a b:AN)
  (hs:(S.set r (.row true 51 [bV g x h0 h1 i j k q s t u m (v||(Gr and a b).2!=0)])).all (Ar S.length)=true):
  AG prog 80 [.ptr r 1 0 0,.d (AB a),.d (AB b)] S (.d (AB (Gr and a b).1)) (S.set r (.row true 51 [bV g x h0 h1 i j k q s t u m (v||(Gr and a b).2!=0)])):=by
 unfold bV at hb hs⊢;have w:=AZ hb;have z:∀T,(S++T)[r]?=_:=λT=>(ej w).trans hb;have A:∀T o,(S++T).set r o=S.set r o++T:=λT o=>Ks _ _ w;refine zD func80 27 rfl λwf B=>?_;apply yW;simp[AB];apply yS;apply yJ;simp;refine B9 (Mw a b) rfl (by simp[AB]) (yJ ?_);simp[AB];(repeat apply xS);apply yT;apply yJ;simp[z];rw[A];have h:∀o,(S.set r o).length=S.length:=λo=>vU;(repeat apply xS);apply yT;apply yJ;simp[h,List.set_append_right];apply Af;refine⟨_,_,_,am,?_,?_,a8 S.length (by simp[h]) (br _) (by simp[h]) (by simpa[h]using hs)⟩
 .simp[h]
 .simp[h]
theorem Sr(xs:List Int)(v:Int):Pure prog 239 [A9 xs,AF v] (AF (firstIdx (·==v) xs)):=by
 refine eJ func239 rfl rfl (by simp) λwf=>?_;have o:xs.length<=maxLen:=by have:=wf.1;simp[DZ]at this;simpa using this.1
 rw[ntmps239];apply yW;simp;refine xS (yW ?_);simp;apply Bx;refine DV xs.length (λi tm S=>tm 0=.d (A9 xs)/\tm 1=.d (AF v)/\tm 8=.d (.int .i64 i)/\tm 7=.d (.int .i64 xs.length)/\S=[]/\∀j (_:j<i) (h:j<xs.length),(xs[j]==v)=false) (cq _) (by simp) ?_;rintro i tm S hi ⟨t0,t1,t8,t7,rfl,k⟩;apply yW;simp[t8,t7];apply xC;simp;refine⟨λg=>?_,λs=>?_⟩
 .apply xK;apply xB;apply yW;simp[t8];apply yS;apply yJ;simp[t0,t1,g];apply AR;simp;refine⟨λm=>?_,λm=>?_⟩
  .apply yW;simp;apply Af;refine⟨_,_,am,?_⟩;simp;exact(Cp g (by simp[m]) λj hj=>k j hj (by omega)).symm
  .apply CT;apply yV;simp[t8];refine⟨g,_,_,am,?_⟩;simp[t0,t1,t7,AL g o];intro j hj q;by_cases e:j=i
   .subst e;exact λh=>m h.symm
   .exact by simpa using k j (by omega) q
 .apply C7;apply yW;simp;apply Af;refine⟨_,_,am,?_⟩;simp;exact(firstIdx_none λj hj=>k j (by omega) hj).symm
theorem OP(xs:List Int)(v:Int):Pure prog 203 [A9 xs,AF v] (DN (xs.contains v)):=by
 refine zP func203 9 rfl λwf=>?_;apply yW;simp;(repeat apply xS);apply yT;apply yJ;simp;refine B9 (Sr xs v) rfl (by simp) (yJ ?_);simp;apply Af;refine⟨_,_,am,?_⟩;simp;have:=DL (·==v) xs;rw[eg]at this;simpa using this
theorem ZB{S:Sg}{q:Nat}{i:Int}(g:S[q]?=some (.row true 1 [.d (AF i)]))(hs:S.all (Ar S.length)=true)(l:Level):AG prog 202 [.d (Ak l),.ptr q 1 0 0] S (.d (DN (l.AD.contains i))) S:=by
 have h:∀X,(S++[X])[q]?=_:=λX=>(ej (AZ g)).trans g;refine zD func202 8 rfl λwf _=>?_;apply yW;simp[Ak];(repeat apply xS);apply yT;apply yJ;simp[h];refine B9 (OP l.AD i) rfl (by simp) (yJ ?_);simp;apply Af;refine⟨_,_,_,am,?_,?_,a8 S.length (by simp) (br _) (by simp) (by simpa using hs)⟩
 .simp
 .simp
theorem YB{S:Sg}{q:Nat}{i:Int}(k:S[q]?=some (.row true 1 [.d (AF i)]))(hs:S.all (Ar S.length)=true)(f:Filter):AG prog 205 [.d (AM f),.ptr q 1 0 0] S (.d (DN ((decide (f.kind=1)||decide (f.kind=2))&&(decide (f.parent=i)||decide (f.child=i))))) S:=by
 have h:∀X,(S++[X])[q]?=_:=λX=>(ej (AZ k)).trans k;refine zD func205 24 rfl λwf _=>?_;apply yW;simp[AM];(repeat apply xS);apply yT;(iterate 9 (refine Cd (by simp) ?_;simp));cases g:(f.kind==1||f.kind==2)with
 |false=>
  have j:(decide (f.kind=1)||decide (f.kind=2))=false:=by rw[<-g];rfl
  (repeat(refine FJ rfl ?_ ?_;(·simp);simp));apply yJ;simp;apply Af;refine⟨_,_,_,am,?_,?_,a8 S.length (by simp) (br _) (by simp) (by simpa using hs)⟩
  .simp
  .simp
 |true=>
  have j:(decide (f.kind=1)||decide (f.kind=2))=true:=by rw[<-g];rfl
  (iterate 5 ((refine QX rfl (by simp[h];try rfl) ?_);simp[h]));(iterate 4 (refine Cd (by simp[h]) ?_;simp[h]));((refine QX rfl (by simp;try rfl) ?_);simp);apply yJ;simp;apply Af;refine⟨_,_,_,am,?_,?_,a8 S.length (by simp) (br _) (by simp) (by simpa using hs)⟩
  .simp
  .simp[BEq.beq]
theorem QK{S:Sg}{q:Nat}{i:Int}(g:S[q]?=some (.row true 1 [.d (AF i)]))(hs:S.all (Ar S.length)=true)(f:Filter):AG prog 206 [.d (AM f),.ptr q 1 0 0] S (.d (DN ((decide (f.kind=3)||decide (f.kind=4))&&decide (f.left=i)))) S:=by
 have h:∀X,(S++[X])[q]?=_:=λX=>(ej (AZ g)).trans g;refine zD func206 18 rfl λwf _=>?_;apply yW;simp[AM];(repeat apply xS);apply yT;apply yJ;simp[h];apply Af;refine⟨_,_,_,am,?_,?_,a8 S.length (by simp) (br _) (by simp) (by simpa using hs)⟩
 .simp
 .simp[BEq.beq]
mutual
theorem NO{k j:Nat}(h:k<=j):∀v,AP k v=true->AP j v=true
 |.row r _,g=>by simp[AP]at g⊢;omega
 |.ptr r _ _ _,g=>by simp[AP]at g⊢;omega
 |.map r,g=>by simp[AP]at g⊢;omega
 |.fn _ m o,g=>by
  simp[AP]at g⊢;exact⟨F8 h m g.1,F8 h o g.2⟩
 |.agg i,g=>by simp[AP]at g⊢;exact F8 h i g
 |.Cb i,g=>by simp[AP]at g⊢;exact F8 h i g
 |.opt _ v,g=>by simp[AP]at g⊢;exact NO h v g
 |.any,_=>rfl
 |.d _,_=>rfl
 |.full _,_=>rfl
 |.DX _,_=>rfl
theorem F8{k j:Nat}(h:k<=j):∀g,Aw k g=true->Aw j g=true
 |[],_=>rfl
 |v::g,i=>by
  simp[Aw]at i⊢;exact⟨NO h v i.1,F8 h g i.2⟩
end
theorem Yi{k j:Nat}(h:k<=j)(o:O)(g:Ar k o=true):Ar j o=true:=by
 cases o with
 |row q sz i=>exact F8 h i g
 |map s=>
  simp only[Ar,cl]at g⊢;exact λe m=>NO h _ (g e m)
 |BY t=>rfl
 |dead=>rfl
theorem ND{S T:Sg}(hs:S.all (Ar S.length)=true)(g:T.all (Ar (S.length+T.length))=true):(S++T).all (Ar (S++T).length)=true:=by
 simp only[cl,eN,dl]at *;exact λo i=>i.elim (λh=>Yi (Nat.le_add_right _ _) o (hs o h)) (g o)
def A0:Scope:=⟨false,0,0,0,0⟩
def Ct(g:AE)(i:Int):Bool:=
 (decide ((g.AD.getD i.toNat FV).D6≠0)||decide (0<(g.AD.getD i.toNat FV).layout.length)||(g.AD.getD i.toNat FV).bracket||decide ((g.AD.getD i.toNat FV).scope≠A0))||
  (g.levels.any (λl=>l.AD.contains i)||g.AU.any λf=>(decide (f.kind=1)||decide (f.kind=2))&&(decide (f.parent=i)||decide (f.child=i)))
theorem Ho{S:Sg}{r:Nat}{g:AE}{x:AX}(hb:U6 S r g x)(hs:S.all (Ar S.length)=true){i:Int}(F:0<=i/\i<g.AD.length):AG prog 158 [.ptr r 1 0 0,.d (AF i)] S (.d (.bool (Ct g i))) S:=by
 obtain⟨h0,h1,G,H,J,K,L,M,N,m,P,u⟩:=hb;unfold bV at u;have z:=AZ u;have v:∀X,(S++[X])[r]?=_:=λX=>(ej z).trans u;have k:∀X Y,(S++[X,Y])[r]?=_:=λX Y=>(ej z).trans u;obtain⟨j,rfl⟩:∃j:Nat,i=j:=⟨i.toNat,by omega⟩;have o:j<g.AD.length:=by omega
 unfold Ct;have B:g.AD.getD (j:Int).toNat FV=g.AD[j]:=by simp[o]
 rw[B];generalize h:g.AD[j]=p;have s:=AH.eq_1 p;refine zD func158 49 rfl λwf _=>?_;apply yW;simp;(repeat apply xS);refine yE [0,2,4,6,8,10,12,14,17,19] (by kernel_rfl) ?_;simp;apply yA 1;simp[v,o,h,s];apply xX 0 (by kernel_rfl);simp[v,k,o,h,s,Ac];apply yA 1;simp;apply xX 255 (by kernel_rfl);simp[k,o,h,s,Ac];apply xM;have w:Cg [D.bool p.scope.opens,D.int IntKind.i64 p.scope.declares,D.int IntKind.i64 p.scope.kind,D.int IntKind.i64 p.scope.FW,D.int IntKind.i64 p.scope.allowed] [D.bool false,D.int IntKind.i64 0,D.int IntKind.i64 0,D.int IntKind.i64 0,D.int IntKind.i64 0]=decide (p.scope=A0):=Qe p.scope A0;refine xS (yS ?_);apply yJ;simp[w];have A:∀X,(S++[O.row true 1 [.d (AF j)],O.row true 13 [.d X]]).all (Ar (S++[O.row true 1 [.d (AF j)],O.row true 13 [.d X]]).length)=true:=λX=>ND hs (by simp[Ar,Aw,AP]);have C:=λX=>LU g.levels (λl=>l.AD.contains (j:Int)) 202 [.ptr S.length 1 0 0] (S++[O.row true 1 [.d (AF j)],O.row true 13 [.d X]]) (λl _=>ZB (q:=S.length) (by simp) (A X) l);have E:=λX=>Gx g.AU (λf=>(decide (f.kind=1)||decide (f.kind=2))&&(decide (f.parent=(j:Int))||decide (f.child=(j:Int)))) 205 [.ptr S.length 1 0 0] (S++[O.row true 1 [.d (AF j)],O.row true 13 [.d X]]) (λl _=>YB (q:=S.length) (by simp) (A X) l);(repeat apply xS);refine k6 (t:=decide (p.D6≠0)||decide (0<p.layout.length)||p.bracket||decide (p.scope≠A0)) ?_ (λhb=>?_) (λhb=>?_)
 .simp;rw[eg];simp[or_assoc]
 .rw[hb,Bool.true_or];apply yW;simp;apply Af;refine⟨_,_,_,am,?_,?_,a8 S.length (by simp) (br _) (by simp) (by simpa using hs)⟩
  .simp
  .simp
 .rw[hb,adH];apply xK;(repeat apply xS);apply yT;apply yJ;simp[k];refine gl rfl rfl (by simp) (f:=201) (args:=[.d (.sl (g.levels.map Ak)),.fn (.func 202) [] [.ptr S.length 1 0 0]]) (by simp[callee];try rfl) (by simp) (C _) (yJ ?_);simp[k];refine AV.I7 (g:=!(g.levels.any λl=>l.AD.contains (j:Int))) (f:=204) (args:=[.d (.sl (g.AU.map AM)),.fn (.func 205) [] [.ptr S.length 1 0 0]]) (λ_=>E _) rfl rfl (by simp) (by simp) (λe=>by simp at e;simp[callee];exact e) (yJ ?_);simp;apply Af;refine⟨_,_,_,am,?_,?_,a8 S.length (by simp) (br _) (by simp) (by simpa using hs)⟩
  .simp
  .simp
theorem AJ.EJ{P:Program}{n b:Nat}{tm:Tm}{S S':Sg}(k:Nat)(hS:S.take k=S')(hb:b<=k)(g:k<=S.length)(h:S'.all (Ar k)=true):AJ P n b tm S (clean k tm) S':=
 a8 k hS hb g (hS▸h)
abbrev lm:=@AJ.EJ
def Gc(g:AE)(n:Int)(i:Nat):List Int:=((List.range i).filter λj=>decide ((g.AD.getD j FV).left=n)).map λ(j:Nat)=>(j:Int)
def nQ(g:AE)(n:Int):List Int:=Gc g n g.AD.length
abbrev adT:=@decide_false
theorem RC(g:AE)(n:Int)(i:Nat):Gc g n (i+1)=if(g.AD.getD i FV).left=n then Gc g n i++[(i:Int)]else Gc g n i:=by
 unfold Gc;rw[acL,acE,su];split<;>rename_i h<;>simp only[List.filter_cons,List.filter_nil,h,R2,adT,er]<;>simp
abbrev acF:=@List.length_filter_le
theorem J1(g:AE)(n:Int)(i:Nat):(Gc g n i).length<=i:=by
 unfold Gc;rw[li];exact ke (acF _ _) (by simp)
theorem IZ{g:AE}{n:Int}{i:Nat}{v:Int}(h:v∈Gc g n i):0<=v/\v<i:=by
 unfold Gc at h;simp[eo]at h;obtain⟨j,⟨h1,_⟩,rfl⟩:=h;omega
theorem XN{S:Sg}{r:Nat}{g:AE}{x:AX}(hb:U6 S r g x)(hs:S.all (Ar S.length)=true)(F:g.AD.length<=2 ^ 20)(n:Int):AG prog 157 [.ptr r 1 0 0,.d (AF n)] S (.d (A9 (nQ g n))) S:=by
 obtain⟨h0,h1,G,H,J,K,L,M,N,m,P,k⟩:=hb;unfold bV at k;have u:=AZ k;have w:∀X,(S++[X])[r]?=_:=λX=>(ej u).trans k;have s:g.AD.length<=maxLen:=by unfold maxLen;omega
 refine zD func157 29 rfl λwf _=>?_;have t:∀i,(S++[O.row (!(Gc g n i).isEmpty) 1 ((Gc g n i).map λv=>V.d (AF v))]).all (Ar (S.length+1))=true:=λi=>by simpa using ND (T:=[O.row (!(Gc g n i).isEmpty) 1 ((Gc g n i).map λv=>V.d (AF v))]) hs (by simp[Ar])
 apply yW;simp;apply yW;simp;refine xS (yW ?_);simp[k];refine ed (ll 5 1 (xs:=[]) (by simp)) ?_;apply Bx;refine DV g.AD.length (λi tm S'=>tm 1=.d (AF n)/\tm 12=.d (Co g.AD)/\tm 14=.d (AF i)/\tm 13=.d (AF g.AD.length)/\tm 5=.row S.length (Gc g n i).length/\S'=S++[.row (!(Gc g n i).isEmpty) 1 ((Gc g n i).map λv=>.d (AF v))]) (cq _) ⟨by simp,by simp,by simp,by simp,by simp[FP,Gc],by simp[Gc]⟩ ?_;rintro i tm S' hi ⟨t1,t12,t14,t13,t5,rfl⟩;apply yW;simp[t13,t14];apply xC;simp;refine⟨λj=>?_,λQ=>?_⟩
 .have z:g.AD.getD i FV=g.AD[i]:=by simp[j]
  have h:=RC g n i;have A:=J1 g n i;rw[z]at h;generalize o:g.AD[i]=p at *;have B:=AH.eq_1 p;apply xK;apply xB;apply yS;apply yJ;simp[t12,t14,j,o,B];apply yS;apply yJ;simp[t1];apply AR;simp;refine⟨λq=>?_,λq=>?_⟩
  .rw[ap q]at h;have C:(Gc g n i).length+1<=1073741824:=by omega
   have E:1<=maxLen:=by unfold maxLen;omega
   apply yT;apply yJ;simp[t5,E,C,Ah];apply yV;simp[t14];refine⟨j,_,_,lm (S.length+1) (S':=S++[.row (!(Gc g n (i+1)).isEmpty) 1 ((Gc g n (i+1)).map λv=>.d (AF v))]) ?_ (by simp) (by simp) ?_,?_⟩
   .simp[h,List.take_length_add_append]
   .exact t _
   simp[clean,AP,t1,t12,t13,AL j s,h]
  .rw[ao q]at h;apply CT;apply yV;simp[t14];refine⟨j,_,_,lm (S.length+1) (S':=S++[.row (!(Gc g n (i+1)).isEmpty) 1 ((Gc g n (i+1)).map λv=>.d (AF v))]) ?_ (by simp) (by simp) ?_,?_⟩
   .simp[h,List.take_length_add_append]
   .exact t _
   simp[clean,AP,t1,t12,t13,t5,AL j s,h]
 .have e:i=g.AD.length:=by omega
  subst e;apply C7;apply yW;simp[t5];apply Af;refine⟨_,_,_,c9 S.length (xs:=(Gc g n g.AD.length).map AF) List.getElem?_concat_length (by simp),?_,?_,a8 S.length (by simp) (br _) (by simp) (by simpa using hs)⟩
  .simp
  .simp[nQ]
section
variable {P:Program} {n b:Nat} {ops:Array Oper} {o:Oper} {tm:Tm} {S:Sg} {K:Tm->Sg->Prop} {v:V}
def Rw(P:Program)(f:FuncId)(args:List V)(v:V)(S:Sg):Prop:=AG P f args S v S
theorem Ag.oc{B:List (Nat×(Sg->Prop))}{i:Nat}{rest:List (Nat×Bool×Oper)}{c:Call}{f:FuncId}{args:List V}(h:AG P f args S v S)(g:o.op=.call c)
  (j:o.guard=none/\BA n o.dst/\BE tm c/\callee tm c=some (f,args)) (k:Ag P n b ops ((i,Rw P f args v)::B) rest (put tm o.dst v) S K):Ag P n b ops B ((i,true,o)::rest) tm S K:=by
 obtain⟨m,q,s,t⟩:=j;exact o4 (Rw P f args v) h (λhi u hS=>wd hi g m q t s hS) k
end
theorem Pg(xs:List Int)(p:Int->Bool)(k:FuncId)(u:V)(S0:Sg)(q:∀x∈xs,AG prog k [u,.d (D.int .i64 x)] S0 (.d (.bool (p x))) S0):
  AG prog 207 [.d (.sl (xs.map (D.int .i64))),.fn (.func k) [u] []] S0 (.d (AF (firstIdx p xs))) S0:=by
 refine md func207 rfl rfl (by simp) λwf _=>?_;have s:xs.length<=maxLen:=by have:=wf.1;simp[JQ,DZ]at this;simpa using this.1
 rw[ntmps207];apply yW;simp;refine xS (yW ?_);simp;apply Bx;refine DV xs.length (λi tm S=>tm 0=.d (.sl (xs.map (D.int .i64)))/\tm 1=.fn (.func k) [u] []/\tm 8=.d (.int .i64 i)/\tm 7=.d (.int .i64 xs.length)/\S=S0/\∀j (_:j<i) (h:j<xs.length),p xs[j]=false) (cq _) (by simp) ?_;rintro i tm S hi ⟨t0,t1,t8,t7,rfl,m⟩;apply yW;simp[t8,t7];apply xC;simp;refine⟨λg=>?_,λw=>?_⟩
 .apply xK;apply xB;apply yW;simp[t8];apply yS;apply yJ;simp[t0,t1,g];refine gl (v:=.d (.bool (p xs[i]))) rfl rfl (by simp) (f:=k) (args:=[u,.d (D.int .i64 xs[i])]) (by simp;try rfl) (by simp) (q _ (b9 g)) ?_;simp;apply B6;apply AR;simp;refine⟨λo=>?_,λo=>?_⟩
  .apply yW;simp;apply Af;refine⟨_,am,?_⟩;simp[Au];exact .inl (Cp g o λj hj=>m j hj (by omega)).symm
  .apply CT;apply yV;simp[t8];refine⟨g,_,_,am,?_⟩;simp[t0,t1,t7,AL g s];intro j hj t;by_cases e:j=i
   .subst e;exact o
   .exact m j (by omega) t
 .apply C7;apply yW;simp;apply Af;refine⟨_,am,?_⟩;simp[Au];exact .inl (firstIdx_none λj hj=>m j (by omega) hj).symm
theorem Ma(xs:List Int)(p:Int->Bool)(k:FuncId)(u:V)(S0:Sg)(g:∀x∈xs,AG prog k [u,.d (D.int .i64 x)] S0 (.d (.bool (p x))) S0):
  AG prog 160 [.d (.sl (xs.map (D.int .i64))),.fn (.func k) [u] []] S0 (.d (.bool (xs.any p))) S0:=by
 refine zC func160 9 rfl λwf _=>?_;apply yW;simp;(repeat apply xS);apply yT;apply yJ;simp;refine gl rfl rfl (by simp) (f:=207) (args:=[.d (.sl (xs.map (D.int .i64))),.fn (.func k) [u] []]) (by simp[callee]) (by simp) (Pg xs p k u S0 g) (yJ ?_);simp;apply Af;refine⟨_,am,?_⟩;simp[Au];have:=DL p xs;simp at this;simp[this]
def I2(g:AE)(x:AX):Symbol:=(A3 g x).right.getD x.at_.toNat ⟨false,0⟩
def Gp(g:AE)(x:AX):Bool:=
 (nQ g (I2 g x).index).any (Ct g)||g.AU.any λf=>(decide (f.kind=3)||decide (f.kind=4))&&decide (f.left=(I2 g x).index)
theorem EP{g:AE}{x:AX}(h:Ci g x=true):D1 g x=true/\∃j:Nat,x.at_=j/\∃hj:j<(A3 g x).right.length,I2 g x=(A3 g x).right[j]/\(I2 g x).token=false:=by
 simp[Ci]at h;obtain⟨⟨h1,q⟩,i⟩:=h;obtain⟨j,hj⟩:∃j:Nat,x.at_=j:=⟨x.at_.toNat,by omega⟩;refine⟨h1,j,hj,?_⟩;rw[hj]at i;simp at i;split at i
 .rename_i s m;obtain⟨k,o⟩:=df.1 m;refine⟨k,?_,?_⟩
  .simp[I2,hj,k]
  .simp[I2,hj,k,o];simpa using i
 .cases i
theorem Kc{S:Sg}{r:Nat}{g:AE}{x:AX}(hb:U6 S r g x)(hs:S.all (Ar S.length)=true)(H:g.AD.length<=2 ^ 20)(J:Ci g x=true):AG prog 159 [.ptr r 1 0 0] S (.d (.bool (Gp g x))) S:=by
 obtain⟨F,j,hj,w,z,Z⟩:=EP J;have k:=KB hb hs F;have wM:=hb;obtain⟨h0,h1,K,L,M,N,P,Q,R,m,T,t⟩:=hb;have G:=AZ t;have C:∀X,U6 (S++[X]) r g x:=λX=>⟨h0,h1,K,L,M,N,P,Q,R,m,T,(ej G).trans t⟩;unfold bV at t;have i:∀X,(S++[X])[r]?=_:=λX=>(ej G).trans t;have A:∀X,(S++[O.row true 1 [.d X]]).all (Ar (S++[O.row true 1 [.d X]]).length)=true:=λX=>ND hs (by simp[Ar,Aw,AP]);have h:∀X,AG prog 85 [.ptr r 1 0 0] (S++[O.row true 1 [.d X]]) (.d (AH (A3 g x))) (S++[O.row true 1 [.d X]]):=λX=>KB (C _) (A X) F;unfold Gp;generalize I2 g x=s at *;generalize A3 g x=o at *;have u:=AH.eq_1 o;have E:=XN (C (O.row true 1 [.d (AF s.index)])) (A _) H s.index;have U:=Ma (nQ g s.index) (Ct g) 158 (.ptr r 1 0 0) (S++[O.row true 1 [.d (AF s.index)]]) (λv W=>Ho (C _) (A _) (IZ W));have Y:=Gx g.AU (λf=>(decide (f.kind=3)||decide (f.kind=4))&&decide (f.left=s.index)) 206 [.ptr S.length 1 0 0] (S++[O.row true 1 [.d (AF s.index)]]) (λl _=>QK (q:=S.length) (by simp) (A _) l);have B:=AI.eq_1 s;simp[u,Az,AY,Cc,AF,DN,BO]at h;refine zD func159 30 rfl λwf _=>?_;apply yW;simp;refine yD [0,2,4,6,8,10,12,14,16,18,20,23,25] (by kernel_rfl) ?_;simp;apply yA 1;simp;refine Ag.oc (f:=85) (args:=[.ptr r 1 0 0]) k rfl (by simp;try rfl) ?_;simp;apply yA 1;simp[t,hj,w,z.symm,u,B];apply xX 0 (by kernel_rfl);simp[i,hj,w,z.symm,B,Ac,Rw,h];apply yA 1;simp;apply xX 2047 (by kernel_rfl);simp[i,hj,w,z.symm,B,Ac,Rw,h];apply xM;(repeat apply xS);apply yT;apply yJ;simp;refine gl rfl rfl (by simp) (f:=157) (args:=[.ptr r 1 0 0,.d (AF s.index)]) (by simp[callee];try rfl) (by simp) E (yJ ?_);simp;refine gl rfl rfl (by simp) (f:=160) (args:=[.d (.sl ((nQ g s.index).map (D.int .i64))),.fn (.func 158) [.ptr r 1 0 0] []]) (by simp[callee];try rfl) (by simp) U (yJ ?_);simp[i];refine AV.I7 (g:=!((nQ g s.index).any (Ct g))) (f:=204) (args:=[.d (.sl (g.AU.map AM)),.fn (.func 206) [] [.ptr S.length 1 0 0]]) (λ_=>Y) rfl rfl (by simp) (by simp) (λe=>by simp at e;simp[callee];exact e) (yJ ?_);simp;apply Af;refine⟨_,_,_,am,?_,?_,a8 S.length (by simp) (br _) (by simp) (by simpa using hs)⟩
 .simp
 .simp
abbrev bv:=@IntKind.wrap_i64
abbrev ado:=@List.size_toArray
section
variable {P:Program} {n:Nat} {o:Oper} {tm:Tm} {S S':Sg} {v:V}
theorem Td{w:World}{B xT E ty:TypeId}{e:TI}{z:Value}{base:Option Addr}{m:Nat}(h0:0<m)(F:m<=2 ^ 30)
  (hs:As P B=some E) (i:ti P E=some e) (G:e.zero=some z) (_:z.cells.size=e.size) (H:P.underlying xT=some (.int .i64)) (x7:e.bytes<=65536):
  ∃j k,m<=j/\j<=maxLen/\k.heap=w.heap/\k.os=w.os/\k.output=w.output/\(Builtin.append_ #[B,xT] ty #[.slice base 0 0,.int .i64 m]).run P w=
    .ok (.slice (some ⟨w.heap.size,0,none⟩) m j) (Bn k (.cells (#[]++(if m * e.size=0 then #[]else Builtin.zeroCells z.cells m)++Builtin.zeroCells z.cells (j - m)) E (0,0))):=by
 obtain⟨t,t1,t2⟩:=BJ hs;obtain⟨d,J,q⟩:=An t1 w;have s:d=.slice E:=by rw[t2]at q;cases d<;>simp[tk]at q⊢;exact q
 subst s;have u:∀w,(underlying xT).run P w=.ok (.int .i64) w:=λw=>by simp[underlying,H]
 have K:=Bi i;obtain⟨g,L,i2,i3,i4⟩:=Ds i w;obtain⟨C,A,M,N,Q⟩:=Ds i {w with drawn:=w.drawn+1};have R:IntKind.i64.wrap (m:Int)=m:=by rw[bv];omega
 have T:(Question.appendCap (0+m) 0 E).forced=false:=rfl;refine⟨(Question.appendCap (0+m) 0 E).cut (w.tape w.drawn (.appendCap (0+m) 0 E)),{w with drawn:=w.drawn+1},?_,?_,rfl,rfl,rfl,?_⟩
 .simp[Question.cut]
 .simp only[Question.cut,maxLen];have:w.tape w.drawn (Question.appendCap (0+m) 0 E) % (2 ^ 63 - (0+m))<2 ^ 63 - (0+m):=gc _ (by omega);omega
 .have U:¬((m:Int) * g.bytes>2 ^ 48):=by
   have:(g.bytes:Int) * m<=281474976710656:=by
    have h:g.bytes * m<=65536 * 2 ^ 30:=Ot (by omega) F;have:((g.bytes * m:Nat):Int)<=281474976710656:=by omega
    rwa [Int.natCast_mul]at this
   rw[Int.mul_comm];omega
  have W:¬(Builtin.nextslicecap (0+m) 0 * g.bytes>2 ^ 48):=by
   have X:=Pe (need:=0+m) (cap:=0) (by omega);have h4:Builtin.nextslicecap (0+m) 0 * g.bytes<=(2 * (0+m)+768) * 65536:=Ot X (by omega);omega
  have Y:¬(((0+m:Nat):Int)>IntKind.i64.max/\(True\/g.bytes=0)):=by
   have:IntKind.i64.max=9223372036854775807:=by decide
   omega
  have Z:¬((m:Int)<0):=by omega
  have v7:¬(0+m<=0):=by omega
  unfold Builtin.append_;simp only[adr,ab5,of,gI,J,ge,K,u,l6,asInt,asIntOf,R,Sem.run_ite,ao Z,L,ao U,ao v7,ap,ao W,ii];have hf:∀w:World,(Builtin.firstCells e.size 0 (.slice base 0 0)).run P w=.ok #[] w:=λw=>by
   cases base<;>simp[Builtin.firstCells,loadCells,loadCellsFrom]
  simp only[ao Y,run_choose,T,lh,fc,ge,A,run_askRoom,hf,adh,EH i _ G];split
  .simp[newRow,Bn];rfl
  .simp[newRow,Bn];rfl
theorem VX{c:Call}{t xT E:TypeId}{x y:Operand}{e:TI}{z:Value}{m:Nat}(T:o.op=.call c)(U:c.callee=.builtin .append)(W:c.args=#[x,y])(X:c.argTypes=#[t,xT])
  (u:need (ev tm x)) (Y:need (ev tm y)) (hs:As P t=some E) (A:P.underlying xT=some (.int .i64)) (Z:ti P E=some e) (hz:e.zero=some z) (h:z.cells.size=e.size) (C:(At (OC z)||Bw (OC z))=true) (x7:e.bytes<=65536)
  (ex:strip (ev tm x)=.full []) (ey:strip (ev tm y)=.d (.int .i64 m)) (h0:0<m) (hm:m<=2 ^ 30):
  Cf P n o tm S (.row S.length m) (S++[.row true e.size (List.replicate m (OC z))]):=.val λG w a st=>by
 have h1:=(BV st x).strip u;have h2:=CE st Y ey;rw[ex]at h1;generalize F:a.eval x=B at h1;cases h1 with
 |full _ base xa=>
  obtain⟨g,q,H,J,K,e2,e3,vm⟩:=Td (P:=P) (w:=w) (ty:=o.type) (base:=base) h0 hm hs Z hz h A x7;have M:(execOp a.eval o).run P w=((Builtin.append_ #[t,xT] o.type #[a.eval x,a.eval y]).run P w).andThen λv w'=>.ok (.value v) w':=by
   simp[execOp,T,resolve,U,W,X,invoke,builtin]
  rw[F,h2]at M;obtain⟨q1,q2,q3⟩:=st.rel.drawn K e2 e3;obtain⟨r1,r2,N⟩:=q1.add g (.row true e.size (List.replicate m (OC z))) (.cells (#[]++(if m * e.size=0 then #[]else Builtin.zeroCells z.cells m)++Builtin.zeroCells z.cells (g - m)) E (0,0)) (λL=>by
   have hv:(G.at S.length q.heap.size g none).BB S.length=none:=by simp[Gh.at]
   have yk:(G.at S.length q.heap.size g none).B3 S.length=q.heap.size:=by simp[Gh.at]
   have zg:(G.at S.length q.heap.size g none).cap S.length=(g,0):=by simp[Gh.at]
   simp only[OK,hv,yk,zg];refine⟨_,E,D2,?_,by simpa using H,by simp[maxLen];omega,λi hi=>?_⟩
   .refine ad3 (Eq.symm ?_);have:(if m * e.size=0 then(#[]:Array Value)else Builtin.zeroCells z.cells m).size=m * e.size:=by
     split<;>simp[Eh, *]
    simp only[X7,Eh,h,va,this,ado,j0];rw[<-nc];congr 1;omega
   .have hi:i<m:=by simpa using hi
    have Q:=IJ (G.at S.length q.heap.size g none) (S++[.row true e.size (List.replicate m (OC z))]) (Bn q (.cells (#[]++(if m * e.size=0 then #[]else Builtin.zeroCells z.cells m)++Builtin.zeroCells z.cells (g - m)) E (0,0))) z;obtain⟨c1,c2,_⟩:=Q.cells (by simpa using C);refine⟨z,by simpa using Q,h,λx u=>?_,λj hj=>?_⟩
    .obtain⟨k,hk,rfl⟩:=EQ.1 u;exact c2 k hk
    .have vc:=FL hi hj;have s:(i * e.size+j) % z.cells.size=j:=by rw[h,R1,adL];exact qr hj
     have xe:j<z.cells.size:=by omega
     have vh:m * e.size≠0:=by omega
     have R:i * e.size+j<m * z.cells.size:=by rw[h];exact vc
     rw[ao vh,va,Array.empty_append,abX (by rw[Eh];exact R)];simp[Builtin.zeroCells,R,s,xe])
  rw[K]at r1 r2 N;refine⟨_,_,_,by rw[M];simp only[j0];rw[vm];rfl,?_,r1,q2.trans r2,q3.trans N⟩;refine .row _ _ _ rfl (by simp) λm' wO=>?_;have:m'=m:=by simpa[lenOf]using wO.symm
  subst this;exact⟨br _,λ_=>by simp[Gh.BZ,Gh.at]⟩
theorem AV.SL{ops:Array Oper}{b:Nat}{K:Tm->Sg->Prop}{rest:List Oper}{c:Call}{i xT E:TypeId}{x y:Operand}{bt:Nat}(m:Nat)(z:V)(sz:Nat)(q:o.op=.call c)(s:c.callee=.builtin .append)(w:c.args=#[x,y])(A:c.argTypes=#[i,xT])
  (B:o.guard=none/\BA n o.dst/\need (ev tm x)/\need (ev tm y)/\strip (ev tm x)=.full []/\strip (ev tm y)=.d (.int .i64 m)) (g:P.underlying xT=some (.int .i64))
  (j:As P i=some E) (C:Ax P E=some z) (hs:Aq P E=some sz) (F:Am P E=some bt) (G:bt<=65536) (h:(Ai z).length=sz/\(At z||Bw z)=true) (h0:0<m) (H:m<=2 ^ 30)
  (J:AV P n b ops rest (put tm o.dst (.row S.length m)) (S++[.row true sz (List.replicate m z)]) K):AV P n b ops (o::rest) tm S K:=by
 obtain⟨L,M,N,Q,R,T⟩:=B;obtain⟨t,W,X⟩:=BJ j;obtain⟨e,f1,f2,_⟩:=CM hs;obtain⟨U,u,k1,k2,k3⟩:=Eo C;rw[f1]at k1;cases k1;obtain⟨U,l1,l2⟩:=Jp F;rw[f1]at l1;cases l1;subst k3;obtain⟨Y,k⟩:=h;obtain⟨c1,_⟩:=(IJ {I:=λ_=>False,B3:=λ_=>0,cap:=λ_=>(0,0),BB:=λ_=>none} ([]:Sg) (default:World) u).cells (by simpa using k);subst f2;exact AV.Zt ⟨L,M⟩ (VX q s w A N Q j g f1 k2 (by omega) k (by omega) R T h0 H) J
theorem Yf{T E:TypeId}{x y:Operand}{e:TI}{t:TI}{k:IntKind}(j:o.op=.slice T x none (some y) none)(m:need (ev tm x))
  (q:strip (ev tm x)=.full []) (s:ti P T=some t) (u:t.kind=.slice E) (z:ti P E=some e) (A:need (ev tm y)) (C:strip (ev tm y)=.d (.int k 0)):
  Cf P n o tm S (.full []) S:=.pure λG w a st=>by
 have g:=(BV st x).strip m;obtain⟨d,F,h⟩:=An s w;have i:d=.slice E:=by rw[u]at h;cases d<;>simp[tk]at h⊢;exact h
 subst i;rw[q]at g;generalize H:a.eval x=B at g;cases g with
 |full _ b K=>
  have J:=CE st A C;have hb:(Instr.sliceBounds true 0 0 none (some (a.eval y)) none).run P w=.ok (0,0,0) w:=by
   unfold Instr.sliceBounds;simp[J,Cm (vb 0) (show(0:Int)<=((0:Nat):Int)from vb 0)]
  refine⟨.slice b 0 0,?_,?_⟩
  .simp[execOp,j,Instr.sliceAt,H,F,Instr.slice,hb,Bi z]
  .exact .full [] b (.nil b 0)
theorem AV.WG{ops:Array Oper}{b:Nat}{K:Tm->Sg->Prop}{rest:List Oper}{T E:TypeId}{x y:Operand}{sz:Nat}(g:o.op=.slice T x none (some y) none)
  (h:o.guard=none/\BA n o.dst/\need (ev tm x)/\strip (ev tm x)=.full []/\need (ev tm y)/\∃k,strip (ev tm y)=.d (.int k 0)) (i:As P T=some E) (hs:Aq P E=some sz)
  (j:AV P n b ops rest (put tm o.dst (.full [])) S K):AV P n b ops (o::rest) tm S K:=by
 obtain⟨m,q,s,u,w,k,z⟩:=h;obtain⟨t,A,B⟩:=BJ i;obtain⟨e,f1,f2,_⟩:=CM hs;exact AV.Zt ⟨m,q⟩ (Yf g s u A B f1 w z) j
end
theorem lS(n:Nat)(hn:n<=2 ^ 30):AG prog 208 [.full [],.d (AF n)] [] (.row 0 0) [.row (decide (0<n)) 2 []]:=by
 refine zC func208 27 rfl λwf _=>?_;apply yW;simp;refine xS (yW ?_);simp;apply AR;simp;refine⟨λh=>absurd h (by omega),?_⟩;apply CT;have i:IntKind.i64.wrap (n:Int)=n:=by rw[bv];omega
 have g:IntKind.i64.wrap 0=0:=by decide
 refine xS (yW ?_);simp[i,g];apply yW;simp;apply AR;simp;refine⟨λh=>?_,λh=>?_⟩
 .have h0:0<n:=by omega
  have j:prog.underlying 3=some (.int .i64):=by kernel_rfl
  apply yT;(iterate 3 (refine Cd (by simp) ?_;simp));refine AV.WG (E:=70) (sz:=2) rfl (by simp) (by simp) (by simp) ?_;simp;(iterate 1 (refine Cd (by simp) ?_;simp));refine AV.SL (E:=70) (bt:=16) n (.agg [.d (.bool false),.d (.int .i64 0)]) 2 rfl rfl rfl rfl (by simp) j (by simp) (by simp) (by simp) (by simp) (by simp) (by simp) h0 hn ?_;simp;(iterate 2 (refine Cd (by simp) ?_;simp));(refine AV.J2 0 n 2 (List.replicate n (.agg [.d (.bool false),.d (.int .i64 0)])) 0 0 rfl ?_ ?_)
  .simp[sE]
  .simp;apply yJ;simp;apply yW;simp;apply Af;refine⟨_,rx [1] (S0:=[.row (decide (0<n)) 2 []]) (by simp[h0]) (by simp) (by simp),?_⟩;simp[Au,pick];try decide
 .have h0:n=0:=by omega
  subst h0;apply xK;apply yW;simp;apply Af;refine⟨_,ll 4 2 (xs:=[]) (by simp),?_⟩;simp[Au]
def Gz(g:List (List Symbol))(i:Nat):List Symbol:=(g.take i).flatten
abbrev zo:=@List.flatten_append
abbrev K2:=@List.flatten_cons
theorem On(g:List (List Symbol)){i:Nat}(h:i<g.length):Gz g (i+1)=Gz g i++g[i]:=by
 unfold Gz;rw[pe h,zo];simp[List.flatten_nil]
theorem Qx(g:List (List Symbol)):Gz g g.length=g.flatten:=by unfold Gz;rw[ne]
abbrev wN:=@List.take_append_drop
theorem bh(g:List (List Symbol))(i:Nat):(Gz g i).length<=g.flatten.length:=by
 unfold Gz;conv=>rhs;rw[<-wN i g,zo,eN]
 omega
abbrev adA:=@List.mem_flatten
abbrev acw:=@List.length_pos_of_mem
theorem Mo(g:List (List Symbol))(hn:g.flatten.length<=2 ^ 30):Pure prog 161 [.sl (g.map λxs=>Az xs)] (Az g.flatten):=by
 have q:∀i,(Gz g i).length<=2 ^ 30:=λi=>ke (bh g i) hn;have k:Gz g 0=[]:=rfl;refine eJ func161 rfl rfl (by simp) λwf=>?_;have t:g.length<=al:=by have:=wf.1;simp[DZ]at this;simpa using this.1
 rw[ntmps161];apply yW;simp;apply yW;simp;refine xS (yW ?_);simp;apply Bx;refine DV g.length (λi tm S=>tm 0=.d (.sl (g.map λxs=>Az xs))/\tm 9=.d (.sl (g.map λxs=>Az xs))/\tm 11=.d (.int .i64 i)/\tm 10=.d (.int .i64 g.length)/\tm 3=.d (AF (Gz g i).length)/\S=[]) (cq _) (by simp[k]) ?_;rintro i tm S hi ⟨t0,t9,t11,t10,t3,rfl⟩;apply yW;simp[t10,t11];apply xC;simp;refine⟨λj=>?_,λu=>?_⟩
 .apply xK;apply xB;have m:(Gz g (i+1)).length=(Gz g i).length+g[i].length:=by rw[On g j,eN]
  have o:=q (i+1);have A:=q i;rw[m]at o;have v:IntKind.i64.wrap ((Gz g i).length+g[i].length:Int)=((Gz g (i+1)).length:Int):=by rw[bv,m];omega
  apply yW;simp[t9,t11,j];apply yW;simp[t3,v];apply yW;simp;apply AR;simp;refine⟨λh=>?_,?_⟩
  .exact absurd h (by omega)
  .apply CT;apply yV;simp[t11];refine⟨j,_,_,am,?_⟩;simp[t0,t9,t10,AL j t]
 .have e:i=g.length:=by omega
  subst e;rw[Qx]at t3;apply C7;apply yS;apply yJ;simp[t3];refine xF (lS g.flatten.length hn) [] rfl ?_;simp;apply yJ;simp;refine xS (yW ?_);simp[t0];apply Bx;generalize s:g.flatten.length=F at *;refine DV g.length (λi tm S=>tm 25=.d (.sl (g.map λxs=>Az xs))/\tm 27=.d (.int .i64 i)/\tm 26=.d (.int .i64 g.length)/\tm 6=.row 0 (Gz g i).length/\S=[.row (decide (0<F)) 2 ((Gz g i).map λx=>.d (AI x))]) (cq _) (by simp[k,<-s]) ?_;rintro i tm S hi ⟨t25,t27,t26,t6,rfl⟩;apply yW;simp[t26,t27];apply xC;simp;refine⟨λj=>?_,λu=>?_⟩
  .have m:=On g j;have o:=q (i+1);rw[m,eN]at o;have w:(decide (0<F)||!g[i].isEmpty)=decide (0<F):=by
    cases h:g[i]with
    |nil=>simp
    |cons y B=>
     have:y∈g.flatten:=adA.2 ⟨_,b9 j,by rw[h];simp⟩;have:0<F:=by rw[<-s];exact acw this
     simp[this]
   apply xK;apply xB;apply yW;simp[t25,t27,j];apply yT;apply yJ;simp[t6,o,Ah];apply yV;simp[t27];refine⟨j,_,_,am,?_⟩;simp[t25,t26,AL j t,m,w]
  .have e:i=g.length:=by omega
   subst e;rw[Qx]at t6⊢;generalize z:g.flatten=L at *;apply C7;apply yW;simp[t6];apply Af;refine⟨_,_,c9 0 (xs:=L.map AI) rfl (by simp),?_⟩;simp[s,Ba];rw[<-z];simp
def Be(p:Int):Cw:=⟨-1,p,-1,ByteArray.empty⟩
def DO(i:Int):Cw:=⟨i,-1,-1,ByteArray.empty⟩
theorem MB(p:Int):Pure prog 164 [AF p] (A7 (Be p)):=by
 refine zP func164 5 rfl λwf=>?_;apply yW;simp;apply yW;simp;apply Af;refine⟨_,_,am,?_⟩;simp[Be,A7]
def BF(a:Nat):Nat->List Cw
 |0=>[]
 |k+1=>BF a k++[DO ((a+k:Nat):Int)]
theorem CL(a k:Nat):(BF a k).length=k:=by
 induction k with
 |zero=>rfl
 |succ k g=>simp[BF,g]
abbrev h9:=@or_imp
abbrev h8:=@forall_and
theorem J5(xs:List Cw)(w:Bool)(a k:Nat)(h:xs.length+k<=2 ^ 30)(ha:a+k<=2 ^ 31):
  AG prog 163 [.row 0 xs.length,.d (AF a),.d (AF (a+k:Nat))] [.row w 4 (xs.map λt=>.d (A7 t))] (.row 0 (xs.length+k)) [.row (w||decide (0<k)) 4 ((xs++BF a k).map λt=>.d (A7 t))]:=by
 refine zC func163 20 rfl λwf _=>?_;apply yW;simp;refine xS (yW ?_);simp;apply Bx;refine DV k (λi tm S=>tm 0=.row 0 (xs.length+i)/\tm 2=.d (AF (a+k:Nat))/\tm 7=.d (AF (a+i:Nat))/\S=[.row (w||decide (0<i)) 4 ((xs++BF a i).map λt=>.d (A7 t))]) (cq _) (by simp[BF]) ?_;rintro i tm S hi ⟨t0,t2,t7,rfl⟩;refine xS (yW ?_);simp[t2,t7];apply AR;simp;refine⟨λj=>?_,λs=>?_⟩
 .have j:i<k:=by omega
  have m:IntKind.i64.wrap ((a:Int)+i+1)=(a:Int)+(i+1):=by rw[bv];omega
  have o:xs.length+i+1<=1073741824:=by omega
  have q:1<=al:=by unfold al;omega
  have g:=CL a i;apply xK;apply xB;apply yT;apply yJ;simp[t0,t7,q,o,Ah,g,h9,h8];apply yV;simp[t7,m];refine⟨j,_,_,am,?_⟩;simp[t2,BF,nl,A7,DO]
 .have e:i=k:=by omega
  subst e;apply C7;apply yW;simp[t0];apply Af;refine⟨_,am,?_⟩;simp[Au]
theorem Sd{S:Sg}{r q k:Nat}{g:AE}{x:AX}{h0 h1 C E F G H J m:V}{K w:Bool}{els:List V}(hb:S[r]?=some (.row true 51 [bV g x h0 h1 C E F (.row q k) G H J m K]))(u:S[q]?=some (.row w 13 els))(U:els.length=k)(Z:k+1<=2 ^ 30)(W:Ah 13 els)(p:AO)
  (hs:((S.set q (.row true 13 (els++[.d (AH p)]))).set r (.row true 51 [bV g x h0 h1 C E F (.row q (k+1)) G H J m K])).all (Ar S.length)=true):
  AG prog 162 [.ptr r 1 0 0,.d (AH p)] S (.d (AF k)) ((S.set q (.row true 13 (els++[.d (AH p)]))).set r (.row true 51 [bV g x h0 h1 C E F (.row q (k+1)) G H J m K])):=by
 unfold bV at hb hs⊢;have s:=AZ hb;have v:=AZ u;have t:q≠r:=λe=>by subst e;rw[hb]at u;cases u
 have z:∀T,(S++T)[r]?=_:=λT=>(ej s).trans hb;have A:∀T,(S++T)[q]?=_:=λT=>(ej v).trans u;have vn:∀T o,(S++T).set r o=S.set r o++T:=λT o=>Ks _ _ s;have L:∀T o,(S++T).set q o=S.set q o++T:=λT o=>Ks _ _ v;have h:∀o,(S.set q o).length=S.length:=λo=>vU;have P:∀T o i,(S.set q o++T).set r i=(S.set q o).set r i++T:=λT o i=>Ks _ _ (by rw[h];exact s);have B:∀T o,(S.set q o++T)[r]?=_:=λT o=>((ej (by rw[h];exact s)).trans (nt t)).trans hb;have Q:∀T o i,((S.set q o).set r i++T)[r]?=some i:=λT o i=>(ej (by rw[vU,h];exact s)).trans (zl (by rw[h];exact s));have M:∀T o i,((S.set q o).set r i++T)[q]?=some o:=λT o i=>(ej (by rw[vU,h];exact v)).trans ((nt (le t)).trans (zl v));have j:=AH.eq_1 p;have R:1<=al:=by unfold al;omega
 have X:k+1<=1073741824:=by omega
 have Y:IntKind.i64.wrap (k:Int)=k:=by rw[bv];omega
 have N:(∀y,y∈els->(Ai y).length=13/\(At y=true\/Bw y=true))↔True:=iff_true_intro (by simpa[Ah]using W);subst U;refine zD func162 24 rfl λwf _=>?_;apply yW;simp[j];refine yD [0,2,4,6,8,10,12,14,17,18,20,22,25] (by kernel_rfl) ?_;simp;apply yA 1;simp[z,R];apply xX 5 (by kernel_rfl);simp[z,A,B,Ac,L,X,N,Ah,R];apply yA 1;simp[B];apply xX 505 (by kernel_rfl);simp[B,Q,Ac,P];apply xM;(repeat apply xS);apply yT;apply yJ;simp[Q,M,Y];apply Af;refine⟨_,_,_,am,?_,?_,a8 S.length (by simp[h,j]) (br _) (by simp[h]) (by simpa[h,j]using hs)⟩
 .simp
 .simp
theorem Ub{S:Sg}{r q k:Nat}{g:AE}{x:AX}{h0 h1 B C E F G H m:V}{J w:Bool}{els:List V}(hb:S[r]?=some (.row true 51 [bV g x h0 h1 B C (.row q k) E F G H m J]))(t:S[q]?=some (.row w 1 els))(R:els.length=k)(Y:k+1<=2 ^ 30)(U:Ah 1 els)
  (hs:((S.set q (.row true 1 (els++[.d (BO x.name)]))).set r (.row true 51 [bV g x h0 h1 B C (.row q (k+1)) E F G H m J])).all (Ar S.length)=true):
  AG prog 165 [.ptr r 1 0 0] S (.d (AI ⟨false,k⟩)) ((S.set q (.row true 1 (els++[.d (BO x.name)]))).set r (.row true 51 [bV g x h0 h1 B C (.row q (k+1)) E F G H m J])):=by
 unfold bV at hb hs⊢;have j:=AZ hb;have u:=AZ t;have s:q≠r:=λe=>by subst e;rw[hb]at t;cases t
 have v:∀T,(S++T)[r]?=_:=λT=>(ej j).trans hb;have z:∀T,(S++T)[q]?=_:=λT=>(ej u).trans t;have Z:∀T o,(S++T).set r o=S.set r o++T:=λT o=>Ks _ _ j;have K:∀T o,(S++T).set q o=S.set q o++T:=λT o=>Ks _ _ u;have h:∀o,(S.set q o).length=S.length:=λo=>vU;have N:∀T o i,(S.set q o++T).set r i=(S.set q o).set r i++T:=λT o i=>Ks _ _ (by rw[h];exact j);have A:∀T o,(S.set q o++T)[r]?=_:=λT o=>((ej (by rw[h];exact j)).trans (nt s)).trans hb;have P:∀T o i,((S.set q o).set r i++T)[r]?=some i:=λT o i=>(ej (by rw[vU,h];exact j)).trans (zl (by rw[h];exact j));have L:∀T o i,((S.set q o).set r i++T)[q]?=some o:=λT o i=>(ej (by rw[vU,h];exact u)).trans ((nt (le s)).trans (zl u));have Q:1<=al:=by unfold al;omega
 have W:k+1<=1073741824:=by omega
 have X:IntKind.i64.wrap (k:Int)=k:=by rw[bv];omega
 have M:(∀y,y∈els->(Ai y).length=1/\(At y=true\/Bw y=true))↔True:=iff_true_intro (by simpa[Ah]using U);subst R;refine zD func165 27 rfl λwf _=>?_;apply yW;simp;refine yD [0,2,4,6,8,10,12,14,16,18,20,22,25,26,28,30,33] (by kernel_rfl) ?_;simp;apply yA 1;simp[v,Q];apply xX 65 (by kernel_rfl);simp[v,z,A,Ac,K,W,M,Ah,Q];apply yA 1;simp[A];apply xX 8185 (by kernel_rfl);simp[A,P,Ac,N];apply xM;(repeat apply xS);apply yT;apply yJ;simp[P,L,X];apply Af;refine⟨_,_,_,am,?_,?_,a8 S.length (by simp[h]) (br _) (by simp[h]) (by simpa[h]using hs)⟩
 .simp
 .simp[AI]
section
variable {P:Program} {n b:Nat} {ops:Array Oper} {o:Oper} {tm:Tm} {S S':Sg} {K:Tm->Sg->Prop} {v:V}
theorem Ag.m6{B:List (Nat×(Sg->Prop))}{i:Nat}{rest:List (Nat×Bool×Oper)}{c:Call}{f:FuncId}{args:List V}(ws:List Bool)(h:AG P f args S v S')(g:B.map (λp=>waits ops i p.1)=ws)(j:o.op=.call c)
  (k:o.guard=none/\BA n o.dst/\BE tm c/\callee tm c=some (f,args)/\okB ws B S S') (m:Ag P n b ops (FA ws B) rest (put tm o.dst v) S' K):Ag P n b ops B ((i,false,o)::rest) tm S K:=by
 obtain⟨q,s,t,u,w⟩:=k;exact Ag.pD ws g (λhi=>wd hi j q s u t h) w m
end
def Er(g:AE)(x:AX):AO:={FV with name:=x.name,left:=g.A2.length,right:=((A3 g x).right.take x.to.toNat).drop x.at_.toNat,cond:=(A3 g x).cond}
def DE(g:AE)(x:AX):List Symbol:=(A3 g x).right.take x.at_.toNat++[⟨false,g.A2.length⟩]++(A3 g x).right.drop x.to.toNat
def Wr(g:AE)(x:AX):List Cw:=([Be x.number]++BF 0 x.at_.toNat)++[Be g.AD.length]++BF x.at_.toNat ((A3 g x).right.length - x.at_.toNat)
def A6(g:AE)(x:AX):AE:={g with A2:=g.A2++[x.name],AD:=(g.AD++[Er g x]).set x.number.toNat {A3 g x with right:=DE g x}}
def foldM(g:AE)(x:AX):List Rewrite:=[⟨x.number,-1,-1,Wr g x⟩]
theorem Ib{g:AE}{x:AX}(h:IF g x=true):D1 g x=true/\∃j a t:Nat,x.number=j/\x.at_=a/\x.to=t/\j<g.AD.length/\a<t/\t<=(A3 g x).right.length:=by
 simp[IF]at h;obtain⟨⟨⟨h1,k⟩,m⟩,o⟩:=h;have i:=h1;simp[D1]at i;exact⟨h1,x.number.toNat,x.at_.toNat,x.to.toNat,by omega,by omega,by omega,by omega,by omega,by omega⟩
theorem sI(g:AE)(x:AX):U6 (bS g x) 4 g x:=⟨_,_,_,_,_,_,_,_,_,_,_,rfl⟩
theorem kQ(g:AE)(x:AX)(hf:IF g x=true)(hb:Ct g x.number=false)(hl:g.AD.length<=2 ^ 20)(hn:g.A2.length<=2 ^ 20)(hr:(A3 g x).right.length<=2 ^ 20):
  AG prog 86 [.ptr 4 1 0 0] (bS g x) (.d (AF 0)) (Jk g x (A6 g x) (foldM g x) false):=by
 obtain⟨hp,j,a,t,hj,ha,s,wQ,h1,A⟩:=Ib hf;have P:=Ho (sI g x) (by simp[bS,Dl,bV]) (i:=x.number) (by omega);rw[hb]at P;have w:=KB (sI g x) (by simp[bS,Dl,bV]) hp;unfold A6 foldM Er Wr DE;generalize vy:A3 g x=o at *;have m:=AH.eq_1 o;have B:=Ub (S:=bS g x++[O.row true 13 [.d (AH o)]]) (r:=4) (q:=2) (k:=g.A2.length) (g:=g) (x:=x) rfl rfl (by simp) (by omega) (by simp[Ah]) (by simp[bS,Dl,bV]);have xd:=(I9 ((o.right.take t).drop a) (by simp;omega)).LM;have G:=Sd (S:=Dl g x {g with A2:=g.A2++[x.name]} (.full []) false (!g.conds.isEmpty) (!g.Ae.isEmpty) true (!g.AD.isEmpty)++[O.row true 13 [.d (AH o)],O.row true 2 [.d (AI ⟨false,g.A2.length⟩)]]) (r:=4) (q:=3) (k:=g.AD.length) (g:=g) (x:=x) rfl rfl (by simp) (by omega) (by simp[Ah]) {FV with name:=x.name,left:=g.A2.length,right:=(o.right.take t).drop a,cond:=o.cond} (by simp[Dl,bV]);have Q:=G.Fm (args':=[.ptr 4 1 0 0,.agg [.d (.str x.name),.d (.int .i64 g.A2.length),.d (.sl (((o.right.map AI).take t).drop a)),.d (.sl (o.cond.nodes.map Aa)),.d (.int .i64 o.cond.root),.d (.bool false),.d (.int .i64 0),.full [],.d (.bool false),.d (.int .i64 0),.d (.int .i64 0),.d (.int .i64 0),.d (.int .i64 0)]]) rfl λi h h'=>by
  match i,h with
  |0,_=>exact .inl rfl
  |1,_=>exact .inr ⟨_,by simp[Ba,AH,FV],rfl⟩
 clear G;refine zC func86 102 rfl λwf _=>?_;unfold bS Dl bV at P w B⊢;unfold Dl bV at Q;simp[m,hj,ha,s]at Q;simp[m]at B;apply yW;simp;refine xS (yS ?_);apply yJ;simp;refine gl rfl rfl (by simp) (f:=158) (args:=[.ptr 4 1 0 0,.d (AF x.number)]) (by simp[callee];try rfl) (by simp) P (yJ ?_);simp;apply AR;simp;apply xK;apply yS;apply yJ;simp;refine gl rfl rfl (by simp) (f:=85) (args:=[.ptr 4 1 0 0]) (by simp[callee];try rfl) (by simp) w (yJ ?_);simp[m];refine yD [0,2,4,6,8,10,12,14,16,18,20,22] (by kernel_rfl) ?_;simp;apply yA 0;simp;(repeat apply xS);apply yT;apply yJ;simp;refine gl rfl rfl (by simp) (f:=165) (args:=[.ptr 4 1 0 0]) (by simp[callee];try rfl) (by simp) B (yJ ?_);simp;have hX:∃X5 X6,X5=O.row true 13 [.d (AH o)]/\X6=O.row true 2 [.d (AI ⟨false,g.A2.length⟩)]:=⟨_,_,rfl,rfl⟩;have d1:a<=t:=by omega
 have d3:a<o.right.length:=by omega
 (repeat apply xS);refine yE [0,2,4,6,8,10,12,14,16,18,20,22,24,26,28,30,32,35,36] (by kernel_rfl) ?_;simp;apply yA 1;simp[hj,ha,s,d1,A,d3];refine go (xd) rfl (by simp[xN]) ?_;simp;apply yA 1;simp;refine Ag.m6 (xT [1,0,0,1,0,0,0,0,0,0,0,0,0,0,0,0,1]) (Q) (by kernel_rfl) rfl (by simp[Ac,d1,A,d3];try rfl) ?_;simp;apply yA 1;simp;clear Q B P w;obtain⟨v,z⟩:∃v,v=g.AD++[{FV with name:=x.name,left:=g.A2.length,right:=(o.right.take t).drop a,cond:=o.cond}]:=⟨_,rfl⟩;have yN:List.map (λx=>V.d (AH x)) g.AD++[V.d (AH {FV with name:=x.name,left:=g.A2.length,right:=(o.right.take t).drop a,cond:=o.cond})]=List.map (λx=>V.d (AH x)) v:=by rw[z];simp
 rw[yN];have H:v.length=g.AD.length+1:=by rw[z];simp
 have C:j<v.length:=by omega
 have E:j<g.AD.length+1:=by omega
 have u:v[j]=o:=by
  have:A3 g x=g.AD[j]:=by simp[A3,hj,wQ]
  rw[vy]at this;simp[z,wQ,this]
 rw[s,ha,hj];simp;rw[<-z];clear z yN;have T:=Mo [o.right.take a,[⟨false,(g.A2.length:Nat)⟩],o.right.drop t] (by simp;omega);obtain⟨R,hR⟩:∃R,R=o.right.take a++⟨false,(g.A2.length:Nat)⟩::o.right.drop t:=⟨_,rfl⟩;have wR:[o.right.take a,[(⟨false,(g.A2.length:Nat)⟩:Symbol)],o.right.drop t].flatten=R:=by rw[hR];simp
 rw[wR]at T;have d4:a<=o.right.length:=by omega
 have F:(j:Int)<g.AD.length+1:=by omega
 have U:List.take o.right.length (List.map AI o.right)=List.map AI o.right:=s9 (by simp);refine AW.Ju (R:=λtm S=>tm 0=.ptr 4 1 0 0/\tm 3=.ptr 5 1 0 0/\tm 4=.d (.int .i64 a)/\tm 5=.d (.int .i64 t)/\tm 7=.d (.int .i64 g.AD.length)/\S=Dl g x {g with A2:=g.A2++[x.name],AD:=v.set j {o with right:=R}} (.full []) false (!g.conds.isEmpty) (!g.Ae.isEmpty) true true++[O.row true 13 [.d (AH o)],O.row true 2 [.d (AI ⟨false,g.A2.length⟩)]]) ?_ ?_
 .by_cases d5:t<o.right.length
  .skip;refine yE [0,2,4,6,8,10,12,14,16,18,20,22,24,26,28,30,32,34,36,38,40,42,44,46,49] (by kernel_rfl) ?_;simp;apply yA 1;simp[d4,A,al,d5];refine go (T) rfl (by simp[U,xN]) ?_;simp[U];apply yA 1;simp[E,F,H];apply xX 16777213 (by kernel_rfl);simp[Ac,m,d4,A,E,F,H,u,al,d5];apply xM;refine⟨_,_,(i5 3 (xs:=(v.set j {o with right:=R}).map AH) rfl ?_).trans (rc (S':=Dl g x {g with A2:=g.A2++[x.name],AD:=v.set j {o with right:=R}} (.full []) false (!g.conds.isEmpty) (!g.Ae.isEmpty) true true++[O.row true 13 [.d (AH o)],O.row true 2 [.d (AI ⟨false,g.A2.length⟩)]]) ?_),?_⟩
   .rw[CO,eQ,kv,eQ,eQ,kv];congr 1
   .simp[Dl,bV,hj,ha,s,H,kw,m]
   .simp
  .have d6:t=o.right.length:=by omega
   have d7:o.right.length<=t:=by omega
   refine yE [0,2,4,6,8,10,12,14,16,18,20,22,24,26,28,30,32,34,36,38,40,42,44,46,49] (by kernel_rfl) ?_;simp;apply yA 1;simp[d4,al,d6];refine go (T) rfl (by simp[U,d7,xN]) ?_;simp[U];apply yA 1;simp[E,F,H];apply xX 16777213 (by kernel_rfl);simp[Ac,m,d4,E,F,H,u,al];apply xM;refine⟨_,_,(i5 3 (xs:=(v.set j {o with right:=R}).map AH) rfl ?_).trans (rc (S':=Dl g x {g with A2:=g.A2++[x.name],AD:=v.set j {o with right:=R}} (.full []) false (!g.conds.isEmpty) (!g.Ae.isEmpty) true true++[O.row true 13 [.d (AH o)],O.row true 2 [.d (AI ⟨false,g.A2.length⟩)]]) ?_),?_⟩
   .rw[CO,eQ,kv,eQ,eQ,kv];congr 1
   .simp[Dl,bV,hj,ha,s,H,kw,m];omega
   .simp;omega
 rintro tm S ⟨t0,t3,t4,t5,t7,rfl⟩;clear T wR;have hl3:(v.set j {o with right:=R}).length=g.AD.length+1:=by simp[H]
 generalize X:v.set j {o with right:=R}=P3 at *;have M:=MB (j:Int);have N:=MB (g.AD.length:Int);have Y:=J5 [Be j] false 0 a (by simp;omega) (by omega);have J:=J5 (([Be j]++BF 0 a)++[Be g.AD.length]) true a (o.right.length - a) (by simp[CL];omega) (by omega);have wi:a+(o.right.length - a)=o.right.length:=by omega
 rw[wi]at J;unfold Dl bV;(repeat apply xS);apply yT;apply yJ;simp[t0,hj];refine B9 (M) rfl (by simp[xN]) (yJ ?_);simp[al,t4];refine sv (ll 78 4 (xs:=[A7 (Be j)]) (by simp)) ?_;refine xF (Y) [7] rfl ?_;simp;apply yJ;simp;have W:a+1=1+a:=by omega
 have e6:1+a<=1073741823:=by omega
 simp[CL,W]at J;(repeat apply xS);refine yE [0,2,4,6,10,12,14,16,9,19,20] (by kernel_rfl) ?_;simp;apply yA 1;simp[t7];refine B5 (N) rfl (by simp[xN]) ?_;simp;apply yA 1;simp[t3,t4,m,al];apply xX 176 (by kernel_rfl);simp[Ac,Al,CL,Ah,h9,h8,t3,t4,t7,al,W,e6];refine ru (xT [1,0,0,1,0]) (J) [7] (by kernel_rfl) rfl (by simp[Ac,t3,t4,t7,al];try rfl) ?_;simp;apply yA 1;simp;obtain⟨K,L⟩:∃K,K=Be j::(BF 0 a++Be (g.AD.length:Int)::BF a (o.right.length - a)):=⟨_,rfl⟩;have Z:K.length=1+a+1+(o.right.length - a):=by rw[L];simp[CL];omega
 rw[<-Z];refine ed (c9 7 (wr:=true) (sz:=4) (els:=(K.map A7).map V.d) (xs:=K.map A7) (by rw[L];simp[kw]) (CQ _ _)) ?_;simp;apply yW;simp[t0,al];apply yW;simp;apply Af;rw[<-L,<-hR,X];refine⟨_,(a8 5 (S':=Dl g x {g with A2:=g.A2++[x.name],AD:=P3} (.full [Ab ⟨j,-1,-1,K⟩]) false (!g.conds.isEmpty) (!g.Ae.isEmpty) true true) ?_ (by simp) (by simp) ?_).trans (WA g x _ _ [⟨j,-1,-1,K⟩] false _ _ _ _ rfl),?_⟩
 .simp[Dl,bV,hj,Ab]
 .simp
 .simp[Au,clean,FP,AP]
section
variable {P:Program} {n b:Nat} {tm:Tm} {S:Sg}
theorem St.setRow{G:Gh}{w:World}{a:Act}(st:St P n G S w a tm){r sz:Nat}{els els':List V}(m:S[r]?=some (.row true sz els))(E:els'.length=els.length)
  (F:∀c T,w.heap[G.B3 r]?=some (.cells c T (0,0))->Oo G S w sz els c (G.cap r).2->Oo G S w sz els' c (G.cap r).2):
  St P n G (S.set r (.row true sz els')) w a tm/\Tr G S w G (S.set r (.row true sz els')) w/\BL G S w G (S.set r (.row true sz els')) w:=by
 have R:=st.rel;have H:=AZ m;have Df:(S.set r (.row true sz els'))[r]?=some (.row true sz els'):=by simp[H]
 have s:∀g,g≠r->(S.set r (.row true sz els'))[g]?=S[g]?:=λg h=>by simp[nt (le h)]
 have el:∀g,lenOf (S.set r (.row true sz els')) g=lenOf S g:=λg=>by
  by_cases e:g=r
  .subst e;simp[lenOf,Df,m,E]
  .simp[lenOf,s g e]
 have J:∀g,C0 (S.set r (.row true sz els')) g=C0 S g:=λg=>by
  by_cases e:g=r
  .subst e;simp[C0,Df,m]
  .simp[C0,s g e]
 have em:∀g,Bb (S.set r (.row true sz els')) g=Bb S g:=λg=>by
  by_cases e:g=r
  .subst e;simp[Bb,Df,m]
  .simp[Bb,s g e]
 have L:BL G S w G (S.set r (.row true sz els')) w:=
  ⟨λ_ h=>h,λ_ _=>rfl,by simp,λg _ K M=>⟨K,by rw[<-el];exact M,br _,λ_=>⟨rfl,rfl,rfl,.inl (J g)⟩⟩,λg _ N=>⟨by rw[<-em];exact N,rfl⟩⟩
 have own:∀g x,(S.set r (.row true sz els'))[g]?=some x->∃v,S[g]?=some v/\BQ G g v=BQ G g x:=λg x z=>by
  by_cases e:g=r
  .subst e;rw[Df]at z;cases z;exact⟨_,m,rfl⟩
  .rw[s g e]at z;exact⟨x,z,rfl⟩
 have i:∀k,Fy G (S.set r (.row true sz els')) k->Fy G S k:=by
  rintro k ⟨g,x,h1,B,Q⟩;obtain⟨v,o,t⟩:=own g x h1;exact⟨g,v,o,by rw[t];exact B,Q⟩
 refine⟨⟨st.size,st.tm.later L,⟨R.GQ.later L,λg x A=>?_,λr1 r2 U W h1 B o1 X Y=>?_,λk j=>R.nI k (i k j),R.JY,λk j=>R.HL k (i k j)⟩⟩,⟨br _,λ_ h=>h,λ_ _ _=>rfl,λk j=>.inl (i k j),λk j=>.inl j,rfl,rfl⟩,L⟩
 .by_cases e:g=r
  .subst e;rw[Df]at A;cases A;have u:=R.DG g _ m;simp only[OK]at u⊢;cases C:G.BB g with
   |none=>
    simp only[C]at u⊢;obtain⟨c,T,o,t,g3,g4,Z⟩:=u;exact⟨c,T,o,t,by omega,by omega,(F c T o Z).later L⟩
   |some q=>simp only[C]at u;exact absurd u.1 (by simp)
  .rw[s g e]at A;exact(R.DG g x A).later L (λ_=>rfl) rfl rfl rfl
 .obtain⟨y1,o,p1⟩:=own r1 U h1;obtain⟨y2,t,p2⟩:=own r2 W B;exact R.inj r1 r2 y1 y2 o t (by rw[p1];exact o1) (by rw[p2];exact X) Y
theorem AJ.Pm(r i c g:Nat){sz:Nat}{els t:List V}{xs:List D}(u:S[r]?=some (.row true sz els))(hi:els[i]?=some (.agg t))(M:t[c]?=some (.full xs)):
  AJ P n b tm S tm ((S++[O.row false g (xs.map .d)]).set r (.row true sz (els.set i (.agg (t.set c (V.row S.length xs.length)))))):=λG w a st hb=>by
 have N:=AZ u;have m:=st.rel.DG r _ u;simp only[OK]at m;cases E:G.BB r with
 |some q=>simp only[E]at m;exact absurd m.1 (by simp)
 |none=>
  simp only[E]at m;obtain⟨d,T,Q,g2,g3,g4,R⟩:=m;obtain⟨U,z⟩:=df.1 hi;obtain⟨W,X⟩:=df.1 M;obtain⟨v,f1,f2,f3,f4⟩:=R i U;rw[z]at f1;cases f1 with
  |agg _ F Z H ho=>
   have A:=H c W;rw[X]at A;generalize hY:F[c]'(by omega)=Y at A;cases A with
   |full _ base J=>
    obtain⟨r1,r2,B⟩:=st.rel.MS g xs base J.len J;have C:St P n (G.at S.length 0 0 (some base)) (S++[.row false g (xs.map .d)]) w a tm:=⟨st.size,st.tm.later B,r1⟩;have K:r≠S.length:=by omega
    have eb:(G.at S.length 0 0 (some base)).B3 r=G.B3 r:=by simp[Gh.at,K]
    have ec:(G.at S.length 0 0 (some base)).cap r=G.cap r:=by simp[Gh.at,K]
    obtain⟨s1,s2,s3⟩:=C.setRow (r:=r) (els':=els.set i (.agg (t.set c (V.row S.length xs.length)))) (by rw[ej N];exact u) (by simp) λc2 T2 o s=>by
     rw[eb,Q]at o;cases o;rw[ec]at s⊢;intro j hj;have xe:j<els.length:=by simpa using hj
     by_cases e:j=i
     .subst e;refine⟨.agg F,?_,f2,f3,f4⟩;simp;refine .agg _ _ (by simp[Z]) (λk hk=>?_) ho;by_cases L:k=c
      .subst L;simp[hY];refine .row _ _ _ rfl (by simp) λm' wO=>?_;have:m'=xs.length:=by simpa[lenOf]using wO.symm
       subst this;exact⟨br _,λ_=>by simp[Gh.BZ,Gh.at]⟩
      .rw[acs (λh=>L h.symm)];exact(H k (by simpa using hk)).later B
     .rw[acs (λh=>e h.symm)];exact s j xe
    exact⟨_,s1,r2.trans s2,(B.trans s3).late hb⟩
end
open Go.Proofs Tryz
def Qv:Ap:=⟨0,0,0⟩
def gE(d:AN)(n:Int):Ap:=d.nodes.getD (n - 2).toNat Qv
def Fl(d:AN)(n v:Int):Int×Int:=if d.level n=v then((gE d n).low,(gE d n).high)else(n,n)
def Mz(d:AN)(n v:Int):Bool:=decide (0<=n)&&decide (n<2+d.nodes.length)&&(decide (2<=n)||decide (d.level n≠v))
def H4(l:List Ap)(b:Ap):List Ap×Int:=
 if b.low=b.high then(l,b.low)else if firstIdx (λx=>decide (x=b)) l<0 then(l++[b],(l.length:Int)+2)else(l,firstIdx (λx=>decide (x=b)) l+2)
def P0(op x y:Int):Int:=if op=0 then x * y else if op=1 then max x y else(x+y).tmod 2
structure Seen where
 x:Int
 y:Int
 r:Int
 deriving DecidableEq
def H5(x:Seen):D:=.agg [AF x.x,AF x.y,AF x.r]
@[simp] theorem gW(x:Seen):Ai (.d (H5 x))=[.d (AF x.x),.d (AF x.y),.d (AF x.r)]:=rfl
@[simp] theorem bU(x:Seen):At (.d (H5 x))=true:=rfl
@[simp] theorem lE(x:Seen):Bw (.d (H5 x))=false:=rfl
@[simp] theorem iJ(x:Seen):BN (H5 x)=[AF x.x,AF x.y,AF x.r]:=rfl
@[simp] theorem lG(x:Seen):CZ.oneD (H5 x)=true:=rfl
@[simp] theorem pz(x:Seen):DZ (H5 x)=Bs [AF x.x,AF x.y,AF x.r]:=rfl
@[simp] theorem kD(x y:Seen):Cg [D.int .i64 x.x,D.int .i64 x.y,D.int .i64 x.r] [D.int .i64 y.x,D.int .i64 y.y,D.int .i64 y.r]=decide (x=y):=by
 cases x;cases y;rw[eg];simp[Cg,De]
@[simp] theorem jB(S:Sg)(x:Seen):Dm S (.d (H5 x))=some [AF x.x,AF x.y,AF x.r]:=rfl
def seenAt(g:List Seen)(x y:Int):Int:=firstIdx (λt=>decide (t.x=x)&&decide (t.y=y)) g
def atR(a b:AN)(op:Int):Nat->List Ap->List Seen->Int->Int->Option (List Ap×List Seen×Int)
 |0,_,_,_,_=>none
 |f+1,j,h,x,y=>
  if x<2/\y<2 then(if 0<=x/\0<=y then some (j,h,P0 op x y)else none)else
  if 0<=seenAt h x y then some (j,h,(h.getD (seenAt h x y).toNat ⟨0,0,0⟩).r)else
   if Mz a x (min (a.level x) (b.level y))&&Mz b y (min (a.level x) (b.level y))then
    match atR a b op f j h (Fl a x (min (a.level x) (b.level y))).1 (Fl b y (min (a.level x) (b.level y))).1 with
    |none=>none
    |some (k,m,low)=>
     match atR a b op f k m (Fl a x (min (a.level x) (b.level y))).2 (Fl b y (min (a.level x) (b.level y))).2 with
     |none=>none
     |some (g,i,high)=>
      if 1048576<=g.length\/1048576<=i.length then none else
      some ((H4 g ⟨min (a.level x) (b.level y),low,high⟩).1,i++[⟨x,y,(H4 g ⟨min (a.level x) (b.level y),low,high⟩).2⟩],(H4 g ⟨min (a.level x) (b.level y),low,high⟩).2)
   else none
def SF(nodes:List Ap):Nat->List Int->List Ap->Int->Option (List Int×List Ap×Int)
 |0,_,_,_=>none
 |f+1,i,out,n=>
  if n<2 then some (i,out,n)else
  match i[(n - 2).toNat]? with
  |none=>none
  |some k=>
   if 0<k then some (i,out,k)else
   match SF nodes f i out (nodes.getD (n - 2).toNat Qv).low with
   |none=>none
   |some (j,h,low)=>
    match SF nodes f j h (nodes.getD (n - 2).toNat Qv).high with
    |none=>none
    |some (m,g,high)=>
     if 1048576<=g.length then none else
     some (m.set (n - 2).toNat ((g.length:Int)+2),g++[⟨(nodes.getD (n - 2).toNat Qv).var,low,high⟩],(g.length:Int)+2)
def Wy(nodes:List Ap)(root:Int):Option AN:=
 if 1048576<nodes.length then none else
 match SF nodes 64 (List.replicate nodes.length 0) [] root with
 |none=>none
 |some (_,out,r)=>some ⟨out,r⟩
def Mi(a b:AN)(op:Int):Option AN:=
 match atR a b op 64 [] [] a.root b.root with
 |none=>none
 |some (g,_,r)=>Wy g r
def PR(a:AN):Option AN:=Mi a ⟨[],1⟩ 2
def R7(a b:AN):Option AN:=match PR b with|none=>none|some c=>Mi a c 0
def V2(l:List Int)(k:Nat):Bool:=decide (k / 8<l.length)&&(IntKind.u8.wrap (max ((l.getD (k / 8) 0).fdiv (2 ^ (k % 8)) % 256) 0 % 2)==1)
def JW(l:List Int)(n:Nat):Nat->Nat->Nat->Option AN
 |0,_,_=>none
 |f+1,v,k=>
  if 1048576<=k\/7<=v then none else
  if v=n then some ⟨[],if V2 l k then 1 else 0⟩else
  match JW l n f (v+1) (k+2 ^ v)with
  |none=>none
  |some d1=>
   match JW l n f (v+1) k with
   |none=>none
   |some d0=>
    match Mi (Av v) d1 0 with
    |none=>none
    |some g=>
     match R7 d0 (Av v)with
     |none=>none
     |some h=>Mi g h 1
theorem Q3(d:AN)(n v:Int)(h:Mz d n v=true):Pure prog 216 [AB d,AF n,AF v] (.Cb [AF (Fl d n v).1,AF (Fl d n v).2]):=by
 simp[Mz]at h;obtain⟨⟨h1,k⟩,g⟩:=h;refine eJ func216 rfl rfl (by simp) λwf=>?_;simp[Bs,Di,DZ]at wf;rw[ntmps216];apply yW;simp;refine xS (yS ?_);apply yJ;simp;refine B9 (IT d n k) rfl (by simp[xN]) (yJ ?_);simp;apply AR;simp;refine⟨λi=>?_,λi=>?_⟩
 .apply yW;simp;refine Af ⟨_,_,am,?_⟩;simp[Fl,i]
 .have m:2<=n:=by rcases g with g|g;exact g;exact absurd i g
  have o:IntKind.i64.wrap (n - 2)=n - 2:=wrap_i64 (by omega) (by omega);have j:(n - 2).toNat<d.nodes.length:=by omega
  have q:n - 2<(d.nodes.length:Int):=by omega
  apply xK;(repeat apply xS);refine yE [0,2,4,6,8,10,12,14,16,18,20,22,24,26,28,30] (by kernel_rfl) ?_;simp;apply yA 0;simp[o,j,q,m];apply zT;simp[Fl,i,gE,j]
theorem bO(l:List Ap)(b:Ap)(w:Bool)(B:l.length<=2 ^ 20):AG prog 217 [.row 0 l.length,.d (Aa b)] [.row w 3 (l.map λx=>.d (Aa x))] (.Cb [.row 0 (H4 l b).1.length,.d (AF (H4 l b).2)]) [.row (w||decide (l.length<(H4 l b).1.length)) 3 ((H4 l b).1.map λx=>.d (Aa x))]:=by
 have u:l.length<=al:=by unfold al;omega
 refine zC func217 38 rfl λwf _=>?_;apply yW;simp;refine xS (yW ?_);simp;apply AR;simp;refine⟨λg=>?_,λg=>?_⟩
 .have k:H4 l b=(l,b.low):=by simp[H4,g]
  rw[k];simp;(repeat apply xS);refine yE [0,2,4,6,8] (by kernel_rfl) ?_;simp;apply yA 0;simp;apply Af;refine⟨_,rx [0] (S0:=[.row w 3 (l.map λx=>.d (Aa x))]) (by simp) (by simp) (by simp),?_⟩;simp[Au,pick]
 .have m:¬b.low=b.high:=g;apply xK;refine xS (yW ?_);simp;apply Bx;refine DV l.length (λi tm S=>tm 0=.row 0 l.length/\tm 3=.ptr 1 1 0 0/\tm 6=.d (.int .i64 i)/\S=[.row w 3 (l.map λx=>.d (Aa x)),.row true 3 [.d (Aa b)]]/\∀j (_:j<i) (h:j<l.length),l[j]≠b) (cq _) (by simp) ?_;rintro i tm S hi ⟨t0,t3,t6,rfl,q⟩;refine xS (yW ?_);simp[t0,t6];apply AR;simp;refine⟨λo=>?_,λC=>?_⟩
  .apply xK;apply xB;refine yD [0,2,4,6,8,10] (by kernel_rfl) ?_;simp;apply yA 0;simp[t0,t6,t3,o,-Dm];apply AR;simp;refine⟨λg=>?_,λg=>?_⟩
   .have s:firstIdx (λx=>decide (x=b)) l=i:=Cp o (by simpa using g) λj hj=>by simpa using q j hj (by omega)
    have t:IntKind.i64.wrap ((i:Int)+2)=i+2:=by rw[bv];omega
    have h0:¬((i:Int)<0):=by omega
    have k:H4 l b=(l,(i:Int)+2):=by simp[H4,m,s,h0]
    rw[k];simp;apply yW;simp[t0,t6,t];apply Af;refine⟨_,rx [0] (S0:=[.row w 3 (l.map λx=>.d (Aa x))]) (by simp) (by simp) (by simp),?_⟩;simp[Au,pick]
   .apply CT;apply yV;simp[t6];refine⟨o,_,_,am,?_⟩;simp[t0,t3,AL o u];intro j hj v;by_cases e:j=i
    .subst e;simpa using g
    .exact q j (by omega) v
  .have e:i=l.length:=by omega
   subst e;have s:firstIdx (λx=>decide (x=b)) l= -1:=firstIdx_none λj hj=>by simpa using q j hj hj
   have z:1<=al:=by unfold al;omega
   have A:l.length+1<=1073741824:=by omega
   have t:IntKind.i64.wrap ((l.length:Int)+1+1)=l.length+2:=by rw[bv];omega
   have k:H4 l b=(l++[b],(l.length:Int)+2):=by simp[H4,m,s]
   rw[k];simp only[eN,ea,j0,va,Nat.lt_add_one,R2,Bool.or_true];apply C7;apply yS;apply yJ;simp[t0,t3,z,A,Ah,h8];apply yW;simp[t];apply Af;refine⟨_,rx [0] (S0:=[.row true 3 ((l++[b]).map λx=>.d (Aa x))]) (by simp) (by simp) (by simp),?_⟩;simp[Au,pick]
def Yr(a b:AN)(op:Int)(ns:List Ap)(g:List Seen)(h i:Bool):Sg:=
 [.row true 7 [.agg [.d (AY a.nodes),.d (AF a.root),.d (AY b.nodes),.d (AF b.root),.d (AF op),.row 1 ns.length,.row 2 g.length]],.row h 3 (ns.map λx=>.d (Aa x)),.row i 3 (g.map λx=>.d (H5 x))]
theorem Yd(a b:AN)(op:Int)(ns:List Ap)(i:List Seen)(j k:Bool)(x y:Int)(h:0<=x/\x<2)(s:0<=y/\y<2):AG prog 214 [.ptr 0 1 0 0,.d (AF x),.d (AF y)] (Yr a b op ns i j k) (.d (AF (P0 op x y))) (Yr a b op ns i j k):=by
 have h1:IntKind.i64.wrap (x * y)=x * y:=by
  have:x=0\/x=1:=by omega
  rcases this with rfl|rfl<;>simp[bv]<;>omega
 have o:IntKind.i64.wrap (x+y)=x+y:=by rw[bv];omega
 have q:IntKind.i64.wrap ((x+y).tmod 2)=(x+y).tmod 2:=by
  have:x=0\/x=1:=by omega
  have:y=0\/y=1:=by omega
  rcases ‹x=0\/x=1› with e|e<;>rcases this with m|m<;>rw[e,m]<;>decide
 refine zC func214 25 rfl λwf _=>?_;unfold Yr;apply yW;simp;refine xS (yW ?_);simp;apply Bx;apply yW;simp;apply AR;simp;refine⟨λh=>?_,λh=>?_⟩
 .apply yW;simp[h1];apply Af;refine⟨_,am,?_⟩;simp[Au,P0,h]
 .apply yW;simp;apply AR;simp;refine⟨λg=>?_,λg=>?_⟩
  .apply yW;simp;apply Af;refine⟨_,am,?_⟩;simp[Au,P0,g];split<;>omega
  .apply CT;apply yW;simp[o];apply Af;refine⟨_,am,?_⟩;simp[Au,P0,h,g]
theorem pL(a b:AN)(op:Int):∀(f:Nat) (u:List Ap) (g:List Seen) (x y:Int) (o q:Bool) (k:List Ap×List Seen×Int),atR a b op f u g x y=some k->∃E F,AG prog 185 [.ptr 0 1 0 0,.d (AF x),.d (AF y)] (Yr a b op u g o q) (.d (AF k.2.2)) (Yr a b op k.1 k.2.1 E F):=by
 intro f;induction f with
 |zero=>intro u g x y o q k h;simp[atR]at h
 |succ f ih=>
  intro u g x y o q k h;unfold atR at h;by_cases A:x<2/\y<2
  .rw[ap A]at h;split at h
   .rename_i h0;cases h;refine⟨o,q,?_⟩;have hk:=Yd a b op u g o q x y ⟨h0.1,A.1⟩ ⟨h0.2,A.2⟩;refine zC func185 137 rfl λwf _=>?_;apply yW;simp;refine xS (yW ?_);simp[A];apply AR;simp;(repeat apply xS);apply yT;apply yJ;simp;refine gl rfl rfl (by simp) (f:=214) (args:=[.ptr 0 1 0 0,.d (AF x),.d (AF y)]) (by simp[callee];try rfl) (by simp) hk (yJ ?_);simp;apply Af;refine⟨_,am,?_⟩;simp[Au]
   .cases h
  .rw[ao A]at h;have B:(decide (x<2)&&decide (y<2))=false:=by simpa using A
   by_cases G:0<=seenAt g x y
   .rw[ap G]at h;cases h;refine⟨o,q,?_⟩;refine md func185 rfl rfl (by simp) λwf H=>?_;have J:g.length<=al:=by have:=H.2.2.1.1;simpa using this
    rw[ntmps185];apply yW;simp;refine xS (yW ?_);simp;(repeat apply xS);refine k6 (t:=decide (x<2)&&decide (y<2)) ?_ (λhb=>?_) (λhb=>?_)
    .simp
    .rw[B]at hb;cases hb
    apply xK;refine xS (yW ?_);simp;apply Bx;refine DV g.length (λi tm S=>tm 0=.ptr 0 1 0 0/\tm 1=.d (AF x)/\tm 2=.d (AF y)/\tm 7=.d (.int .i64 i)/\S=Yr a b op u g o q/\∀j (_:j<i) (h:j<g.length),¬(g[j].x=x/\g[j].y=y)) (cq _) (by simp) ?_;rintro i tm S hi ⟨t0,t1,t2,t7,rfl,K⟩;unfold Yr;refine xS (yW ?_);simp[t0,t7];apply AR;simp;refine⟨λm=>?_,λvw=>?_⟩
    .apply xK;apply xB;apply yW;simp[t0,t1,t2,t7,m];(repeat apply xS);refine k6 (t:=decide (g[i].x=x)&&decide (g[i].y=y)) ?_ (λhb=>?_) (λhb=>?_)
     .simp;rw[eg];simp
     ·(repeat apply xS);apply yV;simp[t0,t7,m];have xz:seenAt g x y=i:=Cp m hb λj hj=>by simpa using K j hj (by omega)
      apply Af;refine⟨_,am,?_⟩;simp[Au,xz,m]
     .apply CT;apply yV;simp[t7];refine⟨m,_,_,am,?_⟩;simp[t0,t1,t2,AL m J];intro j hj wP;by_cases e:j=i
      .subst e;simpa using hb
      .simpa using K j (by omega) wP
    .have xz:seenAt g x y= -1:=firstIdx_none λj hj=>by simpa using K j (by omega) hj
     omega
   .rw[ao G]at h;split at h
    .rename_i C;simp at C;obtain⟨w,z⟩:=C;have L:(if b.level y<a.level x then b.level y else a.level x)=min (a.level x) (b.level y):=by split<;>omega
     generalize hv:min (a.level x) (b.level y)=v at *;cases M:atR a b op f u g (Fl a x v).1 (Fl b y v).1 with
     |none=>simp[M]at h
     |some r1=>
      obtain⟨N,P,low⟩:=r1;simp[M]at h;cases Q:atR a b op f N P (Fl a x v).2 (Fl b y v).2 with
      |none=>simp[Q]at h
      |some r2=>
       obtain⟨s,R,high⟩:=r2;simp only[Q]at h;split at h
       .cases h
       .rename_i vr;cases h;obtain⟨u1,u2,k1⟩:=ih _ _ _ _ o q _ M;obtain⟨v1,v2,k2⟩:=ih _ _ _ _ u1 u2 _ Q;have T:x<2+a.nodes.length:=by simp[Mz]at w;exact w.1.2
        have W:y<2+b.nodes.length:=by simp[Mz]at z;exact z.1.2
        have l1:=IT a x T;have l2:=IT b y W;have s1:=Q3 a x v w;have s2:=Q3 b y v z;have q1:=bO s ⟨v,low,high⟩ v1 (by omega);have n2:R.length+1<=1073741824:=by omega
        have vv:1<=al:=by unfold al;omega
        generalize hU:H4 s ⟨v,low,high⟩=U at *;obtain⟨X,r⟩:=U;simp only[]at q1⊢;generalize Fl a x v=sa at *;generalize Fl b y v=sb at *;obtain⟨Y,Z⟩:=sa;obtain⟨sb1,sb2⟩:=sb;have q2:=q1.Fm (args':=[.row 0 s.length,.agg [.d (AF v),.d (AF low),.d (AF high)]]) rfl λi h h'=>by
         match i,h with
         |0,_=>exact .inl rfl
         |1,_=>exact .inr ⟨Aa ⟨v,low,high⟩,by simp[Ba,Aa],rfl⟩
        refine⟨v1||decide (s.length<X.length),true,?_⟩;refine md func185 rfl rfl (by simp) λwf H=>?_;have J:g.length<=al:=by have:=H.2.2.1.1;simpa using this
        rw[ntmps185];apply yW;simp;refine xS (yW ?_);simp;(repeat apply xS);refine k6 (t:=decide (x<2)&&decide (y<2)) ?_ (λhb=>?_) (λhb=>?_)
        .simp
        .rw[B]at hb;cases hb
        apply xK;refine xS (yW ?_);simp;apply Bx;refine DV g.length (λi tm S=>tm 0=.ptr 0 1 0 0/\tm 1=.d (AF x)/\tm 2=.d (AF y)/\tm 7=.d (.int .i64 i)/\S=Yr a b op u g o q) (cq _) (by simp) ?_;rintro i tm S hi ⟨t0,t1,t2,t7,rfl⟩;unfold Yr;refine xS (yW ?_);simp[t0,t7];apply AR;simp;refine⟨λm=>?_,λvw=>?_⟩
        .apply xK;apply xB;apply yW;simp[t0,t1,t2,t7,m];(repeat apply xS);refine k6 (t:=decide (g[i].x=x)&&decide (g[i].y=y)) ?_ (λhb=>?_) (λhb=>?_)
         .simp;rw[eg];simp
         .have:g.any (λt=>decide (t.x=x)&&decide (t.y=y))=true:=zv.2 ⟨_,b9 m,hb⟩;rw[<-DL]at this;exact absurd (show 0<=seenAt g x y from acM this) G
         .apply CT;apply yV;simp[t7];refine⟨m,_,_,am,?_⟩;simp[t0,t1,t2,AL m J]
        .apply C7;refine yD [0,2,4,6,8,10,12,14,16,18,20,22,24,26] (by kernel_rfl) ?_;simp;apply yA 0;simp[t0,t1];refine go (l1) rfl (by simp[xN]) ?_;simp;apply yA 0;simp[t0,t2];refine go (l2) rfl (by simp[xN]) ?_;simp;apply yA 0;simp[L];apply yS;apply yJ;simp[t0,t1];refine B9 (s1) rfl (by simp[xN]) (yJ ?_);simp;(repeat apply xS);apply yT;apply yJ;simp[t0,t2];refine B9 (s2) rfl (by simp[xN]) (yJ ?_);simp;unfold Yr at k1 k2;apply yS;apply yJ;simp[t0];refine gl rfl rfl (by simp) (f:=185) (args:=[.ptr 0 1 0 0,.d (AF Y),.d (AF sb1)]) (by simp[callee];try rfl) (by simp) k1 (yJ ?_);simp;apply yS;apply yJ;simp[t0];refine gl rfl rfl (by simp) (f:=185) (args:=[.ptr 0 1 0 0,.d (AF Z),.d (AF sb2)]) (by simp[callee];try rfl) (by simp) k2 (yJ ?_);simp;apply yS;apply yJ;simp[t0];refine xF (q2) [1] rfl ?_;simp;apply yJ;simp;apply yW;simp[t0];apply yS;apply yJ;simp[t0,t1,t2,vv,n2,Ah,h8];apply yW;simp;apply Af;refine⟨_,am,?_⟩;simp[Au]
    .cases h
def Yg(nodes:List Ap)(g:List Int)(out:List Ap)(w:Bool):Sg:=
 [.row true 3 [.agg [.d (AY nodes),.row 1 g.length,.row 2 out.length]],.row true 1 (g.map λx=>.d (AF x)),.row w 3 (out.map λx=>.d (Aa x))]
theorem kX(nodes:List Ap):∀(f:Nat) (q:List Int) (out:List Ap) (n:Int) (w:Bool) (i:List Int×List Ap×Int),SF nodes f q out n=some i->q.length=nodes.length->(∃S,AG prog 218 [.ptr 0 1 0 0,.d (AF n)] (Yg nodes q out w) (.d (AF i.2.2)) (Yg nodes i.1 i.2.1 S))/\i.1.length=nodes.length:=by
 intro f;induction f with
 |zero=>intro q out n w i h;simp[SF]at h
 |succ f L=>
  intro q out n w i h s;unfold SF at h;by_cases C:n<2
  .rw[ap C]at h;cases h;refine⟨⟨w,?_⟩,s⟩;refine zC func218 77 rfl λwf _=>?_;apply yW;simp;refine xS (yW ?_);simp[C];apply AR;simp;apply yW;simp;apply Af;refine⟨_,am,?_⟩;simp[Au]
  .rw[ao C]at h;have X:2<=n:=by omega
   cases E:q[(n - 2).toNat]? with
   |none=>simp[E]at h
   |some k=>
    simp only[E]at h;obtain⟨A,j⟩:=df.1 E;obtain⟨m,rfl⟩:∃m:Nat,n=m+2:=⟨(n - 2).toNat,by omega⟩;have M:((m:Int)+2 - 2).toNat=m:=by omega
    have Y:(m:Int)+2 - 2=m:=by omega
    rw[M]at A;simp only[M]at h j;have u:m<nodes.length:=by omega
    have v:¬(m:Int)+2<2:=by omega
    by_cases B:0<k
    .rw[ap B]at h;cases h;refine⟨⟨w,?_⟩,s⟩;refine md func218 rfl rfl (by simp) λwf _=>?_;have t:IntKind.i64.wrap (m:Int)=m:=by
      have:=wf.2.1;simp[JQ,DZ,IL]at this;rw[bv];omega
     rw[ntmps218];unfold Yg;apply yW;simp;refine xS (yW ?_);simp;apply AR;simp[v];apply xK;refine xS (yW ?_);simp[t,A,j];apply AR;simp[B];apply yW;simp[t,A,j];apply Af;refine⟨_,am,?_⟩;simp[Au]
    .rw[ao B]at h;have T:nodes.getD m Qv=nodes[m]:=by simp[u]
     rw[T]at h;cases F:SF nodes f q out nodes[m].low with
     |none=>simp[F]at h
     |some r1=>
      obtain⟨G,z,low⟩:=r1;simp[F]at h;cases H:SF nodes f G z nodes[m].high with
      |none=>simp[H]at h
      |some r2=>
       obtain⟨o,g,high⟩:=r2;simp only[H]at h;split at h
       .cases h
       .rename_i Z;cases h;obtain⟨⟨U,k1⟩,N⟩:=L _ _ _ w _ F s;obtain⟨⟨u2,k2⟩,P⟩:=L _ _ _ U _ H N;simp[]at N P k1 k2;refine⟨⟨true,?_⟩,by simpa using P⟩;have n2:g.length+1<=1073741824:=by omega
        have Q:1<=al:=by unfold al;omega
        have R:m<o.length:=by omega
        have J:IntKind.i64.wrap ((g.length:Int)+1+1)=g.length+2:=by rw[bv];omega
        generalize hb:nodes[m]=b at *;unfold Yg at k1 k2;refine md func218 rfl rfl (by simp) λwf _=>?_;have t:IntKind.i64.wrap (m:Int)=m:=by
         have:=wf.2.1;simp[JQ,DZ,IL]at this;rw[bv];omega
        rw[ntmps218];unfold Yg;apply yW;simp;refine xS (yW ?_);simp;apply AR;simp[v];apply xK;refine xS (yW ?_);simp[t,A,j];apply AR;simp[B];apply xK;apply yW;simp[t,u,hb];apply yS;apply yJ;simp;refine xF (k1) [0,1,2] rfl ?_;simp;apply yJ;simp;apply yS;apply yJ;simp;refine xF (k2) [0,1,2] rfl ?_;simp;apply yJ;simp;refine yD [0,2,4,6,8,10,12,14,16,18,20,23,24,26,29] (by kernel_rfl) ?_;simp;apply yA 1;simp[Q];apply xX 65 (by kernel_rfl);simp[Ac,n2,Q,Ah,h8];apply yA 1;simp;apply xX 2045 (by kernel_rfl);simp[Ac];apply xM;refine yD [0,2,4,6,8,10,12,14,16,18,20,22,24,27] (by kernel_rfl) ?_;simp;apply yA 1;simp[t,R,J];apply xX 8191 (by kernel_rfl);simp[Ac,t,R,J];apply xM;apply yW;simp[J];apply Af;have K:(List.map (λx=>V.d (D.int .i64 x)) o).set m (V.d (D.int .i64 ((g.length:Int)+2)))=List.map (λx=>V.d (D.int .i64 x)) (o.set m ((g.length:Int)+2)):=by simp
        rw[K];generalize o.set m _=W;refine⟨_,rx [0,1,2] (by simp[Aa]) (by simp) rfl,?_⟩;simp[Au,pick]
@[simp] theorem qT(f:Nat->Nat)(n:Nat)(d:D):Cn f (List.replicate n (V.d d))=List.replicate n (V.d d):=by
 induction n with
 |zero=>rfl
 |succ n g=>simp[adb,Cn,Bc,g]
@[simp] theorem na(k n:Nat)(d:D):Aw k (List.replicate n (V.d d))=true:=by
 induction n with
 |zero=>rfl
 |succ n g=>simp[adb,Aw,AP,g]
theorem UW(nodes:List Ap)(root:Int)(d:AN)(h:Wy nodes root=some d):Pure prog 186 [AY nodes,AF root] (AB d):=by
 unfold Wy at h;split at h
 .cases h
 rename_i j;have k:(nodes.length:Int)<=1073741824:=by omega
 cases i:SF nodes 64 (List.replicate nodes.length 0) [] root with
 |none=>simp[i]at h
 |some r1=>
  obtain⟨m,g,r⟩:=r1;simp[i]at h;cases h;obtain⟨⟨o,k1⟩,_⟩:=kX nodes 64 (List.replicate nodes.length 0) [] root false _ i (by simp);simp at k1;unfold Yg at k1;simp at k1;refine zP func186 22 rfl λwf=>?_;apply yW;simp;apply yW;simp[k];refine ed (AJ.Pm 2 0 2 3 (xs:=[]) rfl rfl rfl) ?_;simp;apply yS;apply yJ;simp;refine xF (k1) [2,1,3] rfl ?_;simp;apply yJ;simp;apply yW;simp;apply Af;refine⟨_,_,c9 3 (xs:=g.map Aa) rfl (by simp),?_⟩;simp[Ba,AB]
theorem Pf(a b:AN)(op:Int)(d:AN)(h:Mi a b op=some d):Pure prog 139 [AB a,AB b,AF op] (AB d):=by
 unfold Mi at h;cases i:atR a b op 64 [] [] a.root b.root with
 |none=>simp[i]at h
 |some r1=>
  obtain⟨k,m,r⟩:=r1;simp only[i]at h;obtain⟨o,q,k1⟩:=pL a b op 64 [] [] a.root b.root false false _ i;simp only[]at k1;unfold Yr at k1;simp at k1;have j:=UW k r d h;refine eJ func139 (by kernel_rfl) rfl (by simp) λwf=>?_;rw[ntmps139];refine xW λK g=>?_;simp;apply g;refine xW λK g=>?_;simp[AB];apply g;refine ed (AJ.Pm 3 0 5 3 (xs:=[]) rfl rfl rfl) ?_;simp;refine ed (AJ.Pm 3 0 6 3 (xs:=[]) rfl rfl rfl) ?_;simp;refine FX λK g=>?_;refine xJ ?_;simp;refine xF (k1) [3,4,5] rfl ?_;simp;refine xJ ?_;simp;refine B6 (g _ _ ?_);refine ed (c9 4 (xs:=k.map Aa) rfl (by simp)) ?_;simp;(repeat refine xS ?_);refine HA λK g=>?_;refine xJ ?_;simp;refine B9 (j) rfl (by simp) ?_;simp;refine xJ ?_;simp;refine B6 (g _ _ ?_);(try simp only[xQ,reduceIte]);refine Af ⟨_,_,am,?_⟩;try simp
theorem DR(a d:AN)(h:PR a=some d):Pure prog 53 [AB a] (AB d):=by
 have g:=Pf a ⟨[],1⟩ 2 d h;have h1:=CA true;simp at h1;refine zP func53 6 rfl λwf=>?_;apply yW;simp;(repeat apply xS);refine yE [0,2,4,7] (by kernel_rfl) ?_;simp;apply yA 0;simp;refine go (h1) rfl (by simp[xN]) ?_;simp;apply yA 0;simp;refine go (g) rfl (by simp[xN]) ?_;simp;apply yA 0;simp;apply xX 7 (by kernel_rfl);simp;apply xM;apply zT;try simp
theorem RZ(a b d:AN)(h:Mi a b 0=some d):Pure prog 177 [AB a,AB b] (AB d):=by
 have g:=Pf a b 0 d h;refine zP func177 8 rfl λwf=>?_;apply yW;simp;(repeat apply xS);apply yT;apply yJ;simp;refine B9 (g) rfl (by simp[xN]) (yJ ?_);simp;apply zT;try simp
theorem Y7(a b d:AN)(h:Mi a b 1=some d):Pure prog 176 [AB a,AB b] (AB d):=by
 have g:=Pf a b 1 d h;refine zP func176 8 rfl λwf=>?_;apply yW;simp;(repeat apply xS);apply yT;apply yJ;simp;refine B9 (g) rfl (by simp[xN]) (yJ ?_);simp;apply zT;try simp
theorem YG(a b d:AN)(h:R7 a b=some d):Pure prog 178 [AB a,AB b] (AB d):=by
 unfold R7 at h;cases e:PR b with
 |none=>simp[e]at h
 |some c=>
  simp[e]at h;have g:=DR b c e;have hi:=RZ a c d h;refine zP func178 9 rfl λwf=>?_;apply yW;simp;(repeat apply xS);refine yE [0,2,4,6,9] (by kernel_rfl) ?_;simp;apply yA 0;simp;refine go (g) rfl (by simp[xN]) ?_;simp;apply yA 0;simp;refine go (hi) rfl (by simp[xN]) ?_;simp;apply yA 0;simp;apply xX 15 (by kernel_rfl);simp;apply xM;apply zT;try simp
def K9(l:List Int):D:=.sl (l.map (D.int .u8))
theorem ZZ(l:List Int)(n:Nat):∀(f v k:Nat) (d:AN),JW l n f v k=some d->Pure prog 128 [K9 l,AF n,AF v,AF k] (AB d):=by
 intro f;induction f with
 |zero=>intro v k d h;simp[JW]at h
 |succ f M=>
  intro v k d h;unfold JW at h;split at h
  .cases h
  rename_i hb;have Z:k<1048576:=by omega
  have U:v<7:=by omega
  by_cases i:v=n
  .rw[ap i]at h;cases h;have N:=CA (V2 l k);have o:V2 l k=(decide (k / 8<l.length)&&(IntKind.u8.wrap (max ((l.getD (k / 8) 0).fdiv (2 ^ (k % 8)) % 256) 0 % 2)==1)):=rfl;generalize V2 l k=bb at *;obtain⟨j,hj⟩:=a9 (k / 8);obtain⟨m,P⟩:=a9 (k % 8);rw[hj,P]at o;have B:((k:Int).tdiv 8)=j:=by rw[<-hj];simp
   have C:((k:Int).tmod 8)=m:=by rw[c8 (by omega),<-P];simp
   have E:(k:Int) / 8=j:=by omega
   have F:(k:Int) % 8=m:=by omega
   have q:IntKind.i64.wrap (j:Int)=j:=by rw[bv];omega
   have s:IntKind.u64.wrap (m:Int)=m:=by simp[IntKind.wrap,IntKind.signed,IntKind.bits];omega
   have t:min m 8=m:=by omega
   have u:IntKind.u8.bits=8:=rfl;refine zP func128 59 rfl λwf=>?_;unfold K9;apply yW;simp;refine xS (yW ?_);simp;apply AR;simp[i];(repeat apply xS);apply yT;(iterate 6 (refine Cd (by simp) ?_;simp[B,q]));cases G:decide (j<l.length)with
   |true=>
    have g:j<l.length:=by simpa using G
    have W:l.getD j 0=l[j]:=by simp[g]
    rw[G,W,q6]at o;(iterate 11 ((refine QX rfl (by simp[g];try rfl) ?_);simp[B,C,q,s,t,g,u]));(iterate 1 (refine Cd (by simp) ?_;simp[o]));rw[<-o];refine B9 (N) rfl (by simp) (yJ ?_);simp;refine Af ⟨_,_,am,?_⟩;try simp
   |false=>
    have g:¬j<l.length:=by simpa using G
    rw[G,yB]at o;subst o;(repeat(refine FJ rfl ?_ ?_;(·simp);simp));(iterate 1 (refine Cd (by simp) ?_;simp));refine B9 (N) rfl (by simp) (yJ ?_);simp;refine Af ⟨_,_,am,?_⟩;try simp
  .rw[ao i]at h;cases H:JW l n f (v+1) (k+2 ^ v)with
   |none=>simp[H]at h
   |some d1=>
    simp[H]at h;cases J:JW l n f (v+1) k with
    |none=>simp[J]at h
    |some d0=>
     simp[J]at h;cases f1:Mi (Av v) d1 0 with
     |none=>simp[f1]at h
     |some g1=>
      simp[f1]at h;cases f0:R7 d0 (Av v)with
      |none=>simp[f0]at h
      |some g0=>
       simp[f0]at h;have k1:=M _ _ _ H;have Q:=M _ _ _ J;have K:=XO (v:Int);have ha:=RZ _ _ _ f1;have X:=YG _ _ _ f0;have L:=Y7 _ _ _ h;have w:¬(v:Int)=n:=by omega
       have p2:2 ^ v<=64:=zn (by omega) (show v<=6 by omega);obtain⟨z,A⟩:=a9 (2 ^ v);have R:(2:Int) ^ v=z:=by rw[<-A];simp
       rw[A]at k1 p2;have S:IntKind.i64.wrap ((v:Int)+1)=(v+1:Nat):=by rw[bv];omega
       have q:IntKind.u64.wrap (v:Int)=v:=by simp[IntKind.wrap,IntKind.signed,IntKind.bits];omega
       have s:min v 64=v:=by omega
       have t:IntKind.i64.wrap (z:Int)=z:=by rw[bv];omega
       have T:IntKind.i64.wrap ((k:Int)+z)=(k+z:Nat):=by rw[bv];omega
       have u:IntKind.i64.bits=64:=rfl;generalize Y:Av v=vd at *;refine zP func128 59 rfl λwf=>?_;unfold K9 at k1 Q⊢;apply yW;simp;refine xS (yW ?_);simp;apply AR;simp[w];apply xK;apply yS;apply yJ;simp;refine B9 (K) rfl (by simp) (yJ ?_);simp;(repeat apply xS);refine yE [0,2,4,6,8,10,12,14,16,18,20,22,24,26,28,30,32,34,36,38,40,43] (by kernel_rfl) ?_;simp;apply yA 0;simp[S,q,s,t,T,u,R];refine go (k1) rfl (by simp[xN]) ?_;simp;apply yA 0;simp;refine go (ha) rfl (by simp[xN]) ?_;simp;apply yA 0;simp[S];refine go (Q) rfl (by simp[xN]) ?_;simp;apply yA 0;simp;refine go (X) rfl (by simp[xN]) ?_;simp;apply yA 0;simp;refine go (L) rfl (by simp[xN]) ?_;simp;apply yA 0;simp;apply xX 2097151 (by kernel_rfl);simp;apply xM;apply zT;try simp
theorem S9(l:List Int)(n:Nat)(hn:n<=6)(d:AN)(h:JW l n 8 0 0=some d):Pure prog 45 [K9 l,AF n] (AB d):=by
 have g:=ZZ l n 8 0 0 d h;have j:(if(6:Int)<(n:Int)then(6:Int)else n)=n:=by split<;>omega
 have h0:(if(0:Int)<(n:Int)then(n:Int)else 0)=n:=by split<;>omega
 have i:(n=0->(0:Int)=n)↔True:=iff_true_intro (by omega);refine zP func45 11 rfl λwf=>?_;unfold K9 at g⊢;apply yW;simp;apply yW;simp[j];(repeat apply xS);apply yT;apply yJ;simp;refine B9 (g) rfl (by simp[i]) (yJ ?_);simp;apply zT;try simp
def oU(d:AN)(i:Nat):Bool:=
 decide (0<=(d.nodes.getD i Qv).var/\(d.nodes.getD i Qv).var<=63/\0<=(d.nodes.getD i Qv).low/\0<=(d.nodes.getD i Qv).high/\(d.nodes.getD i Qv).low<i+2/\(d.nodes.getD i Qv).high<i+2/\(d.nodes.getD i Qv).low≠(d.nodes.getD i Qv).high/\(d.nodes.getD i Qv).var<d.level (d.nodes.getD i Qv).low/\(d.nodes.getD i Qv).var<d.level (d.nodes.getD i Qv).high)&&(List.range i).all λj=>decide (d.nodes.getD j Qv≠d.nodes.getD i Qv)
def UB(d:AN):Bool:=decide (0<=d.root/\d.root<d.nodes.length+2/\d.nodes.length<=4096)&&(List.range d.nodes.length).all (oU d)&&decide (Wy d.nodes d.root=some d)
def It(d:AN)(n:Nat):Bool:=UB d&&d.nodes.all λb=>decide (b.var<n)
theorem cD(d:AN):Pure prog 270 [AB d,AB d] (.bool true):=by
 refine eJ func270 rfl rfl (by simp) λwf=>?_;have h:d.nodes.length<=al:=by have:=wf.1;simp[DZ,Bs]at this;exact this.1.1
 rw[ntmps270];apply yW;simp;refine xS (yW ?_);simp;apply AR;simp;apply xK;refine xS (yW ?_);simp;apply Bx;refine DV d.nodes.length (λi tm S=>tm 2=.ptr 0 1 0 0/\tm 3=.ptr 1 1 0 0/\tm 5=.d (.int .i64 i)/\S=[.row true 2 [.d (AB d)],.row true 2 [.d (AB d)]]) (cq _) (by simp) ?_;rintro i tm S hi ⟨t2,t3,t5,rfl⟩;refine xS (yW ?_);simp[t2,t5];apply AR;simp;refine⟨λg=>?_,λj=>?_⟩
 .apply xK;apply xB;refine yD [0,2,4,6,8,10,12,14,16,18,20] (by kernel_rfl) ?_;simp;apply yA 0;simp[t2,t3,t5,g];apply AR;simp;apply CT;apply yV;simp[t5];refine⟨g,_,_,am,?_⟩;simp[t2,t3,AL g h]
 .apply C7;apply yW;simp;apply zT;try simp
theorem VW(d:AN)(i:Nat)(hi:i<d.nodes.length)(hn:d.nodes.length<=4096)(h:oU d i=true):Pure prog 269 [AB d,AF i] (.bool true):=by
 have N:d.nodes.getD i Qv=d.nodes[i]:=by simp[hi]
 simp only[oU,N,bi,cF,cl,pm]at h;obtain⟨⟨u,v,w,z,A,B,C,T,U⟩,P⟩:=h;have o:∀j (_:j<i) (hj:j<d.nodes.length),¬d.nodes[j]=d.nodes[i]:=λj Q hj=>by have:=P j Q;simpa[hj]using this
 refine eJ func269 (by kernel_rfl) rfl (by simp) λwf=>?_;have W:d.nodes.length<=al:=by have:=wf.1;simp[DZ,Bs]at this;exact this.1.1
 have E:IntKind.i64.wrap ((i:Int)+2)=i+2:=by rw[bv];omega
 generalize hb:d.nodes[i]=b at *;have l1:=IT d b.low (by omega);have l2:=IT d b.high (by omega);rw[ntmps269];refine xW λK g=>?_;simp;apply g;(repeat refine xS ?_);refine xV λK g=>?_;simp[hi,hb];refine g _ _ ?_;(try simp only[xQ,reduceIte]);have c1:¬b.var<0:=by omega
 have F:¬63<b.var:=by omega
 have G:¬b.low<0:=by omega
 have H:¬b.high<0:=by omega
 have J:¬(i:Int)+2<=b.low:=by omega
 have L:¬(i:Int)+2<=b.high:=by omega
 have m:¬d.level b.low<=b.var:=by omega
 have M:¬d.level b.high<=b.var:=by omega
 refine xS (xW λK g=>?_);simp[E,c1,F,G,H,J,L];apply g;refine AR ?_;simp[C];refine xK ?_;refine xS ?_;refine xD [0,2,4,6,8,10,12,14,16,18,20,22,24,26,28,30] (by kernel_rfl) λK g=>?_;simp;refine xA 0 ?_;simp;refine go (l1) rfl (by simp[xN]) ?_;simp;refine xA 0 ?_;simp[m];refine Ag.EU (ds:=[AB d,AF b.high]) rfl rfl (by simp;rfl) (λ_=>l2) (by simp[xN]) ?_;simp;refine xA 0 ?_;simp[M];refine xM (g _ _ ?_);(try simp only[xQ,reduceIte]);refine AR ?_;simp;refine xK ?_;refine xS (xW λK g=>?_);simp;apply g;refine Bx ?_;refine DV i (λk tm S=>tm 1=.d (AF i)/\tm 2=.ptr 0 1 0 0/\tm 5=.ptr 1 1 0 0/\tm 6=.d (.int .i64 k)/\S=[.row true 2 [.d (AB d)],.row true 3 [.d (Aa b)]]) (cq _) (by simp[Aa]) ?_;rintro k tm S X ⟨t1,t2,t5,t6,rfl⟩;refine xS (xW λK g=>?_);simp[t1,t6];apply g;refine AR ?_;simp;refine⟨λq=>?_,λY=>?_⟩
 .have s:k<d.nodes.length:=by omega
  have t:=o k q s;refine xK ?_;refine xB ?_;(repeat refine xS ?_);refine xE [0,2,4,6,8,10,12] (by kernel_rfl) λK g=>?_;simp;(repeat(refine Hz ?_ ?_;(·simp[t2,t5,s]);simp[t2,t5,t6,s]));(repeat((refine Hz ?_ ?_);(focus(simp[Aa];done));simp[Aa,t]));refine xM (g _ _ ?_);(try simp only[C4]);refine AR ?_;simp;refine CT ?_;refine xV λK g=>?_;simp[t6];apply g;refine⟨q,_,_,am,?_⟩;have R:i<=al:=by omega
  simp[t1,t2,t5,AL q R,Aa]
 .refine C7 ?_;refine xW λK g=>?_;simp;apply g;refine Af ⟨_,_,am,?_⟩;try simp
theorem ZQ(d:AN)(h:UB d=true):Pure prog 244 [AB d] (.bool true):=by
 simp[UB]at h;obtain⟨⟨⟨h1,w,o⟩,q⟩,s⟩:=h;have j:=UW d.nodes d.root d s;have t:=cD d;have u:d.nodes.length<=al:=by unfold al;omega
 have k:IntKind.i64.wrap ((d.nodes.length:Int)+2)=d.nodes.length+2:=by rw[bv];omega
 have c1:¬d.root<0:=by omega
 have m:¬(d.nodes.length:Int)+2<=d.root:=by omega
 refine zP func244 34 rfl λwf=>?_;apply yW;simp;refine xS (yW ?_);simp[k,c1,m];apply AR;simp;apply xK;refine xS (yW ?_);simp;apply Bx;refine DV d.nodes.length (λi tm S=>tm 1=.ptr 0 1 0 0/\tm 3=.d (.int .i64 i)/\S=[.row true 2 [.d (AB d)]]) (cq _) (by simp) ?_;rintro i tm S hi ⟨t1,t3,rfl⟩;refine xS (yW ?_);simp[t1,t3];apply AR;simp;refine⟨λg=>?_,λz=>?_⟩
 .have v:=VW d i g o (q i g);apply xK;apply xB;apply yS;apply yJ;simp[t1,t3];refine B9 (v) rfl (by simp[xN]) (yJ ?_);simp;apply AR;simp;apply CT;apply yV;simp[t3];refine⟨g,_,_,am,?_⟩;simp[t1,AL g u]
 .apply C7;(repeat apply xS);refine yE [0,2,4,6,8,10,12,14] (by kernel_rfl) ?_;simp;apply yA 0;simp[t1];refine go (j) rfl (by simp[xN]) ?_;simp;apply yA 0;simp;refine go (t) rfl (by simp[xN]) ?_;simp;apply yA 0;simp;apply zT;try simp
theorem Zp(d:AN)(h:UB d=true):Pure prog 210 [AB d] (AF 0):=by
 have j:=ZQ d h;simp[UB]at h;have i:¬4096<(d.nodes.length:Int):=by omega
 have g:¬4096<d.nodes.length:=by omega
 refine zP func210 10 rfl λwf=>?_;apply yW;simp;refine xS (yW ?_);simp[i];apply AR;simp;apply xK;refine xS (yS ?_);apply yJ;simp;refine B9 (j) rfl (by simp[xN]) (yJ ?_);simp;apply AR;simp;apply xK;apply yW;simp;apply zT;try simp
theorem Jv(d:AN)(n:Nat)(h:It d n=true):Pure prog 180 [AB d,AF n] (.bool true):=by
 simp[It]at h;have k:=Zp d h.1;have m:=h.2;refine eJ func180 rfl rfl (by simp) λwf=>?_;have o:d.nodes.length<=al:=by have:=wf.1;simp[DZ,Bs]at this;exact this.1.1
 rw[ntmps180];apply yW;simp;refine xS (yS ?_);apply yJ;simp;refine B9 (k) rfl (by simp[xN]) (yJ ?_);simp;apply AR;simp;apply xK;refine xS (yW ?_);simp;apply Bx;refine DV d.nodes.length (λi tm S=>tm 1=.d (AF n)/\tm 2=.ptr 0 1 0 0/\tm 5=.d (.int .i64 i)/\S=[.row true 2 [.d (AB d)]]) (cq _) (by simp) ?_;rintro i tm S hi ⟨t1,t2,t5,rfl⟩;refine xS (yW ?_);simp[t2,t5];apply AR;simp;refine⟨λg=>?_,λq=>?_⟩
 .have j:¬(n:Int)<=d.nodes[i].var:=by have:=m _ (b9 g);omega
  apply xK;apply xB;apply yW;simp[t1,t2,t5,g,j];apply AR;simp;apply CT;apply yV;simp[t5];refine⟨g,_,_,am,?_⟩;simp[t1,t2,AL g o]
 .apply C7;apply yW;simp;apply zT;try simp
def lO(b n:Nat):Option AN:=
 if n=0\/b % 6<3 then some ⟨[],1⟩else if b % 6=3 then some (Av (b / 6 % n:Nat))else if b % 6=4 then PR (Av (b / 6 % n:Nat))else JW [(b:Int)] n 8 0 0
def Ir(b n:Nat):AN:=(lO b n).getD ⟨[],1⟩
theorem iT:((List.range 256).all λb=>(List.range 4).all λn=>(lO b n).isSome&&It (Ir b n) n)=true:=by decide+kernel
theorem Eu{b n:Nat}(hb:b<256)(hn:n<4):lO b n=some (Ir b n)/\It (Ir b n) n=true:=by
 have h:=iT;simp at h;obtain⟨h1,g⟩:=h b hb n hn;refine⟨?_,g⟩;obtain⟨d,i⟩:=jw.1 h1;simp[Ir,i]
theorem GD(b n:Nat)(w:b<256)(hn:n<4):Pure prog 15 [.int .u8 b,AF n] (AB (Ir b n)):=by
 have h:=(Eu w hn).1;generalize Ir b n=d at *;unfold lO at h;have u:((b:Int).tmod 6)=(b % 6:Nat):=by rw[c8 (by omega)];simp
 have E:((b:Int).tdiv 6)=(b / 6:Nat):=by simp
 have h1:=CA true;simp at h1;obtain⟨m,J⟩:=a9 (b % 6);rw[J]at h u;by_cases F:n=0\/m<3
 .rw[ap F]at h;cases h;refine zP func15 33 rfl λwf=>?_;apply yW;simp;refine xS (yW ?_);simp[u];(repeat apply xS);refine k6 (t:=decide (n=0)||decide (m<3)) ?_ (λhb=>?_) (λhb=>?_)
  .simp;rw[eg];simp;omega
  ·(repeat apply xS);apply yT;apply yJ;simp;refine B9 (h1) rfl (by simp) (yJ ?_);simp;refine Af ⟨_,_,am,?_⟩;try simp
  .simp at hb;omega
 .rw[ao F]at h;have G:¬n=0:=by omega
  have z:¬m<3:=by omega
  have A:(decide (n=0)||decide (m<3))=false:=by simp[G,z]
  have o:b / 6 % n<n:=gc _ (by omega);have B:(((b / 6:Nat):Int).tmod n)=(b / 6 % n:Nat):=by rw[c8 (by omega)];simp
  obtain⟨q,K⟩:=a9 (b / 6);rw[K]at h E B o;obtain⟨v,L⟩:=a9 (q % n);rw[L]at h B o;have M:(b:Int) / 6=q:=by omega
  have N:IntKind.u8.wrap (q:Int)=q:=by simp[IntKind.wrap,IntKind.signed,IntKind.bits];omega
  have P:IntKind.i64.wrap (q:Int)=q:=by rw[bv];omega
  have Q:=CX (v:Int);have C:JW [(b:Int)] n 8 0 0=some d->_:=S9 [(b:Int)] n (by omega) d;refine zP func15 33 rfl λwf=>?_;apply yW;simp;refine xS (yW ?_);simp[u];(repeat apply xS);refine k6 (t:=decide (n=0)||decide (m<3)) ?_ (λhb=>?_) (λhb=>?_)
  .simp;rw[eg];simp;omega
  .rw[A]at hb;cases hb
  .clear hb;apply xK;(repeat apply xS);apply yT;apply yJ;simp[E,B,N,P,G];refine B9 (Q) rfl (by simp) (yJ ?_);simp;have i:((b:Int).tmod 6)=m:=u;by_cases j:m=3
   .rw[ap j]at h;cases h;refine xS (yW ?_);simp[i];apply Bx;apply yW;simp[j];apply AR;simp;apply yW;simp;refine Af ⟨_,_,am,?_⟩;try simp
   .rw[ao j]at h;by_cases k:m=4
    .rw[ap k]at h;have R:=DR _ _ h;refine xS (yW ?_);simp[i];apply Bx;apply yW;simp[k];apply AR;simp;apply yW;simp;apply AR;simp;(repeat apply xS);apply yT;apply yJ;simp;refine B9 (R) rfl (by simp[xN]) (yJ ?_);simp;refine Af ⟨_,_,am,?_⟩;try simp
    .rw[ao k]at h;have H:=C h;simp[K9]at H;have s:¬(m:Int)=3:=by omega
     have g:¬(m:Int)=4:=by omega
     refine xS (yW ?_);simp[i];apply Bx;apply yW;simp;apply AR;simp[s];apply yW;simp;apply AR;simp[g];apply CT;have S:1<=al:=by unfold al;omega
     (repeat apply xS);apply yT;apply yJ;simp[S];refine B9 (H) rfl (by simp[xN]) (yJ ?_);simp;apply zT;try simp
theorem VB(p a c:Int)(d:AN):Pure prog 181 [AM ⟨1,p,a,c,0,0,[],d⟩] (.bool true):=by
 refine zP func181 63 rfl λwf=>?_;apply yW;simp;apply yW;simp;refine xS (yW ?_);simp;apply AR;simp;apply xK;apply yW;simp;apply yW;simp;apply zT;try simp
theorem Wi(p a c:Int)(d:AN):Pure prog 181 [AM ⟨2,p,a,c,0,0,[],d⟩] (.bool true):=by
 refine zP func181 63 rfl λwf=>?_;apply yW;simp;apply yW;simp;refine xS (yW ?_);simp;apply AR;simp;apply xK;apply yW;simp;apply yW;simp;apply zT;try simp
theorem WO(l t:Int)(d:AN):Pure prog 181 [AM ⟨3,0,0,0,l,0,[t],d⟩] (.bool true):=by
 refine zP func181 63 rfl λwf=>?_;apply yW;simp;apply yW;simp;refine xS (yW ?_);simp;apply AR;simp;apply xK;apply yW;simp;apply yW;simp;apply zT;try simp
theorem Wl(l t:Int)(d:AN):Pure prog 181 [AM ⟨4,0,0,0,l,0,[t],d⟩] (.bool true):=by
 refine zP func181 63 rfl λwf=>?_;apply yW;simp;apply yW;simp;refine xS (yW ?_);simp;apply AR;simp;apply xK;apply yW;simp;apply yW;simp;apply zT;try simp
theorem VJ(t:Int)(d:AN):Pure prog 181 [AM ⟨5,0,0,0,0,0,[t],d⟩] (.bool true):=by
 refine zP func181 63 rfl λwf=>?_;apply yW;simp;apply yW;simp;refine xS (yW ?_);simp;apply AR;simp;apply xK;apply yW;simp;apply yW;simp;apply zT;try simp
def Ry(g:AE)(p:Int):Bool:=g.levels.any λl=>l.AD.contains p
theorem JK(g:AE)(p:Int)(h1:g.levels.length<=al)(B:∀l∈g.levels,l.AD.length<=al):Pure prog 130 [AA g,AF p] (.bool (Ry g p)):=by
 refine zP func130 36 rfl λwf=>?_;apply yW;simp;refine xS (yW ?_);simp;apply Bx;refine DV g.levels.length (λi tm S=>tm 1=.d (AF p)/\tm 2=.ptr 0 1 0 0/\tm 5=.d (.int .i64 i)/\S=[.row true 9 [.d (AA g)]]/\∀j (_:j<i) (h:j<g.levels.length),g.levels[j].AD.contains p=false) (cq _) (by simp) ?_;rintro i tm S hi ⟨t1,t2,t5,rfl,v⟩;refine xS (yW ?_);simp[t2,t5];apply AR;simp;refine⟨λm=>?_,λC=>?_⟩
 .have E:=B _ (b9 m);have s:=b9 m;generalize t:g.levels[i]=l at *;have w:=Ak.eq_1 l;apply xK;apply xB;apply yW;simp;apply Bx;refine DV l.AD.length (λk tm S=>tm 1=.d (AF p)/\tm 2=.ptr 0 1 0 0/\tm 5=.d (.int .i64 i)/\tm 6=.d (.int .i64 k)/\S=[.row true 9 [.d (AA g)]]/\∀j (_:j<k) (h:j<l.AD.length),l.AD[j]≠p) (cq _) (by simp[t1,t2,t5]) ?_;rintro k tm S K ⟨t1,t2,t5,t6,rfl,z⟩;refine xS (yW ?_);simp[t2,t5,t6,m,t,w];apply AR;simp;refine⟨λo=>?_,λC=>?_⟩
  .apply xK;apply xB;apply yW;simp[t1,t2,t5,t6,m,t,w,o];apply AR;simp;refine⟨λF=>?_,λG=>?_⟩
   .have:Ry g p=true:=zv.2 ⟨l,s,by have:=b9 o;rw[F]at this;simpa using this⟩;rw[this];apply yW;simp;refine Af ⟨_,_,am,?_⟩;try simp
   .apply CT;apply yV;simp[t6];refine⟨o,_,_,am,?_⟩;simp[t1,t2,t5,AL o E];intro j hj u;by_cases e:j=k
    .subst e;simpa using G
    .exact z j (by omega) u
  .apply C7;have e:k=l.AD.length:=by omega
   subst e;apply yV;simp[t5];refine⟨m,_,_,am,?_⟩;simp[t1,t2,AL m h1];intro j hj u;by_cases e:j=i
   .subst e;rw[t];simp[jp,not_exists];intro q A H;exact z q A A H
   .simpa using v j (by omega) u
 .apply C7;have:Ry g p=false:=by
   rw[Ry,p6];intro x J;obtain⟨j,hj,rfl⟩:=jp.1 J;rw[v j (by omega) hj];simp
  rw[this];apply yW;simp;apply zT;try simp
section
variable {P:Program} {n b:Nat} {ops:Array Oper} {o:Oper} {tm:Tm} {S:Sg} {K:Tm->Sg->Prop}
theorem gX{B:List (Nat×(Sg->Prop))}{i:Nat}{q:Bool}{rest:List (Nat×Bool×Oper)}{j:Nat}{g:Bool}(t:q=true)(m:o.guard=some (j,g))
  (u:CW ops tm j g=some true/\BA n o.dst/\Bd P o.op tm S/\DC P o.op tm S=S)
  (v:Ag P n b ops ((i,λh=>h=S)::B) rest (put tm o.dst (Bh P o.op tm S)) S K):Ag P n b ops B ((i,q,o)::rest) tm S K:=by
 subst t;obtain⟨w,z,A,C⟩:=u;refine o4 (λh=>h=S) rfl (λhi h hS=>?_) v;subst hS;intro k s;obtain⟨E,F,G⟩:=K8 (P:=P) (S:=h) (op:=o.op) (Ig s);have:=Step.HN (b:=b) hi z m (by rw[guard_congr m s];exact w) (Lk (P:=P) (n:=n) (o:=o) (tm:=k) (S:=h) (by rw[E];exact A));rw[F,G,C]at this;exact this
end
def ZR(tk:Token)(lit:Bool):Bool:=if lit then decide (tk.literal=⟨#[]⟩)else decide (tk.cls≠0)
theorem QD(g:AE)(t:Nat)(lit:Bool)(q:t<g.Ae.length):Pure prog 182 [AA g,A9 [(t:Int)],.bool lit] (.bool (!(ZR g.Ae[t] lit))):=by
 have c1:¬(t:Int)<0:=by omega
 have k:¬(g.Ae.length:Int)<=t:=by omega
 have m:¬g.Ae.length<=t:=by omega
 generalize s:g.Ae[t]=tk;have u:=Ad.eq_1 tk;refine eJ func182 (by kernel_rfl) rfl (by simp) λwf=>?_;rw[ntmps182];refine xW λK h=>?_;simp;apply h;refine xS (xW λK h=>?_);simp;apply h;refine Bx ?_;refine DV 1 (λi tm S=>tm 1=.d (A9 [(t:Int)])/\tm 2=.d (.bool lit)/\tm 3=.ptr 0 1 0 0/\tm 7=.d (.int .i64 i)/\S=[.row true 9 [.d (AA g)]]/\(0<i->ZR tk lit=false)) (cq _) (by simp) ?_;rintro i tm S hi ⟨t1,t2,t3,t7,rfl,v⟩;rcases pu i 1 with h0|h0
 .have o:i=0:=by omega
  subst o;refine xS (xW λK h=>?_);simp[t1,t7];apply h;refine AR ?_;simp;refine xK ?_;refine xB ?_;refine xS ?_;refine xD [0,2,4,6,8,10,12,14,16,18,20,22,24,26,28,30,32,34,36,38,40,42,44,46,48,50,52,54,56,58,60] (by kernel_rfl) λK h=>?_;simp;refine xZ ?_;simp[t1,t3,t7,c1,k];refine xM (h _ _ ?_);(try simp only[xQ,reduceIte]);refine AR ?_;simp;refine xK ?_;(repeat refine xS ?_);refine xE [0,2,4,6,8,10,12,14,17,19] (by kernel_rfl) λK h=>?_;simp;refine xA 1 ?_;simp[t1,t3,t7,q,s,u];refine xX 0 (by kernel_rfl) ?_;simp[t1,t3,t7,Ac,q,s,u];refine xA 1 ?_;simp;refine xX 255 (by kernel_rfl) ?_;simp[Ac];refine xM (h _ _ ?_);(try simp only[xQ,reduceIte]);cases lit with
  |true=>
   (repeat refine xS ?_);refine HA λK h=>?_;(repeat((first|refine FJ rfl ?_ ?_;(·simp)|refine QX rfl ?_ ?_;(·simp)|refine Cd ?_ ?_;(·simp));simp[t2]));refine B6 (h _ _ ?_);(try simp only[C4]);refine AR ?_;simp;refine⟨λj=>?_,λj=>?_⟩
   .have ha:ZR tk true=true:=by simp[ZR,j]
    rw[ha];refine xW λK h=>?_;simp;apply h;refine Af ⟨_,_,am,?_⟩;try simp
   .refine CT ?_;refine xV λK h=>?_;simp[t7];apply h;refine⟨_,_,lm 1 (S':=[.row true 9 [.d (AA g)]]) (by simp) (by simp) (by simp) (by simp),?_⟩;simp[clean,AP,t1,t2,t3,ZR,j];decide
  |false=>
   refine FX λK h=>?_;refine xH ?_;simp[t2];refine B6 (h _ _ ?_);refine AR ?_;simp;refine⟨λj=>?_,λj=>?_⟩
   .have ha:ZR tk false=true:=by simp[ZR,j]
    rw[ha];refine xW λK h=>?_;simp;apply h;refine Af ⟨_,_,am,?_⟩;try simp
   .refine CT ?_;refine xV λK h=>?_;simp[t7];apply h;refine⟨_,_,lm 1 (S':=[.row true 9 [.d (AA g)]]) (by simp) (by simp) (by simp) (by simp),?_⟩;simp[clean,AP,t1,t2,t3,ZR,j];decide
 .have e:i=1:=by omega
  subst e;have ha:=v (by omega);rw[ha];refine xS (xW λK h=>?_);simp[t1,t7];apply h;refine AR ?_;simp;refine C7 ?_;refine xW λK h=>?_;simp[t1];apply h;refine Af ⟨_,_,am,?_⟩;try simp
def Np(g:AE)(p a c:Nat):Bool:=!((g.AD.getD p FV).right.getD a ⟨true,0⟩).token&&decide (((g.AD.getD p FV).right.getD a ⟨true,0⟩).index=(g.AD.getD c FV).left)
theorem iN(g:AE)(p a c:Nat)(d:AN)(m:p<g.AD.length)(o:c<g.AD.length)(F:It d g.conds.length=true):
  Pure prog 131 [AA g,AM ⟨1,p,a,c,0,0,[],d⟩] (.bool (Np g p a c)):=by
 have G:=Jv d g.conds.length F;have H:=VB p a c d;have c1:¬(p:Int)<0:=by omega
 have B:¬(g.AD.length:Int)<=p:=by omega
 have h:¬g.AD.length<=p:=by omega
 have J:¬(c:Int)<0:=by omega
 have K:¬(g.AD.length:Int)<=c:=by omega
 have t:¬g.AD.length<=c:=by omega
 refine zP func131 152 rfl λwf=>?_;apply yW;simp;refine xS (yS ?_);apply yH;simp;refine i7 (G) rfl rfl (by simp[xN];try rfl) ?_;simp;apply yH;simp;refine i7 (H) rfl rfl (by simp[xN];try rfl) ?_;simp;apply yH;simp;apply AR;simp;apply xK;refine xS (yW ?_);simp;apply Bx;refine xS (yW ?_);simp;apply AR;simp;apply xK;apply AR;simp;refine xS (yS ?_);apply yH;simp[c1,B,J,K];apply AR;simp;apply CT;unfold Np;have L:g.AD.getD p FV=g.AD[p]:=by simp[m]
 have M:g.AD.getD c FV=g.AD[c]:=by simp[o]
 rw[L,M];generalize v:g.AD[p]=q;generalize w:g.AD[c]=u;have N:=AH.eq_1 q;have i:=AH.eq_1 u;(repeat apply xS);apply yV;simp[m,v,N];by_cases j:a<q.right.length
 .generalize z:q.right[a]=s;have C:=AI.eq_1 s;have k:(a:Int)<q.right.length:=by omega
  have A:q.right.getD a ⟨true,0⟩=s:=by simp[j,z]
  rw[A];cases E:s.token with
  |true=>
   (repeat apply xS);refine yE [0,2,4,6,8,10,12,14,16,18,20,22,24,26,28,30,32,34,36,38,40,42,44,46,48,50,52,54,56,58,60,62,64,66,68,70] (by kernel_rfl) ?_;simp;apply yZ;simp[j,k,z,C,E];refine Af ⟨_,_,am,?_⟩;try simp
  |false=>
   (repeat apply xS);refine yE [0,2,4,6,8,10,12,14,16,18,20,22,24,26,28,30,32,34,36,38,40,42,44,46,48,50,52,54,56,58,60,62,64,66,68,70] (by kernel_rfl) ?_;simp;apply yZ;simp[j,k,z,C,E,o,w,i];refine Af ⟨_,_,am,?_⟩;(try simp);rw[eg];simp
 .have k:¬(a:Int)<q.right.length:=by omega
  have A:q.right.getD a ⟨true,0⟩=⟨true,0⟩:=by simp[j]
  rw[A];(repeat apply xS);refine yE [0,2,4,6,8,10,12,14,16,18,20,22,24,26,28,30,32,34,36,38,40,42,44,46,48,50,52,54,56,58,60,62,64,66,68,70] (by kernel_rfl) ?_;simp;apply yZ;simp[k];refine Af ⟨_,_,am,?_⟩;try simp
theorem gD(g:AE)(p a c:Nat)(d:AN)(m:p<g.AD.length)(o:c<g.AD.length)(F:It d g.conds.length=true):
  Pure prog 131 [AA g,AM ⟨2,p,a,c,0,0,[],d⟩] (.bool (Np g p a c)):=by
 have G:=Jv d g.conds.length F;have H:=Wi p a c d;have c1:¬(p:Int)<0:=by omega
 have B:¬(g.AD.length:Int)<=p:=by omega
 have h:¬g.AD.length<=p:=by omega
 have J:¬(c:Int)<0:=by omega
 have K:¬(g.AD.length:Int)<=c:=by omega
 have t:¬g.AD.length<=c:=by omega
 refine zP func131 152 rfl λwf=>?_;apply yW;simp;refine xS (yS ?_);apply yH;simp;refine i7 (G) rfl rfl (by simp[xN];try rfl) ?_;simp;apply yH;simp;refine i7 (H) rfl rfl (by simp[xN];try rfl) ?_;simp;apply yH;simp;apply AR;simp;apply xK;refine xS (yW ?_);simp;apply Bx;refine xS (yW ?_);simp;apply AR;simp;apply yV;simp;apply AR;simp;refine xS (yS ?_);apply yH;simp[c1,B,J,K];apply AR;simp;apply CT;unfold Np;have L:g.AD.getD p FV=g.AD[p]:=by simp[m]
 have M:g.AD.getD c FV=g.AD[c]:=by simp[o]
 rw[L,M];generalize v:g.AD[p]=q;generalize w:g.AD[c]=u;have N:=AH.eq_1 q;have i:=AH.eq_1 u;(repeat apply xS);apply yV;simp[m,v,N];by_cases j:a<q.right.length
 .generalize z:q.right[a]=s;have C:=AI.eq_1 s;have k:(a:Int)<q.right.length:=by omega
  have A:q.right.getD a ⟨true,0⟩=s:=by simp[j,z]
  rw[A];cases E:s.token with
  |true=>
   (repeat apply xS);refine yE [0,2,4,6,8,10,12,14,16,18,20,22,24,26,28,30,32,34,36,38,40,42,44,46,48,50,52,54,56,58,60,62,64,66,68,70] (by kernel_rfl) ?_;simp;apply yZ;simp[j,k,z,C,E];refine Af ⟨_,_,am,?_⟩;try simp
  |false=>
   (repeat apply xS);refine yE [0,2,4,6,8,10,12,14,16,18,20,22,24,26,28,30,32,34,36,38,40,42,44,46,48,50,52,54,56,58,60,62,64,66,68,70] (by kernel_rfl) ?_;simp;apply yZ;simp[j,k,z,C,E,o,w,i];refine Af ⟨_,_,am,?_⟩;(try simp);rw[eg];simp
 .have k:¬(a:Int)<q.right.length:=by omega
  have A:q.right.getD a ⟨true,0⟩=⟨true,0⟩:=by simp[j]
  rw[A];(repeat apply xS);refine yE [0,2,4,6,8,10,12,14,16,18,20,22,24,26,28,30,32,34,36,38,40,42,44,46,48,50,52,54,56,58,60,62,64,66,68,70] (by kernel_rfl) ?_;simp;apply yZ;simp[k];refine Af ⟨_,_,am,?_⟩;try simp
theorem bq(g:AE)(l t:Nat)(d:AN)(i:l<g.A2.length)(j:t<g.Ae.length)(k:It d g.conds.length=true):
  Pure prog 131 [AA g,AM ⟨3,0,0,0,l,0,[(t:Int)],d⟩] (.bool (!(ZR g.Ae[t] false))):=by
 have m:=Jv d g.conds.length k;have o:=WO l t d;have h:=QD g t false j;have c1:(0:Int)<=l:=by omega
 have q:(l:Int)<g.A2.length:=by omega
 refine zP func131 152 rfl λwf=>?_;apply yW;simp;refine xS (yS ?_);apply yH;simp;refine i7 (m) rfl rfl (by simp[xN];try rfl) ?_;simp;apply yH;simp;refine i7 (o) rfl rfl (by simp[xN];try rfl) ?_;simp;apply yH;simp;apply AR;simp;apply xK;refine xS (yW ?_);simp;apply Bx;refine xS (yW ?_);simp;apply AR;simp;apply yV;simp;apply AR;simp;refine xS (yW ?_);simp;apply AR;simp;apply xK;apply AR;simp;(repeat apply xS);apply yT;apply yH;simp[c1,q];refine i7 (h) rfl rfl (by simp[xN];try rfl) ?_;simp;apply yH;simp;refine Af ⟨_,_,am,?_⟩;try simp
theorem gf(g:AE)(l t:Nat)(d:AN)(i:l<g.A2.length)(j:t<g.Ae.length)(k:It d g.conds.length=true):
  Pure prog 131 [AA g,AM ⟨4,0,0,0,l,0,[(t:Int)],d⟩] (.bool (!(ZR g.Ae[t] false))):=by
 have m:=Jv d g.conds.length k;have o:=Wl l t d;have h:=QD g t false j;have c1:(0:Int)<=l:=by omega
 have q:(l:Int)<g.A2.length:=by omega
 refine zP func131 152 rfl λwf=>?_;apply yW;simp;refine xS (yS ?_);apply yH;simp;refine i7 (m) rfl rfl (by simp[xN];try rfl) ?_;simp;apply yH;simp;refine i7 (o) rfl rfl (by simp[xN];try rfl) ?_;simp;apply yH;simp;apply AR;simp;apply xK;refine xS (yW ?_);simp;apply Bx;refine xS (yW ?_);simp;apply AR;simp;apply yV;simp;apply AR;simp;refine xS (yW ?_);simp;apply AR;simp;apply yV;simp;apply AR;simp;(repeat apply xS);apply yT;apply yH;simp[c1,q];refine i7 (h) rfl rfl (by simp[xN];try rfl) ?_;simp;apply yH;simp;refine Af ⟨_,_,am,?_⟩;try simp
theorem di(g:AE)(t:Nat)(d:AN)(u:t<g.Ae.length)(v:It d g.conds.length=true):
  ∃b,Pure prog 131 [AA g,AM ⟨5,0,0,0,0,0,[(t:Int)],d⟩] (.bool b):=by
 have k:=Jv d g.conds.length v;have m:=VJ t d;have i:=QD g t true u;have h0:0<g.Ae.length:=by omega
 have o:¬(g.Ae.length:Int)<=0:=by omega
 have q:¬g.Ae.length=0:=by omega
 have s:g.Ae≠[]:=by intro e;simp[e]at h0
 have A:True:=trivial;cases ha:ZR g.Ae[t] true with
 |true=>
  rw[ha]at i;refine⟨false,?_⟩;refine eJ func131 (by kernel_rfl) rfl (by simp) λwf=>?_;rw[ntmps131];refine xW λK h=>?_;simp;apply h;refine xS (FX λK h=>?_);refine xH ?_;simp;refine i7 (k) rfl rfl (by simp[xN];try rfl) ?_;simp;refine xH ?_;simp;refine i7 (m) rfl rfl (by simp[xN];try rfl) ?_;simp;refine xH ?_;simp;refine B6 (h _ _ ?_);(try simp only[xQ,reduceIte]);refine AR ?_;simp;refine xK ?_;refine xS (xW λK h=>?_);simp;apply h;refine Bx ?_;refine xS (xW λK h=>?_);simp;apply h;refine AR ?_;simp;refine xV λK h=>?_;simp;apply h;refine AR ?_;simp;refine xS (xW λK h=>?_);simp;apply h;refine AR ?_;simp;refine xV λK h=>?_;simp;apply h;refine AR ?_;simp;refine CT ?_;refine xS (FX λK h=>?_);refine xH ?_;simp[q];refine i7 (i) rfl rfl (by simp[xN];try rfl) ?_;simp;refine xH ?_;simp;refine B6 (h _ _ ?_);(try simp only[xQ,reduceIte]);refine AR ?_;simp;refine xW λK h=>?_;simp;apply h;refine Af ⟨_,_,am,?_⟩;try simp
 |false=>
  rw[ha]at i;generalize w:g.Ae[0]=tk;have z:=Ad.eq_1 tk;refine⟨decide (tk.cls=0)&&decide (tk.literal=⟨#[]⟩),?_⟩;refine eJ func131 (by kernel_rfl) rfl (by simp) λwf=>?_;rw[ntmps131];refine xW λK h=>?_;simp;apply h;refine xS (FX λK h=>?_);refine xH ?_;simp;refine i7 (k) rfl rfl (by simp[xN];try rfl) ?_;simp;refine xH ?_;simp;refine i7 (m) rfl rfl (by simp[xN];try rfl) ?_;simp;refine xH ?_;simp;refine B6 (h _ _ ?_);(try simp only[xQ,reduceIte]);refine AR ?_;simp;refine xK ?_;refine xS (xW λK h=>?_);simp;apply h;refine Bx ?_;refine xS (xW λK h=>?_);simp;apply h;refine AR ?_;simp;refine xV λK h=>?_;simp;apply h;refine AR ?_;simp;refine xS (xW λK h=>?_);simp;apply h;refine AR ?_;simp;refine xV λK h=>?_;simp;apply h;refine AR ?_;simp;refine CT ?_;refine xS (FX λK h=>?_);refine xH ?_;simp[q];refine i7 (i) rfl rfl (by simp[xN];try rfl) ?_;simp;refine xH ?_;simp;refine B6 (h _ _ ?_);(try simp only[xQ,reduceIte]);refine AR ?_;simp;refine xK ?_;(repeat refine xS ?_);refine HA λK h=>?_;refine xJ ?_;simp[h0,w,z];refine B6 (h _ _ ?_);(try simp only[xQ,reduceIte]);by_cases j:tk.cls=0
  ·(repeat refine xS ?_);refine HA λK h=>?_;refine xH ?_;simp[j];refine B6 (h _ _ ?_);(try simp only[xQ,reduceIte]);refine Af ⟨_,_,am,?_⟩;(try simp);intro _;exact j
  ·(repeat refine xS ?_);refine HA λK h=>?_;(repeat((first|refine FJ rfl ?_ ?_;(·simp[j])|refine QX rfl ?_ ?_;(·simp[j])|refine Cd ?_ ?_;(·simp[j]));simp));refine B6 (h _ _ ?_);(try simp only[C4]);refine Af ⟨_,_,am,?_⟩;(try simp);simp[j]
def Um:DT->Bool
 |.leaf _=>true
 |.node v l h=>decide (0<=v)&&(decide (v<=63)&&(decide (l≠h)&&(decide (v<l.level)&&(decide (v<h.level)&&(Um l&&Um h)))))
theorem PZ:∀{t:DT},Um t=true->t.Good
 |.leaf _,_=>trivial
 |.node v l h,e=>by
  simp[Um]at e;exact⟨e.1,e.2.1,e.2.2.1,e.2.2.2.1,e.2.2.2.2.1,PZ e.2.2.2.2.2.1,PZ e.2.2.2.2.2.2⟩
def oJ(l:List Ap):Nat->Int->DT
 |0,_=>.leaf false
 |f+1,k=>if k<=0 then .leaf false else if k=1 then .leaf true else match l[(k - 2).toNat]? with
  |none=>.leaf false
  |some b=>.node b.var (oJ l f b.low) (oJ l f b.high)
def ny(d:AN):DT:=oJ d.nodes 8 d.root
def WH(d:AN)(n:Nat):Bool:=decide (Cq (ny d)=d)&&(Um (ny d)&&(decide (d.nodes.length<=4096)&&d.nodes.all λb=>decide (b.var<n)))
theorem MU{d:AN}{n:Nat}(h:WH d n=true):C5 d n=true:=by
 simp[WH]at h;obtain⟨h1,g,m,i⟩:=h;have j:Valid d:=⟨ny d,PZ g,h1.symm⟩;have k:Hn d=0:=by unfold Hn;rw[ao (by omega),ap j]
 simp[C5,k];intro b hb;have:=i b hb;omega
theorem ei:((List.range 256).all λb=>(List.range 4).all λn=>WH (Ir b n) n)=true:=by decide+kernel
theorem Ev{b n:Nat}(hb:b<256)(hn:n<4):C5 (Ir b n) n=true:=by
 have h:=ei;simp at h;exact MU (h b hb n hn)
theorem cI:((List.range 256).all λb=>(List.range 4).all λn=>match JW [(b:Int)] n 8 0 0 with|none=>false|some d=>WH d n)=true:=by decide+kernel
theorem Q4{b n:Nat}(hb:b<256)(hn:n<4){d:AN}(g:JW [(b:Int)] n 8 0 0=some d):C5 d n=true:=by
 have h:=cI;simp at h;have:=h b hb n hn;rw[g]at this;exact MU this
def vL(g:AE)(l:Level):Prop:=
 l.AD.length<=2/\0<=l.assoc/\l.assoc<=3/\C5 l.cond g.conds.length=true/\l.AD.Nodup/\∀p∈l.AD,0<=p/\p<g.AD.length/\Ry g p=false
def uQ(g:AE)(f:Filter):Prop:=∃d,C5 d g.conds.length=true/\((∃A C B:Nat,∃k:Int,(k=1\/k=2)/\A<g.AD.length/\B<g.AD.length/\Np g A C B=true/\f=⟨k,A,C,B,0,0,[],d⟩)\/(∃l t:Nat,∃k:Int,(k=3\/k=4)/\l<g.A2.length/\t<9/\f=⟨k,0,0,0,l,0,[(t:Int)],d⟩)\/f=⟨5,0,0,0,0,0,[5],d⟩)
def vC(g:AE)(t:List Token):Prop:=∃(e:Nat) (d:AN),C5 d g.conds.length=true/\∃h:e<g.Ae.length,t=g.Ae.set e {g.Ae[e]with cond:=d}
def Sx:Symbol:=⟨false,0⟩
def Sb(l:Int)(r:List Symbol):Bool:=decide (r.length=3)&&((r.getD 0 Sx).token&&(r.getD 2 Sx).token&&!(r.getD 1 Sx).token&&decide ((r.getD 1 Sx).index=l))
theorem WD(nm:ByteArray)(l:Int)(r:List Symbol)(c:AN)(b:Bool):Pure prog 179 [AH ⟨nm,l,r,c,b,0,[],A0⟩] (.bool (Sb l r)):=by
 have t:A0=⟨false,0,0,0,0⟩:=rfl;have j:Cg [D.bool false,D.int .i64 0,D.int .i64 0,D.int .i64 0,D.int .i64 0] [D.bool false,D.int .i64 0,D.int .i64 0,D.int .i64 0,D.int .i64 0]=true:=rfl;by_cases h:r.length=3
 .obtain⟨x,y,z,rfl⟩:∃x y z,r=[x,y,z]:=by
   match r,h with
   |[x,y,z],_=>exact⟨x,y,z,rfl⟩
  have hb:Sb l [x,y,z]=(x.token&&z.token&&!y.token&&decide (y.index=l)):=by simp[Sb]
  rw[hb];have k:=AI.eq_1 x;have q:=AI.eq_1 y;have o:=AI.eq_1 z;refine zP func179 54 rfl λwf=>?_;apply yW;simp;refine xS (yS ?_);apply yH;simp[t,j];apply AR;simp;apply CT;cases m:x.token with
  |false=>
   (repeat apply xS);refine yE [0,2,4,6,8,10,12,14,16,18,20,22,24,26,28,30,32,34,36,38,40,42,44,46,48,50,52,54,56,58,60] (by kernel_rfl) ?_;simp;apply yZ;simp[k,m];apply zT;try simp
  |true=>
   cases i:z.token with
   |false=>
    (repeat apply xS);refine yE [0,2,4,6,8,10,12,14,16,18,20,22,24,26,28,30,32,34,36,38,40,42,44,46,48,50,52,54,56,58,60] (by kernel_rfl) ?_;simp;apply yZ;simp[k,o,m,i];apply zT;try simp
   |true=>
    cases s:y.token with
    |true=>
     (repeat apply xS);refine yE [0,2,4,6,8,10,12,14,16,18,20,22,24,26,28,30,32,34,36,38,40,42,44,46,48,50,52,54,56,58,60] (by kernel_rfl) ?_;simp;apply yZ;simp[k,q,o,m,s,i];apply zT;try simp
    |false=>
     (repeat apply xS);refine yE [0,2,4,6,8,10,12,14,16,18,20,22,24,26,28,30,32,34,36,38,40,42,44,46,48,50,52,54,56,58,60] (by kernel_rfl) ?_;simp;apply yZ;simp[k,q,o,m,s,i];apply zT;(try simp);rw[eg];simp
 .have hb:Sb l r=false:=by simp[Sb,h]
  rw[hb];have g:¬(r.length:Int)=3:=by omega
  refine zP func179 54 rfl λwf=>?_;apply yW;simp;refine xS (yS ?_);(repeat((first|refine FJ rfl ?_ ?_;(·simp[g])|refine QX rfl ?_ ?_;(·simp[h,g])|refine Cd ?_ ?_;(·simp[g]));simp));apply B6;apply AR;simp[g];apply yW;simp;refine Af ⟨_,_,am,?_⟩;try simp
def pl(nm:ByteArray)(l:Int)(r:List Symbol)(c:AN):AO:=⟨nm,l,r,c,false,0,[],A0⟩
theorem Tv(nm:ByteArray)(l:Int)(c:AN)(m:Nat):Pure prog 129 [AH (pl nm l [] c),.int .u8 m] (AH (pl nm l [] c)):=by
 refine zP func129 94 rfl λwf=>?_;unfold pl;apply yW;simp;apply yW;simp;refine xS (yW ?_);simp;apply AR;simp;apply yW;simp;refine Af ⟨_,_,am,?_⟩;try simp
abbrev wn:=@Int.tdiv_eq_ediv_of_nonneg
theorem VL(nm:ByteArray)(l:Int)(r:List Symbol)(c:AN)(k:Nat)(v:8 * k+0<256)(h0:0<r.length)(w:r.length<=4):Pure prog 129 [AH (pl nm l r c),.int .u8 (8 * k+0:Nat)] (AH (pl nm l r c)):=by
 have z:A0=⟨false,0,0,0,0⟩:=rfl;have g:¬r.length=0:=by omega
 have h:r≠[]:=by intro e;simp[e]at h0
 obtain⟨m,i⟩:=a9 (8 * k+0);rw[i];have j:((m:Int).tmod 8)=0:=by rw[c8 (by omega)];omega
 have o:((m:Int).tdiv 8)=k:=by rw[wn (by omega)];omega
 have q:(m:Int) / 8=k:=by omega
 have s:(m:Int) % 8=0:=by omega
 have t:IntKind.u8.wrap (k:Int)=k:=by simp[IntKind.wrap,IntKind.signed,IntKind.bits];omega
 have u:IntKind.i64.wrap (k:Int)=k:=by rw[bv];omega
 refine zP func129 94 rfl λwf=>?_;unfold pl;apply yW;simp;apply yW;simp;refine xS (yW ?_);simp;apply AR;simp[g];apply xK;apply yW;simp[o,t,u];refine xS (yW ?_);simp[j];apply Bx;apply yW;simp;apply AR;simp;apply yW;simp;apply AR;simp;apply yW;simp;apply AR;simp;apply yW;simp;apply AR;simp;apply yW;simp;apply AR;simp;apply yW;simp;apply AR;simp;apply yW;simp;apply AR;simp;apply CT;apply yW;simp;refine Af ⟨_,_,am,?_⟩;try simp
theorem VP(nm:ByteArray)(l:Int)(r:List Symbol)(c:AN)(k:Nat)(v:8 * k+1<256)(h0:0<r.length)(w:r.length<=4):Pure prog 129 [AH (pl nm l r c),.int .u8 (8 * k+1:Nat)] (AH {pl nm l r c with D6:=1}):=by
 have z:A0=⟨false,0,0,0,0⟩:=rfl;have g:¬r.length=0:=by omega
 have h:r≠[]:=by intro e;simp[e]at h0
 obtain⟨m,i⟩:=a9 (8 * k+1);rw[i];have j:((m:Int).tmod 8)=1:=by rw[c8 (by omega)];omega
 have o:((m:Int).tdiv 8)=k:=by rw[wn (by omega)];omega
 have q:(m:Int) / 8=k:=by omega
 have s:(m:Int) % 8=1:=by omega
 have t:IntKind.u8.wrap (k:Int)=k:=by simp[IntKind.wrap,IntKind.signed,IntKind.bits];omega
 have u:IntKind.i64.wrap (k:Int)=k:=by rw[bv];omega
 refine zP func129 94 rfl λwf=>?_;unfold pl;apply yW;simp;apply yW;simp;refine xS (yW ?_);simp;apply AR;simp[g];apply xK;apply yW;simp[o,t,u];refine xS (yW ?_);simp[j];apply Bx;apply yW;simp;apply AR;simp;apply yV;simp;apply yW;simp;refine Af ⟨_,_,am,?_⟩;simp[AH,A0]
theorem Wb(nm:ByteArray)(l:Int)(r:List Symbol)(c:AN)(k:Nat)(v:8 * k+2<256)(h0:0<r.length)(w:r.length<=4):Pure prog 129 [AH (pl nm l r c),.int .u8 (8 * k+2:Nat)] (AH {pl nm l r c with D6:=-1}):=by
 have z:A0=⟨false,0,0,0,0⟩:=rfl;have g:¬r.length=0:=by omega
 have h:r≠[]:=by intro e;simp[e]at h0
 obtain⟨m,i⟩:=a9 (8 * k+2);rw[i];have j:((m:Int).tmod 8)=2:=by rw[c8 (by omega)];omega
 have o:((m:Int).tdiv 8)=k:=by rw[wn (by omega)];omega
 have q:(m:Int) / 8=k:=by omega
 have s:(m:Int) % 8=2:=by omega
 have t:IntKind.u8.wrap (k:Int)=k:=by simp[IntKind.wrap,IntKind.signed,IntKind.bits];omega
 have u:IntKind.i64.wrap (k:Int)=k:=by rw[bv];omega
 refine zP func129 94 rfl λwf=>?_;unfold pl;apply yW;simp;apply yW;simp;refine xS (yW ?_);simp;apply AR;simp[g];apply xK;apply yW;simp[o,t,u];refine xS (yW ?_);simp[j];apply Bx;apply yW;simp;apply AR;simp;apply yW;simp;apply AR;simp;apply yV;simp;apply yW;simp;refine Af ⟨_,_,am,?_⟩;simp[AH,A0]
theorem WL(nm:ByteArray)(l:Int)(r:List Symbol)(c:AN)(k:Nat)(w:8 * k+3<256)(h0:0<r.length)(z:r.length<=4):Pure prog 129 [AH (pl nm l r c),.int .u8 (8 * k+3:Nat)] (AH {pl nm l r c with bracket:=Sb l r}):=by
 have g:A0=⟨false,0,0,0,0⟩:=rfl;have h:¬r.length=0:=by omega
 have i:r≠[]:=by intro e;simp[e]at h0
 obtain⟨m,j⟩:=a9 (8 * k+3);rw[j];have o:((m:Int).tmod 8)=3:=by rw[c8 (by omega)];omega
 have q:((m:Int).tdiv 8)=k:=by rw[wn (by omega)];omega
 have s:(m:Int) / 8=k:=by omega
 have t:(m:Int) % 8=3:=by omega
 have u:IntKind.u8.wrap (k:Int)=k:=by simp[IntKind.wrap,IntKind.signed,IntKind.bits];omega
 have v:IntKind.i64.wrap (k:Int)=k:=by rw[bv];omega
 have hb:=WD nm l r c true;rw[g]at hb;refine zP func129 94 rfl λwf=>?_;unfold pl;apply yW;simp;apply yW;simp;refine xS (yW ?_);simp;apply AR;simp[h];apply xK;apply yW;simp[q,u,v];refine xS (yW ?_);simp[o];apply Bx;apply yW;simp;apply AR;simp;apply yW;simp;apply AR;simp;apply yW;simp;apply AR;simp;apply yW;simp[g];apply yT;apply yJ;simp;refine B9 (hb) rfl (by simp[xN]) (yJ ?_);simp;apply yW;simp;refine Af ⟨_,_,am,?_⟩;simp[AH,A0]
theorem V6(nm:ByteArray)(l:Int)(r:List Symbol)(c:AN)(k:Nat)(P:8 * k+4<256)(h0:0<r.length)(Q:r.length<=4):Pure prog 129 [AH (pl nm l r c),.int .u8 (8 * k+4:Nat)] (AH {pl nm l r c with layout:=[⟨1+(k % 4:Nat),(k / 4 % r.length:Nat),if k % 4=0 then 0 else(r.length:Int) - 1⟩]}):=by
 have R:A0=⟨false,0,0,0,0⟩:=rfl;have v:¬r.length=0:=by omega
 have w:r≠[]:=by intro e;simp[e]at h0
 obtain⟨m,F⟩:=a9 (8 * k+4);rw[F];have G:((m:Int).tmod 8)=4:=by rw[c8 (by omega)];omega
 have H:((m:Int).tdiv 8)=k:=by rw[wn (by omega)];omega
 have J:(m:Int) / 8=k:=by omega
 have K:(m:Int) % 8=4:=by omega
 have L:IntKind.u8.wrap (k:Int)=k:=by simp[IntKind.wrap,IntKind.signed,IntKind.bits];omega
 have M:IntKind.i64.wrap (k:Int)=k:=by rw[bv];omega
 obtain⟨n,hn⟩:=a9 (r.length);obtain⟨j,hj⟩:=a9 (k % 4);obtain⟨d,N⟩:=a9 (k / 4);obtain⟨e,t⟩:=a9 (d % n);have S:e<n:=by rw[<-t];exact gc _ (by omega)
 have u:((k:Int).tmod 4)=j:=by rw[c8 (by omega)];omega
 have h:(k:Int) % 4=j:=by omega
 have z:IntKind.i64.wrap ((1:Int)+j)=1+j:=by rw[bv];omega
 have A:((k:Int).tdiv 4)=d:=by rw[wn (by omega)];omega
 have i:(k:Int) / 4=d:=by omega
 have o:IntKind.i64.wrap (d:Int)=d:=by rw[bv];omega
 have B:((d:Int).tmod n)=e:=by rw[c8 (by omega),<-t];simp
 have C:IntKind.i64.wrap ((n:Int) - 1)=(n:Int) - 1:=by rw[bv];omega
 have E:¬n=0:=by omega
 have s:1<=maxLen:=by unfold maxLen;omega
 rw[hj,N,hn,t];refine zP func129 94 rfl λwf=>?_;unfold pl;apply yW;simp;apply yW;simp;refine xS (yW ?_);simp;apply AR;simp[v];apply xK;apply yW;simp[H,L,M];refine xS (yW ?_);simp[G];apply Bx;apply yW;simp;apply AR;simp;apply yW;simp;apply AR;simp;apply yW;simp;apply AR;simp;apply yW;simp;apply AR;simp;apply yS;(iterate 10 (refine Cd (by simp[E]) ?_;simp[hn,u,z,A,o,B,C]));((refine AV.Ii rfl ?_ ?_);(focus(simp[FD,maxLen];done));simp);apply yJ;simp;(repeat apply xS);apply yV;simp[u];by_cases g:j=0
 .apply AR;simp[g];apply yV;simp;apply yW;simp;apply Af;refine⟨_,_,c9 2 (xs:=[BH ⟨1+j,e,0⟩]) rfl (by simp[BH,Dw,Dx,CF,g]),?_⟩;simp[Ba,AH,BH,A0,g]
 .have q:¬(j:Int)=0:=by omega
  apply AR;simp[g];apply CT;apply yW;simp;apply Af;refine⟨_,_,c9 2 (xs:=[BH ⟨1+j,e,n - 1⟩]) rfl (by simp[BH,Dw,Dx,CF]),?_⟩;simp[Ba,AH,BH,A0]
theorem WU(nm:ByteArray)(l:Int)(r:List Symbol)(c:AN)(k:Nat)(v:8 * k+5<256)(h0:0<r.length)(w:r.length<=4):Pure prog 129 [AH (pl nm l r c),.int .u8 (8 * k+5:Nat)] (AH {pl nm l r c with scope:=⟨true,0,0,0,0⟩}):=by
 have z:A0=⟨false,0,0,0,0⟩:=rfl;have g:¬r.length=0:=by omega
 have h:r≠[]:=by intro e;simp[e]at h0
 obtain⟨m,i⟩:=a9 (8 * k+5);rw[i];have j:((m:Int).tmod 8)=5:=by rw[c8 (by omega)];omega
 have o:((m:Int).tdiv 8)=k:=by rw[wn (by omega)];omega
 have q:(m:Int) / 8=k:=by omega
 have s:(m:Int) % 8=5:=by omega
 have t:IntKind.u8.wrap (k:Int)=k:=by simp[IntKind.wrap,IntKind.signed,IntKind.bits];omega
 have u:IntKind.i64.wrap (k:Int)=k:=by rw[bv];omega
 refine zP func129 94 rfl λwf=>?_;unfold pl;apply yW;simp;apply yW;simp;refine xS (yW ?_);simp;apply AR;simp[g];apply xK;apply yW;simp[o,t,u];refine xS (yW ?_);simp[j];apply Bx;apply yW;simp;apply AR;simp;apply yW;simp;apply AR;simp;apply yW;simp;apply AR;simp;apply yW;simp;apply AR;simp;apply yW;simp;apply AR;simp;apply yV;simp;apply yW;simp;refine Af ⟨_,_,am,?_⟩;simp[AH,A0]
theorem Ue(nm:ByteArray)(l:Int)(r:List Symbol)(c:AN)(k:Nat)(Q:8 * k+6<256)(h0:0<r.length)(v:r.length<=4)(g:(r.getD (k % r.length) Sx).token=true):Pure prog 129 [AH (pl nm l r c),.int .u8 (8 * k+6:Nat)] (AH {pl nm l r c with scope:=⟨false,(k % r.length:Nat)+1,1+(k % 2:Nat),0,0⟩}):=by
 have R:A0=⟨false,0,0,0,0⟩:=rfl;have h:¬r.length=0:=by omega
 have q:r≠[]:=by intro e;simp[e]at h0
 obtain⟨m,w⟩:=a9 (8 * k+6);rw[w];have z:((m:Int).tmod 8)=6:=by rw[c8 (by omega)];omega
 have A:((m:Int).tdiv 8)=k:=by rw[wn (by omega)];omega
 have B:(m:Int) / 8=k:=by omega
 have C:(m:Int) % 8=6:=by omega
 have E:IntKind.u8.wrap (k:Int)=k:=by simp[IntKind.wrap,IntKind.signed,IntKind.bits];omega
 have F:IntKind.i64.wrap (k:Int)=k:=by rw[bv];omega
 obtain⟨n,hn⟩:=a9 (r.length);rw[hn]at g h v h0⊢;obtain⟨e,i⟩:=a9 (k % n);obtain⟨j,hj⟩:=a9 (k % 2);rw[i]at g⊢;rw[hj];have G:e<n:=by rw[<-i];exact gc _ (by omega)
 have H:e<r.length:=by omega
 have J:r.getD e Sx=r[e]:=by simp[H]
 rw[J]at g;generalize K:r[e]=s at *;have L:=AI.eq_1 s;have t:((k:Int).tmod n)=e:=by rw[c8 (by omega),<-i];simp
 have M:IntKind.i64.wrap ((e:Int)+1)=(e:Int)+1:=by rw[bv];omega
 have N:((k:Int).tmod 2)=j:=by rw[c8 (by omega)];omega
 have o:(k:Int) % 2=j:=by omega
 have P:IntKind.i64.wrap ((1:Int)+j)=1+j:=by rw[bv];omega
 have u:¬n=0:=by omega
 refine zP func129 94 rfl λwf=>?_;unfold pl;apply yW;simp;apply yW;simp;refine xS (yW ?_);simp[hn];apply AR;simp[h];apply xK;apply yW;simp[A,E,F];refine xS (yW ?_);simp[z];apply Bx;apply yW;simp;apply AR;simp;apply yW;simp;apply AR;simp;apply yW;simp;apply AR;simp;apply yW;simp;apply AR;simp;apply yW;simp;apply AR;simp;apply yW;simp;apply AR;simp;refine yD [0,2,4,6,8,10,12,14] (by kernel_rfl) ?_;simp;apply yA 0;simp[hn,t,u,G,K,L,g];apply AR;simp;apply yV;simp[t,M,N,P,u];apply yW;simp;refine Af ⟨_,_,am,?_⟩;simp[AH,A0]
theorem UI(nm:ByteArray)(l:Int)(r:List Symbol)(c:AN)(k:Nat)(M:8 * k+6<256)(h0:0<r.length)(q:r.length<=4)(g:(r.getD (k % r.length) Sx).token=false):Pure prog 129 [AH (pl nm l r c),.int .u8 (8 * k+6:Nat)] (AH (pl nm l r c)):=by
 have N:A0=⟨false,0,0,0,0⟩:=rfl;have h:¬r.length=0:=by omega
 have o:r≠[]:=by intro e;simp[e]at h0
 obtain⟨m,t⟩:=a9 (8 * k+6);rw[t];have u:((m:Int).tmod 8)=6:=by rw[c8 (by omega)];omega
 have v:((m:Int).tdiv 8)=k:=by rw[wn (by omega)];omega
 have w:(m:Int) / 8=k:=by omega
 have z:(m:Int) % 8=6:=by omega
 have A:IntKind.u8.wrap (k:Int)=k:=by simp[IntKind.wrap,IntKind.signed,IntKind.bits];omega
 have B:IntKind.i64.wrap (k:Int)=k:=by rw[bv];omega
 obtain⟨n,hn⟩:=a9 (r.length);rw[hn]at g h q h0;obtain⟨e,i⟩:=a9 (k % n);obtain⟨j,hj⟩:=a9 (k % 2);rw[i]at g;have C:e<n:=by rw[<-i];exact gc _ (by omega)
 have E:e<r.length:=by omega
 have F:r.getD e Sx=r[e]:=by simp[E]
 rw[F]at g;generalize G:r[e]=s at *;have H:=AI.eq_1 s;have J:((k:Int).tmod n)=e:=by rw[c8 (by omega),<-i];simp
 have P:IntKind.i64.wrap ((e:Int)+1)=(e:Int)+1:=by rw[bv];omega
 have Q:((k:Int).tmod 2)=j:=by rw[c8 (by omega)];omega
 have K:(k:Int) % 2=j:=by omega
 have R:IntKind.i64.wrap ((1:Int)+j)=1+j:=by rw[bv];omega
 have L:¬n=0:=by omega
 refine zP func129 94 rfl λwf=>?_;unfold pl;apply yW;simp;apply yW;simp;refine xS (yW ?_);simp[hn];apply AR;simp[h];apply xK;apply yW;simp[v,A,B];refine xS (yW ?_);simp[u];apply Bx;apply yW;simp;apply AR;simp;apply yW;simp;apply AR;simp;apply yW;simp;apply AR;simp;apply yW;simp;apply AR;simp;apply yW;simp;apply AR;simp;apply yW;simp;apply AR;simp;refine yD [0,2,4,6,8,10,12,14] (by kernel_rfl) ?_;simp;apply yA 0;simp[hn,J,L,C,G,H,g];apply AR;simp;apply CT;apply yW;simp;refine Af ⟨_,_,am,?_⟩;try simp
theorem T6(nm:ByteArray)(l:Int)(r:List Symbol)(c:AN)(k:Nat)(Q:8 * k+7<256)(h0:0<r.length)(v:r.length<=4)(g:(r.getD (k % r.length) Sx).token=true):Pure prog 129 [AH (pl nm l r c),.int .u8 (8 * k+7:Nat)] (AH {pl nm l r c with scope:=⟨false,0,0,(k % r.length:Nat)+1,1+(k % 7:Nat)⟩}):=by
 have R:A0=⟨false,0,0,0,0⟩:=rfl;have h:¬r.length=0:=by omega
 have q:r≠[]:=by intro e;simp[e]at h0
 obtain⟨m,w⟩:=a9 (8 * k+7);rw[w];have z:((m:Int).tmod 8)=7:=by rw[c8 (by omega)];omega
 have A:((m:Int).tdiv 8)=k:=by rw[wn (by omega)];omega
 have B:(m:Int) / 8=k:=by omega
 have C:(m:Int) % 8=7:=by omega
 have E:IntKind.u8.wrap (k:Int)=k:=by simp[IntKind.wrap,IntKind.signed,IntKind.bits];omega
 have F:IntKind.i64.wrap (k:Int)=k:=by rw[bv];omega
 obtain⟨n,hn⟩:=a9 (r.length);rw[hn]at g h v h0⊢;obtain⟨e,i⟩:=a9 (k % n);obtain⟨j,hj⟩:=a9 (k % 7);rw[i]at g⊢;rw[hj];have G:e<n:=by rw[<-i];exact gc _ (by omega)
 have H:e<r.length:=by omega
 have J:r.getD e Sx=r[e]:=by simp[H]
 rw[J]at g;generalize K:r[e]=s at *;have L:=AI.eq_1 s;have t:((k:Int).tmod n)=e:=by rw[c8 (by omega),<-i];simp
 have M:IntKind.i64.wrap ((e:Int)+1)=(e:Int)+1:=by rw[bv];omega
 have N:((k:Int).tmod 7)=j:=by rw[c8 (by omega)];omega
 have o:(k:Int) % 7=j:=by omega
 have P:IntKind.i64.wrap ((1:Int)+j)=1+j:=by rw[bv];omega
 have u:¬n=0:=by omega
 refine zP func129 94 rfl λwf=>?_;unfold pl;apply yW;simp;apply yW;simp;refine xS (yW ?_);simp[hn];apply AR;simp[h];apply xK;apply yW;simp[A,E,F];refine xS (yW ?_);simp[z];apply Bx;apply yW;simp;apply AR;simp;apply yW;simp;apply AR;simp;apply yW;simp;apply AR;simp;apply yW;simp;apply AR;simp;apply yW;simp;apply AR;simp;apply yW;simp;apply AR;simp;apply yW;simp;apply AR;simp;refine yD [0,2,4,6,8,10,12,14] (by kernel_rfl) ?_;simp;apply yA 0;simp[hn,t,u,G,K,L,g];apply AR;simp;apply yV;simp[t,M,N,P,u];apply yW;simp;refine Af ⟨_,_,am,?_⟩;simp[AH,A0]
theorem TW(nm:ByteArray)(l:Int)(r:List Symbol)(c:AN)(k:Nat)(M:8 * k+7<256)(h0:0<r.length)(q:r.length<=4)(g:(r.getD (k % r.length) Sx).token=false):Pure prog 129 [AH (pl nm l r c),.int .u8 (8 * k+7:Nat)] (AH (pl nm l r c)):=by
 have N:A0=⟨false,0,0,0,0⟩:=rfl;have h:¬r.length=0:=by omega
 have o:r≠[]:=by intro e;simp[e]at h0
 obtain⟨m,t⟩:=a9 (8 * k+7);rw[t];have u:((m:Int).tmod 8)=7:=by rw[c8 (by omega)];omega
 have v:((m:Int).tdiv 8)=k:=by rw[wn (by omega)];omega
 have w:(m:Int) / 8=k:=by omega
 have z:(m:Int) % 8=7:=by omega
 have A:IntKind.u8.wrap (k:Int)=k:=by simp[IntKind.wrap,IntKind.signed,IntKind.bits];omega
 have B:IntKind.i64.wrap (k:Int)=k:=by rw[bv];omega
 obtain⟨n,hn⟩:=a9 (r.length);rw[hn]at g h q h0;obtain⟨e,i⟩:=a9 (k % n);obtain⟨j,hj⟩:=a9 (k % 7);rw[i]at g;have C:e<n:=by rw[<-i];exact gc _ (by omega)
 have E:e<r.length:=by omega
 have F:r.getD e Sx=r[e]:=by simp[E]
 rw[F]at g;generalize G:r[e]=s at *;have H:=AI.eq_1 s;have J:((k:Int).tmod n)=e:=by rw[c8 (by omega),<-i];simp
 have P:IntKind.i64.wrap ((e:Int)+1)=(e:Int)+1:=by rw[bv];omega
 have Q:((k:Int).tmod 7)=j:=by rw[c8 (by omega)];omega
 have K:(k:Int) % 7=j:=by omega
 have R:IntKind.i64.wrap ((1:Int)+j)=1+j:=by rw[bv];omega
 have L:¬n=0:=by omega
 refine zP func129 94 rfl λwf=>?_;unfold pl;apply yW;simp;apply yW;simp;refine xS (yW ?_);simp[hn];apply AR;simp[h];apply xK;apply yW;simp[v,A,B];refine xS (yW ?_);simp[u];apply Bx;apply yW;simp;apply AR;simp;apply yW;simp;apply AR;simp;apply yW;simp;apply AR;simp;apply yW;simp;apply AR;simp;apply yW;simp;apply AR;simp;apply yW;simp;apply AR;simp;apply yW;simp;apply AR;simp;refine yD [0,2,4,6,8,10,12,14] (by kernel_rfl) ?_;simp;apply yA 0;simp[hn,J,L,C,G,H,g];apply AR;simp;apply CT;apply yW;simp;refine Af ⟨_,_,am,?_⟩;try simp
open Go.Proofs
section
variable {P:Program} {n b:Nat} {ops:Array Oper} {o:Oper} {tm:Tm} {S:Sg} {K:Tm->Sg->Prop}
def Ik(i:Int):ByteArray:=ByteArray.empty.push (UInt8.ofNat i.toNat)
theorem FN(i:Int):(Ik i).size=1:=by simp[Ik,ByteArray.size_push]
theorem N4{T U E:TypeId}{x:Operand}{i:Int}{t e:TI}(A:o.op=.convert T U x)(C:need (ev tm x))(F:strip (ev tm x)=.full [.int .u8 i])
  (H:ti P T=some t) (J:P.underlying U=some .string) (L:ti P E=some e) (M:t.kind=.slice E) (N:e.kind=.int .u8):Cf P n o tm S (.d (.str (Ik i))) S:=.pure λG w a st=>by
 have h1:=(BV st x).strip C;rw[F]at h1;obtain⟨d,Q,h⟩:=An H w;have R:(underlying U).run P w=.ok .string w:=by simp[underlying,J]
 obtain⟨d3,k,g⟩:=An L w;have:d=.slice E:=by rw[M]at h;cases d<;>simp[tk]at h⊢;exact h
 subst this;have:d3=.int .u8:=by rw[N]at g;cases d3<;>simp[tk]at g⊢;exact g
 subst this;generalize W:a.eval x=B at h1;cases h1 with
 |full _ base X=>
  cases X with
  |sl sz _ b off cap v hI hl zg Y Z=>
   have m:=Y 0 (by simp);simp at m;have z:v 0=.int .u8 i:=by generalize v 0=u at m;cases m;rfl
   obtain⟨r1,r2⟩:=Z 0 (by simp);have vr:sz=1:=by rw[<-r1,z];rfl
   have q:(loadCells ⟨b,off,none⟩ 1).run P w=.ok #[.int .u8 i] w:=run_loadCells _ rfl λj hj=>by
    have:=r2 j (by omega);rw[z,show(Value.int IntKind.u8 i).cells=#[.int .u8 i]from rfl]at this;have s:j=0:=by omega
    subst s;simpa using this
   refine⟨.string (Ik i),?_,.d _ _ (.str _ (by rw[FN];unfold maxLen;omega))⟩;simp[execOp,A,convert,W,Q,R,k,Conv.bytesToString];simp[q,Ik]
theorem AV.Ow{rest:List Oper}{T U:TypeId}{x:Operand}(E:TypeId)(i:Int)(g:o.op=.convert T U x)(h:o.guard=none/\BA n o.dst/\need (ev tm x)/\strip (ev tm x)=.full [.int .u8 i]/\As P T=some E/\intKind P E=some .u8)
  (j:P.underlying U=some .string) (k:AV P n b ops rest (put tm o.dst (.d (.str (Ik i)))) S K):AV P n b ops (o::rest) tm S K:=by
 obtain⟨m,q,s,u,v,w⟩:=h;obtain⟨t,t1,t2⟩:=BJ v;obtain⟨e,z,A⟩:=I1 w;exact AV.Zt ⟨m,q⟩ (N4 g s u t1 j z t2 A) k
theorem Ag.Ow{B:List (Nat×(Sg->Prop))}{k:Nat}{rest:List (Nat×Bool×Oper)}{T U:TypeId}{x:Operand}(E:TypeId)(i:Int)(h:o.op=.convert T U x)(j:o.guard=none/\BA n o.dst/\need (ev tm x)/\strip (ev tm x)=.full [.int .u8 i]/\As P T=some E/\intKind P E=some .u8)
  (m:P.underlying U=some .string) (q:Ag P n b ops ((k,λ_=>True)::B) rest (put tm o.dst (.d (.str (Ik i)))) S K):Ag P n b ops B ((k,true,o)::rest) tm S K:=by
 obtain⟨s,u,v,w,z,A⟩:=j;obtain⟨t,t1,t2⟩:=BJ z;obtain⟨e,C,F⟩:=I1 A;refine o4 (λ_=>True) trivial (λhi H _=>λg G=>?_) q;have h1:ev g x=ev tm x:=Ig G x (by rw[h];simp[Op.operands]);exact AC hi u s (N4 h (by rw[h1];exact v) (by rw[h1];exact w) t1 m C t2 F)
theorem Ag.oq{B:List (Nat×(Sg->Prop))}{i:Nat}{rest:List (Nat×Bool×Oper)}{c:Call}{f:FuncId}{args:List V}{v:V}(h:AG P f args [] v [])(g:o.op=.call c)
  (j:o.guard=none/\BA n o.dst/\BE tm c/\FF tm c f args/\args.all (AP 0)=true/\AP 0 v=true) (k:Ag P n b ops ((i,λ_=>True)::B) rest (put tm o.dst v) S K):Ag P n b ops B ((i,true,o)::rest) tm S K:=by
 obtain⟨m,q,s,t,u,w⟩:=j;exact o4 (λ_=>True) trivial (λhi z _=>wd hi g m q (FI t) s (h.So w u)) k
end
def Tu(n:ByteArray)(l:Int):V:=.agg [.d (.str n),.d (.int .i64 l),.full [],.d (.sl []),.d (.int .i64 1),.d (.bool false),.d (.int .i64 0),.full [],.d (.bool false),.d (.int .i64 0),.d (.int .i64 0),.d (.int .i64 0),.d (.int .i64 0)]
theorem dX(n:ByteArray)(l:Int):AG prog 44 [.d (.str n),.d (.int .i64 l),.full []] [] (Tu n l) [.row true 13 [Tu n l]]:=by
 have h1:=CA true;simp at h1;refine zC func44 12 rfl λwf _=>?_;apply yW;simp;(repeat apply xS);apply yT;apply yJ;simp;refine B9 (h1) rfl (by simp) (yJ ?_);simp[AB];apply Af;refine⟨_,am,?_⟩;simp[Au,Tu]
theorem Ze(n:ByteArray)(l:Int):AG prog 44 [.d (.str n),.d (.int .i64 l),.full []] [] (Tu n l) []:=
 (dX n l).ghost λtm h0=>⟨_,ip 0 (br _) (by simp) (by simp),by simp[clean,h0,Tu,AP,Aw]⟩
structure Hl where
 left:Nat
 right:List Nat
 Em:Nat
 mark:Nat
def Cj(x:Hl):D:=.agg [D.int .u8 (x.left:Nat),D.sl (x.right.map λ(k:Nat)=>D.int .u8 k),D.int .u8 (x.Em:Nat),D.int .u8 (x.mark:Nat)]
@[simp] theorem iP(x:Hl):Ai (.d (Cj x))=[.d (D.int .u8 (x.left:Nat)),.d (D.sl (x.right.map λ(k:Nat)=>D.int .u8 k)),.d (D.int .u8 (x.Em:Nat)),.d (D.int .u8 (x.mark:Nat))]:=rfl
@[simp] theorem fB(x:Hl):At (.d (Cj x))=true:=rfl
@[simp] theorem kG(x:Hl):Bw (.d (Cj x))=false:=rfl
@[simp] theorem dc(x:Hl):BN (Cj x)=[D.int .u8 (x.left:Nat),D.sl (x.right.map λ(k:Nat)=>D.int .u8 k),D.int .u8 (x.Em:Nat),D.int .u8 (x.mark:Nat)]:=rfl
@[simp] theorem j9(x:Hl):CZ.oneD (Cj x)=true:=rfl
@[simp] theorem pP(x:Hl):DZ (Cj x)=Bs [D.int .u8 (x.left:Nat),D.sl (x.right.map λ(k:Nat)=>D.int .u8 k),D.int .u8 (x.Em:Nat),D.int .u8 (x.mark:Nat)]:=rfl
@[simp] theorem jF(S:Sg)(x:Hl):Dm S (.d (Cj x))=some [D.int .u8 (x.left:Nat),D.sl (x.right.map λ(k:Nat)=>D.int .u8 k),D.int .u8 (x.Em:Nat),D.int .u8 (x.mark:Nat)]:=rfl
def av(n k:Nat):Symbol:=if k % 14<9 then⟨true,(k % 14:Nat)⟩else⟨false,((k % 14 - 9) % n:Nat)⟩
def JZ(n:Nat)(x:Hl)(i:Nat):List Symbol:=(x.right.take i).map (av n)
def Ji:V:=.agg [.full [],.full [],.d (.int .i64 0),.full [],.full [],.full [],.d (.int .i64 0),.full [],.full []]
def oC(g:AE)(x:Hl)(nm:ByteArray)(h:Nat)(r:List Symbol)(w:Bool):Sg:=
 [.row true 9 [.d (AA g)],.row true 4 [.d (Cj x)],.row true 9 [Ji],.row true 13 [.agg [.d (.str nm),.d (.int .i64 h),.row 4 r.length,.d (.sl []),.d (.int .i64 1),.d (.bool false),.d (.int .i64 0),.full [],.d (.bool false),.d (.int .i64 0),.d (.int .i64 0),.d (.int .i64 0),.d (.int .i64 0)]],.row w 2 (r.map λs=>.d (AI s))]
def Rg(n:Nat)(x:Hl):Nat->Int
 |0=>0
 |i+1=>if x.right.getD i 0 % 14<9 then IntKind.i64.wrap (Rg n x i+1)else Rg n x i
def Zu(n g:Nat)(x:Hl):Nat->Bool
 |0=>true
 |i+1=>if x.right.getD i 0 % 14<9 then Zu n g x i else Zu n g x i&&decide (g<(x.right.getD i 0 % 14 - 9) % n)
theorem Mr{n i:Nat}{x:Hl}(h:i<x.right.length):JZ n x (i+1)=JZ n x i++[av n x.right[i]]:=by
 unfold JZ;rw[pe h,su];rfl
theorem Tw{n i:Nat}{x:Hl}(h:i<=x.right.length):(JZ n x i).length=i:=by
 unfold JZ;rw[li,up];omega
structure mh(nm:ByteArray)(l:Int)(r:List Symbol)(c:AN)(q:AO):Prop where
 name:q.name=nm
 left:q.left=l
 right:q.right=r
 cond:q.cond=c
 r1:-1<=q.D6
 r2:q.D6<=1
 uI:Hx q=true
 lay:q.layout.length<=1
theorem cB(nm:ByteArray)(l:Int)(r:List Symbol)(c:AN)(k:Int)(h1:-1<=k)(g:k<=1):mh nm l r c {pl nm l r c with D6:=k}:=
 ⟨rfl,rfl,rfl,rfl,h1,g,by simp[pl,Hx,Db,A0],by simp[pl]⟩
theorem MI(nm:ByteArray)(l:Int)(r:List Symbol)(c:AN):mh nm l r c (pl nm l r c):=cB nm l r c 0 (by omega) (by omega)
theorem om(nm:ByteArray)(l:Int)(r:List Symbol)(c:AN):mh nm l r c {pl nm l r c with bracket:=Sb l r}:=by
 refine⟨rfl,rfl,rfl,rfl,by simp[pl],by simp[pl],?_,by simp[pl]⟩;cases hb:Sb l r with
 |false=>simp[pl,Hx,Db,A0]
 |true=>
  simp[Sb]at hb;obtain⟨h0,h1,g⟩:=hb;match r,h0 with
  |[a,b,d],_=>
   simp at h1 g;obtain⟨h,i⟩:=b;simp only at h1 g;simp[pl,Hx,Db,A0,h1.1.1,h1.1.2,h1.2,g]
theorem oT(nm:ByteArray)(l:Int)(r:List Symbol)(c:AN)(k:Nat)(h0:0<r.length):mh nm l r c {pl nm l r c with layout:=[⟨1+(k % 4:Nat),(k / 4 % r.length:Nat),if k % 4=0 then 0 else(r.length:Int) - 1⟩]}:=by
 refine⟨rfl,rfl,rfl,rfl,by simp[pl],by simp[pl],?_,by simp⟩;have h1:k / 4 % r.length<r.length:=gc _ h0;have i:k % 4<4:=gc _ (by omega);generalize k / 4 % r.length=a at *;generalize k % 4=m at *;have g:(a:Int)<r.length:=by omega
 by_cases h:m=0
 .subst h;simp[pl,Hx,Db,A0,Mc,NH,g,h0]
 .have:(m:Int)≠0:=by omega
  simp[pl,Hx,Db,A0,Mc,NH,g,h];omega
theorem jo(nm:ByteArray)(l:Int)(r:List Symbol)(c:AN):mh nm l r c {pl nm l r c with scope:=⟨true,0,0,0,0⟩}:=
 ⟨rfl,rfl,rfl,rfl,by simp[pl],by simp[pl],by simp[pl,Hx,Db],by simp[pl]⟩
theorem X0{p:AO}{k:Nat}(g:k<p.right.length)(h:(p.right.getD k Sx).token=true)(v lo hi:Int)(h1:lo<=v)(i:v<=hi):Db p ((k:Int)+1) v lo hi=true:=by
 have e:(p.right.getD k Sx)=p.right[k]:=by simp[List.getD,g]
 rw[e]at h;have j:¬((k:Int)+1=0):=by omega
 have m:((k:Int)+1 - 1).toNat=k:=by omega
 have o:(0:Int)<(k:Int)+1:=by omega
 have q:(k:Int)+1<=p.right.length:=by omega
 simp[Db,ao j,ci g,h,h1,i,o,q]
theorem jk(nm:ByteArray)(l:Int)(r:List Symbol)(c:AN)(k:Nat)(h0:0<r.length)(g:(r.getD (k % r.length) Sx).token=true):mh nm l r c {pl nm l r c with scope:=⟨false,(k % r.length:Nat)+1,1+(k % 2:Nat),0,0⟩}:=by
 refine⟨rfl,rfl,rfl,rfl,by simp[pl],by simp[pl],?_,by simp[pl]⟩;have h1:k % r.length<r.length:=gc _ h0;have i:k % 2<2:=gc _ (by omega);have h:=X0 (p:={pl nm l r c with scope:=⟨false,(k % r.length:Nat)+1,1+(k % 2:Nat),0,0⟩}) h1 g (1+(k % 2:Nat)) 1 7 (by omega) (by omega);unfold Hx;simp only[h];simp[pl,Db]
theorem oQ(nm:ByteArray)(l:Int)(r:List Symbol)(c:AN)(k:Nat)(h0:0<r.length)(g:(r.getD (k % r.length) Sx).token=true):mh nm l r c {pl nm l r c with scope:=⟨false,0,0,(k % r.length:Nat)+1,1+(k % 7:Nat)⟩}:=by
 refine⟨rfl,rfl,rfl,rfl,by simp[pl],by simp[pl],?_,by simp[pl]⟩;have h1:k % r.length<r.length:=gc _ h0;have i:k % 7<7:=gc _ (by omega);have h:=X0 (p:={pl nm l r c with scope:=⟨false,0,0,(k % r.length:Nat)+1,1+(k % 7:Nat)⟩}) h1 g (1+(k % 7:Nat)) 0 255 (by omega) (by omega);unfold Hx;simp only[h];simp[pl,Db]
theorem Wp{n:Nat}{x:Hl}:∀{i:Nat},i<=x.right.length->i<=4->0<=Rg n x i/\Rg n x i<=i/\(Rg n x i=0↔Bq (JZ n x i)=false)
 |0,_,_=>⟨by simp[Rg],by simp[Rg],by simp[Rg,JZ,Bq]⟩
 |i+1,h,q=>by
  obtain⟨h1,s,k⟩:=Wp (n:=n) (x:=x) (i:=i) (by omega) (by omega);have m:x.right.getD i 0=x.right[i]:=by simp[show i<x.right.length by omega]
  have g:Bq (JZ n x (i+1))=(Bq (JZ n x i)||(av n x.right[i]).token):=by
   rw[Mr (by omega)];simp[Bq]
  rw[g];unfold Rg;rw[m];by_cases j:x.right[i] % 14<9
  .rw[ap j];have o:IntKind.i64.wrap (Rg n x i+1)=Rg n x i+1:=by rw[bv];omega
   rw[o];refine⟨by omega,by omega,?_⟩;simp[av,j];omega
  .rw[ao j];refine⟨h1,by omega,?_⟩;simp[av,j,k]
theorem NQ{n o:Nat}{x:Hl}:∀{i:Nat},i<=x.right.length->Zu n o x i=true->∀s∈JZ n x i,s.token=false->(o:Int)<s.index
 |0,_,_=>λs g=>by simp[JZ]at g
 |i+1,h,j=>by
  have q:x.right.getD i 0=x.right[i]:=by simp[show i<x.right.length by omega]
  unfold Zu at j;rw[q]at j;intro s g m;rw[Mr (by omega)]at g;by_cases k:x.right[i] % 14<9
  .rw[ap k]at j;rcases dl.1 g with g|g
   .exact NQ (by omega) j s g m
   .simp at g;subst g;simp[av,k]at m
  .rw[ao k]at j;simp at j;rcases dl.1 g with g|g
   .exact NQ (by omega) j.1 s g m
   .simp at g;subst g;have:=j.2;simp[av,k];omega
theorem bw{n i:Nat}{x:Hl}(hn:0<n):∀s∈JZ n x i,(s.token=true/\∃k:Nat,k<9/\s.index=k)\/(s.token=false/\∃k:Nat,k<n/\s.index=k):=λs g=>by
 obtain⟨k,_,rfl⟩:=eo.1 g;unfold av;split
 .exact .inl ⟨rfl,k % 14,by omega,rfl⟩
 .exact .inr ⟨rfl,(k % 14 - 9) % n,gc _ hn,rfl⟩
def KH(k:Nat):ByteArray:=⟨#[112]⟩++Ik (IntKind.u8.wrap (97+(k:Int)))
structure UA(g:AE)(known:Bool)(q:AO):Prop where
 name:q.name=KH g.AD.length
 left:∃lf:Nat,lf<g.A2.length/\q.left=lf
 len:q.right.length<=4
 syms:∀s∈q.right,(s.token=true/\∃k:Nat,k<9/\s.index=k)\/(s.token=false/\∃k:Nat,k<g.A2.length/\s.index=k)
 fits:C5 q.cond g.conds.length=true
 r1:-1<=q.D6
 r2:q.D6<=1
 uI:Hx q=true
 lay:q.layout.length<=1
 later:Bq q.right=false->known=false/\∀s∈q.right,q.left<s.index
def V9(p:AE->Prop)(v:V)(S':Sg):Prop:=S'=[]/\∃g,v=.d (AA g)/\p g
theorem Y8(nm:ByteArray)(l:Int)(r:List Symbol)(c:AN)(m:Nat)(g:m<256)(h:r.length<=4):∃q,Pure prog 129 [AH (pl nm l r c),.int .u8 m] (AH q)/\mh nm l r c q:=by
 by_cases h0:r=[]
 .subst h0;exact⟨_,Tv nm l c m,MI nm l [] c⟩
 have h1:0<r.length:=adK.2 h0;have e:m=8 * (m / 8)+m % 8:=by omega
 have o:m % 8<8:=gc _ (by omega);generalize m / 8=k at *;match i:m % 8,o with
 |0,_=>rw[i]at e;subst e;exact⟨_,VL nm l r c k g h1 h,MI nm l r c⟩
 |1,_=>rw[i]at e;subst e;exact⟨_,VP nm l r c k g h1 h,cB nm l r c 1 (by omega) (by omega)⟩
 |2,_=>rw[i]at e;subst e;exact⟨_,Wb nm l r c k g h1 h,cB nm l r c (-1) (by omega) (by omega)⟩
 |3,_=>rw[i]at e;subst e;exact⟨_,WL nm l r c k g h1 h,om nm l r c⟩
 |4,_=>rw[i]at e;subst e;exact⟨_,V6 nm l r c k g h1 h,oT nm l r c k h1⟩
 |5,_=>rw[i]at e;subst e;exact⟨_,WU nm l r c k g h1 h,jo nm l r c⟩
 |6,_=>
  rw[i]at e;subst e;cases j:(r.getD (k % r.length) Sx).token with
  |true=>exact⟨_,Ue nm l r c k g h1 h j,jk nm l r c k h1 j⟩
  |false=>exact⟨_,UI nm l r c k g h1 h j,MI nm l r c⟩
 |7,_=>
  rw[i]at e;subst e;cases j:(r.getD (k % r.length) Sx).token with
  |true=>exact⟨_,T6 nm l r c k g h1 h j,oQ nm l r c k h1 j⟩
  |false=>exact⟨_,TW nm l r c k g h1 h j,MI nm l r c⟩
theorem V9.pure{f:FuncId}{ds:List D}{F:AE}(h:BP prog f (ds.map .d) [] (V9 λi=>i=F)):Pure prog f ds (AA F):=
 BP.pc (h.mono λv m ⟨h1,g,j,k⟩=>by subst k;exact⟨j,h1⟩)
theorem UZ(g:AE)(x:Hl)(j:Bool)(hn:0<g.A2.length/\g.A2.length<=3)(hc:g.conds.length<=3)(hp:g.AD.length<=100)(L:x.Em<256)(hx2:x.mark<256):
  ∃F,(F=g\/∃q,UA g j q/\F={g with AD:=g.AD++[q]})/\BP prog 46 [.d (AA g),.d (Cj x),.d (.bool j)] [] (V9 λg'=>g'=F):=by
 obtain⟨n,X⟩:=a9 (g.A2.length);rw[X]at hn;obtain⟨v,M⟩:=a9 (x.left % n);have u1:IntKind.i64.wrap (97+(g.AD.length:Int))=97+(g.AD.length:Int):=by rw[bv];omega
 have hu9:prog.underlying 9=some .string:=by kernel_rfl
 have h2m:2<=maxLen:=by unfold maxLen;omega
 have z:1<=maxLen:=by unfold maxLen;omega
 obtain⟨N,hN⟩:=a9 (min x.right.length 4);have wy:=GD x.Em g.conds.length L (by omega);have C:(JZ n x N).length<=4:=by rw[Tw (by omega)];omega
 have hfs:=Ev L (show g.conds.length<4 by omega);obtain⟨q,hq,k⟩:=Y8 (⟨#[112]⟩++Ik (IntKind.u8.wrap (97+g.AD.length))) v (JZ n x N) (Ir x.Em g.conds.length) x.mark hx2 C;generalize hset0:Ir x.Em g.conds.length=d at *;refine⟨if decide (Rg n x N=0)&&(j||!Zu n v x N)then g else {g with AD:=g.AD++[q]},?_,?_⟩
 .split
  .exact .inl rfl
  .next yd=>
   have P:N<=x.right.length:=by omega
   have hN4:N<=4:=by omega
   refine .inr ⟨q,⟨k.name,⟨v,by rw[<-M,X];exact gc _ hn.1,k.left⟩,by rw[k.right];exact C,by rw[k.right,X];exact bw hn.1,by rw[k.cond];exact hfs,k.r1,k.r2,k.uI,k.lay,λha=>?_⟩,rfl⟩;rw[k.right]at ha;have h0:=(Wp (n:=n) P hN4).2.2.2 ha;simp only[h0,R2,q6,oj,q7,adz,mp]at yd;obtain⟨wD,vu⟩:=yd;refine⟨wD,λs hs=>?_⟩;rw[k.right]at hs;rw[k.left];exact NQ P (by simpa using vu) s hs (KJ ha s hs)
 refine BP.AK func46 (by kernel_rfl) rfl (by simp) λwf _=>?_;have yh:x.left<256:=by have:=wf.2.1;simp[JQ,DZ,Bs,IL]at this;omega
 have u2:IntKind.i64.wrap (x.left:Int)=x.left:=by rw[bv];omega
 have u3:((x.left:Int).tmod n)=v:=by rw[c8 (by omega),<-M];simp
 have Q:¬n=0:=by omega
 rw[ntmps46];refine xW λK h=>?_;simp;apply h;refine xW λK h=>?_;simp[X];apply h;(repeat refine xS ?_);refine xE [0,2,4,6,8,10,12,14,16,18,20,22,24,26,29,31] (by kernel_rfl) λK h=>?_;simp;(repeat(refine xG ?_ ?_;(·simp[z]);simp[u1]));refine Ag.Ow 5 (IntKind.u8.wrap (97+g.AD.length)) rfl (by simp) hu9 ?_;simp;refine xA 1 ?_;simp[z,h2m,u2,u3,Q,FN];refine Ag.oq (Ze (⟨#[112]⟩++Ik (IntKind.u8.wrap (97+g.AD.length))) v) rfl (by simp[Tu,AP,Aw];try rfl) ?_;simp;refine xA 1 ?_;simp;refine xX 0 (by kernel_rfl) ?_;simp[Ac,Tu];refine xA 1 ?_;simp;refine xX 16383 (by kernel_rfl) ?_;simp[Ac];refine xM (h _ _ ?_);(try simp only[xQ,reduceIte]);generalize({data:=#[112]}:ByteArray)++Ik (IntKind.u8.wrap (97+g.AD.length))=nm at *;refine ed (AJ.Pm 3 0 2 2 (xs:=[]) rfl rfl rfl) ?_;simp;refine xW λK h=>?_;simp;apply h;refine xW λK h=>?_;simp;apply h;refine k7 (R:=λtm S=>tm 2=.d (.bool j)/\tm 3=.ptr 0 1 0 0/\tm 4=.ptr 1 1 0 0/\tm 6=.ptr 2 1 0 0/\tm 8=.ptr 3 1 0 0/\tm 9=.d (.int .i64 (Rg n x N))/\tm 10=.d (.bool (Zu n v x N))/\∃w,S=oC g x nm v (JZ n x N) w) ?_ ?_
 .refine xW λK h=>?_;simp;apply h;refine Bx ?_;refine DV N (λi tm S=>tm 2=.d (.bool j)/\tm 3=.ptr 0 1 0 0/\tm 4=.ptr 1 1 0 0/\tm 6=.ptr 2 1 0 0/\tm 7=.d (.int .i64 n)/\tm 8=.ptr 3 1 0 0/\tm 9=.d (.int .i64 (Rg n x i))/\tm 10=.d (.bool (Zu n v x i))/\tm 11=.d (.int .i64 i)/\∃w,S=oC g x nm v (JZ n x i) w) (cq _) ?_ ?_
  .simp[JZ,oC,Ji,Rg,Zu]
  rintro i tm S hi ⟨t2,t3,t4,t6,t7,t8,t9,t10,t11,w,rfl⟩;unfold oC;refine xS (xW λK h=>?_);simp[t4,t11];apply h;(repeat refine xS ?_);refine k6 (t:=decide (i<x.right.length)&&decide (i<4)) ?_ (λhb=>?_) (λhb=>?_)
  .simp;rw[eg];simp;intro _;omega
  .simp only[bi,cF]at hb;obtain⟨T,hi4⟩:=hb;have hk:x.right[i] <256:=by
    have:=wf.2.1;simp[JQ,DZ,Bs,Di]at this;have:=this.2.1.2 _ (b9 T);omega
   have U:=Tw (n:=n) (Nat.le_of_lt T);have E:=Mr (n:=n) T;have W:x.right.getD i 0=x.right[i]:=by simp[T]
   have u:Rg n x (i+1)=if x.right[i] % 14<9 then IntKind.i64.wrap (Rg n x i+1)else Rg n x i:=by rw[<-W];rfl
   have B:Zu n v x (i+1)=if x.right[i] % 14<9 then Zu n v x i else Zu n v x i&&decide (v<(x.right[i] % 14 - 9) % n):=by rw[<-W];rfl
   generalize hkk:x.right[i]=G at *;obtain⟨m,Y⟩:=a9 (G % 14);rw[Y]at u B;have v1:IntKind.i64.wrap (G:Int)=G:=by rw[bv];omega
   have v2:((G:Int).tmod 14)=m:=by rw[c8 (by omega),<-Y];simp
   have v3:(G:Int) % 14=m:=by omega
   have yc:i+1<=1073741824:=by omega
   have yx:IntKind.i64.wrap ((i:Int)+1)=(i+1:Nat):=by rw[bv];omega
   refine xK ?_;refine xB ?_;refine xW λK h=>?_;simp[t4,t11,T,hkk,v1,v2];apply h;refine xS (xW λK h=>?_);simp;apply h;refine AR ?_;simp;refine⟨λh9=>?_,λh9=>?_⟩
   .have A:av n G=⟨true,m⟩:=by
     have H:m<9:=by omega
     simp[av,Y,H]
    refine xD [0,2,4,6,8,11,12,15] (by kernel_rfl) λK h=>?_;simp;refine xA 1 ?_;simp[t8];refine go (Dp m) rfl (by simp[xN]) ?_;simp;refine xA 1 ?_;simp[z];refine xX 11 (by kernel_rfl) ?_;simp[Ac,U,yc,z,Ah,h9,h8,t8];refine xA 1 ?_;simp[t8];refine xX 7 (by kernel_rfl) ?_;simp[Ac,t8];refine xM (h _ _ ?_);refine xW λK h=>?_;simp[t9];apply h;refine C7 ?_;refine xV λK h=>?_;simp[t11];apply h;refine⟨by omega,_,_,am,?_⟩;have J:m<9:=by omega
    rw[ap J]at u B;simp[t2,t3,t4,t6,t7,t8,t10,yx,E,A,U,u,B]
   .have A:av n G=⟨false,((m - 9) % n:Nat)⟩:=by
     have H:¬m<9:=by omega
     simp[av,Y,H]
    obtain⟨e,he⟩:=a9 ((m - 9) % n);have J:¬m<9:=by omega
    rw[ao J]at u B;rw[he]at A B;have Z:IntKind.i64.wrap ((m:Int) - 9)=(m - 9:Nat):=by rw[bv];omega
    have v5:(((m - 9:Nat):Int).tmod n)=e:=by rw[c8 (by omega),<-he];simp
    generalize m - 9=m9 at *;refine xK ?_;(repeat refine xS ?_);refine xE [0,2,4,6,8,10,12,14,17,18,21] (by kernel_rfl) λK h=>?_;simp;refine xA 1 ?_;simp[t7,t8,Z,v5,Q];refine go (Et e) rfl (by simp[xN]) ?_;simp;refine xA 1 ?_;simp[z];refine xX 67 (by kernel_rfl) ?_;simp[Ac,U,yc,z,Ah,h8,t7,t8,Z,v5,Q];refine xA 1 ?_;simp[t8];refine xX 63 (by kernel_rfl) ?_;simp[Ac,t8];refine xM (h _ _ ?_);(try simp only[xQ,reduceIte]);cases z9:Zu n v x i with
    |true=>
     rw[z9]at t10 B;refine xE [0,2,4,6,8,10,12,14,16,18,20] (by kernel_rfl) λK h=>?_;simp;refine xZ ?_;simp[t7,t8,t10,Z,v5,Q];refine xM (h _ _ ?_);refine xV λK h=>?_;simp[t11];apply h;refine⟨by omega,_,_,am,?_⟩;simp[t2,t3,t4,t6,t7,t8,t9,yx,E,A,U,u,B]
    |false=>
     rw[z9]at t10 B;refine xE [0,2,4,6,8,10,12,14,16,18,20] (by kernel_rfl) λK h=>?_;simp;refine xZ ?_;simp[t10];refine xM (h _ _ ?_);refine xV λK h=>?_;simp[t11];apply h;refine⟨by omega,_,_,am,?_⟩;simp[t2,t3,t4,t6,t7,t8,t9,yx,E,A,U,u,B]
  .have e:i=N:=by simp at hb;omega
   subst e;refine C7 ?_;simp[t2,t3,t4,t6,t8,t9,t10]
 .rintro tm S ⟨t2,t3,t4,t6,t8,t9,t10,w,rfl⟩;generalize Rg n x N=t at *;generalize Zu n v x N=l at *;generalize JZ n x N=r at *;refine k7 (R:=λtm S=>tm 3=.ptr 0 1 0 0/\tm 4=.ptr 1 1 0 0/\tm 6=.ptr 2 1 0 0/\tm 8=.ptr 3 1 0 0/\S=oC g x nm v r w/\(decide (t=0)&&(j||!l))=false) ?_ ?_
  .unfold oC;by_cases o:t=0
   .cases j with
    |true=>
     refine FX λK h=>?_;refine xH ?_;simp[t2,t9,o];refine B6 (h _ _ ?_);refine AR ?_;simp;refine xW λK h=>?_;simp[t3,t6,Ji];apply h;refine Af ?_;(try simp only[xQ,reduceIte]);refine⟨_,_,am,by simp[t6],_,_,⟨rfl,g,rfl,by simp[o]⟩,.inl ⟨AA g,_,by simp[t6],rfl,a8 0 rfl (by simp) (by simp) (by simp)⟩⟩
    |false=>
     (repeat refine xS ?_);refine HA λK h=>?_;refine xH ?_;simp[t2,t9,t10,o];refine B6 (h _ _ ?_);(try simp only[xQ,reduceIte]);cases l with
     |true=>
      refine AR ?_;simp;refine CT ?_;simp[t3,t4,t6,t8]
     |false=>
      refine AR ?_;simp;refine xW λK h=>?_;simp[t3,t6,Ji];apply h;refine Af ?_;(try simp only[xQ,reduceIte]);refine⟨_,_,am,by simp[t6],_,_,⟨rfl,g,rfl,by simp[o]⟩,.inl ⟨AA g,_,by simp[t6],rfl,a8 0 rfl (by simp) (by simp) (by simp)⟩⟩
   ·(repeat refine xS ?_);refine HA λK h=>?_;(repeat((first|refine FJ rfl ?_ ?_;(·simp[o])|refine QX rfl ?_ ?_;(·simp[t2,t9,t10,o])|refine Cd ?_ ?_;(·simp[o]));simp[t9]));refine B6 (h _ _ ?_);(try simp only[C4]);refine AR ?_;simp[o];refine CT ?_;simp[t3,t4,t6,t8]
  rintro tm S ⟨t3,t4,t6,t8,rfl,hF⟩;unfold oC;refine FX λK h=>?_;refine xJ ?_;simp[t3,t4];refine B9 (wy) rfl (by simp[xN]) ?_;simp;refine xJ ?_;simp[t8,AB];refine B6 (h _ _ ?_);refine ed (c9 4 (xs:=r.map AI) rfl (by simp)) ?_;simp;(repeat refine xS ?_);refine HA λK h=>?_;refine xJ ?_;simp[t4,t8];refine B9 (hq) rfl (by simp[pl,A0,xN]) ?_;simp;refine xJ ?_;simp[t8];refine B6 (h _ _ ?_);(try simp only[xQ,reduceIte]);have zt:g.AD.length<=1073741824:=by omega
  have zK:g.AD.length+1<=1073741824:=by omega
  have vO:0<=maxLen:=cq _;refine xD [0,2,4,8,10,7,13,14,17] (by kernel_rfl) λK h=>?_;simp;refine xA 1 ?_;simp[t3,t8,z,vO];refine xX 20 (by kernel_rfl) ?_;simp[Ac,t3,t8,z,vO,zt,Ah,h8];refine xA 1 ?_;simp;refine xX 1 (by kernel_rfl) ?_;simp[Ac,t3,t8,z,zK,Ah,h8];refine xA 1 ?_;simp[t3];refine xX 7 (by kernel_rfl) ?_;simp[Ac,t3];refine xM (h _ _ ?_);refine xW λK h=>?_;simp[t3,t6,Ji];apply h;refine Af ?_;(try simp only[xQ,reduceIte]);refine⟨_,_,c9 5 (xs:=(g.AD++[q]).map AH) rfl (by simpa using CQ _ ((g.AD++[q]).map AH)),by simp[t6],_,_,⟨rfl,{g with AD:=g.AD++[q]},rfl,by show _=_;rw[ao];simpa using hF⟩,.inl ⟨AA {g with AD:=g.AD++[q]},_,by simp[t6,Ba,AA],rfl,a8 0 rfl (by simp) (by simp) (by simp)⟩⟩
theorem Qh(g:AE)(x:Hl)(h:Bool)(hn:0<g.A2.length/\g.A2.length<=3)(k:g.conds.length<=3)(m:g.AD.length<=100)(i:x.Em<256)(j:x.mark<256):
  ∃F,(F=g\/∃q,UA g h q/\F={g with AD:=g.AD++[q]})/\Pure prog 46 [AA g,Cj x,.bool h] (AA F):=by
 obtain⟨F,h1,o⟩:=UZ g x h hn k m i j;exact⟨F,h1,V9.pure o⟩
end Go.Koi
