/-
  Part 12 of the proof that the law ChangeRestricts returns true for every input.
-/
import Derived.Test.YtbpjppgjnkklnaaGreatDoorG10
set_option maxHeartbeats 64000000
set_option maxRecDepth 100000
open List renaming length->Z,take_length_add_append->afc,replicate->lw,range->i6
open Go.IntKind renaming i64->zz,wrap->b8,bits->pi,signed->pm,wrap->pn
open Bool renaming true->J,false->ap
open Go.Proofs.Tryz renaming prog->ao
open Option renaming some->am,none->bi
open Go.Koi.D renaming int->br,str->afb
namespace Go.Koi
open Go renaming maxLen->a8
open Go.Proofs Tryz DT
def bV(g:AE)(x:AZ)(h0 h i j k o q u v m:V)(w:Bool):V:=.agg [.d (By g.conds),.d (AV g.fam.nodes),.d (encI g.fam.root),.d (Cm g.AT),.d (By g.A0),.d (CJ g.AD),.d (encI g.start),.d (Be g.levels),.d (BL g.AR),.d (encI x.kind),.d (encI x.number),.d (encI x.at_),.d (encI x.to),.d (BQ x.name),.d (Cu x.value),.d (AV x.cond.nodes),.d (encI x.cond.root),.d (Be x.levels),.d (BL x.AR),.d (BQ x.token.name),.d (encI x.token.cls),.d (BQ x.token.literal),.d (Av x.token.pattern),.d (BQ x.token.C6),.d (AV x.token.cond.nodes),.d (encI x.token.cond.root),.d (BQ x.prod.name),.d (encI x.prod.left),.d (Ax x.prod.right),.d (AV x.prod.cond.nodes),.d (encI x.prod.cond.root),.d (Cu x.prod.bracket),.d (encI x.prod.EB),.d (CY x.prod.layout),.d (Cu x.prod.scope.opens),.d (encI x.prod.scope.declares),.d (encI x.prod.scope.kind),.d (encI x.prod.scope.Fh),.d (encI x.prod.scope.allowed),.d (CQ x.BI),h0,h,i,j,k,o,q,u,v,m,.d (.bool w)]
def TX(S:Sg)(r:Nat)(g:AE)(x:AZ):Prop:=∃h0 h i j k o q u v m w,S[r]?=some (.row J 51 [bV g x h0 h i j k o q u v m w])
def DQ(g:AE)(x:AZ):Bool:=decide (0<=x.number)&&decide (x.number<Z g.AD)
theorem IC{S:Sg}{r:Nat}{g:AE}{x:AZ}(hb:TX S r g x):AG ao 69 [.ptr r 1 0 0] S (.d (.bool (DQ g x))) S:=by
 obtain⟨h0,h,i,j,k,o,q,u,v,m,w,hb⟩:=hb;unfold bV at hb;refine zC func69 23 rfl λwf _=>?_;apply yW;simp;(repeat apply xS);refine yE (A7 21 []) (by kernel_rfl) ?_;simp;apply yA 0;simp[hb];apply Aj;refine⟨_,a9,?_⟩;simp[Aq,DQ]
theorem nD(g:AE):Pure ao 71 [AA g] (encI (Z g.conds)):=by
 refine zP func71 6 rfl λwf=>?_;apply yW;simp;apply yW;simp[AA];apply zT;try simp
def G9:AO:=⟨⟨#[]⟩,0,[],⟨[],0⟩,false,0,[],⟨false,0,0,0,0⟩⟩
def Bd(g:AE)(x:AZ):AO:=g.AD.getD x.number.toNat G9
theorem Jh{S:Sg}{r:Nat}{g:AE}{x:AZ}(hb:TX S r g x)(q:S.all (Ao (Z S))=J)(u:DQ g x=J):AG ao 85 [.ptr r 1 0 0] S (.d (AF (Bd g x))) S:=by
 obtain⟨h0,A,B,C,E,F,G,H,K,m,L,hb⟩:=hb;unfold bV at hb;have v:=Ag hb;have i:∀X,(S++[X])[r]?=_:=λX=>(io v).trans hb;simp[DQ]at u;obtain⟨j,hj⟩:∃j:Nat,x.number=j:=⟨x.number.toNat,by omega⟩;have h:j<Z g.AD:=by omega
 have w:Bd g x=g.AD[j]:=by simp[Bd,hj,h]
 rw[w];generalize k:g.AD[j]=p;have o:=AF.eq_1 p;refine zD func85 15 rfl λwf _=>?_;apply yW;simp;(repeat apply xS);refine yE (A7 12 [25]) (by kernel_rfl) ?_;simp;apply yA 0;simp[i,hj,h,k,o];apply xX 4095 (by kernel_rfl);simp;apply xM;apply Aj;refine⟨_,_,_,a9,?_,?_,fd (Z S) (by simp) (c9 _) (by simp) (by simpa using q)⟩
 .simp
 .simp[o]
def Q3(x:AZ)(n:Nat):Bool:=decide (0<=x.number)&&decide (x.number<n)
theorem US{S:Sg}{r q:Nat}{g:AE}{x:AZ}(hb:TX S r g x){k:FuncId}{n:Nat}(h:S[q]?=some (.row J 1 [.fn (.func k) [] []]))(i:Pure ao k [AA g] (encI n)):
  AG ao 164 [.ptr r 1 0 0,.ptr q 1 0 0] S (.d (.bool (Q3 x n))) S:=by
 obtain⟨h0,j,o,u,v,w,A,B,C,m,E,hb⟩:=hb;unfold bV at hb;refine zC func164 24 rfl λwf _=>?_;apply yW;simp;(repeat apply xS);refine yE (A7 21 []) (by kernel_rfl) ?_;simp;apply yA 0;simp[hb,h];refine Ab.C0 (ds:=[AA g]) rfl rfl (by simp;rfl) (λ_=>i) (by simp[xN]) ?_;simp;apply yA 0;simp;apply Aj;refine⟨_,a9,?_⟩;simp[Aq,Q3]
theorem WN{S:Sg}{r:Nat}{g:AE}{x:AZ}(hb:TX S r g x):AG ao 78 [.ptr r 1 0 0] S (.d (.bool (DQ g x&&(F7 x.cond==0)))) S:=by
 have h:=IC hb;obtain⟨h0,i,j,k,o,q,u,v,w,m,A,hb⟩:=hb;unfold bV at hb;refine zC func78 14 rfl λwf _=>?_;apply yW;simp;(repeat apply xS);apply yT;apply yJ;simp;refine i9 rfl rfl (by simp) (f:=69) (args:=[.ptr r 1 0 0]) (by simp;try rfl) (by simp) h (yJ ?_);simp[hb];refine vj (ds:=[AB x.cond]) rfl rfl (by simp;rfl) (λ_=>L5 x.cond) (by simp[xN]) (yJ ?_);simp;apply Aj;refine⟨_,a9,?_⟩;simp[Aq]
def DE(g:AE)(x:AZ):Bool:=DQ g x&&decide (0<=x.at_)&&(match (Bd g x).right[x.at_.toNat]? with|some s=>!s.token|none=>false)
theorem Nr{S:Sg}{r:Nat}{g:AE}{x:AZ}(hb:TX S r g x)(A:S.all (Ao (Z S))=J):AG ao 82 [.ptr r 1 0 0] S (.d (.bool (DE g x))) S:=by
 have q:=IC hb;have k:=Jh hb A;obtain⟨h0,B,C,E,F,G,H,K,L,m,M,hb⟩:=hb;unfold bV at hb;generalize w:Bd g x=o at *;have v:=AF.eq_1 o;refine zC func82 39 rfl λwf _=>?_;(repeat apply xS);apply yV;simp;cases h:DQ g x with
 |false=>
  have u:DE g x=false:=by simp[DE,h]
  rw[u];(repeat apply xS);refine yE (A7 37 []) (by kernel_rfl) ?_;simp;(iterate 1 (refine Hs (by simp) ?_;simp));refine Ab.Gr (f:=69) (args:=[.ptr r 1 0 0]) q rfl (by simp;try rfl) ?_;simp;(iterate 1 (refine Hs (by simp) ?_;simp));(repeat(refine PW rfl rfl ?_ ?_;(·simp[h]);simp[h]));(iterate 2 (refine Hs (by simp) ?_;simp));(repeat(refine PW rfl rfl ?_ ?_;(·simp);simp));(iterate 2 (refine Hs (by simp) ?_;simp));(repeat(refine PW rfl rfl ?_ ?_;(·simp);simp));apply yA 0;simp;apply Aj;refine⟨_,a9,?_⟩;simp[Aq]
 |true=>
  by_cases a0:0<=x.at_
  .obtain⟨j,hj⟩:∃j:Nat,x.at_=j:=⟨x.at_.toNat,by omega⟩;by_cases i:j<Z o.right
   .have u:DE g x=!o.right[j].token:=by simp[DE,h,w,hj,i]
    rw[u];(repeat apply xS);refine yE (A7 37 []) (by kernel_rfl) ?_;simp;(iterate 1 (refine Hs (by simp) ?_;simp));refine Ab.Gr (f:=69) (args:=[.ptr r 1 0 0]) q rfl (by simp;try rfl) ?_;simp;(iterate 1 (refine Hs (by simp) ?_;simp));(iterate 14 (refine Hs (by simp[h,hb,hj]) ?_;simp[h,hb,hj]));refine Ab.JB (g:=true) (f:=85) (args:=[.ptr r 1 0 0]) (λ_=>k h) rfl rfl (by simp;try rfl) (by simp) (by simp) ?_;simp;(iterate 6 (refine Hs (by simp[v]) ?_;simp[i,v]));refine Ab.JB (g:=true) (f:=85) (args:=[.ptr r 1 0 0]) (λ_=>k h) rfl rfl (by simp;try rfl) (by simp) (by simp) ?_;simp;apply yA 0;simp[hb,hj,i,v,AH];apply Aj;refine⟨_,a9,?_⟩;simp[Aq]
   .have u:DE g x=false:=by simp[DE,h,w,hj,i]
    rw[u];(repeat apply xS);refine yE (A7 37 []) (by kernel_rfl) ?_;simp;(iterate 1 (refine Hs (by simp) ?_;simp));refine Ab.Gr (f:=69) (args:=[.ptr r 1 0 0]) q rfl (by simp;try rfl) ?_;simp;(iterate 1 (refine Hs (by simp) ?_;simp));(iterate 14 (refine Hs (by simp[h,hb,hj]) ?_;simp[h,hb,hj]));refine Ab.JB (g:=true) (f:=85) (args:=[.ptr r 1 0 0]) (λ_=>k h) rfl rfl (by simp;try rfl) (by simp) (by simp) ?_;simp;(iterate 5 (refine Hs (by simp[v]) ?_;simp[i,v]));(repeat(refine PW rfl rfl ?_ ?_;(·simp);simp));apply yA 0;simp;apply Aj;refine⟨_,a9,?_⟩;simp[Aq]
  .have u:DE g x=false:=by simp[DE,a0]
   rw[u];(repeat apply xS);refine yE (A7 37 []) (by kernel_rfl) ?_;simp;(iterate 1 (refine Hs (by simp) ?_;simp));refine Ab.Gr (f:=69) (args:=[.ptr r 1 0 0]) q rfl (by simp;try rfl) ?_;simp;(iterate 1 (refine Hs (by simp) ?_;simp));(iterate 8 (refine Hs (by simp[h,hb]) ?_;simp[h,hb,a0]));(repeat(refine PW rfl rfl ?_ ?_;(·simp);simp));(iterate 2 (refine Hs (by simp) ?_;simp));(repeat(refine PW rfl rfl ?_ ?_;(·simp);simp));apply yA 0;simp;apply Aj;refine⟨_,a9,?_⟩;simp[Aq]
def JD(g:AE)(x:AZ):Bool:=DQ g x&&decide (0<=x.at_)&&decide (x.at_<x.to)&&decide (x.to<=Z (Bd g x).right)
theorem ZV{S:Sg}{r:Nat}{g:AE}{x:AZ}(hb:TX S r g x)(k:S.all (Ao (Z S))=J):AG ao 84 [.ptr r 1 0 0] S (.d (.bool (JD g x))) S:=by
 have i:=IC hb;have h:(DQ g x&&decide (0<=x.at_)&&decide (x.at_<x.to))=J->AG ao 85 [.ptr r 1 0 0] S (.d (AF (Bd g x))) S:=λe=>Jh hb k (by simp at e;exact e.1.1);obtain⟨h0,v,w,A,B,C,E,F,G,m,H,hb⟩:=hb;unfold bV at hb;generalize q:Bd g x=o at *;have u:=AF.eq_1 o;have j:JD g x=(DQ g x&&decide (0<=x.at_)&&decide (x.at_<x.to)&&decide (x.to<=Z o.right)):=by simp[JD,q]
 rw[j];refine zC func84 38 rfl λwf _=>?_;apply yW;simp;(repeat apply xS);refine yE (A7 36 []) (by kernel_rfl) ?_;simp;(iterate 1 (refine Hs (by simp) ?_;simp));refine Ab.Gr (f:=69) (args:=[.ptr r 1 0 0]) i rfl (by simp;try rfl) ?_;simp;apply yA 0;simp[hb];refine Ab.JB (g:=DQ g x&&decide (0<=x.at_)&&decide (x.at_<x.to)) (f:=85) (args:=[.ptr r 1 0 0]) h rfl rfl (by simp;try rfl) (by simp) (by simp +contextual;try rfl) ?_;simp;apply yA 0;simp[u];apply Aj;refine⟨_,a9,?_⟩;simp[Aq]
def LQ(g:AE)(x:AZ)(h:AE)(i:List Rewrite)(j:Bool):D:=.agg [By g.conds,AV g.fam.nodes,encI g.fam.root,Cm g.AT,By g.A0,CJ g.AD,encI g.start,Be g.levels,BL g.AR,encI x.kind,encI x.number,encI x.at_,encI x.to,BQ x.name,Cu x.value,AV x.cond.nodes,encI x.cond.root,Be x.levels,BL x.AR,BQ x.token.name,encI x.token.cls,BQ x.token.literal,Av x.token.pattern,BQ x.token.C6,AV x.token.cond.nodes,encI x.token.cond.root,BQ x.prod.name,encI x.prod.left,Ax x.prod.right,AV x.prod.cond.nodes,encI x.prod.cond.root,Cu x.prod.bracket,encI x.prod.EB,CY x.prod.layout,Cu x.prod.scope.opens,encI x.prod.scope.declares,encI x.prod.scope.kind,encI x.prod.scope.Fh,encI x.prod.scope.allowed,CQ x.BI,By h.conds,AV h.fam.nodes,encI h.fam.root,Cm h.AT,By h.A0,CJ h.AD,encI h.start,Be h.levels,BL h.AR,Bb i,.bool j]
def C8(g:AE)(x:AZ)(h:AE)(m:V)(i:Bool)(j w1 k o:Bool):Sg:=
 [.row j 1 (h.conds.map λx=>.d (afb x)),.row w1 7 (h.AT.map λx=>.d (AX x)),.row k 1 (h.A0.map λx=>.d (afb x)),.row o 13 (h.AD.map λx=>.d (AF x)),.row J 51 [bV g x (.row 0 (Z h.conds)) (.d (AV h.fam.nodes)) (.d (encI h.fam.root)) (.row 1 (Z h.AT)) (.row 2 (Z h.A0)) (.row 3 (Z h.AD)) (.d (encI h.start)) (.d (Be h.levels)) (.d (BL h.AR)) m i]]
def bS(g:AE)(x:AZ):Sg:=C8 g x g (.full []) false (!g.conds.isEmpty) (!g.AT.isEmpty) (!g.A0.isEmpty) (!g.AD.isEmpty)
def Ho(g:AE)(x:AZ)(h:AE)(i:List Rewrite)(j:Bool):Sg:=
 [.BT (h.conds.map afb),.BT (h.AT.map AX),.BT (h.A0.map afb),.BT (h.AD.map AF),.row J 51 [.d (LQ g x h i j)]]
theorem SI{n b:Nat}{tm:Tm}(g:AE)(x:AZ)(h:AE)(m:V)(i:List Rewrite)(j k w1 o q:Bool)
  (u:m=.full (i.map Aa)):AI ao n b tm (C8 g x h m j k w1 o q) tm (Ho g x h i j):=by
 subst u;have v:=gl (P:=prog) (n:=n) (b:=b) (tm:=tm) (S:=C8 g x h (.full (i.map Aa)) j k w1 o q) 0 rfl (Cp _ afb h.conds);have w:=gl (P:=prog) (n:=n) (b:=b) (tm:=tm) (S:=(C8 g x h (.full (i.map Aa)) j k w1 o q).set 0 (.BT (h.conds.map afb))) 1 rfl (Cp _ AX h.AT);have A:=gl (P:=prog) (n:=n) (b:=b) (tm:=tm) (S:=((C8 g x h (.full (i.map Aa)) j k w1 o q).set 0 (.BT (h.conds.map afb))).set 1 (.BT (h.AT.map AX))) 2 rfl (Cp _ afb h.A0);have B:=gl (P:=prog) (n:=n) (b:=b) (tm:=tm) (S:=(((C8 g x h (.full (i.map Aa)) j k w1 o q).set 0 (.BT (h.conds.map afb))).set 1 (.BT (h.AT.map AX))).set 2 (.BT (h.A0.map afb))) 3 rfl (Cp _ AF h.AD);refine(((v.trans w).trans A).trans B).trans ?_;refine j2 (P:=prog) (n:=n) (b:=b) (tm:=tm) 4 (wr:=true) (sz:=51) (xs:=[LQ g x h i j]) rfl ?_;simp[Df,C8,bV,DL,B4,LQ]
open Go.Proofs DT
theorem AG.Fg{P:Program}{f:FuncId}{args args':List V}{S S':Sg}{v:V}(h:AG P f args S v S')(u:Z args'=Z args)
  (k:∀i (h:i<Z args) (A:i<Z args'),args[i]=args'[i]\/∃d,BO S args'[i]=some d/\args[i]=.d d):AG P f args' S v S':=
 ⟨h.1,λG w g R B ha=>h.2 G w g R (by omega) λi hi m=>by
  have j:=ha i (by omega) m;rcases k i hi (by omega)with e|⟨d,o,q⟩
  .rw[e];exact j
  .rw[q];exact .d _ _ (j.BO R o)⟩
theorem sd(a:AL):Pure ao 166 [AB a] (.CX [AB (Dl (λx _=>!x) a ⟨[],0⟩).1,encI (Dl (λx _=>!x) a ⟨[],0⟩).2]):=by
 have hb:=(Mq XZ a ⟨[],0⟩).Fg (args':=[.d (AB a),.agg [.full [],.d (encI 0)],.fn (.func 228) [] []]) rfl λi h k=>by
  match i,h with
  |0,_=>exact .inl rfl
  |1,_=>exact .inr ⟨AB ⟨[],0⟩,by simp[BO,AB],rfl⟩
  |2,_=>exact .inl rfl
 refine AG.Gp func166 (by kernel_rfl) rfl (by simp) λwf j=>?_;rw[ntmps166];refine xW λK g=>?_;simp;apply g;(repeat refine xS ?_);refine FG λK g=>?_;refine xJ ?_;simp[AB];refine AS.Tb hb rfl (by simp[AB];try rfl) ?_;simp;refine xJ ?_;simp;refine BY (g _ _ ?_);(try simp only[xQ,reduceIte]);refine Aj ?_;(try simp only[xQ,reduceIte]);refine⟨_,_,_,a9,by simp,by simp,j1 0 (by simp)⟩
abbrev ab3:=@List.set_append_left
theorem Vc{S:Sg}{r:Nat}{g:AE}{x:AZ}{h0 i j k q u v w A m:V}{B:Bool}(hb:S[r]?=some (.row J 51 [bV g x h0 i j k q u v w A m B]))(a b:AL)
  (E:(S.set r (.row J 51 [bV g x h0 i j k q u v w A m (B||(Dl and a b).2!=0)])).all (Ao (Z S))=J):
  AG ao 80 [.ptr r 1 0 0,.d (AB a),.d (AB b)] S (.d (AB (Dl and a b).1)) (S.set r (.row J 51 [bV g x h0 i j k q u v w A m (B||(Dl and a b).2!=0)])):=by
 unfold bV at hb E⊢;have F:=Ag hb;have C:∀T,(S++T)[r]?=_:=λT=>(io F).trans hb;have G:∀T o,(S++T).set r o=S.set r o++T:=λT o=>ab3 _ _ F;refine zD func80 27 rfl λwf H=>?_;apply yW;simp[AB];apply yS;apply yJ;simp;refine Bq (NL a b) rfl (by simp[AB]) (yJ ?_);simp[AB];(repeat apply xS);apply yT;apply yJ;simp[C];rw[G];have h:∀o,Z (S.set r o)=Z S:=λo=>WF;(repeat apply xS);apply yT;apply yJ;simp[h,List.set_append_right];apply Aj;refine⟨_,_,_,a9,?_,?_,fd (Z S) (by simp[h]) (c9 _) (by simp[h]) (by simpa[h]using E)⟩
 .simp[h]
 .simp[h]
abbrev adf:=@List.set_cons_succ
abbrev adg:=@List.set_cons_zero
theorem lP(g:AE)(x:AZ)(hi:DQ g x=J):
  AG ao 79 [.ptr 4 1 0 0] (bS g x) (.CX []) (Ho g x {g with AD:=g.AD.set x.number.toNat {Bd g x with cond:=(Dl and (Bd g x).cond x.cond).1}} [] ((Dl and (Bd g x).cond x.cond).2!=0)):=by
 simp[DQ]at hi;obtain⟨j,hj⟩:∃j:Nat,x.number=j:=⟨x.number.toNat,by omega⟩;have k:j<Z g.AD:=by omega
 have m:g.AD.isEmpty=false:=by cases h:g.AD<;>simp[h]at k⊢
 have w:Bd g x=g.AD[j]:=by simp[Bd,hj,k]
 rw[w];generalize o:g.AD[j]=p;have u:=AF.eq_1 p;have ha:=Vc (S:=bS g x) (r:=4) (by rfl) p.cond x.cond (by simp[bS,C8,bV]);have q:=ha.Fg (args':=[.ptr 4 1 0 0,.agg [.d (AV p.cond.nodes),.d (encI p.cond.root)],.agg [.d (AV x.cond.nodes),.d (encI x.cond.root)]]) rfl λi h B=>by
  match i,h with
  |0,_=>exact .inl rfl
  |1,_=>exact .inr ⟨AB p.cond,by simp[BO,AB],rfl⟩
  |2,_=>exact .inr ⟨AB x.cond,by simp[BO,AB],rfl⟩
 generalize A:Dl and p.cond x.cond=v at *;refine zC func79 28 rfl λwf _=>?_;unfold bS C8 bV at q⊢;simp[m,hj,Bool.not_false]at q;refine yD (A7 12 []) (by kernel_rfl) ?_;simp;apply yA 0;simp[hj,k,m];refine yE (A7 11 [23,24,26,29]) (by kernel_rfl) ?_;simp;apply yA 1;simp[k,o,u];refine xL 545 _ (q) (by kernel_rfl) rfl rfl ?_;simp[k,o,u,AY,AB];apply yA 1;simp[k];apply xX 1021 (by kernel_rfl);simp[k,o,u,AY];apply xM;refine⟨_,((j2 3 (xs:=(g.AD.set j {p with cond:=v.1}).map AF) rfl ?_).trans (rc (S':=C8 g x {g with AD:=g.AD.set x.number.toNat {p with cond:=v.1}} (.full []) (v.2!=0) (!g.conds.isEmpty) (!g.AT.isEmpty) (!g.A0.isEmpty) (!g.AD.isEmpty)) ?_)).trans (SI g x _ (.full []) [] _ _ _ _ _ rfl),?_⟩
 .rw[CH,g9,m0,g9,g9,m0];congr 1
 .simp[C8,bV,hj,m,nc]
 .simp[Aq]
noncomputable def I9(x:AZ):AL×Int:=if x.value then(Ar x.number,Rs x.number)else Dl (λx _=>!x) (Ar x.number) ⟨[],0⟩
theorem lZ(g:AE)(x:AZ):
  AG ao 76 [.ptr 4 1 0 0] (bS g x) (.CX []) (Ho g x {g with fam:=(Dl and g.fam (I9 x).1).1} [] (((I9 x).2!=0)||((Dl and g.fam (I9 x).1).2!=0))):=by
 have o:=qf x.number;have q:=sd (Ar x.number);have ha:∀d m,_:=λd m=>(Vc (S:=C8 g x g (.full []) m (!g.conds.isEmpty) (!g.AT.isEmpty) (!g.A0.isEmpty) (!g.AD.isEmpty)++[.row J 2 [.d (AB d)]]) (r:=4) (by rfl) g.fam d (by simp[C8,bV])).Fg (args':=[.ptr 4 1 0 0,.agg [.d (AV g.fam.nodes),.d (encI g.fam.root)],.d (AB d)]) rfl λi h w=>by
  match i,h with
  |0,_=>exact .inl rfl
  |1,_=>exact .inr ⟨AB g.fam,by simp[BO,AB],rfl⟩
  |2,_=>exact .inl rfl
 refine zC func76 47 rfl λwf _=>?_;unfold bS C8 bV;apply yS;apply yJ;simp;refine Bq (o) rfl (by simp[xN]) (yJ ?_);simp;refine m7 (R:=λtm S=>tm 0=.ptr 4 1 0 0/\tm 2=.ptr 5 1 0 0/\tm 3=.d (encI (I9 x).2)/\S=C8 g x g (.full []) false (!g.conds.isEmpty) (!g.AT.isEmpty) (!g.A0.isEmpty) (!g.AD.isEmpty)++[.row J 2 [.d (AB (I9 x).1)]]) ?_ ?_
 ·(repeat apply xS);apply yV;simp;cases j:x.value with
  |true=>
   apply AP;simp;apply CF;simp[I9,j,C8,bV]
  |false=>
   apply AP;simp;apply yT;apply yJ;simp;refine Bq (q) rfl (by simp[xN]) (yJ ?_);simp;unfold HQ;simp[I9,j,C8,bV]
 .rintro tm S ⟨t0,t2,t3,rfl⟩;generalize I9 x=u at *;obtain⟨d,e⟩:=u;simp at t3⊢;have k:=ha d (e !=0);generalize Dl and g.fam d=v at *;obtain⟨r1,r2⟩:=v;unfold C8 bV at k⊢;simp at k⊢;apply yS;apply yJ;simp[t0,t3];refine yE (A7 8 [17,18,20,22,25]) (by kernel_rfl) ?_;simp;apply yA 1;simp[t0,t2,AB];refine xL 67 _ (k) (by kernel_rfl) rfl rfl ?_;simp[t0,t2,AB,AY];apply yA 1;simp;apply xX 249 (by kernel_rfl);simp[t0,AY];apply xM;refine⟨_,((fd 5 (S':=C8 g x {g with fam:=r1} (.full []) ((e !=0)||(r2 !=0)) (!g.conds.isEmpty) (!g.AT.isEmpty) (!g.A0.isEmpty) (!g.AD.isEmpty)) ?_ (by simp) (by simp) (by simp))).trans (SI g x _ (.full []) [] _ _ _ _ _ rfl),?_⟩
  .simp[C8,bV]
  .simp[Aq]
theorem SO(xs:List Int)(v:Int):Pure ao 210 [BZ xs,encI v] (encI (firstIdx (·==v) xs)):=by
 refine hW func210 rfl rfl (by simp) λwf=>?_;have q:Z xs<=maxLen:=by have:=wf.1;simp[DY]at this;simpa using this.1
 rw[ntmps210];apply yW;simp;refine xS (yW ?_);simp;apply Bo;refine FO (Z xs) (λi tm S=>tm 0=.d (BZ xs)/\tm 1=.d (encI v)/\tm 8=.d (encI i)/\tm 7=.d (encI (Z xs))/\S=[]/\∀j (_:j<i) (h:j<Z xs),(xs[j]==v)=false) (er _) (by simp) ?_;rintro i tm S hi ⟨t0,t1,t8,t7,rfl,k⟩;apply yW;simp[t8,t7];apply xC;simp;refine⟨λg=>?_,λu=>?_⟩
 .apply xK;apply xB;apply yW;simp[t8];apply yS;apply yJ;simp[t0,t1,g];apply AP;simp;refine⟨λm=>?_,λm=>?_⟩
  .apply yW;simp;apply Aj;refine⟨_,_,a9,?_⟩;simp;exact(Cw g (by simp[m]) λj hj=>k j hj (by omega)).symm
  .apply CF;apply yV;simp[t8];refine⟨g,_,_,a9,?_⟩;simp[t0,t1,t7,AK g q];intro j hj o;by_cases e:j=i
   .subst e;exact λh=>m h.symm
   .exact by simpa using k j (by omega) o
 .apply Ci;apply yW;simp;apply Aj;refine⟨_,_,a9,?_⟩;simp;exact(firstIdx_none λj hj=>k j (by omega) hj).symm
theorem JJ(xs:List Int)(v:Int):Pure ao 135 [BZ xs,encI v] (Cu (xs.contains v)):=by
 refine zP func135 9 rfl λwf=>?_;apply yW;simp;(repeat apply xS);apply yT;apply yJ;simp;refine Bq (SO xs v) rfl (by simp) (yJ ?_);simp;apply Aj;refine⟨_,_,a9,?_⟩;simp;have:=DA (·==v) xs;rw[gI]at this;simpa using this
theorem Zr{S:Sg}{q:Nat}{i:Int}(h:S[q]?=some (.row J 1 [.d (encI i)]))(j:S.all (Ao (Z S))=J)(l:Level):AG ao 230 [.d (Af l),.ptr q 1 0 0] S (.d (Cu (l.AD.contains i))) S:=by
 have g:∀X,(S++[X])[q]?=_:=λX=>(io (Ag h)).trans h;refine zD func230 8 rfl λwf _=>?_;apply yW;simp[Af];(repeat apply xS);apply yT;apply yJ;simp[g];refine Bq (JJ l.AD i) rfl (by simp) (yJ ?_);simp;apply Aj;refine⟨_,_,_,a9,?_,?_,fd (Z S) (by simp) (c9 _) (by simp) (by simpa using j)⟩
 .simp
 .simp
theorem Y6{S:Sg}{q:Nat}{i:Int}(k:S[q]?=some (.row J 1 [.d (encI i)]))(m:S.all (Ao (Z S))=J)(f:Filter):AG ao 232 [.d (AM f),.ptr q 1 0 0] S (.d (Cu ((decide (f.kind=1)||decide (f.kind=2))&&(decide (f.parent=i)||decide (f.child=i))))) S:=by
 have g:∀X,(S++[X])[q]?=_:=λX=>(io (Ag k)).trans k;refine zD func232 24 rfl λwf _=>?_;apply yW;simp[AM];(repeat apply xS);apply yT;(iterate 9 (refine Cc (by simp) ?_;simp));cases h:(f.kind==1||f.kind==2)with
 |false=>
  have j:(decide (f.kind=1)||decide (f.kind=2))=false:=by rw[<-h];rfl
  (repeat(refine FI rfl ?_ ?_;(·simp);simp));apply yJ;simp;apply Aj;refine⟨_,_,_,a9,?_,?_,fd (Z S) (by simp) (c9 _) (by simp) (by simpa using m)⟩
  .simp
  .simp
 |true=>
  have j:(decide (f.kind=1)||decide (f.kind=2))=true:=by rw[<-h];rfl
  (iterate 5 ((refine Pe rfl (by simp[g];try rfl) ?_);simp[g]));(iterate 4 (refine Cc (by simp[g]) ?_;simp[g]));((refine Pe rfl (by simp;try rfl) ?_);simp);apply yJ;simp;apply Aj;refine⟨_,_,_,a9,?_,?_,fd (Z S) (by simp) (c9 _) (by simp) (by simpa using m)⟩
  .simp
  .simp[BEq.beq]
theorem Oo{S:Sg}{q:Nat}{i:Int}(h:S[q]?=some (.row J 1 [.d (encI i)]))(j:S.all (Ao (Z S))=J)(f:Filter):AG ao 233 [.d (AM f),.ptr q 1 0 0] S (.d (Cu ((decide (f.kind=3)||decide (f.kind=4))&&decide (f.left=i)))) S:=by
 have g:∀X,(S++[X])[q]?=_:=λX=>(io (Ag h)).trans h;refine zD func233 18 rfl λwf _=>?_;apply yW;simp[AM];(repeat apply xS);apply yT;apply yJ;simp[g];apply Aj;refine⟨_,_,_,a9,?_,?_,fd (Z S) (by simp) (c9 _) (by simp) (by simpa using j)⟩
 .simp
 .simp[BEq.beq]
mutual
theorem M5{k j:Nat}(h:k<=j):∀v,AJ k v=J->AJ j v=J
 |.row r _,g=>by simp[AJ]at g⊢;omega
 |.ptr r _ _ _,g=>by simp[AJ]at g⊢;omega
 |.map r,g=>by simp[AJ]at g⊢;omega
 |.fn _ m o,g=>by
  simp[AJ]at g⊢;exact⟨GG h m g.1,GG h o g.2⟩
 |.agg i,g=>by simp[AJ]at g⊢;exact GG h i g
 |.CX i,g=>by simp[AJ]at g⊢;exact GG h i g
 |.opt _ v,g=>by simp[AJ]at g⊢;exact M5 h v g
 |.any,_=>rfl
 |.d _,_=>rfl
 |.full _,_=>rfl
 |.DW _,_=>rfl
theorem GG{k j:Nat}(h:k<=j):∀g,Au k g=J->Au j g=J
 |[],_=>rfl
 |v::g,i=>by
  simp[Au]at i⊢;exact⟨M5 h v i.1,GG h g i.2⟩
end
theorem ZO{k j:Nat}(h:k<=j)(o:O)(g:Ao k o=J):Ao j o=true:=by
 cases o with
 |row q sz i=>exact GG h i g
 |map u=>
  simp only[Ao,ed]at g⊢;exact λe m=>M5 h _ (g e m)
 |BT v=>rfl
 |dead=>rfl
theorem NU{S T:Sg}(g:S.all (Ao (Z S))=J)(i:T.all (Ao (Z S+Z T))=J):(S++T).all (Ao (Z (S++T)))=true:=by
 simp only[ed,jp,fi]at *;exact λo j=>j.elim (λh=>ZO (Nat.le_add_right _ _) o (g o h)) (i o)
def Ay:Scope:=⟨false,0,0,0,0⟩
def Dq(g:AE)(i:Int):Bool:=
 (decide ((g.AD.getD i.toNat G9).EB≠0)||decide (0<Z (g.AD.getD i.toNat G9).layout)||(g.AD.getD i.toNat G9).bracket||decide ((g.AD.getD i.toNat G9).scope≠Ay))||
  (g.levels.any (λl=>l.AD.contains i)||g.AR.any λf=>(decide (f.kind=1)||decide (f.kind=2))&&(decide (f.parent=i)||decide (f.child=i)))
theorem Hl{S:Sg}{r:Nat}{g:AE}{x:AZ}(hb:TX S r g x)(B:S.all (Ao (Z S))=J){i:Int}(K:0<=i/\i<Z g.AD):AG ao 169 [.ptr r 1 0 0,.d (encI i)] S (.d (.bool (Dq g i))) S:=by
 obtain⟨h0,L,M,N,P,Q,R,T,U,m,W,A⟩:=hb;unfold bV at A;have E:=Ag A;have o:∀X,(S++[X])[r]?=_:=λX=>(io E).trans A;have h:∀X Y,(S++[X,Y])[r]?=_:=λX Y=>(io E).trans A;obtain⟨j,rfl⟩:∃j:Nat,i=j:=⟨i.toNat,by omega⟩;have k:j<Z g.AD:=by omega
 unfold Dq;have F:g.AD.getD (j:Int).toNat G9=g.AD[j]:=by simp[k]
 rw[F];generalize u:g.AD[j]=p;have v:=AF.eq_1 p;refine zD func169 49 rfl λwf _=>?_;apply yW;simp;(repeat apply xS);refine yE (A7 8 [17,19]) (by kernel_rfl) ?_;simp;apply yA 1;simp[o,k,u,v];apply xX 0 (by kernel_rfl);simp[o,h,k,u,v,AY];apply yA 1;simp;apply xX 255 (by kernel_rfl);simp[h,k,u,v,AY];apply xM;have C:CT [D.bool p.scope.opens,br zz p.scope.declares,br zz p.scope.kind,br zz p.scope.Fh,br zz p.scope.allowed] [D.bool false,br zz 0,br zz 0,br zz 0,br zz 0]=decide (p.scope=Ay):=QU p.scope Ay;refine xS (yS ?_);apply yJ;simp[C];have w:∀X,(S++[O.row J 1 [.d (encI j)],O.row J 13 [.d X]]).all (Ao (Z (S++[O.row J 1 [.d (encI j)],O.row J 13 [.d X]])))=true:=λX=>NU B (by simp[Ao,Au,AJ]);have G:=λX=>LC g.levels (λl=>l.AD.contains (j:Int)) 230 [.ptr (Z S) 1 0 0] (S++[O.row J 1 [.d (encI j)],O.row J 13 [.d X]]) (λl _=>Zr (q:=Z S) (by simp) (w X) l);have H:=λX=>Gu g.AR (λf=>(decide (f.kind=1)||decide (f.kind=2))&&(decide (f.parent=(j:Int))||decide (f.child=(j:Int)))) 232 [.ptr (Z S) 1 0 0] (S++[O.row J 1 [.d (encI j)],O.row J 13 [.d X]]) (λl _=>Y6 (q:=Z S) (by simp) (w X) l);(repeat apply xS);refine m8 (t:=decide (p.EB≠0)||decide (0<Z p.layout)||p.bracket||decide (p.scope≠Ay)) ?_ (λhb=>?_) (λhb=>?_)
 .simp;rw[gI];simp[or_assoc]
 .rw[hb,Bool.true_or];apply yW;simp;apply Aj;refine⟨_,_,_,a9,?_,?_,fd (Z S) (by simp) (c9 _) (by simp) (by simpa using B)⟩
  .simp
  .simp
 .rw[hb,acX];apply xK;(repeat apply xS);apply yT;apply yJ;simp[h];refine i9 rfl rfl (by simp) (f:=229) (args:=[.d (.sl (g.levels.map Af)),.fn (.func 230) [] [.ptr (Z S) 1 0 0]]) (by simp[callee];try rfl) (by simp) (G _) (yJ ?_);simp[h];refine AS.JB (g:=!(g.levels.any λl=>l.AD.contains (j:Int))) (f:=231) (args:=[.d (.sl (g.AR.map AM)),.fn (.func 232) [] [.ptr (Z S) 1 0 0]]) (λ_=>H _) rfl rfl (by simp) (by simp) (λe=>by simp at e;simp[callee];exact e) (yJ ?_);simp;apply Aj;refine⟨_,_,_,a9,?_,?_,fd (Z S) (by simp) (c9 _) (by simp) (by simpa using B)⟩
  .simp
  .simp
theorem AI.EK{P:Program}{n b:Nat}{tm:Tm}{S S':Sg}(k:Nat)(hS:S.take k=S')(hb:b<=k)(g:k<=Z S)(h:S'.all (Ao k)=J):AI P n b tm S (clean k tm) S':=
 fd k hS hb g (hS▸h)
abbrev n8:=@AI.EK
def HB(g:AE)(n:Int)(i:Nat):List Int:=((List.range i).filter λj=>decide ((g.AD.getD j G9).left=n)).map λ(j:Nat)=>(j:Int)
def rD(g:AE)(n:Int):List Int:=HB g n (Z g.AD)
abbrev adO:=@decide_false
theorem aq(g:AE)(n:Int)(i:Nat):HB g n (i+1)=if(g.AD.getD i G9).left=n then HB g n i++[(i:Int)]else HB g n i:=by
 unfold HB;rw[acf,acr,abZ];split<;>rename_i h<;>simp only[List.filter_cons,List.filter_nil,h,acQ,adO,ip]<;>simp
abbrev acS:=@List.length_filter_le
theorem J8(g:AE)(n:Int)(i:Nat):Z (HB g n i)<=i:=by
 unfold HB;rw[y3];exact ms (acS _ _) (by simp)
theorem IY{g:AE}{n:Int}{i:Nat}{v:Int}(h:v∈HB g n i):0<=v/\v<i:=by
 unfold HB at h;simp[g7]at h;obtain⟨j,⟨k,_⟩,rfl⟩:=h;omega
theorem Xt{S:Sg}{r:Nat}{g:AE}{x:AZ}(hb:TX S r g x)(B:S.all (Ao (Z S))=J)(L:Z g.AD<=2 ^ 20)(n:Int):AG ao 168 [.ptr r 1 0 0,.d (encI n)] S (.d (BZ (rD g n))) S:=by
 obtain⟨h0,M,N,P,Q,R,U,W,Y,m,lg,o⟩:=hb;unfold bV at o;have E:=Ag o;have F:∀X,(S++[X])[r]?=_:=λX=>(io E).trans o;have C:Z g.AD<=maxLen:=by unfold maxLen;omega
 refine zD func168 29 rfl λwf _=>?_;have k:∀i,(S++[O.row (!(HB g n i).isEmpty) 1 ((HB g n i).map λv=>V.d (encI v))]).all (Ao (Z S+1))=true:=λi=>by simpa using NU (T:=[O.row (!(HB g n i).isEmpty) 1 ((HB g n i).map λv=>V.d (encI v))]) B (by simp[Ao])
 apply yW;simp;apply yW;simp;refine xS (yW ?_);simp[o];refine gs (oa 5 1 (xs:=[]) (by simp)) ?_;apply Bo;refine FO (Z g.AD) (λi tm S'=>tm 1=.d (encI n)/\tm 12=.d (CJ g.AD)/\tm 14=.d (encI i)/\tm 13=.d (encI (Z g.AD))/\tm 5=.row (Z S) (Z (HB g n i))/\S'=S++[.row (!(HB g n i).isEmpty) 1 ((HB g n i).map λv=>.d (encI v))]) (er _) ⟨by simp,by simp,by simp,by simp,by simp[Fk,HB],by simp[HB]⟩ ?_;rintro i tm S' hi ⟨t1,t12,t14,t13,t5,rfl⟩;apply yW;simp[t13,t14];apply xC;simp;refine⟨λj=>?_,λzu=>?_⟩
 .have q:g.AD.getD i G9=g.AD[i]:=by simp[j]
  have h:=aq g n i;have G:=J8 g n i;rw[q]at h;generalize u:g.AD[i]=p at *;have H:=AF.eq_1 p;apply xK;apply xB;apply yS;apply yJ;simp[t12,t14,j,u,H];apply yS;apply yJ;simp[t1];apply AP;simp;refine⟨λw=>?_,λw=>?_⟩
  .rw[ca w]at h;have A:Z (HB g n i)+1<=1073741824:=by omega
   have K:1<=maxLen:=by unfold maxLen;omega
   apply yT;apply yJ;simp[t5,K,A,Ac];apply yV;simp[t14];refine⟨j,_,_,n8 (Z S+1) (S':=S++[.row (!(HB g n (i+1)).isEmpty) 1 ((HB g n (i+1)).map λv=>.d (encI v))]) ?_ (by simp) (by simp) ?_,?_⟩
   .simp[h,afc]
   .exact k _
   simp[clean,AJ,t1,t12,t13,AK j C,h]
  .rw[bv w]at h;apply CF;apply yV;simp[t14];refine⟨j,_,_,n8 (Z S+1) (S':=S++[.row (!(HB g n (i+1)).isEmpty) 1 ((HB g n (i+1)).map λv=>.d (encI v))]) ?_ (by simp) (by simp) ?_,?_⟩
   .simp[h,afc]
   .exact k _
   simp[clean,AJ,t1,t12,t13,t5,AK j C,h]
 .have e:i=Z g.AD:=by omega
  subst e;apply Ci;apply yW;simp[t5];apply Aj;refine⟨_,_,_,gl (Z S) (xs:=(HB g n (Z g.AD)).map encI) List.getElem?_concat_length (by simp),?_,?_,fd (Z S) (by simp) (c9 _) (by simp) (by simpa using B)⟩
  .simp
  .simp[rD]
section
variable {P:Program} {n b:Nat} {ops:Array Oper} {o:Oper} {tm:Tm} {S:Sg} {K:Tm->Sg->Prop} {v:V}
def SC(P:Program)(f:FuncId)(args:List V)(v:V)(S:Sg):Prop:=AG P f args S v S
theorem Ab.qN{B:List (Nat×(Sg->Prop))}{i:Nat}{rest:List (Nat×Bool×Oper)}{c:Call}{f:FuncId}{args:List V}(h:AG P f args S v S)(g:o.op=.call c)
  (j:o.guard=none/\A6 n o.dst/\BB tm c/\callee tm c=some (f,args)) (k:Ab P n b ops ((i,SC P f args v)::B) rest (put tm o.dst v) S K):Ab P n b ops B ((i,J,o)::rest) tm S K:=by
 obtain⟨m,q,u,w⟩:=j;exact q7 (SC P f args v) h (λhi A hS=>E2 hi g m q w u hS) k
end
theorem QB(xs:List Int)(p:Int->Bool)(k:FuncId)(u:V)(S0:Sg)(w:∀x∈xs,AG ao k [u,.d (br .i64 x)] S0 (.d (.bool (p x))) S0):
  AG ao 234 [.d (.sl (xs.map (br .i64))),.fn (.func k) [u] []] S0 (.d (encI (firstIdx p xs))) S0:=by
 refine oF func234 rfl rfl (by simp) λwf _=>?_;have A:Z xs<=maxLen:=by have:=wf.1;simp[Ij,DY]at this;simpa using this.1
 rw[ntmps234];apply yW;simp;refine xS (yW ?_);simp;apply Bo;refine FO (Z xs) (λi tm S=>tm 0=.d (.sl (xs.map (br .i64)))/\tm 1=.fn (.func k) [u] []/\tm 8=.d (encI i)/\tm 7=.d (encI (Z xs))/\S=S0/\∀j (_:j<i) (h:j<Z xs),p xs[j]=false) (er _) (by simp) ?_;rintro i tm S hi ⟨t0,t1,t8,t7,rfl,m⟩;apply yW;simp[t8,t7];apply xC;simp;refine⟨λg=>?_,λB=>?_⟩
 .apply xK;apply xB;apply yW;simp[t8];apply yS;apply yJ;simp[t0,t1,g];refine i9 (v:=.d (.bool (p xs[i]))) rfl rfl (by simp) (f:=k) (args:=[u,.d (br .i64 xs[i])]) (by simp;try rfl) (by simp) (w _ (cL g)) ?_;simp;apply BY;apply AP;simp;refine⟨λo=>?_,λo=>?_⟩
  .apply yW;simp;apply Aj;refine⟨_,a9,?_⟩;simp[Aq];exact .inl (Cw g o λj hj=>m j hj (by omega)).symm
  .apply CF;apply yV;simp[t8];refine⟨g,_,_,a9,?_⟩;simp[t0,t1,t7,AK g A];intro j hj q;by_cases e:j=i
   .subst e;exact o
   .exact m j (by omega) q
 .apply Ci;apply yW;simp;apply Aj;refine⟨_,a9,?_⟩;simp[Aq];exact .inl (firstIdx_none λj hj=>m j (by omega) hj).symm
theorem MY(xs:List Int)(p:Int->Bool)(k:FuncId)(u:V)(S0:Sg)(g:∀x∈xs,AG ao k [u,.d (br .i64 x)] S0 (.d (.bool (p x))) S0):
  AG ao 171 [.d (.sl (xs.map (br .i64))),.fn (.func k) [u] []] S0 (.d (.bool (xs.any p))) S0:=by
 refine zC func171 9 rfl λwf _=>?_;apply yW;simp;(repeat apply xS);apply yT;apply yJ;simp;refine i9 rfl rfl (by simp) (f:=234) (args:=[.d (.sl (xs.map (br .i64))),.fn (.func k) [u] []]) (by simp[callee]) (by simp) (QB xs p k u S0 g) (yJ ?_);simp;apply Aj;refine⟨_,a9,?_⟩;simp[Aq];have:=DA p xs;simp at this;simp[this]
def Jw(g:AE)(x:AZ):Symbol:=(Bd g x).right.getD x.at_.toNat ⟨false,0⟩
def H8(g:AE)(x:AZ):Bool:=
 (rD g (Jw g x).index).any (Dq g)||g.AR.any λf=>(decide (f.kind=3)||decide (f.kind=4))&&decide (f.left=(Jw g x).index)
theorem ES{g:AE}{x:AZ}(h:DE g x=J):DQ g x=J/\∃j:Nat,x.at_=j/\∃hj:j<Z (Bd g x).right,Jw g x=(Bd g x).right[j]/\(Jw g x).token=false:=by
 simp[DE]at h;obtain⟨⟨m,u⟩,i⟩:=h;obtain⟨j,hj⟩:∃j:Nat,x.at_=j:=⟨x.at_.toNat,by omega⟩;refine⟨m,j,hj,?_⟩;rw[hj]at i;simp at i;split at i
 .rename_i s o;obtain⟨k,q⟩:=gq.1 o;refine⟨k,?_,?_⟩
  .simp[Jw,hj,k]
  .simp[Jw,hj,k,q];simpa using i
 .cases i
theorem KU{S:Sg}{r:Nat}{g:AE}{x:AZ}(hb:TX S r g x)(G:S.all (Ao (Z S))=J)(M:Z g.AD<=2 ^ 20)(N:DE g x=J):AG ao 170 [.ptr r 1 0 0] S (.d (.bool (H8 g x))) S:=by
 obtain⟨K,j,hj,i,k,P⟩:=ES N;have C:=Jh hb G K;have Q:=hb;obtain⟨h0,R,T,U,W,Y,h6,h7,h8,m,lg,E⟩:=hb;have L:=Ag E;have B:∀X,TX (S++[X]) r g x:=λX=>⟨h0,R,T,U,W,Y,h6,h7,h8,m,lg,(io L).trans E⟩;unfold bV at E;have u:∀X,(S++[X])[r]?=_:=λX=>(io L).trans E;have w:∀X,(S++[O.row J 1 [.d X]]).all (Ao (Z (S++[O.row J 1 [.d X]])))=true:=λX=>NU G (by simp[Ao,Au,AJ]);have h:∀X,AG ao 85 [.ptr r 1 0 0] (S++[O.row J 1 [.d X]]) (.d (AF (Bd g x))) (S++[O.row J 1 [.d X]]):=λX=>Jh (B _) (w X) K;unfold H8;generalize Jw g x=s at *;generalize Bd g x=o at *;have F:=AF.eq_1 o;have H:=Xt (B (O.row J 1 [.d (encI s.index)])) (w _) M s.index;have ci:=MY (rD g s.index) (Dq g) 169 (.ptr r 1 0 0) (S++[O.row J 1 [.d (encI s.index)]]) (λv hv=>Hl (B _) (w _) (IY hv));have cf:=Gu g.AR (λf=>(decide (f.kind=3)||decide (f.kind=4))&&decide (f.left=s.index)) 233 [.ptr (Z S) 1 0 0] (S++[O.row J 1 [.d (encI s.index)]]) (λl _=>Oo (q:=Z S) (by simp) (w _) l);have A:=AH.eq_1 s;simp[F,Ax,AV,CY,encI,Cu,BQ]at h;refine zD func170 30 rfl λwf _=>?_;apply yW;simp;refine yD (A7 11 [23,25]) (by kernel_rfl) ?_;simp;apply yA 1;simp;refine Ab.qN (f:=85) (args:=[.ptr r 1 0 0]) C rfl (by simp;try rfl) ?_;simp;apply yA 1;simp[E,hj,i,k.symm,F,A];apply xX 0 (by kernel_rfl);simp[u,hj,i,k.symm,A,AY,SC,h];apply yA 1;simp;apply xX 2047 (by kernel_rfl);simp[u,hj,i,k.symm,A,AY,SC,h];apply xM;(repeat apply xS);apply yT;apply yJ;simp;refine i9 rfl rfl (by simp) (f:=168) (args:=[.ptr r 1 0 0,.d (encI s.index)]) (by simp[callee];try rfl) (by simp) H (yJ ?_);simp;refine i9 rfl rfl (by simp) (f:=171) (args:=[.d (.sl ((rD g s.index).map (br .i64))),.fn (.func 169) [.ptr r 1 0 0] []]) (by simp[callee];try rfl) (by simp) ci (yJ ?_);simp[u];refine AS.JB (g:=!((rD g s.index).any (Dq g))) (f:=231) (args:=[.d (.sl (g.AR.map AM)),.fn (.func 233) [] [.ptr (Z S) 1 0 0]]) (λ_=>cf) rfl rfl (by simp) (by simp) (λe=>by simp at e;simp[callee];exact e) (yJ ?_);simp;apply Aj;refine⟨_,_,_,a9,?_,?_,fd (Z S) (by simp) (c9 _) (by simp) (by simpa using G)⟩
 .simp
 .simp
abbrev c8:=@IntKind.wrap_i64
abbrev adn:=@List.size_toArray
section
variable {P:Program} {n:Nat} {o:Oper} {tm:Tm} {S S':Sg} {v:V}
theorem Tk{w:World}{Q xT E ty:TypeId}{e:TI}{z:Value}{base:Option Addr}{m:Nat}(h0:0<m)(T:m<=2 ^ 30)
  (U:Al P Q=am E) (k:ti P E=am e) (W:e.zero=am z) (_:z.cells.size=e.size) (Y:P.underlying xT=am (.int .i64)) (q:e.bytes<=65536):
  ∃u A,m<=u/\u<=a8/\A.heap=w.heap/\A.os=w.os/\A.output=w.output/\(Builtin.append_ #[Q,xT] ty #[.slice base 0 0,.int .i64 m]).run P w=
    .ok (.slice (am ⟨w.heap.size,0,none⟩) m u) (Bl A (.cells (#[]++(if m * e.size=0 then #[]else Builtin.zeroCells z.cells m)++Builtin.zeroCells z.cells (u - m)) E (0,0))):=by
 obtain⟨t,t1,t2⟩:=A4 U;obtain⟨d,hd,B⟩:=An t1 w;have C:d=.slice E:=by rw[t2]at B;cases d<;>simp[tk]at B⊢;exact B
 subst C;have F:∀w,(underlying xT).run P w=.ok (.int .i64) w:=λw=>by simp[underlying,Y]
 have zp:=Bg k;obtain⟨g,i1,i2,i3,i4⟩:=Dv k w;obtain⟨R,G,i2',i3',i4'⟩:=Dv k {w with drawn:=w.drawn+1};have H:b8 .i64 (m:Int)=m:=by rw[c8];omega
 have i:(Question.appendCap (0+m) 0 E).forced=false:=rfl;refine⟨(Question.appendCap (0+m) 0 E).cut (w.tape w.drawn (.appendCap (0+m) 0 E)),{w with drawn:=w.drawn+1},?_,?_,rfl,rfl,rfl,?_⟩
 .simp[Question.cut]
 .simp only[Question.cut,a8];have:w.tape w.drawn (Question.appendCap (0+m) 0 E) % (2 ^ 63 - (0+m))<2 ^ 63 - (0+m):=i7 _ (by omega);omega
 .have K:¬((m:Int) * g.bytes>2 ^ 48):=by
   have:(g.bytes:Int) * m<=281474976710656:=by
    have h:g.bytes * m<=65536 * 2 ^ 30:=acu (by omega) T;have:((g.bytes * m:Nat):Int)<=281474976710656:=by omega
    rwa [Int.natCast_mul]at this
   rw[Int.mul_comm];omega
  have L:¬(Builtin.nextslicecap (0+m) 0 * g.bytes>2 ^ 48):=by
   have h3:=Po (need:=0+m) (cap:=0) (by omega);have h4:Builtin.nextslicecap (0+m) 0 * g.bytes<=(2 * (0+m)+768) * 65536:=acu h3 (by omega);omega
  have M:¬(((0+m:Nat):Int)>IntKind.i64.max/\(True\/g.bytes=0)):=by
   have:IntKind.i64.max=9223372036854775807:=by decide
   omega
  have N:¬((m:Int)<0):=by omega
  have j:¬(0+m<=0):=by omega
  unfold Builtin.append_;simp only[acN,abX,ri,ls,hd,kv,zp,F,pc,asInt,asIntOf,H,Sem.run_ite,bv N,i1,bv K,bv j,ca,bv L,ne];have hf:∀w:World,(Builtin.firstCells e.size 0 (.slice base 0 0)).run P w=.ok #[] w:=λw=>by
   cases base<;>simp[Builtin.firstCells,loadCells,loadCellsFrom]
  simp only[bv M,run_choose,i,ob,jw,kv,G,run_askRoom,hf,ac8,EG k _ W];split
  .simp[newRow,Bl];rfl
  .simp[newRow,Bl];rfl
theorem Wx{c:Call}{K xT E:TypeId}{x y:Operand}{e:TI}{z:Value}{m:Nat}(ho:o.op=.call c)(hc:c.callee=.builtin .append)(zl:c.args=#[x,y])(hT:c.argTypes=#[K,xT])
  (M:need (ev tm x)) (hy:need (ev tm y)) (hs:Al P K=am E) (N:P.underlying xT=am (.int .i64)) (he:ti P E=am e) (hz:e.zero=am z) (g:z.cells.size=e.size) (Q:(Ap (OQ z)||Bp (OQ z))=J) (q:e.bytes<=65536)
  (ex:strip (ev tm x)=.full []) (ey:strip (ev tm y)=.d (.int .i64 m)) (h0:0<m) (hm:m<=2 ^ 30):
  CR P n o tm S (.row (Z S) m) (S++[.row J e.size (lw m (OQ z))]):=.val λG w a st=>by
 have R:=(BS st x).strip M;have h2:=B7 st hy ey;rw[ex]at R;generalize T:a.eval x=B at R;cases R with
 |full _ base hcd=>
  obtain⟨u,C,U,hncm,e1,e2,e3,zm⟩:=Tk (P:=P) (w:=w) (ty:=o.type) (base:=base) h0 hm hs he hz g N q;have h:(execOp a.eval o).run P w=((Builtin.append_ #[K,xT] o.type #[a.eval x,a.eval y]).run P w).andThen λv w'=>.ok (.value v) w':=by
   simp[execOp,ho,resolve,hc,zl,hT,invoke,builtin]
  rw[T,h2]at h;obtain⟨q1,q2,q3⟩:=st.rel.drawn e1 e2 e3;obtain⟨r1,r2,r3⟩:=q1.add u (.row J e.size (lw m (OQ z))) (.cells (#[]++(if m * e.size=0 then #[]else Builtin.zeroCells z.cells m)++Builtin.zeroCells z.cells (u - m)) E (0,0)) (λL=>by
   have hv:(G.at (Z S) C.heap.size u none).BG (Z S)=none:=by simp[Gh.at]
   have W:(G.at (Z S) C.heap.size u none).CP (Z S)=C.heap.size:=by simp[Gh.at]
   have X:(G.at (Z S) C.heap.size u none).cap (Z S)=(u,0):=by simp[Gh.at]
   simp only[OK,hv,W,X];refine⟨_,E,EV,?_,by simpa using U,by simp[a8];omega,λi hi=>?_⟩
   .refine adY (Eq.symm ?_);have:(if m * e.size=0 then(#[]:Array Value)else Builtin.zeroCells z.cells m).size=m * e.size:=by
     split<;>simp[Et, *]
    simp only[acT,Et,g,sn,this,adn,mp];rw[<-oE];congr 1;omega
   .have hi:i<m:=by simpa using hi
    have F:=IH (G.at (Z S) C.heap.size u none) (S++[.row J e.size (lw m (OQ z))]) (Bl C (.cells (#[]++(if m * e.size=0 then #[]else Builtin.zeroCells z.cells m)++Builtin.zeroCells z.cells (u - m)) E (0,0))) z;obtain⟨c1,c2,_⟩:=F.cells (by simpa using Q);refine⟨z,by simpa using F,g,λx M=>?_,λj hj=>?_⟩
    .obtain⟨k,hk,rfl⟩:=abD.1 M;exact c2 k hk
    .have zg:=FT hi hj;have H:(i * e.size+j) % z.cells.size=j:=by rw[g,acM,adI];exact sw hj
     have Y:j<z.cells.size:=by omega
     have zi:m * e.size≠0:=by omega
     have A:i * e.size+j<m * z.cells.size:=by rw[g];exact zg
     rw[bv zi,sn,Array.empty_append,abE (by rw[Et];exact A)];simp[Builtin.zeroCells,A,H,Y])
  rw[e1]at r1 r2 r3;refine⟨_,_,_,by rw[h];simp only[mp];rw[zm];rfl,?_,r1,q2.trans r2,q3.trans r3⟩;refine .row _ _ _ rfl (by simp) λm' hm'=>?_;have:m'=m:=by simpa[lenOf]using hm'.symm
  subst this;exact⟨c9 _,λ_=>by simp[Gh.BU,Gh.at]⟩
theorem AS.Xz{ops:Array Oper}{b:Nat}{K:Tm->Sg->Prop}{rest:List Oper}{c:Call}{i xT E:TypeId}{x y:Operand}{bt:Nat}(m:Nat)(z:V)(sz:Nat)(q:o.op=.call c)(w:c.callee=.builtin .append)(A:c.args=#[x,y])(B:c.argTypes=#[i,xT])
  (C:o.guard=none/\A6 n o.dst/\need (ev tm x)/\need (ev tm y)/\strip (ev tm x)=.full []/\strip (ev tm y)=.d (.int .i64 m)) (g:P.underlying xT=am (.int .i64))
  (j:Al P i=am E) (F:As P E=am z) (G:Am P E=am sz) (H:Ah P E=am bt) (L:bt<=65536) (h:Z (Ae z)=sz/\(Ap z||Bp z)=J) (h0:0<m) (M:m<=2 ^ 30)
  (N:AS P n b ops rest (put tm o.dst (.row (Z S) m)) (S++[.row J sz (lw m z)]) K):AS P n b ops (o::rest) tm S K:=by
 obtain⟨Q,R,T,U,W,X⟩:=C;obtain⟨t,e1,e2⟩:=A4 j;obtain⟨e,f1,f2,_⟩:=CO G;obtain⟨Y,u,k1,k2,k3⟩:=Ey F;rw[f1]at k1;cases k1;obtain⟨Y,l1,l2⟩:=JZ H;rw[f1]at l1;cases l1;subst k3;obtain⟨g1,k⟩:=h;obtain⟨c1,_⟩:=(IH {I:=λ_=>False,CP:=λ_=>0,cap:=λ_=>(0,0),BG:=λ_=>none} ([]:Sg) (default:World) u).cells (by simpa using k);subst f2;exact AS.ZG ⟨Q,R⟩ (Wx q w A B T U j g f1 k2 (by omega) k (by omega) W X h0 M) N
theorem ZQ{T E:TypeId}{x y:Operand}{e:TI}{t:TI}{k:IntKind}(j:o.op=.slice T x none (am y) none)(m:need (ev tm x))
  (q:strip (ev tm x)=.full []) (u:ti P T=am t) (A:t.kind=.slice E) (C:ti P E=am e) (F:need (ev tm y)) (H:strip (ev tm y)=.d (.int k 0)):
  CR P n o tm S (.full []) S:=.pure λG w a st=>by
 have g:=(BS st x).strip m;obtain⟨d,K,h⟩:=An u w;have i:d=.slice E:=by rw[A]at h;cases d<;>simp[tk]at h⊢;exact h
 subst i;rw[q]at g;generalize L:a.eval x=B at g;cases g with
 |full _ b N=>
  have M:=B7 st F H;have hb:(Instr.sliceBounds J 0 0 none (am (a.eval y)) none).run P w=.ok (0,0,0) w:=by
   unfold Instr.sliceBounds;simp[M,Cf (q6 0) (show(0:Int)<=((0:Nat):Int)from q6 0)]
  refine⟨.slice b 0 0,?_,?_⟩
  .simp[execOp,j,Instr.sliceAt,L,K,Instr.slice,hb,Bg C]
  .exact .full [] b (.nil b 0)
theorem AS.dQ{ops:Array Oper}{b:Nat}{K:Tm->Sg->Prop}{rest:List Oper}{T E:TypeId}{x y:Operand}{sz:Nat}(g:o.op=.slice T x none (am y) none)
  (h:o.guard=none/\A6 n o.dst/\need (ev tm x)/\strip (ev tm x)=.full []/\need (ev tm y)/\∃k,strip (ev tm y)=.d (.int k 0)) (i:Al P T=am E) (j:Am P E=am sz)
  (m:AS P n b ops rest (put tm o.dst (.full [])) S K):AS P n b ops (o::rest) tm S K:=by
 obtain⟨q,u,w,A,B,k,C⟩:=h;obtain⟨t,F,G⟩:=A4 i;obtain⟨e,f1,f2,_⟩:=CO j;exact AS.ZG ⟨q,u⟩ (ZQ g w A F G f1 B C) m
end
theorem nG(n:Nat)(k:n<=2 ^ 30):AG prog 235 [.full [],.d (encI n)] [] (.row 0 0) [.row (decide (0<n)) 2 []]:=by
 refine zC func235 27 rfl λwf _=>?_;apply yW;simp;refine xS (yW ?_);simp;apply AP;simp;refine⟨λh=>absurd h (by omega),?_⟩;apply CF;have i:b8 .i64 (n:Int)=n:=by rw[c8];omega
 have g:b8 .i64 0=0:=by decide
 refine xS (yW ?_);simp[i,g];apply yW;simp;apply AP;simp;refine⟨λh=>?_,λh=>?_⟩
 .have h0:0<n:=by omega
  have j:prog.underlying 3=am (.int .i64):=by kernel_rfl
  apply yT;(iterate 3 (refine Cc (by simp) ?_;simp));refine AS.dQ (E:=87) (sz:=2) rfl (by simp) (by simp) (by simp) ?_;simp;(iterate 1 (refine Cc (by simp) ?_;simp));refine AS.Xz (E:=87) (bt:=16) n (.agg [.d (.bool ap),.d (.int .i64 0)]) 2 rfl rfl rfl rfl (by simp) j (by simp) (by simp) (by simp) (by simp) (by simp) (by simp) h0 k ?_;simp;(iterate 2 (refine Cc (by simp) ?_;simp));(refine AS.Ma 0 n 2 (lw n (.agg [.d (.bool ap),.d (.int .i64 0)])) 0 0 rfl ?_ ?_)
  .simp[wS]
  .simp;apply yJ;simp;apply yW;simp;apply Aj;refine⟨_,vk [1] (S0:=[.row (decide (0<n)) 2 []]) (by simp[h0]) (by simp) (by simp),?_⟩;simp[Aq,pick];try decide
 .have h0:n=0:=by omega
  subst h0;apply xK;apply yW;simp;apply Aj;refine⟨_,oa 4 2 (xs:=[]) (by simp),?_⟩;simp[Aq]
def Gv(g:List (List Symbol))(i:Nat):List Symbol:=(g.take i).flatten
abbrev ab8:=@List.flatten_append
theorem PS(g:List (List Symbol)){i:Nat}(h:i<Z g):Gv g (i+1)=Gv g i++g[i]:=by
 unfold Gv;rw[pt h,ab8];simp[List.flatten_cons,List.flatten_nil]
theorem Q1(g:List (List Symbol)):Gv g (Z g)=g.flatten:=by unfold Gv;rw[ns]
abbrev abV:=@List.take_append_drop
theorem gA(g:List (List Symbol))(i:Nat):Z (Gv g i)<=Z g.flatten:=by
 unfold Gv;conv=>rhs;rw[<-abV i g,ab8,jp]
 omega
abbrev acH:=@List.length_pos_of_mem
theorem NO(g:List (List Symbol))(v:Z g.flatten<=2 ^ 30):Pure prog 172 [.sl (g.map λxs=>Ax xs)] (Ax g.flatten):=by
 have q:∀i,Z (Gv g i)<=2 ^ 30:=λi=>ms (gA g i) v;have o:Gv g 0=[]:=rfl;refine hW func172 rfl rfl (by simp) λwf=>?_;have w:Z g<=a8:=by have:=wf.1;simp[DY]at this;simpa using this.1
 rw[ntmps172];apply yW;simp;apply yW;simp;refine xS (yW ?_);simp;apply Bo;refine FO (Z g) (λi tm S=>tm 0=.d (.sl (g.map λxs=>Ax xs))/\tm 9=.d (.sl (g.map λxs=>Ax xs))/\tm 11=.d (encI i)/\tm 10=.d (encI (Z g))/\tm 3=.d (encI (Z (Gv g i)))/\S=[]) (er _) (by simp[o]) ?_;rintro i tm S hi ⟨t0,t9,t11,t10,t3,rfl⟩;apply yW;simp[t10,t11];apply xC;simp;refine⟨λk=>?_,λA=>?_⟩
 .apply xK;apply xB;have j:Z (Gv g (i+1))=Z (Gv g i)+Z g[i]:=by rw[PS g k,jp]
  have m:=q (i+1);have B:=q i;rw[j]at m;have C:b8 .i64 (Z (Gv g i)+Z g[i]:Int)=(Z (Gv g (i+1)):Int):=by rw[c8,j];omega
  apply yW;simp[t9,t11,k];apply yW;simp[t3,C];apply yW;simp;apply AP;simp;refine⟨λh=>?_,?_⟩
  .exact absurd h (by omega)
  .apply CF;apply yV;simp[t11];refine⟨k,_,_,a9,?_⟩;simp[t0,t9,t10,AK k w]
 .have e:i=Z g:=by omega
  subst e;rw[Q1]at t3;apply Ci;apply yS;apply yJ;simp[t3];refine xF (nG (Z g.flatten) v) [] rfl ?_;simp;apply yJ;simp;refine xS (yW ?_);simp[t0];apply Bo;generalize u:Z g.flatten=F at *;refine FO (Z g) (λi tm S=>tm 25=.d (.sl (g.map λxs=>Ax xs))/\tm 27=.d (encI i)/\tm 26=.d (encI (Z g))/\tm 6=.row 0 (Z (Gv g i))/\S=[.row (decide (0<F)) 2 ((Gv g i).map λx=>.d (AH x))]) (er _) (by simp[o,<-u]) ?_;rintro i tm S hi ⟨t25,t27,t26,t6,rfl⟩;apply yW;simp[t26,t27];apply xC;simp;refine⟨λk=>?_,λA=>?_⟩
  .have j:=PS g k;have m:=q (i+1);rw[j,jp]at m;have E:(decide (0<F)||!g[i].isEmpty)=decide (0<F):=by
    cases h:g[i]with
    |nil=>simp
    |cons y H=>
     have:y∈g.flatten:=List.mem_flatten.2 ⟨_,cL k,by rw[h];simp⟩;have:0<F:=by rw[<-u];exact acH this
     simp[this]
   apply xK;apply xB;apply yW;simp[t25,t27,k];apply yT;apply yJ;simp[t6,m,Ac];apply yV;simp[t27];refine⟨k,_,_,a9,?_⟩;simp[t25,t26,AK k w,j,E]
  .have e:i=Z g:=by omega
   subst e;rw[Q1]at t6⊢;generalize G:g.flatten=L at *;apply Ci;apply yW;simp[t6];apply Aj;refine⟨_,_,gl 0 (xs:=L.map AH) rfl (by simp),?_⟩;simp[u,BO];rw[<-G];simp
def DX(p:Int):C9:=⟨-1,p,-1,ByteArray.empty⟩
def Dp(i:Int):C9:=⟨i,-1,-1,ByteArray.empty⟩
theorem L9(p:Int):Pure prog 175 [encI p] (A5 (DX p)):=by
 refine zP func175 5 rfl λwf=>?_;apply yW;simp;apply yW;simp;apply Aj;refine⟨_,_,a9,?_⟩;simp[DX,A5]
def Db(a:Nat):Nat->List C9
 |0=>[]
 |k+1=>Db a k++[Dp ((a+k:Nat):Int)]
theorem C5(a k:Nat):Z (Db a k)=k:=by
 induction k with
 |zero=>rfl
 |succ k g=>simp[Db,g]
abbrev ld:=@or_imp
abbrev kw:=@forall_and
theorem Jt(xs:List C9)(w:Bool)(a k:Nat)(h:Z xs+k<=2 ^ 30)(ha:a+k<=2 ^ 31):
  AG prog 174 [.row 0 (Z xs),.d (encI a),.d (encI (a+k:Nat))] [.row w 4 (xs.map λt=>.d (A5 t))] (.row 0 (Z xs+k)) [.row (w||decide (0<k)) 4 ((xs++Db a k).map λt=>.d (A5 t))]:=by
 refine zC func174 20 rfl λwf _=>?_;apply yW;simp;refine xS (yW ?_);simp;apply Bo;refine FO k (λi tm S=>tm 0=.row 0 (Z xs+i)/\tm 2=.d (encI (a+k:Nat))/\tm 7=.d (encI (a+i:Nat))/\S=[.row (w||decide (0<i)) 4 ((xs++Db a i).map λt=>.d (A5 t))]) (er _) (by simp[Db]) ?_;rintro i tm S hi ⟨t0,t2,t7,rfl⟩;refine xS (yW ?_);simp[t2,t7];apply AP;simp;refine⟨λm=>?_,λu=>?_⟩
 .have m:i<k:=by omega
  have o:b8 .i64 ((a:Int)+i+1)=(a:Int)+(i+1):=by rw[c8];omega
  have g:Z xs+i+1<=1073741824:=by omega
  have q:1<=a8:=by unfold a8;omega
  have j:=C5 a i;apply xK;apply xB;apply yT;apply yJ;simp[t0,t7,q,g,Ac,j,ld,kw];apply yV;simp[t7,o];refine⟨m,_,_,a9,?_⟩;simp[t2,Db,py,A5,Dp]
 .have e:i=k:=by omega
  subst e;apply Ci;apply yW;simp[t0];apply Aj;refine⟨_,a9,?_⟩;simp[Aq]
theorem SY{S:Sg}{r q k:Nat}{g:AE}{x:AZ}{h0 K L M N P Q R m:V}{U w:Bool}{els:List V}(hb:S[r]?=am (.row J 51 [bV g x h0 K L M N (.row q k) P Q R m U]))(H:S[q]?=am (.row w 13 els))(hl:Z els=k)(hk:k+1<=2 ^ 30)(hz:Ac 13 els)(p:AO)
  (hs:((S.set q (.row J 13 (els++[.d (AF p)]))).set r (.row J 51 [bV g x h0 K L M N (.row q (k+1)) P Q R m U])).all (Ao (Z S))=J):
  AG prog 173 [.ptr r 1 0 0,.d (AF p)] S (.d (encI k)) ((S.set q (.row J 13 (els++[.d (AF p)]))).set r (.row J 51 [bV g x h0 K L M N (.row q (k+1)) P Q R m U])):=by
 unfold bV at hb hs⊢;have E:=Ag hb;have j:=Ag H;have F:q≠r:=λe=>by subst e;rw[hb]at H;cases H
 have u:∀T,(S++T)[r]?=_:=λT=>(io E).trans hb;have v:∀T,(S++T)[q]?=_:=λT=>(io j).trans H;have zn:∀T o,(S++T).set r o=S.set r o++T:=λT o=>ab3 _ _ E;have W:∀T o,(S++T).set q o=S.set q o++T:=λT o=>ab3 _ _ j;have h:∀o,Z (S.set q o)=Z S:=λo=>WF;have B:∀T o i,(S.set q o++T).set r i=(S.set q o).set r i++T:=λT o i=>ab3 _ _ (by rw[h];exact E);have A:∀T o,(S.set q o++T)[r]?=_:=λT o=>((io (by rw[h];exact E)).trans (pv F)).trans hb;have G:∀T o i,((S.set q o).set r i++T)[r]?=am i:=λT o i=>(io (by rw[WF,h];exact E)).trans (abm (by rw[h];exact E));have X:∀T o i,((S.set q o).set r i++T)[q]?=am o:=λT o i=>(io (by rw[WF,h];exact j)).trans ((pv (n7 F)).trans (abm j));have C:=AF.eq_1 p;have zs:1<=a8:=by unfold a8;omega
 have Y:k+1<=1073741824:=by omega
 have hw:b8 .i64 (k:Int)=k:=by rw[c8];omega
 have hz':(∀y,y∈els->Z (Ae y)=13/\(Ap y=J\/Bp y=J))↔True:=iff_true_intro (by simpa[Ac]using hz);subst hl;refine zD func173 24 rfl λwf _=>?_;apply yW;simp[C];refine yD (A7 8 [17,18,20,22,25]) (by kernel_rfl) ?_;simp;apply yA 1;simp[u,zs];apply xX 5 (by kernel_rfl);simp[u,v,A,AY,W,Y,hz',Ac,zs];apply yA 1;simp[A];apply xX 505 (by kernel_rfl);simp[A,G,AY,B];apply xM;(repeat apply xS);apply yT;apply yJ;simp[G,X,hw];apply Aj;refine⟨_,_,_,a9,?_,?_,fd (Z S) (by simp[h,C]) (c9 _) (by simp[h]) (by simpa[h,C]using hs)⟩
 .simp
 .simp
theorem UZ{S:Sg}{r q k:Nat}{g:AE}{x:AZ}{h0 H K L M N P Q m:V}{R w:Bool}{els:List V}(hb:S[r]?=am (.row J 51 [bV g x h0 H K L (.row q k) M N P Q m R]))(G:S[q]?=am (.row w 1 els))(hl:Z els=k)(hk:k+1<=2 ^ 30)(hz:Ac 1 els)
  (hs:((S.set q (.row J 1 (els++[.d (BQ x.name)]))).set r (.row J 51 [bV g x h0 H K L (.row q (k+1)) M N P Q m R])).all (Ao (Z S))=J):
  AG prog 176 [.ptr r 1 0 0] S (.d (AH ⟨ap,k⟩)) ((S.set q (.row J 1 (els++[.d (BQ x.name)]))).set r (.row J 51 [bV g x h0 H K L (.row q (k+1)) M N P Q m R])):=by
 unfold bV at hb hs⊢;have C:=Ag hb;have j:=Ag G;have E:q≠r:=λe=>by subst e;rw[hb]at G;cases G
 have u:∀T,(S++T)[r]?=_:=λT=>(io C).trans hb;have v:∀T,(S++T)[q]?=_:=λT=>(io j).trans G;have zn:∀T o,(S++T).set r o=S.set r o++T:=λT o=>ab3 _ _ C;have U:∀T o,(S++T).set q o=S.set q o++T:=λT o=>ab3 _ _ j;have h:∀o,Z (S.set q o)=Z S:=λo=>WF;have B:∀T o i,(S.set q o++T).set r i=(S.set q o).set r i++T:=λT o i=>ab3 _ _ (by rw[h];exact C);have A:∀T o,(S.set q o++T)[r]?=_:=λT o=>((io (by rw[h];exact C)).trans (pv E)).trans hb;have F:∀T o i,((S.set q o).set r i++T)[r]?=am i:=λT o i=>(io (by rw[WF,h];exact C)).trans (abm (by rw[h];exact C));have W:∀T o i,((S.set q o).set r i++T)[q]?=am o:=λT o i=>(io (by rw[WF,h];exact j)).trans ((pv (n7 E)).trans (abm j));have zs:1<=a8:=by unfold a8;omega
 have X:k+1<=1073741824:=by omega
 have hw:b8 .i64 (k:Int)=k:=by rw[c8];omega
 have Y:(∀y,y∈els->Z (Ae y)=1/\(Ap y=J\/Bp y=J))↔True:=iff_true_intro (by simpa[Ac]using hz);subst hl;refine zD func176 27 rfl λwf _=>?_;apply yW;simp;refine yD (A7 12 [25,26,28,30,33]) (by kernel_rfl) ?_;simp;apply yA 1;simp[u,zs];apply xX 65 (by kernel_rfl);simp[u,v,A,AY,U,X,Y,Ac,zs];apply yA 1;simp[A];apply xX 8185 (by kernel_rfl);simp[A,F,AY,B];apply xM;(repeat apply xS);apply yT;apply yJ;simp[F,W,hw];apply Aj;refine⟨_,_,_,a9,?_,?_,fd (Z S) (by simp[h]) (c9 _) (by simp[h]) (by simpa[h]using hs)⟩
 .simp
 .simp[AH]
section
variable {P:Program} {n b:Nat} {ops:Array Oper} {o:Oper} {tm:Tm} {S S':Sg} {K:Tm->Sg->Prop} {v:V}
theorem Ab.pF{B:List (Nat×(Sg->Prop))}{i:Nat}{rest:List (Nat×Bool×Oper)}{c:Call}{f:FuncId}{args:List V}(ws:List Bool)(h:AG P f args S v S')(g:B.map (λp=>waits ops i p.1)=ws)(j:o.op=.call c)
  (k:o.guard=none/\A6 n o.dst/\BB tm c/\callee tm c=am (f,args)/\okB ws B S S') (m:Ab P n b ops (FL ws B) rest (put tm o.dst v) S' K):Ab P n b ops B ((i,ap,o)::rest) tm S K:=by
 obtain⟨q,u,w,A,C⟩:=k;exact Ab.ry ws g (λhi=>E2 hi j q u A w h) C m
end
def Ot(g:AE)(x:AZ):AO:={G9 with name:=x.name,left:=Z g.A0,right:=((Bd g x).right.take x.to.toNat).drop x.at_.toNat,cond:=(Bd g x).cond}
def O2(g:AE)(x:AZ):List Symbol:=(Bd g x).right.take x.at_.toNat++[⟨ap,Z g.A0⟩]++(Bd g x).right.drop x.to.toNat
def gQ(g:AE)(x:AZ):List C9:=([DX x.number]++Db 0 x.at_.toNat)++[DX (Z g.AD)]++Db x.at_.toNat (Z (Bd g x).right - x.at_.toNat)
def Kn(g:AE)(x:AZ):AE:={g with A0:=g.A0++[x.name],AD:=(g.AD++[Ot g x]).set x.number.toNat {Bd g x with right:=O2 g x}}
def foldM(g:AE)(x:AZ):List Rewrite:=[⟨x.number,-1,-1,gQ g x⟩]
theorem KX{g:AE}{x:AZ}(h:JD g x=J):DQ g x=J/\∃j a t:Nat,x.number=j/\x.at_=a/\x.to=t/\j<Z g.AD/\a<t/\t<=Z (Bd g x).right:=by
 simp[JD]at h;obtain⟨⟨⟨i,m⟩,o⟩,q⟩:=h;have k:=i;simp[DQ]at k;exact⟨i,x.number.toNat,x.at_.toNat,x.to.toNat,by omega,by omega,by omega,by omega,by omega,by omega⟩
theorem vy(g:AE)(x:AZ):TX (bS g x) 4 g x:=⟨_,_,_,_,_,_,_,_,_,_,_,rfl⟩
theorem nE(g:AE)(x:AZ)(hf:JD g x=J)(hb:Dq g x.number=ap)(hl:Z g.AD<=2 ^ 20)(hn:Z g.A0<=2 ^ 20)(hr:Z (Bd g x).right<=2 ^ 20):
  AG prog 86 [.ptr 4 1 0 0] (bS g x) (.d (encI 0)) (Ho g x (Kn g x) (foldM g x) ap):=by
 obtain⟨hp,j,a,t,hj,ha,u,X,h1,F⟩:=KX hf;have G:=Hl (vy g x) (by simp[bS,C8,bV]) (i:=x.number) (by omega);rw[hb]at G;have C:=Jh (vy g x) (by simp[bS,C8,bV]) hp;unfold Kn foldM Ot gQ O2;generalize zy:Bd g x=o at *;have m:=AF.eq_1 o;have H:=UZ (S:=bS g x++[O.row J 13 [.d (AF o)]]) (r:=4) (q:=2) (k:=Z g.A0) (g:=g) (x:=x) rfl rfl (by simp) (by omega) (by simp[Ac]) (by simp[bS,C8,bV]);have hcl:=(Iu ((o.right.take t).drop a) (by simp;omega)).LS;have Q:=SY (S:=C8 g x {g with A0:=g.A0++[x.name]} (.full []) ap (!g.conds.isEmpty) (!g.AT.isEmpty) J (!g.AD.isEmpty)++[O.row J 13 [.d (AF o)],O.row J 2 [.d (AH ⟨ap,Z g.A0⟩)]]) (r:=4) (q:=3) (k:=Z g.AD) (g:=g) (x:=x) rfl rfl (by simp) (by omega) (by simp[Ac]) {G9 with name:=x.name,left:=Z g.A0,right:=(o.right.take t).drop a,cond:=o.cond} (by simp[C8,bV]);have w:=Q.Fg (args':=[.ptr 4 1 0 0,.agg [.d (.str x.name),.d (.int .i64 (Z g.A0)),.d (.sl (((o.right.map AH).take t).drop a)),.d (.sl (o.cond.nodes.map AU)),.d (.int .i64 o.cond.root),.d (.bool ap),.d (.int .i64 0),.full [],.d (.bool ap),.d (.int .i64 0),.d (.int .i64 0),.d (.int .i64 0),.d (.int .i64 0)]]) rfl λi h h'=>by
  match i,h with
  |0,_=>exact .inl rfl
  |1,_=>exact .inr ⟨_,by simp[BO,AF,G9],rfl⟩
 clear Q;refine zC func86 102 rfl λwf _=>?_;unfold bS C8 bV at G C H⊢;unfold C8 bV at w;simp[m,hj,ha,u]at w;simp[m]at H;apply yW;simp;refine xS (yS ?_);apply yJ;simp;refine i9 rfl rfl (by simp) (f:=169) (args:=[.ptr 4 1 0 0,.d (encI x.number)]) (by simp[callee];try rfl) (by simp) G (yJ ?_);simp;apply AP;simp;apply xK;apply yS;apply yJ;simp;refine i9 rfl rfl (by simp) (f:=85) (args:=[.ptr 4 1 0 0]) (by simp[callee];try rfl) (by simp) C (yJ ?_);simp[m];refine yD (A7 12 []) (by kernel_rfl) ?_;simp;apply yA 0;simp;(repeat apply xS);apply yT;apply yJ;simp;refine i9 rfl rfl (by simp) (f:=176) (args:=[.ptr 4 1 0 0]) (by simp[callee];try rfl) (by simp) H (yJ ?_);simp;have hX:∃X5 X6,X5=O.row J 13 [.d (AF o)]/\X6=O.row J 2 [.d (AH ⟨ap,Z g.A0⟩)]:=⟨_,_,rfl,rfl⟩;have d1:a<=t:=by omega
 have d3:a<Z o.right:=by omega
 (repeat apply xS);refine yE (A7 17 [35,36]) (by kernel_rfl) ?_;simp;apply yA 1;simp[hj,ha,u,d1,F,d3];refine j0 (hcl) rfl (by simp[xN]) ?_;simp;apply yA 1;simp;refine Ab.pF (xT [1,0,0,1,0,0,0,0,0,0,0,0,0,0,0,0,1]) (w) (by kernel_rfl) rfl (by simp[AY,d1,F,d3];try rfl) ?_;simp;apply yA 1;simp;clear w H G C;obtain⟨B,E⟩:∃B,B=g.AD++[{G9 with name:=x.name,left:=Z g.A0,right:=(o.right.take t).drop a,cond:=o.cond}]:=⟨_,rfl⟩;have Y:List.map (λx=>V.d (AF x)) g.AD++[V.d (AF {G9 with name:=x.name,left:=Z g.A0,right:=(o.right.take t).drop a,cond:=o.cond})]=List.map (λx=>V.d (AF x)) B:=by rw[E];simp
 rw[Y];have v:Z B=Z g.AD+1:=by rw[E];simp
 have K:j<Z B:=by omega
 have L:j<Z g.AD+1:=by omega
 have A:B[j]=o:=by
  have:Bd g x=g.AD[j]:=by simp[Bd,hj,X]
  rw[zy]at this;simp[E,X,this]
 rw[u,ha,hj];simp;rw[<-E];clear E Y;have M:=NO [o.right.take a,[⟨ap,(Z g.A0:Nat)⟩],o.right.drop t] (by simp;omega);obtain⟨R,hR⟩:∃R,R=o.right.take a++⟨ap,(Z g.A0:Nat)⟩::o.right.drop t:=⟨_,rfl⟩;have hfl:[o.right.take a,[(⟨ap,(Z g.A0:Nat)⟩:Symbol)],o.right.drop t].flatten=R:=by rw[hR];simp
 rw[hfl]at M;have d4:a<=Z o.right:=by omega
 have N:(j:Int)<Z g.AD+1:=by omega
 have P:List.take (Z o.right) (List.map AH o.right)=List.map AH o.right:=PP (by simp);refine AW.Jp (R:=λtm S=>tm 0=.ptr 4 1 0 0/\tm 3=.ptr 5 1 0 0/\tm 4=.d (encI a)/\tm 5=.d (encI t)/\tm 7=.d (encI (Z g.AD))/\S=C8 g x {g with A0:=g.A0++[x.name],AD:=B.set j {o with right:=R}} (.full []) ap (!g.conds.isEmpty) (!g.AT.isEmpty) J J++[O.row J 13 [.d (AF o)],O.row J 2 [.d (AH ⟨ap,Z g.A0⟩)]]) ?_ ?_
 .by_cases d5:t<Z o.right
  .skip;refine yE (A7 24 [49]) (by kernel_rfl) ?_;simp;apply yA 1;simp[d4,F,a8,d5];refine j0 (M) rfl (by simp[P,xN]) ?_;simp[P];apply yA 1;simp[L,N,v];apply xX 16777213 (by kernel_rfl);simp[AY,m,d4,F,L,N,v,A,a8,d5];apply xM;refine⟨_,_,(j2 3 (xs:=(B.set j {o with right:=R}).map AF) rfl ?_).trans (rc (S':=C8 g x {g with A0:=g.A0++[x.name],AD:=B.set j {o with right:=R}} (.full []) ap (!g.conds.isEmpty) (!g.AT.isEmpty) J J++[O.row J 13 [.d (AF o)],O.row J 2 [.d (AH ⟨ap,Z g.A0⟩)]]) ?_),?_⟩
   .rw[CH,g9,m0,g9,g9,m0];congr 1
   .simp[C8,bV,hj,ha,u,v,nc,m]
   .simp
  .have d6:t=Z o.right:=by omega
   have d7:Z o.right<=t:=by omega
   refine yE (A7 24 [49]) (by kernel_rfl) ?_;simp;apply yA 1;simp[d4,a8,d6];refine j0 (M) rfl (by simp[P,d7,xN]) ?_;simp[P];apply yA 1;simp[L,N,v];apply xX 16777213 (by kernel_rfl);simp[AY,m,d4,L,N,v,A,a8];apply xM;refine⟨_,_,(j2 3 (xs:=(B.set j {o with right:=R}).map AF) rfl ?_).trans (rc (S':=C8 g x {g with A0:=g.A0++[x.name],AD:=B.set j {o with right:=R}} (.full []) ap (!g.conds.isEmpty) (!g.AT.isEmpty) J J++[O.row J 13 [.d (AF o)],O.row J 2 [.d (AH ⟨ap,Z g.A0⟩)]]) ?_),?_⟩
   .rw[CH,g9,m0,g9,g9,m0];congr 1
   .simp[C8,bV,hj,ha,u,v,nc,m];omega
   .simp;omega
 rintro tm S ⟨t0,t3,t4,t5,t7,rfl⟩;clear M hfl;have hl3:Z (B.set j {o with right:=R})=Z g.AD+1:=by simp[v]
 generalize hP3:B.set j {o with right:=R}=P3 at *;have hno1:=L9 (j:Int);have hno2:=L9 (Z g.AD:Int);have hh1:=Jt [DX j] ap 0 a (by simp;omega) (by omega);have T:=Jt (([DX j]++Db 0 a)++[DX (Z g.AD)]) J a (Z o.right - a) (by simp[C5];omega) (by omega);have hrl:a+(Z o.right - a)=Z o.right:=by omega
 rw[hrl]at T;unfold C8 bV;(repeat apply xS);apply yT;apply yJ;simp[t0,hj];refine Bq (hno1) rfl (by simp[xN]) (yJ ?_);simp[a8,t4];refine vb (oa 78 4 (xs:=[A5 (DX j)]) (by simp)) ?_;refine xF (hh1) [7] rfl ?_;simp;apply yJ;simp;have e5:a+1=1+a:=by omega
 have e6:1+a<=1073741823:=by omega
 simp[C5,e5]at T;(repeat apply xS);refine yE (A7 4 [10,12,14,16,9,19,20]) (by kernel_rfl) ?_;simp;apply yA 1;simp[t7];refine B6 (hno2) rfl (by simp[xN]) ?_;simp;apply yA 1;simp[t3,t4,m,a8];apply xX 176 (by kernel_rfl);simp[AY,Ak,C5,Ac,ld,kw,t3,t4,t7,a8,e5,e6];refine ul (xT [1,0,0,1,0]) (T) [7] (by kernel_rfl) rfl (by simp[AY,t3,t4,t7,a8];try rfl) ?_;simp;apply yA 1;simp;obtain⟨U,W⟩:∃U,U=DX j::(Db 0 a++DX (Z g.AD:Int)::Db a (Z o.right - a)):=⟨_,rfl⟩;have hTl:Z U=1+a+1+(Z o.right - a):=by rw[W];simp[C5];omega
 rw[<-hTl];refine gs (gl 7 (wr:=true) (sz:=4) (els:=(U.map A5).map V.d) (xs:=U.map A5) (by rw[W];simp[nc]) (CM _ _)) ?_;simp;apply yW;simp[t0,a8];apply yW;simp;apply Aj;rw[<-W,<-hR,hP3];refine⟨_,(fd 5 (S':=C8 g x {g with A0:=g.A0++[x.name],AD:=P3} (.full [Aa ⟨j,-1,-1,U⟩]) ap (!g.conds.isEmpty) (!g.AT.isEmpty) J J) ?_ (by simp) (by simp) ?_).trans (SI g x _ _ [⟨j,-1,-1,U⟩] ap _ _ _ _ rfl),?_⟩
 .simp[C8,bV,hj,Aa]
 .simp
 .simp[Aq,clean,Fk,AJ]
section
variable {P:Program} {n b:Nat} {tm:Tm} {S:Sg}
theorem St.setRow{G:Gh}{w:World}{a:Act}(st:St P n G S w a tm){r sz:Nat}{els els':List V}(o:S[r]?=am (.row J sz els))(W:Z els'=Z els)
  (v:∀c T,w.heap[G.CP r]?=am (.cells c T (0,0))->Pp G S w sz els c (G.cap r).2->Pp G S w sz els' c (G.cap r).2):
  St P n G (S.set r (.row J sz els')) w a tm/\Tr G S w G (S.set r (.row J sz els')) w/\BA G S w G (S.set r (.row J sz els')) w:=by
 have R:=st.rel;have K:=Ag o;have A:(S.set r (.row J sz els'))[r]?=am (.row J sz els'):=by simp[K]
 have B:∀g,g≠r->(S.set r (.row J sz els'))[g]?=S[g]?:=λg h=>by simp[pv (n7 h)]
 have el:∀g,lenOf (S.set r (.row J sz els')) g=lenOf S g:=λg=>by
  by_cases e:g=r
  .subst e;simp[lenOf,A,o,W]
  .simp[lenOf,B g e]
 have X:∀g,C1 (S.set r (.row J sz els')) g=C1 S g:=λg=>by
  by_cases e:g=r
  .subst e;simp[C1,A,o]
  .simp[C1,B g e]
 have em:∀g,isMap (S.set r (.row J sz els')) g=isMap S g:=λg=>by
  by_cases e:g=r
  .subst e;simp[isMap,A,o]
  .simp[isMap,B g e]
 have L:BA G S w G (S.set r (.row J sz els')) w:=
  ⟨λ_ h=>h,λ_ _=>rfl,by simp,λg _ Y M=>⟨Y,by rw[<-el];exact M,c9 _,λ_=>⟨rfl,rfl,rfl,.inl (X g)⟩⟩,λg _ hm=>⟨by rw[<-em];exact hm,rfl⟩⟩
 have own:∀g x,(S.set r (.row J sz els'))[g]?=am x->∃F,S[g]?=am F/\Ba G g F=Ba G g x:=λg x H=>by
  by_cases e:g=r
  .subst e;rw[A]at H;cases H;exact⟨_,o,rfl⟩
  .rw[B g e]at H;exact⟨x,H,rfl⟩
 have i:∀k,Own G (S.set r (.row J sz els')) k->Own G S k:=by
  rintro k ⟨g,x,N,Q,h3⟩;obtain⟨F,u,C⟩:=own g x N;exact⟨g,F,u,by rw[C];exact Q,h3⟩
 refine⟨⟨st.size,st.tm.later L,⟨R.Gl.later L,λg x j=>?_,λr1 r2 x1 x2 N Q o1 o2 he=>?_,λk m=>R.nI k (i k m),R.JH,λk m=>R.IJ k (i k m)⟩⟩,⟨c9 _,λ_ h=>h,λ_ _ _=>rfl,λk m=>.inl (i k m),λk m=>.inl m,rfl,rfl⟩,L⟩
 .by_cases e:g=r
  .subst e;rw[A]at j;cases j;have E:=R.Da g _ o;simp only[OK]at E⊢;cases U:G.BG g with
   |none=>
    simp only[U]at E⊢;obtain⟨c,T,u,C,g3,g4,g5⟩:=E;exact⟨c,T,u,C,by omega,by omega,(v c T u g5).later L⟩
   |some q=>simp only[U]at E;exact absurd E.1 (by simp)
  .rw[B g e]at j;exact(R.Da g x j).later L (λ_=>rfl) rfl rfl rfl
 .obtain⟨y1,u,p1⟩:=own r1 x1 N;obtain⟨y2,C,p2⟩:=own r2 x2 Q;exact R.inj r1 r2 y1 y2 u C (by rw[p1];exact o1) (by rw[p2];exact o2) he
theorem AI.Lr(r i c g:Nat){sz:Nat}{els B:List V}{xs:List D}(C:S[r]?=am (.row J sz els))(hi:els[i]?=am (.agg B))(hc:B[c]?=am (.full xs)):
  AI P n b tm S tm ((S++[O.row ap g (xs.map .d)]).set r (.row J sz (els.set i (.agg (B.set c (V.row (Z S) (Z xs))))))):=λG w a st hb=>by
 have E:=Ag C;have m:=st.rel.Da r _ C;simp only[OK]at m;cases W:G.BG r with
 |some q=>simp only[W]at m;exact absurd m.1 (by simp)
 |none=>
  simp only[W]at m;obtain⟨d,T,g1,g2,g3,g4,g5⟩:=m;obtain⟨F,H⟩:=gq.1 hi;obtain⟨K,L⟩:=gq.1 hc;obtain⟨v,f1,f2,f3,f4⟩:=g5 i F;rw[H]at f1;cases f1 with
  |agg _ X hs hh ho=>
   have M:=hh c K;rw[L]at M;generalize hY:X[c]'(by omega)=Y at M;cases M with
   |full _ base o=>
    obtain⟨r1,r2,N⟩:=st.rel.OV g xs base o.len o;have Q:St P n (G.at (Z S) 0 0 (am base)) (S++[.row ap g (xs.map .d)]) w a tm:=⟨st.size,st.tm.later N,r1⟩;have zi:r≠Z S:=by omega
    have eb:(G.at (Z S) 0 0 (am base)).CP r=G.CP r:=by simp[Gh.at,zi]
    have ec:(G.at (Z S) 0 0 (am base)).cap r=G.cap r:=by simp[Gh.at,zi]
    obtain⟨s1,s2,s3⟩:=Q.setRow (r:=r) (els':=els.set i (.agg (B.set c (V.row (Z S) (Z xs))))) (by rw[io E];exact C) (by simp) λc2 T2 u A=>by
     rw[eb,g1]at u;cases u;rw[ec]at A⊢;intro j hj;have R:j<Z els:=by simpa using hj
     by_cases e:j=i
     .subst e;refine⟨.agg X,?_,f2,f3,f4⟩;simp;refine .agg _ _ (by simp[hs]) (λk hk=>?_) ho;by_cases ek:k=c
      .subst ek;simp[hY];refine .row _ _ _ rfl (by simp) λm' U=>?_;have:m'=Z xs:=by simpa[lenOf]using U.symm
       subst this;exact⟨c9 _,λ_=>by simp[Gh.BU,Gh.at]⟩
      .rw[acA (λh=>ek h.symm)];exact(hh k (by simpa using hk)).later N
     .rw[acA (λh=>e h.symm)];exact A j R
    exact⟨_,s1,r2.trans s2,(N.trans s3).late hb⟩
end
end Go.Koi
open Go.Koi.D renaming int->br
namespace Go.Koi
open Go renaming maxLen->a8
open Go.Proofs Tryz
def RP:Ai:=⟨0,0,0⟩
def gG(d:AL)(n:Int):Ai:=d.nodes.getD (n - 2).toNat RP
def Fx(d:AL)(n v:Int):Int×Int:=if d.level n=v then((gG d n).low,(gG d n).high)else(n,n)
def M9(d:AL)(n v:Int):Bool:=decide (0<=n)&&decide (n<2+Z d.nodes)&&(decide (2<=n)||decide (d.level n≠v))
def H5(l:List Ai)(b:Ai):List Ai×Int:=
 if b.low=b.high then(l,b.low)else if firstIdx (λx=>decide (x=b)) l<0 then(l++[b],(Z l:Int)+2)else(l,firstIdx (λx=>decide (x=b)) l+2)
def PC(op x y:Int):Int:=if op=0 then x * y else if op=1 then max x y else(x+y).tmod 2
structure Seen where
 x:Int
 y:Int
 r:Int
 deriving DecidableEq
def H3(x:Seen):D:=.agg [encI x.x,encI x.y,encI x.r]
@[simp] theorem cr(x:Seen):Ae (.d (H3 x))=[.d (encI x.x),.d (encI x.y),.d (encI x.r)]:=rfl
@[simp] theorem jt(x:Seen):Ap (.d (H3 x))=true:=rfl
@[simp] theorem ng(x:Seen):Bp (.d (H3 x))=false:=rfl
@[simp] theorem iI(x:Seen):BE (H3 x)=[encI x.x,encI x.y,encI x.r]:=rfl
@[simp] theorem lL(x:Seen):CL.oneD (H3 x)=true:=rfl
@[simp] theorem rn(x:Seen):DY (H3 x)=Bm [encI x.x,encI x.y,encI x.r]:=rfl
@[simp] theorem mF(x y:Seen):CT [br .i64 x.x,br .i64 x.y,br .i64 x.r] [br .i64 y.x,br .i64 y.y,br .i64 y.r]=decide (x=y):=by
 cases x;cases y;rw[gI];simp[CT,DZ]
@[simp] theorem j5(S:Sg)(x:Seen):DS S (.d (H3 x))=am [encI x.x,encI x.y,encI x.r]:=rfl
def seenAt(g:List Seen)(x y:Int):Int:=firstIdx (λt=>decide (t.x=x)&&decide (t.y=y)) g
def atR(a b:AL)(op:Int):Nat->List Ai->List Seen->Int->Int->Option (List Ai×List Seen×Int)
 |0,_,_,_,_=>bi
 |f+1,j,h,x,y=>
  if x<2/\y<2 then(if 0<=x/\0<=y then am (j,h,PC op x y)else bi)else
  if 0<=seenAt h x y then am (j,h,(h.getD (seenAt h x y).toNat ⟨0,0,0⟩).r)else
   if M9 a x (min (a.level x) (b.level y))&&M9 b y (min (a.level x) (b.level y))then
    match atR a b op f j h (Fx a x (min (a.level x) (b.level y))).1 (Fx b y (min (a.level x) (b.level y))).1 with
    |none=>bi
    |some (k,m,low)=>
     match atR a b op f k m (Fx a x (min (a.level x) (b.level y))).2 (Fx b y (min (a.level x) (b.level y))).2 with
     |none=>bi
     |some (g,i,high)=>
      if 1048576<=Z g\/1048576<=Z i then bi else
      am ((H5 g ⟨min (a.level x) (b.level y),low,high⟩).1,i++[⟨x,y,(H5 g ⟨min (a.level x) (b.level y),low,high⟩).2⟩],(H5 g ⟨min (a.level x) (b.level y),low,high⟩).2)
   else bi
def Sl(nodes:List Ai):Nat->List Int->List Ai->Int->Option (List Int×List Ai×Int)
 |0,_,_,_=>bi
 |f+1,i,out,n=>
  if n<2 then am (i,out,n)else
  match i[(n - 2).toNat]? with
  |none=>bi
  |some k=>
   if 0<k then am (i,out,k)else
   match Sl nodes f i out (nodes.getD (n - 2).toNat RP).low with
   |none=>bi
   |some (j,h,low)=>
    match Sl nodes f j h (nodes.getD (n - 2).toNat RP).high with
    |none=>bi
    |some (m,g,high)=>
     if 1048576<=Z g then bi else
     am (m.set (n - 2).toNat ((Z g:Int)+2),g++[⟨(nodes.getD (n - 2).toNat RP).var,low,high⟩],(Z g:Int)+2)
def Xr(nodes:List Ai)(root:Int):Option AL:=
 if 1048576<Z nodes then bi else
 match Sl nodes 64 (lw (Z nodes) 0) [] root with
 |none=>bi
 |some (_,out,r)=>am ⟨out,r⟩
def Li(a b:AL)(op:Int):Option AL:=
 match atR a b op 64 [] [] a.root b.root with
 |none=>bi
 |some (g,_,r)=>Xr g r
def PL(a:AL):Option AL:=Li a ⟨[],1⟩ 2
def TP(a b:AL):Option AL:=match PL b with|none=>bi|some c=>Li a c 0
def W5(l:List Int)(k:Nat):Bool:=decide (k / 8<Z l)&&(b8 .u8 (max ((l.getD (k / 8) 0).fdiv (2 ^ (k % 8)) % 256) 0 % 2)==1)
def JQ(l:List Int)(n:Nat):Nat->Nat->Nat->Option AL
 |0,_,_=>bi
 |f+1,v,k=>
  if 1048576<=k\/7<=v then bi else
  if v=n then am ⟨[],if W5 l k then 1 else 0⟩else
  match JQ l n f (v+1) (k+2 ^ v)with
  |none=>bi
  |some d1=>
   match JQ l n f (v+1) k with
   |none=>bi
   |some d0=>
    match Li (Ar v) d1 0 with
    |none=>bi
    |some g=>
     match TP d0 (Ar v)with
     |none=>bi
     |some e0=>Li g e0 1
theorem RC(d:AL)(n v:Int)(h:M9 d n v=J):Pure ao 267 [AB d,encI n,encI v] (.CX [encI (Fx d n v).1,encI (Fx d n v).2]):=by
 simp[M9]at h;obtain⟨⟨u,k⟩,g⟩:=h;refine hW func267 rfl rfl (by simp) λwf=>?_;simp[Bm,Di,DY]at wf;rw[ntmps267];apply yW;simp;refine xS (yS ?_);apply yJ;simp;refine Bq (If d n k) rfl (by simp[xN]) (yJ ?_);simp;apply AP;simp;refine⟨λi=>?_,λi=>?_⟩
 .apply yW;simp;refine Aj ⟨_,_,a9,?_⟩;simp[Fx,i]
 .have m:2<=n:=by rcases g with g|g;exact g;exact absurd i g
  have o:b8 .i64 (n - 2)=n - 2:=wrap_i64 (by omega) (by omega);have j:(n - 2).toNat<Z d.nodes:=by omega
  have q:n - 2<(Z d.nodes:Int):=by omega
  apply xK;(repeat apply xS);refine yE (A7 16 []) (by kernel_rfl) ?_;simp;apply yA 0;simp[o,j,q,m];apply zT;simp[Fx,i,gG,j]
theorem cX(l:List Ai)(b:Ai)(w:Bool)(F:Z l<=2 ^ 20):AG ao 268 [.row 0 (Z l),.d (AU b)] [.row w 3 (l.map λx=>.d (AU x))] (.CX [.row 0 (Z (H5 l b).1),.d (encI (H5 l b).2)]) [.row (w||decide (Z l<Z (H5 l b).1)) 3 ((H5 l b).1.map λx=>.d (AU x))]:=by
 have C:Z l<=a8:=by unfold a8;omega
 refine zC func268 38 rfl λwf _=>?_;apply yW;simp;refine xS (yW ?_);simp;apply AP;simp;refine⟨λg=>?_,λg=>?_⟩
 .have m:H5 l b=(l,b.low):=by simp[H5,g]
  rw[m];simp;(repeat apply xS);refine yE (A7 5 []) (by kernel_rfl) ?_;simp;apply yA 0;simp;apply Aj;refine⟨_,vk [0] (S0:=[.row w 3 (l.map λx=>.d (AU x))]) (by simp) (by simp) (by simp),?_⟩;simp[Aq,pick]
 .have o:¬b.low=b.high:=g;apply xK;refine xS (yW ?_);simp;apply Bo;refine FO (Z l) (λi tm S=>tm 0=.row 0 (Z l)/\tm 3=.ptr 1 1 0 0/\tm 6=.d (encI i)/\S=[.row w 3 (l.map λx=>.d (AU x)),.row J 3 [.d (AU b)]]/\∀j (_:j<i) (h:j<Z l),l[j]≠b) (er _) (by simp) ?_;rintro i tm S hi ⟨t0,t3,t6,rfl,u⟩;refine xS (yW ?_);simp[t0,t6];apply AP;simp;refine⟨λq=>?_,λG=>?_⟩
  .apply xK;apply xB;refine yD (A7 6 []) (by kernel_rfl) ?_;simp;apply yA 0;simp[t0,t6,t3,q,-DS];apply AP;simp;refine⟨λg=>?_,λg=>?_⟩
   .have k:firstIdx (λx=>decide (x=b)) l=i:=Cw q (by simpa using g) λj hj=>by simpa using u j hj (by omega)
    have v:b8 .i64 ((i:Int)+2)=i+2:=by rw[c8];omega
    have h0:¬((i:Int)<0):=by omega
    have m:H5 l b=(l,(i:Int)+2):=by simp[H5,o,k,h0]
    rw[m];simp;apply yW;simp[t0,t6,v];apply Aj;refine⟨_,vk [0] (S0:=[.row w 3 (l.map λx=>.d (AU x))]) (by simp) (by simp) (by simp),?_⟩;simp[Aq,pick]
   .apply CF;apply yV;simp[t6];refine⟨q,_,_,a9,?_⟩;simp[t0,t3,AK q C];intro j hj A;by_cases e:j=i
    .subst e;simpa using g
    .exact u j (by omega) A
  .have e:i=Z l:=by omega
   subst e;have k:firstIdx (λx=>decide (x=b)) l= -1:=firstIdx_none λj hj=>by simpa using u j hj hj
   have E:1<=a8:=by unfold a8;omega
   have B:Z l+1<=1073741824:=by omega
   have v:b8 .i64 ((Z l:Int)+1+1)=Z l+2:=by rw[c8];omega
   have m:H5 l b=(l++[b],(Z l:Int)+2):=by simp[H5,o,k]
   rw[m];simp only[jp,gr,mp,sn,Nat.lt_add_one,acQ,Bool.or_true];apply Ci;apply yS;apply yJ;simp[t0,t3,E,B,Ac,kw];apply yW;simp[v];apply Aj;refine⟨_,vk [0] (S0:=[.row J 3 ((l++[b]).map λx=>.d (AU x))]) (by simp) (by simp) (by simp),?_⟩;simp[Aq,pick]
def Ys(a b:AL)(op:Int)(g:List Ai)(h:List Seen)(w1 i:Bool):Sg:=
 [.row J 7 [.agg [.d (AV a.nodes),.d (encI a.root),.d (AV b.nodes),.d (encI b.root),.d (encI op),.row 1 (Z g),.row 2 (Z h)]],.row w1 3 (g.map λx=>.d (AU x)),.row i 3 (h.map λx=>.d (H3 x))]
theorem Z9(a b:AL)(op:Int)(i:List Ai)(j:List Seen)(w1 k:Bool)(x y:Int)(h:0<=x/\x<2)(v:0<=y/\y<2):AG ao 265 [.ptr 0 1 0 0,.d (encI x),.d (encI y)] (Ys a b op i j w1 k) (.d (encI (PC op x y))) (Ys a b op i j w1 k):=by
 have o:b8 .i64 (x * y)=x * y:=by
  have:x=0\/x=1:=by omega
  rcases this with rfl|rfl<;>simp[c8]<;>omega
 have q:b8 .i64 (x+y)=x+y:=by rw[c8];omega
 have u:b8 .i64 ((x+y).tmod 2)=(x+y).tmod 2:=by
  have:x=0\/x=1:=by omega
  have:y=0\/y=1:=by omega
  rcases ‹x=0\/x=1› with e|e<;>rcases this with m|m<;>rw[e,m]<;>decide
 refine zC func265 25 rfl λwf _=>?_;unfold Ys;apply yW;simp;refine xS (yW ?_);simp;apply Bo;apply yW;simp;apply AP;simp;refine⟨λh=>?_,λh=>?_⟩
 .apply yW;simp[o];apply Aj;refine⟨_,a9,?_⟩;simp[Aq,PC,h]
 .apply yW;simp;apply AP;simp;refine⟨λg=>?_,λg=>?_⟩
  .apply yW;simp;apply Aj;refine⟨_,a9,?_⟩;simp[Aq,PC,g];split<;>omega
  .apply CF;apply yW;simp[q];apply Aj;refine⟨_,a9,?_⟩;simp[Aq,PC,h,g]
theorem qd(a b:AL)(op:Int):∀(f:Nat) (u:List Ai) (g:List Seen) (x y:Int) (w1 o:Bool) (k:List Ai×List Seen×Int),atR a b op f u g x y=am k->∃G H,AG ao 221 [.ptr 0 1 0 0,.d (encI x),.d (encI y)] (Ys a b op u g w1 o) (.d (encI k.2.2)) (Ys a b op k.1 k.2.1 G H):=by
 intro f;induction f with
 |zero=>intro u g x y w1 o k h;simp[atR]at h
 |succ f ih=>
  intro u g x y w1 o k h;unfold atR at h;by_cases B:x<2/\y<2
  .rw[ca B]at h;split at h
   .rename_i h0;cases h;refine⟨w1,o,?_⟩;have hk:=Z9 a b op u g w1 o x y ⟨h0.1,B.1⟩ ⟨h0.2,B.2⟩;refine zC func221 137 rfl λwf _=>?_;apply yW;simp;refine xS (yW ?_);simp[B];apply AP;simp;(repeat apply xS);apply yT;apply yJ;simp;refine i9 rfl rfl (by simp) (f:=265) (args:=[.ptr 0 1 0 0,.d (encI x),.d (encI y)]) (by simp[callee];try rfl) (by simp) hk (yJ ?_);simp;apply Aj;refine⟨_,a9,?_⟩;simp[Aq]
   .cases h
  .rw[bv B]at h;have C:(decide (x<2)&&decide (y<2))=false:=by simpa using B
   by_cases K:0<=seenAt g x y
   .rw[ca K]at h;cases h;refine⟨w1,o,?_⟩;refine oF func221 rfl rfl (by simp) λwf L=>?_;have M:Z g<=a8:=by have:=L.2.2.1.1;simpa using this
    rw[ntmps221];apply yW;simp;refine xS (yW ?_);simp;(repeat apply xS);refine m8 (t:=decide (x<2)&&decide (y<2)) ?_ (λhb=>?_) (λhb=>?_)
    .simp
    .rw[C]at hb;cases hb
    apply xK;refine xS (yW ?_);simp;apply Bo;refine FO (Z g) (λi tm S=>tm 0=.ptr 0 1 0 0/\tm 1=.d (encI x)/\tm 2=.d (encI y)/\tm 7=.d (encI i)/\S=Ys a b op u g w1 o/\∀j (_:j<i) (h:j<Z g),¬(g[j].x=x/\g[j].y=y)) (er _) (by simp) ?_;rintro i tm S hi ⟨t0,t1,t2,t7,rfl,N⟩;unfold Ys;refine xS (yW ?_);simp[t0,t7];apply AP;simp;refine⟨λm=>?_,λzu=>?_⟩
    .apply xK;apply xB;apply yW;simp[t0,t1,t2,t7,m];(repeat apply xS);refine m8 (t:=decide (g[i].x=x)&&decide (g[i].y=y)) ?_ (λhb=>?_) (λhb=>?_)
     .simp;rw[gI];simp
     ·(repeat apply xS);apply yV;simp[t0,t7,m];have E:seenAt g x y=i:=Cw m hb λj hj=>by simpa using N j hj (by omega)
      apply Aj;refine⟨_,a9,?_⟩;simp[Aq,E,m]
     .apply CF;apply yV;simp[t7];refine⟨m,_,_,a9,?_⟩;simp[t0,t1,t2,AK m M];intro j hj P;by_cases e:j=i
      .subst e;simpa using hb
      .simpa using N j (by omega) P
    .have E:seenAt g x y= -1:=firstIdx_none λj hj=>by simpa using N j (by omega) hj
     omega
   .rw[bv K]at h;split at h
    .rename_i F;simp at F;obtain⟨w,A⟩:=F;have Q:(if b.level y<a.level x then b.level y else a.level x)=min (a.level x) (b.level y):=by split<;>omega
     generalize hv:min (a.level x) (b.level y)=v at *;cases R:atR a b op f u g (Fx a x v).1 (Fx b y v).1 with
     |none=>simp[R]at h
     |some r1=>
      obtain⟨T,W,low⟩:=r1;simp[R]at h;cases X:atR a b op f T W (Fx a x v).2 (Fx b y v).2 with
      |none=>simp[X]at h
      |some r2=>
       obtain⟨q,Y,high⟩:=r2;simp only[X]at h;split at h
       .cases h
       .rename_i zp;cases h;obtain⟨u1,u2,k1⟩:=ih _ _ _ _ w1 o _ R;obtain⟨v1,v2,k2⟩:=ih _ _ _ _ u1 u2 _ X;have hx2:x<2+Z a.nodes:=by simp[M9]at w;exact w.1.2
        have hy2:y<2+Z b.nodes:=by simp[M9]at A;exact A.1.2
        have l1:=If a x hx2;have l2:=If b y hy2;have s1:=RC a x v w;have s2:=RC b y v A;have q1:=cX q ⟨v,low,high⟩ v1 (by omega);have n2:Z Y+1<=1073741824:=by omega
        have zs:1<=a8:=by unfold a8;omega
        generalize hU:H5 q ⟨v,low,high⟩=U at *;obtain⟨ns3,r⟩:=U;simp only[]at q1⊢;generalize Fx a x v=sa at *;generalize Fx b y v=sb at *;obtain⟨sa1,sa2⟩:=sa;obtain⟨sb1,sb2⟩:=sb;have q2:=q1.Fg (args':=[.row 0 (Z q),.agg [.d (encI v),.d (encI low),.d (encI high)]]) rfl λi h h'=>by
         match i,h with
         |0,_=>exact .inl rfl
         |1,_=>exact .inr ⟨AU ⟨v,low,high⟩,by simp[BO,AU],rfl⟩
        refine⟨v1||decide (Z q<Z ns3),J,?_⟩;refine oF func221 rfl rfl (by simp) λwf L=>?_;have M:Z g<=a8:=by have:=L.2.2.1.1;simpa using this
        rw[ntmps221];apply yW;simp;refine xS (yW ?_);simp;(repeat apply xS);refine m8 (t:=decide (x<2)&&decide (y<2)) ?_ (λhb=>?_) (λhb=>?_)
        .simp
        .rw[C]at hb;cases hb
        apply xK;refine xS (yW ?_);simp;apply Bo;refine FO (Z g) (λi tm S=>tm 0=.ptr 0 1 0 0/\tm 1=.d (encI x)/\tm 2=.d (encI y)/\tm 7=.d (encI i)/\S=Ys a b op u g w1 o) (er _) (by simp) ?_;rintro i tm S hi ⟨t0,t1,t2,t7,rfl⟩;unfold Ys;refine xS (yW ?_);simp[t0,t7];apply AP;simp;refine⟨λm=>?_,λzu=>?_⟩
        .apply xK;apply xB;apply yW;simp[t0,t1,t2,t7,m];(repeat apply xS);refine m8 (t:=decide (g[i].x=x)&&decide (g[i].y=y)) ?_ (λhb=>?_) (λhb=>?_)
         .simp;rw[gI];simp
         .have:g.any (λt=>decide (t.x=x)&&decide (t.y=y))=true:=abT.2 ⟨_,cL m,hb⟩;rw[<-DA]at this;exact absurd (show 0<=seenAt g x y from adm this) K
         .apply CF;apply yV;simp[t7];refine⟨m,_,_,a9,?_⟩;simp[t0,t1,t2,AK m M]
        .apply Ci;refine yD (A7 14 []) (by kernel_rfl) ?_;simp;apply yA 0;simp[t0,t1];refine j0 (l1) rfl (by simp[xN]) ?_;simp;apply yA 0;simp[t0,t2];refine j0 (l2) rfl (by simp[xN]) ?_;simp;apply yA 0;simp[Q];apply yS;apply yJ;simp[t0,t1];refine Bq (s1) rfl (by simp[xN]) (yJ ?_);simp;(repeat apply xS);apply yT;apply yJ;simp[t0,t2];refine Bq (s2) rfl (by simp[xN]) (yJ ?_);simp;unfold Ys at k1 k2;apply yS;apply yJ;simp[t0];refine i9 rfl rfl (by simp) (f:=221) (args:=[.ptr 0 1 0 0,.d (encI sa1),.d (encI sb1)]) (by simp[callee];try rfl) (by simp) k1 (yJ ?_);simp;apply yS;apply yJ;simp[t0];refine i9 rfl rfl (by simp) (f:=221) (args:=[.ptr 0 1 0 0,.d (encI sa2),.d (encI sb2)]) (by simp[callee];try rfl) (by simp) k2 (yJ ?_);simp;apply yS;apply yJ;simp[t0];refine xF (q2) [1] rfl ?_;simp;apply yJ;simp;apply yW;simp[t0];apply yS;apply yJ;simp[t0,t1,t2,zs,n2,Ac,kw];apply yW;simp;apply Aj;refine⟨_,a9,?_⟩;simp[Aq]
    .cases h
def ZM(nodes:List Ai)(g:List Int)(out:List Ai)(w:Bool):Sg:=
 [.row J 3 [.agg [.d (AV nodes),.row 1 (Z g),.row 2 (Z out)]],.row J 1 (g.map λx=>.d (encI x)),.row w 3 (out.map λx=>.d (AU x))]
theorem kq(nodes:List Ai):∀(f:Nat) (u:List Int) (out:List Ai) (n:Int) (w:Bool) (i:List Int×List Ai×Int),Sl nodes f u out n=am i->Z u=Z nodes->(∃Y,AG ao 269 [.ptr 0 1 0 0,.d (encI n)] (ZM nodes u out w) (.d (encI i.2.2)) (ZM nodes i.1 i.2.1 Y))/\Z i.1=Z nodes:=by
 intro f;induction f with
 |zero=>intro u out n w i h;simp[Sl]at h
 |succ f U=>
  intro u out n w i h v;unfold Sl at h;by_cases M:n<2
  .rw[ca M]at h;cases h;refine⟨⟨w,?_⟩,v⟩;refine zC func269 77 rfl λwf _=>?_;apply yW;simp;refine xS (yW ?_);simp[M];apply AP;simp;apply yW;simp;apply Aj;refine⟨_,a9,?_⟩;simp[Aq]
  .rw[bv M]at h;have hn2:2<=n:=by omega
   cases N:u[(n - 2).toNat]? with
   |none=>simp[N]at h
   |some k=>
    simp only[N]at h;obtain⟨j,o⟩:=gq.1 N;obtain⟨m,rfl⟩:∃m:Nat,n=m+2:=⟨(n - 2).toNat,by omega⟩;have W:((m:Int)+2 - 2).toNat=m:=by omega
    have e3:(m:Int)+2 - 2=m:=by omega
    rw[W]at j;simp only[W]at h o;have C:m<Z nodes:=by omega
    have E:¬(m:Int)+2<2:=by omega
    by_cases L:0<k
    .rw[ca L]at h;cases h;refine⟨⟨w,?_⟩,v⟩;refine oF func269 rfl rfl (by simp) λwf _=>?_;have A:b8 .i64 (m:Int)=m:=by
      have:=wf.2.1;simp[Ij,DY,GZ]at this;rw[c8];omega
     rw[ntmps269];unfold ZM;apply yW;simp;refine xS (yW ?_);simp;apply AP;simp[E];apply xK;refine xS (yW ?_);simp[A,j,o];apply AP;simp[L];apply yW;simp[A,j,o];apply Aj;refine⟨_,a9,?_⟩;simp[Aq]
    .rw[bv L]at h;have P:nodes.getD m RP=nodes[m]:=by simp[C]
     rw[P]at h;cases Q:Sl nodes f u out nodes[m].low with
     |none=>simp[Q]at h
     |some r1=>
      obtain⟨R,F,low⟩:=r1;simp[Q]at h;cases S:Sl nodes f R F nodes[m].high with
      |none=>simp[S]at h
      |some r2=>
       obtain⟨q,g,high⟩:=r2;simp only[S]at h;split at h
       .cases h
       .rename_i zp;cases h;obtain⟨⟨u1,k1⟩,G⟩:=U _ _ _ w _ Q v;obtain⟨⟨u2,k2⟩,H⟩:=U _ _ _ u1 _ S G;simp[]at G H k1 k2;refine⟨⟨J,?_⟩,by simpa using H⟩;have n2:Z g+1<=1073741824:=by omega
        have X:1<=a8:=by unfold a8;omega
        have K:m<Z q:=by omega
        have B:b8 .i64 ((Z g:Int)+1+1)=Z g+2:=by rw[c8];omega
        generalize hb:nodes[m]=b at *;unfold ZM at k1 k2;refine oF func269 rfl rfl (by simp) λwf _=>?_;have A:b8 .i64 (m:Int)=m:=by
         have:=wf.2.1;simp[Ij,DY,GZ]at this;rw[c8];omega
        rw[ntmps269];unfold ZM;apply yW;simp;refine xS (yW ?_);simp;apply AP;simp[E];apply xK;refine xS (yW ?_);simp[A,j,o];apply AP;simp[L];apply xK;apply yW;simp[A,C,hb];apply yS;apply yJ;simp;refine xF (k1) [0,1,2] rfl ?_;simp;apply yJ;simp;apply yS;apply yJ;simp;refine xF (k2) [0,1,2] rfl ?_;simp;apply yJ;simp;refine yD (A7 11 [23,24,26,29]) (by kernel_rfl) ?_;simp;apply yA 1;simp[X];apply xX 65 (by kernel_rfl);simp[AY,n2,X,Ac,kw];apply yA 1;simp;apply xX 2045 (by kernel_rfl);simp[AY];apply xM;refine yD (A7 13 [27]) (by kernel_rfl) ?_;simp;apply yA 1;simp[A,K,B];apply xX 8191 (by kernel_rfl);simp[AY,A,K,B];apply xM;apply yW;simp[B];apply Aj;have T:(List.map (λx=>V.d (br .i64 x)) q).set m (V.d (br .i64 ((Z g:Int)+2)))=List.map (λx=>V.d (br .i64 x)) (q.set m ((Z g:Int)+2)):=by simp
        rw[T];generalize q.set m _=nu3;refine⟨_,vk [0,1,2] (by simp[AU]) (by simp) rfl,?_⟩;simp[Aq,pick]
@[simp] theorem tW(f:Nat->Nat)(n:Nat)(d:D):CN f (lw n (V.d d))=lw n (V.d d):=by
 induction n with
 |zero=>rfl
 |succ n g=>simp[ac4,CN,BW,g]
@[simp] theorem pH(k n:Nat)(d:D):Au k (lw n (V.d d))=true:=by
 induction n with
 |zero=>rfl
 |succ n g=>simp[ac4,Au,AJ,g]
theorem U1(nodes:List Ai)(root:Int)(d:AL)(h:Xr nodes root=am d):Pure ao 222 [AV nodes,encI root] (AB d):=by
 unfold Xr at h;split at h
 .cases h
 rename_i k;have i:(Z nodes:Int)<=1073741824:=by omega
 cases j:Sl nodes 64 (lw (Z nodes) 0) [] root with
 |none=>simp[j]at h
 |some r1=>
  obtain⟨m,g,r⟩:=r1;simp[j]at h;cases h;obtain⟨⟨o,k1⟩,_⟩:=kq nodes 64 (lw (Z nodes) 0) [] root false _ j (by simp);simp at k1;unfold ZM at k1;simp at k1;refine zP func222 22 rfl λwf=>?_;apply yW;simp;apply yW;simp[i];refine gs (AI.Lr 2 0 2 3 (xs:=[]) rfl rfl rfl) ?_;simp;apply yS;apply yJ;simp;refine xF (k1) [2,1,3] rfl ?_;simp;apply yJ;simp;apply yW;simp;apply Aj;refine⟨_,_,gl 3 (xs:=g.map AU) rfl (by simp),?_⟩;simp[BO,AB]
theorem O1(a b:AL)(op:Int)(d:AL)(h:Li a b op=am d):Pure ao 153 [AB a,AB b,encI op] (AB d):=by
 unfold Li at h;cases i:atR a b op 64 [] [] a.root b.root with
 |none=>simp[i]at h
 |some r1=>
  obtain⟨k,m,r⟩:=r1;simp only[i]at h;obtain⟨w1,o,k1⟩:=qd a b op 64 [] [] a.root b.root false false _ i;simp only[]at k1;unfold Ys at k1;simp at k1;have j:=U1 k r d h;refine hW func153 (by kernel_rfl) rfl (by simp) λwf=>?_;rw[ntmps153];refine xW λK g=>?_;simp;apply g;refine xW λK g=>?_;simp[AB];apply g;refine gs (AI.Lr 3 0 5 3 (xs:=[]) rfl rfl rfl) ?_;simp;refine gs (AI.Lr 3 0 6 3 (xs:=[]) rfl rfl rfl) ?_;simp;refine E5 λK g=>?_;refine xJ ?_;simp;refine xF (k1) [3,4,5] rfl ?_;simp;refine xJ ?_;simp;refine BY (g _ _ ?_);refine gs (gl 4 (xs:=k.map AU) rfl (by simp)) ?_;simp;(repeat refine xS ?_);refine FG λK g=>?_;refine xJ ?_;simp;refine Bq (j) rfl (by simp) ?_;simp;refine xJ ?_;simp;refine BY (g _ _ ?_);(try simp only[xQ,reduceIte]);refine Aj ⟨_,_,a9,?_⟩;try simp
theorem DI(a d:AL)(h:PL a=am d):Pure ao 54 [AB a] (AB d):=by
 have i:=O1 a ⟨[],1⟩ 2 d h;have g:=B8 J;simp at g;refine zP func54 6 rfl λwf=>?_;apply yW;simp;(repeat apply xS);refine yE (A7 3 [7]) (by kernel_rfl) ?_;simp;apply yA 0;simp;refine j0 (g) rfl (by simp[xN]) ?_;simp;apply yA 0;simp;refine j0 (i) rfl (by simp[xN]) ?_;simp;apply yA 0;simp;apply xX 7 (by kernel_rfl);simp;apply xM;apply zT;try simp
theorem RW(a b d:AL)(h:Li a b 0=am d):Pure ao 214 [AB a,AB b] (AB d):=by
 have g:=O1 a b 0 d h;refine zP func214 8 rfl λwf=>?_;apply yW;simp;(repeat apply xS);apply yT;apply yJ;simp;refine Bq (g) rfl (by simp[xN]) (yJ ?_);simp;apply zT;try simp
theorem ZD(a b d:AL)(h:Li a b 1=am d):Pure ao 213 [AB a,AB b] (AB d):=by
 have g:=O1 a b 1 d h;refine zP func213 8 rfl λwf=>?_;apply yW;simp;(repeat apply xS);apply yT;apply yJ;simp;refine Bq (g) rfl (by simp[xN]) (yJ ?_);simp;apply zT;try simp
theorem Yu(a b d:AL)(h:TP a b=am d):Pure ao 215 [AB a,AB b] (AB d):=by
 unfold TP at h;cases e:PL b with
 |none=>simp[e]at h
 |some c=>
  simp[e]at h;have g:=DI b c e;have hi:=RW a c d h;refine zP func215 9 rfl λwf=>?_;apply yW;simp;(repeat apply xS);refine yE (A7 4 [9]) (by kernel_rfl) ?_;simp;apply yA 0;simp;refine j0 (g) rfl (by simp[xN]) ?_;simp;apply yA 0;simp;refine j0 (hi) rfl (by simp[xN]) ?_;simp;apply yA 0;simp;apply xX 15 (by kernel_rfl);simp;apply xM;apply zT;try simp
def LO(l:List Int):D:=.sl (l.map (br .u8))
theorem Y5(l:List Int)(n:Nat):∀(f v k:Nat) (d:AL),JQ l n f v k=am d->Pure ao 143 [LO l,encI n,encI v,encI k] (AB d):=by
 intro f;induction f with
 |zero=>intro v k d h;simp[JQ]at h
 |succ f Q=>
  intro v k d h;unfold JQ at h;split at h
  .cases h
  rename_i hb;have hk:k<1048576:=by omega
  have X:v<7:=by omega
  by_cases q:v=n
  .rw[ca q]at h;cases h;have A:=B8 (W5 l k);have i:W5 l k=(decide (k / 8<Z l)&&(b8 .u8 (max ((l.getD (k / 8) 0).fdiv (2 ^ (k % 8)) % 256) 0 % 2)==1)):=rfl;generalize W5 l k=bb at *;obtain⟨j,hj⟩:=ce (k / 8);obtain⟨m,R⟩:=ce (k % 8);rw[hj,R]at i;have E:((k:Int).tdiv 8)=j:=by rw[<-hj];simp
   have F:((k:Int).tmod 8)=m:=by rw[ge (by omega),<-R];simp
   have G:(k:Int) / 8=j:=by omega
   have H:(k:Int) % 8=m:=by omega
   have w1:b8 .i64 (j:Int)=j:=by rw[c8];omega
   have u:b8 .u64 (m:Int)=m:=by simp[pn,pm,pi];omega
   have w:min m 8=m:=by omega
   have g:IntKind.u8.bits=8:=rfl;refine zP func143 59 rfl λwf=>?_;unfold LO;apply yW;simp;refine xS (yW ?_);simp;apply AP;simp[q];(repeat apply xS);apply yT;(iterate 6 (refine Cc (by simp) ?_;simp[E,w1]));cases K:decide (j<Z l)with
   |true=>
    have o:j<Z l:=by simpa using K
    have Y:l.getD j 0=l[j]:=by simp[o]
    rw[K,Y,rx]at i;(iterate 11 ((refine Pe rfl (by simp[o];try rfl) ?_);simp[E,F,w1,u,w,o,g]));(iterate 1 (refine Cc (by simp) ?_;simp[i]));rw[<-i];refine Bq (A) rfl (by simp) (yJ ?_);simp;refine Aj ⟨_,_,a9,?_⟩;try simp
   |false=>
    have o:¬j<Z l:=by simpa using K
    rw[K,W1]at i;subst i;(repeat(refine FI rfl ?_ ?_;(·simp);simp));(iterate 1 (refine Cc (by simp) ?_;simp));refine Bq (A) rfl (by simp) (yJ ?_);simp;refine Aj ⟨_,_,a9,?_⟩;try simp
  .rw[bv q]at h;cases L:JQ l n f (v+1) (k+2 ^ v)with
   |none=>simp[L]at h
   |some d1=>
    simp[L]at h;cases e0:JQ l n f (v+1) k with
    |none=>simp[e0]at h
    |some d0=>
     simp[e0]at h;cases f1:Li (Ar v) d1 0 with
     |none=>simp[f1]at h
     |some g1=>
      simp[f1]at h;cases f0:TP d0 (Ar v)with
      |none=>simp[f0]at h
      |some g0=>
       simp[f0]at h;have k1:=Q _ _ _ L;have S:=Q _ _ _ e0;have M:=Xh (v:Int);have ha:=RW _ _ _ f1;have N:=Yu _ _ _ f0;have P:=ZD _ _ _ h;have B:¬(v:Int)=n:=by omega
       have p2:2 ^ v<=64:=aby (by omega) (show v<=6 by omega);obtain⟨pw,C⟩:=ce (2 ^ v);have T:(2:Int) ^ v=pw:=by rw[<-C];simp
       rw[C]at k1 p2;have U:b8 .i64 ((v:Int)+1)=(v+1:Nat):=by rw[c8];omega
       have w1:b8 .u64 (v:Int)=v:=by simp[pn,pm,pi];omega
       have u:min v 64=v:=by omega
       have w:b8 .i64 (pw:Int)=pw:=by rw[c8];omega
       have W:b8 .i64 ((k:Int)+pw)=(k+pw:Nat):=by rw[c8];omega
       have g:IntKind.i64.bits=64:=rfl;generalize hvv:Ar v=vd at *;refine zP func143 59 rfl λwf=>?_;unfold LO at k1 S⊢;apply yW;simp;refine xS (yW ?_);simp;apply AP;simp[B];apply xK;apply yS;apply yJ;simp;refine Bq (M) rfl (by simp) (yJ ?_);simp;(repeat apply xS);refine yE (A7 21 [43]) (by kernel_rfl) ?_;simp;apply yA 0;simp[U,w1,u,w,W,g,T];refine j0 (k1) rfl (by simp[xN]) ?_;simp;apply yA 0;simp;refine j0 (ha) rfl (by simp[xN]) ?_;simp;apply yA 0;simp[U];refine j0 (S) rfl (by simp[xN]) ?_;simp;apply yA 0;simp;refine j0 (N) rfl (by simp[xN]) ?_;simp;apply yA 0;simp;refine j0 (P) rfl (by simp[xN]) ?_;simp;apply yA 0;simp;apply xX 2097151 (by kernel_rfl);simp;apply xM;apply zT;try simp
theorem UN(l:List Int)(n:Nat)(k:n<=6)(d:AL)(h:JQ l n 8 0 0=am d):Pure ao 46 [LO l,encI n] (AB d):=by
 have g:=Y5 l n 8 0 0 d h;have j:(if(6:Int)<(n:Int)then(6:Int)else n)=n:=by split<;>omega
 have h0:(if(0:Int)<(n:Int)then(n:Int)else 0)=n:=by split<;>omega
 have i:(n=0->(0:Int)=n)↔True:=iff_true_intro (by omega);refine zP func46 11 rfl λwf=>?_;unfold LO at g⊢;apply yW;simp;apply yW;simp[j];(repeat apply xS);apply yT;apply yJ;simp;refine Bq (g) rfl (by simp[i]) (yJ ?_);simp;apply zT;try simp
def sS(d:AL)(i:Nat):Bool:=
 decide (0<=(d.nodes.getD i RP).var/\(d.nodes.getD i RP).var<=63/\0<=(d.nodes.getD i RP).low/\0<=(d.nodes.getD i RP).high/\(d.nodes.getD i RP).low<i+2/\(d.nodes.getD i RP).high<i+2/\(d.nodes.getD i RP).low≠(d.nodes.getD i RP).high/\(d.nodes.getD i RP).var<d.level (d.nodes.getD i RP).low/\(d.nodes.getD i RP).var<d.level (d.nodes.getD i RP).high)&&(i6 i).all λj=>decide (d.nodes.getD j RP≠d.nodes.getD i RP)
def VD(d:AL):Bool:=decide (0<=d.root/\d.root<Z d.nodes+2/\Z d.nodes<=4096)&&(i6 (Z d.nodes)).all (sS d)&&decide (Xr d.nodes d.root=am d)
def I0(d:AL)(n:Nat):Bool:=VD d&&d.nodes.all λb=>decide (b.var<n)
theorem eO(d:AL):Pure ao 302 [AB d,AB d] (.bool J):=by
 refine hW func302 rfl rfl (by simp) λwf=>?_;have h:Z d.nodes<=a8:=by have:=wf.1;simp[DY,Bm]at this;exact this.1.1
 rw[ntmps302];apply yW;simp;refine xS (yW ?_);simp;apply AP;simp;apply xK;refine xS (yW ?_);simp;apply Bo;refine FO (Z d.nodes) (λi tm S=>tm 2=.ptr 0 1 0 0/\tm 3=.ptr 1 1 0 0/\tm 5=.d (encI i)/\S=[.row J 2 [.d (AB d)],.row J 2 [.d (AB d)]]) (er _) (by simp) ?_;rintro i tm S hi ⟨t2,t3,t5,rfl⟩;refine xS (yW ?_);simp[t2,t5];apply AP;simp;refine⟨λg=>?_,λj=>?_⟩
 .apply xK;apply xB;refine yD (A7 11 []) (by kernel_rfl) ?_;simp;apply yA 0;simp[t2,t3,t5,g];apply AP;simp;apply CF;apply yV;simp[t5];refine⟨g,_,_,a9,?_⟩;simp[t2,t3,AK g h]
 .apply Ci;apply yW;simp;apply zT;try simp
theorem Vn(d:AL)(i:Nat)(hi:i<Z d.nodes)(X:Z d.nodes<=4096)(h:sS d i=J):Pure ao 301 [AB d,encI i] (.bool J):=by
 have T:d.nodes.getD i RP=d.nodes[i]:=by simp[hi]
 simp only[sS,T,cF,fc,ed,rv]at h;obtain⟨⟨b1,A,B,C,E,F,G,Y,b9⟩,U⟩:=h;have q:∀j (_:j<i) (hj:j<Z d.nodes),¬d.nodes[j]=d.nodes[i]:=λj u hj=>by have:=U j u;simpa[hj]using this
 refine hW func301 (by kernel_rfl) rfl (by simp) λwf=>?_;have a1:Z d.nodes<=a8:=by have:=wf.1;simp[DY,Bm]at this;exact this.1.1
 have H:b8 .i64 ((i:Int)+2)=i+2:=by rw[c8];omega
 generalize hb:d.nodes[i]=b at *;have l1:=If d b.low (by omega);have l2:=If d b.high (by omega);rw[ntmps301];refine xW λK g=>?_;simp;apply g;(repeat refine xS ?_);refine xV λK g=>?_;simp[hi,hb];refine g _ _ ?_;(try simp only[xQ,reduceIte]);have c1:¬b.var<0:=by omega
 have L:¬63<b.var:=by omega
 have M:¬b.low<0:=by omega
 have N:¬b.high<0:=by omega
 have P:¬(i:Int)+2<=b.low:=by omega
 have Q:¬(i:Int)+2<=b.high:=by omega
 have o:¬d.level b.low<=b.var:=by omega
 have R:¬d.level b.high<=b.var:=by omega
 refine xS (xW λK g=>?_);simp[H,c1,L,M,N,P,Q];apply g;refine AP ?_;simp[G];refine xK ?_;refine xS ?_;refine xD (A7 16 []) (by kernel_rfl) λK g=>?_;simp;refine xA 0 ?_;simp;refine j0 (l1) rfl (by simp[xN]) ?_;simp;refine xA 0 ?_;simp[o];refine Ab.C0 (ds:=[AB d,encI b.high]) rfl rfl (by simp;rfl) (λ_=>l2) (by simp[xN]) ?_;simp;refine xA 0 ?_;simp[R];refine xM (g _ _ ?_);(try simp only[xQ,reduceIte]);refine AP ?_;simp;refine xK ?_;refine xS (xW λK g=>?_);simp;apply g;refine Bo ?_;refine FO i (λk tm S=>tm 1=.d (encI i)/\tm 2=.ptr 0 1 0 0/\tm 5=.ptr 1 1 0 0/\tm 6=.d (encI k)/\S=[.row J 2 [.d (AB d)],.row J 3 [.d (AU b)]]) (er _) (by simp[AU]) ?_;rintro k tm S hk ⟨t1,t2,t5,t6,rfl⟩;refine xS (xW λK g=>?_);simp[t1,t6];apply g;refine AP ?_;simp;refine⟨λv=>?_,λzu=>?_⟩
 .have m:k<Z d.nodes:=by omega
  have w:=q k v m;refine xK ?_;refine xB ?_;(repeat refine xS ?_);refine xE (A7 7 []) (by kernel_rfl) λK g=>?_;simp;(repeat(refine Hs ?_ ?_;(·simp[t2,t5,m]);simp[t2,t5,t6,m]));(repeat((refine Hs ?_ ?_);(focus(simp[AU];done));simp[AU,w]));refine xM (g _ _ ?_);(try simp only[B5]);refine AP ?_;simp;refine CF ?_;refine xV λK g=>?_;simp[t6];apply g;refine⟨v,_,_,a9,?_⟩;have W:i<=a8:=by omega
  simp[t1,t2,t5,AK v W,AU]
 .refine Ci ?_;refine xW λK g=>?_;simp;apply g;refine Aj ⟨_,_,a9,?_⟩;try simp
theorem ZW(d:AL)(h:VD d=J):Pure ao 294 [AB d] (.bool J):=by
 simp[VD]at h;obtain⟨⟨⟨o,C,v⟩,w⟩,A⟩:=h;have j:=U1 d.nodes d.root d A;have k:=eO d;have B:Z d.nodes<=a8:=by unfold a8;omega
 have q:b8 .i64 ((Z d.nodes:Int)+2)=Z d.nodes+2:=by rw[c8];omega
 have c1:¬d.root<0:=by omega
 have u:¬(Z d.nodes:Int)+2<=d.root:=by omega
 refine zP func294 34 rfl λwf=>?_;apply yW;simp;refine xS (yW ?_);simp[q,c1,u];apply AP;simp;apply xK;refine xS (yW ?_);simp;apply Bo;refine FO (Z d.nodes) (λi tm S=>tm 1=.ptr 0 1 0 0/\tm 3=.d (encI i)/\S=[.row J 2 [.d (AB d)]]) (er _) (by simp) ?_;rintro i tm S hi ⟨t1,t3,rfl⟩;refine xS (yW ?_);simp[t1,t3];apply AP;simp;refine⟨λg=>?_,λE=>?_⟩
 .have m:=Vn d i g v (w i g);apply xK;apply xB;apply yS;apply yJ;simp[t1,t3];refine Bq (m) rfl (by simp[xN]) (yJ ?_);simp;apply AP;simp;apply CF;apply yV;simp[t3];refine⟨g,_,_,a9,?_⟩;simp[t1,AK g B]
 .apply Ci;(repeat apply xS);refine yE (A7 8 []) (by kernel_rfl) ?_;simp;apply yA 0;simp[t1];refine j0 (j) rfl (by simp[xN]) ?_;simp;apply yA 0;simp;refine j0 (k) rfl (by simp[xN]) ?_;simp;apply yA 0;simp;apply zT;try simp
theorem bD(d:AL)(h:VD d=J):Pure ao 264 [AB d] (encI 0):=by
 have j:=ZW d h;simp[VD]at h;have i:¬4096<(Z d.nodes:Int):=by omega
 have g:¬4096<Z d.nodes:=by omega
 refine zP func264 10 rfl λwf=>?_;apply yW;simp;refine xS (yW ?_);simp[i];apply AP;simp;apply xK;refine xS (yS ?_);apply yJ;simp;refine Bq (j) rfl (by simp[xN]) (yJ ?_);simp;apply AP;simp;apply xK;apply yW;simp;apply zT;try simp
theorem Jo(d:AL)(n:Nat)(h:I0 d n=J):Pure ao 217 [AB d,encI n] (.bool J):=by
 simp[I0]at h;have k:=bD d h.1;have m:=h.2;refine hW func217 rfl rfl (by simp) λwf=>?_;have o:Z d.nodes<=a8:=by have:=wf.1;simp[DY,Bm]at this;exact this.1.1
 rw[ntmps217];apply yW;simp;refine xS (yS ?_);apply yJ;simp;refine Bq (k) rfl (by simp[xN]) (yJ ?_);simp;apply AP;simp;apply xK;refine xS (yW ?_);simp;apply Bo;refine FO (Z d.nodes) (λi tm S=>tm 1=.d (encI n)/\tm 2=.ptr 0 1 0 0/\tm 5=.d (encI i)/\S=[.row J 2 [.d (AB d)]]) (er _) (by simp) ?_;rintro i tm S hi ⟨t1,t2,t5,rfl⟩;refine xS (yW ?_);simp[t2,t5];apply AP;simp;refine⟨λg=>?_,λq=>?_⟩
 .have j:¬(n:Int)<=d.nodes[i].var:=by have:=m _ (cL g);omega
  apply xK;apply xB;apply yW;simp[t1,t2,t5,g,j];apply AP;simp;apply CF;apply yV;simp[t5];refine⟨g,_,_,a9,?_⟩;simp[t1,t2,AK g o]
 .apply Ci;apply yW;simp;apply zT;try simp
def mN(b n:Nat):Option AL:=
 if n=0\/b % 6<3 then am ⟨[],1⟩else if b % 6=3 then am (Ar (b / 6 % n:Nat))else if b % 6=4 then PL (Ar (b / 6 % n:Nat))else JQ [(b:Int)] n 8 0 0
def Iv(b n:Nat):AL:=(mN b n).getD ⟨[],1⟩
theorem eV:((i6 256).all λb=>(i6 4).all λn=>(mN b n).isSome&&I0 (Iv b n) n)=true:=by decide+kernel
theorem E8{b n:Nat}(hb:b<256)(g:n<4):mN b n=am (Iv b n)/\I0 (Iv b n) n=true:=by
 have h:=eV;simp at h;obtain⟨i,j⟩:=h b hb n g;refine⟨?_,j⟩;obtain⟨d,k⟩:=md.1 i;simp[Iv,k]
theorem GO(b n:Nat)(C:b<256)(P:n<4):Pure ao 16 [.int .u8 b,encI n] (AB (Iv b n)):=by
 have h:=(E8 C P).1;generalize Iv b n=d at *;unfold mN at h;have B:((b:Int).tmod 6)=(b % 6:Nat):=by rw[ge (by omega)];simp
 have L:((b:Int).tdiv 6)=(b / 6:Nat):=by simp
 have M:=B8 J;simp at M;obtain⟨m,Q⟩:=ce (b % 6);rw[Q]at h B;by_cases N:n=0\/m<3
 .rw[ca N]at h;cases h;refine zP func16 33 rfl λwf=>?_;apply yW;simp;refine xS (yW ?_);simp[B];(repeat apply xS);refine m8 (t:=decide (n=0)||decide (m<3)) ?_ (λhb=>?_) (λhb=>?_)
  .simp;rw[gI];simp;omega
  ·(repeat apply xS);apply yT;apply yJ;simp;refine Bq (M) rfl (by simp) (yJ ?_);simp;refine Aj ⟨_,_,a9,?_⟩;try simp
  .simp at hb;omega
 .rw[bv N]at h;have o:¬n=0:=by omega
  have E:¬m<3:=by omega
  have F:(decide (n=0)||decide (m<3))=false:=by simp[o,E]
  have u:b / 6 % n<n:=i7 _ (by omega);have G:(((b / 6:Nat):Int).tmod n)=(b / 6 % n:Nat):=by rw[ge (by omega)];simp
  obtain⟨q,R⟩:=ce (b / 6);rw[R]at h L G u;obtain⟨v,S⟩:=ce (q % n);rw[S]at h G u;have T:(b:Int) / 6=q:=by omega
  have w1:b8 .u8 (q:Int)=q:=by simp[pn,pm,pi];omega
  have U:b8 .i64 (q:Int)=q:=by rw[c8];omega
  have W:=CU (v:Int);have H:JQ [(b:Int)] n 8 0 0=am d->_:=UN [(b:Int)] n (by omega) d;refine zP func16 33 rfl λwf=>?_;apply yW;simp;refine xS (yW ?_);simp[B];(repeat apply xS);refine m8 (t:=decide (n=0)||decide (m<3)) ?_ (λhb=>?_) (λhb=>?_)
  .simp;rw[gI];simp;omega
  .rw[F]at hb;cases hb
  .clear hb;apply xK;(repeat apply xS);apply yT;apply yJ;simp[L,G,w1,U,o];refine Bq (W) rfl (by simp) (yJ ?_);simp;have i:((b:Int).tmod 6)=m:=B;by_cases j:m=3
   .rw[ca j]at h;cases h;refine xS (yW ?_);simp[i];apply Bo;apply yW;simp[j];apply AP;simp;apply yW;simp;refine Aj ⟨_,_,a9,?_⟩;try simp
   .rw[bv j]at h;by_cases k:m=4
    .rw[ca k]at h;have K:=DI _ _ h;refine xS (yW ?_);simp[i];apply Bo;apply yW;simp[k];apply AP;simp;apply yW;simp;apply AP;simp;(repeat apply xS);apply yT;apply yJ;simp;refine Bq (K) rfl (by simp[xN]) (yJ ?_);simp;refine Aj ⟨_,_,a9,?_⟩;try simp
    .rw[bv k]at h;have w:=H h;simp[LO]at w;have A:¬(m:Int)=3:=by omega
     have g:¬(m:Int)=4:=by omega
     refine xS (yW ?_);simp[i];apply Bo;apply yW;simp;apply AP;simp[A];apply yW;simp;apply AP;simp[g];apply CF;have X:1<=a8:=by unfold a8;omega
     (repeat apply xS);apply yT;apply yJ;simp[X];refine Bq (w) rfl (by simp[xN]) (yJ ?_);simp;apply zT;try simp
theorem We(p a c:Int)(d:AL):Pure ao 218 [AM ⟨1,p,a,c,0,0,[],d⟩] (.bool J):=by
 refine zP func218 63 rfl λwf=>?_;apply yW;simp;apply yW;simp;refine xS (yW ?_);simp;apply AP;simp;apply xK;apply yW;simp;apply yW;simp;apply zT;try simp
theorem Vd(p a c:Int)(d:AL):Pure ao 218 [AM ⟨2,p,a,c,0,0,[],d⟩] (.bool J):=by
 refine zP func218 63 rfl λwf=>?_;apply yW;simp;apply yW;simp;refine xS (yW ?_);simp;apply AP;simp;apply xK;apply yW;simp;apply yW;simp;apply zT;try simp
theorem W8(l t:Int)(d:AL):Pure ao 218 [AM ⟨3,0,0,0,l,0,[t],d⟩] (.bool J):=by
 refine zP func218 63 rfl λwf=>?_;apply yW;simp;apply yW;simp;refine xS (yW ?_);simp;apply AP;simp;apply xK;apply yW;simp;apply yW;simp;apply zT;try simp
theorem Vz(l t:Int)(d:AL):Pure ao 218 [AM ⟨4,0,0,0,l,0,[t],d⟩] (.bool J):=by
 refine zP func218 63 rfl λwf=>?_;apply yW;simp;apply yW;simp;refine xS (yW ?_);simp;apply AP;simp;apply xK;apply yW;simp;apply yW;simp;apply zT;try simp
theorem VZ(t:Int)(d:AL):Pure ao 218 [AM ⟨5,0,0,0,0,0,[t],d⟩] (.bool J):=by
 refine zP func218 63 rfl λwf=>?_;apply yW;simp;apply yW;simp;refine xS (yW ?_);simp;apply AP;simp;apply xK;apply yW;simp;apply yW;simp;apply zT;try simp
def Sf(g:AE)(p:Int):Bool:=g.levels.any λl=>l.AD.contains p
theorem I1(g:AE)(p:Int)(G:Z g.levels<=a8)(H:∀l∈g.levels,Z l.AD<=a8):Pure ao 145 [AA g,encI p] (.bool (Sf g p)):=by
 refine zP func145 36 rfl λwf=>?_;apply yW;simp;refine xS (yW ?_);simp;apply Bo;refine FO (Z g.levels) (λi tm S=>tm 1=.d (encI p)/\tm 2=.ptr 0 1 0 0/\tm 5=.d (encI i)/\S=[.row J 9 [.d (AA g)]]/\∀j (_:j<i) (h:j<Z g.levels),g.levels[j].AD.contains p=false) (er _) (by simp) ?_;rintro i tm S hi ⟨t1,t2,t5,rfl,C⟩;refine xS (yW ?_);simp[t2,t5];apply AP;simp;refine⟨λu=>?_,λK=>?_⟩
 .have w:=H _ (cL u);have A:=cL u;generalize B:g.levels[i]=l at *;have E:=Af.eq_1 l;apply xK;apply xB;apply yW;simp;apply Bo;refine FO (Z l.AD) (λk tm S=>tm 1=.d (encI p)/\tm 2=.ptr 0 1 0 0/\tm 5=.d (encI i)/\tm 6=.d (encI k)/\S=[.row J 9 [.d (AA g)]]/\∀j (_:j<k) (h:j<Z l.AD),l.AD[j]≠p) (er _) (by simp[t1,t2,t5]) ?_;rintro k tm S Q ⟨t1,t2,t5,t6,rfl,F⟩;refine xS (yW ?_);simp[t2,t5,t6,u,B,E];apply AP;simp;refine⟨λm=>?_,λK=>?_⟩
  .apply xK;apply xB;apply yW;simp[t1,t2,t5,t6,u,B,E,m];apply AP;simp;refine⟨λL=>?_,λM=>?_⟩
   .have:Sf g p=true:=abT.2 ⟨l,A,by have:=cL m;rw[L]at this;simpa using this⟩;rw[this];apply yW;simp;refine Aj ⟨_,_,a9,?_⟩;try simp
   .apply CF;apply yV;simp[t6];refine⟨m,_,_,a9,?_⟩;simp[t1,t2,t5,AK m w];intro j hj o;by_cases e:j=k
    .subst e;simpa using M
    .exact F j (by omega) o
  .apply Ci;have e:k=Z l.AD:=by omega
   subst e;apply yV;simp[t5];refine⟨u,_,_,a9,?_⟩;simp[t1,t2,AK u G];intro j hj o;by_cases e:j=i
   .subst e;rw[B];simp[lm,not_exists];intro q v N;exact F q v v N
   .simpa using C j (by omega) o
 .apply Ci;have:Sf g p=false:=by
   rw[Sf,tg];intro x P;obtain⟨j,hj,rfl⟩:=lm.1 P;rw[C j (by omega) hj];simp
  rw[this];apply yW;simp;apply zT;try simp
end Go.Koi
open Go.Koi.D renaming int->br
namespace Go.Koi
open Go.Proofs Tryz
section
variable {P:Program} {n b:Nat} {ops:Array Oper} {o:Oper} {tm:Tm} {S:Sg} {K:Tm->Sg->Prop}
theorem gT{B:List (Nat×(Sg->Prop))}{i:Nat}{q:Bool}{rest:List (Nat×Bool×Oper)}{j:Nat}{g:Bool}(v:q=J)(m:o.guard=some (j,g))
  (w:CW ops tm j g=some J/\A6 n o.dst/\BX P o.op tm S/\C2 P o.op tm S=S)
  (A:Ab P n b ops ((i,λh=>h=S)::B) rest (put tm o.dst (Bc P o.op tm S)) S K):Ab P n b ops B ((i,q,o)::rest) tm S K:=by
 subst v;obtain⟨C,E,F,G⟩:=w;refine q7 (λh=>h=S) rfl (λhi h hS=>?_) A;subst hS;intro k u;obtain⟨H,L,M⟩:=LB (P:=P) (S:=h) (op:=o.op) (Hj u);have:=Step.HL (b:=b) hi E m (by rw[guard_congr m u];exact C) (Mk (P:=P) (n:=n) (o:=o) (tm:=k) (S:=h) (by rw[H];exact F));rw[L,M,G]at this;exact this
end
def bC(tk:Token)(lit:Bool):Bool:=if lit then decide (tk.literal=⟨#[]⟩)else decide (tk.cls≠0)
theorem Ol(g:AE)(t:Nat)(lit:Bool)(u:t<Z g.AT):Pure ao 219 [AA g,BZ [(t:Int)],.bool lit] (.bool (!(bC g.AT[t] lit))):=by
 have c1:¬(t:Int)<0:=by omega
 have m:¬(Z g.AT:Int)<=t:=by omega
 have o:¬Z g.AT<=t:=by omega
 generalize k:g.AT[t]=tk;have v:=AX.eq_1 tk;refine hW func219 (by kernel_rfl) rfl (by simp) λwf=>?_;rw[ntmps219];refine xW λK h=>?_;simp;apply h;refine xS (xW λK h=>?_);simp;apply h;refine Bo ?_;refine FO 1 (λi tm S=>tm 1=.d (BZ [(t:Int)])/\tm 2=.d (.bool lit)/\tm 3=.ptr 0 1 0 0/\tm 7=.d (encI i)/\S=[.row J 9 [.d (AA g)]]/\(0<i->bC tk lit=ap)) (er _) (by simp) ?_;rintro i tm S hi ⟨t1,t2,t3,t7,rfl,w⟩;rcases s9 i 1 with h0|h0
 .have q:i=0:=by omega
  subst q;refine xS (xW λK h=>?_);simp[t1,t7];apply h;refine AP ?_;simp;refine xK ?_;refine xB ?_;refine xS ?_;refine xD (A7 31 []) (by kernel_rfl) λK h=>?_;simp;refine xZ ?_;simp[t1,t3,t7,c1,m];refine xM (h _ _ ?_);(try simp only[xQ,reduceIte]);refine AP ?_;simp;refine xK ?_;(repeat refine xS ?_);refine xE (A7 8 [17,19]) (by kernel_rfl) λK h=>?_;simp;refine xA 1 ?_;simp[t1,t3,t7,u,k,v];refine xX 0 (by kernel_rfl) ?_;simp[t1,t3,t7,AY,u,k,v];refine xA 1 ?_;simp;refine xX 255 (by kernel_rfl) ?_;simp[AY];refine xM (h _ _ ?_);(try simp only[xQ,reduceIte]);cases lit with
  |true=>
   (repeat refine xS ?_);refine FG λK h=>?_;(repeat((first|refine FI rfl ?_ ?_;(·simp)|refine Pe rfl ?_ ?_;(·simp)|refine Cc ?_ ?_;(·simp));simp[t2]));refine BY (h _ _ ?_);(try simp only[B5]);refine AP ?_;simp;refine⟨λj=>?_,λj=>?_⟩
   .have ha:bC tk J=true:=by simp[bC,j]
    rw[ha];refine xW λK h=>?_;simp;apply h;refine Aj ⟨_,_,a9,?_⟩;try simp
   .refine CF ?_;refine xV λK h=>?_;simp[t7];apply h;refine⟨_,_,n8 1 (S':=[.row J 9 [.d (AA g)]]) (by simp) (by simp) (by simp) (by simp),?_⟩;simp[clean,AJ,t1,t2,t3,bC,j];decide
  |false=>
   refine E5 λK h=>?_;refine xH ?_;simp[t2];refine BY (h _ _ ?_);refine AP ?_;simp;refine⟨λj=>?_,λj=>?_⟩
   .have ha:bC tk ap=true:=by simp[bC,j]
    rw[ha];refine xW λK h=>?_;simp;apply h;refine Aj ⟨_,_,a9,?_⟩;try simp
   .refine CF ?_;refine xV λK h=>?_;simp[t7];apply h;refine⟨_,_,n8 1 (S':=[.row J 9 [.d (AA g)]]) (by simp) (by simp) (by simp) (by simp),?_⟩;simp[clean,AJ,t1,t2,t3,bC,j];decide
 .have e:i=1:=by omega
  subst e;have ha:=w (by omega);rw[ha];refine xS (xW λK h=>?_);simp[t1,t7];apply h;refine AP ?_;simp;refine Ci ?_;refine xW λK h=>?_;simp[t1];apply h;refine Aj ⟨_,_,a9,?_⟩;try simp
def Nx(g:AE)(p a c:Nat):Bool:=!((g.AD.getD p G9).right.getD a ⟨J,0⟩).token&&decide (((g.AD.getD p G9).right.getD a ⟨J,0⟩).index=(g.AD.getD c G9).left)
theorem iE(g:AE)(p a c:Nat)(d:AL)(o:p<Z g.AD)(v:c<Z g.AD)(K:I0 d (Z g.conds)=J):
  Pure ao 146 [AA g,AM ⟨1,p,a,c,0,0,[],d⟩] (.bool (Nx g p a c)):=by
 have L:=Jo d (Z g.conds) K;have w:=We p a c d;have c1:¬(p:Int)<0:=by omega
 have G:¬(Z g.AD:Int)<=p:=by omega
 have h:¬Z g.AD<=p:=by omega
 have M:¬(c:Int)<0:=by omega
 have N:¬(Z g.AD:Int)<=c:=by omega
 have A:¬Z g.AD<=c:=by omega
 refine zP func146 152 rfl λwf=>?_;apply yW;simp;refine xS (yS ?_);apply yH;simp;refine li (L) rfl rfl (by simp[xN];try rfl) ?_;simp;apply yH;simp;refine li (w) rfl rfl (by simp[xN];try rfl) ?_;simp;apply yH;simp;apply AP;simp;apply xK;refine xS (yW ?_);simp;apply Bo;refine xS (yW ?_);simp;apply AP;simp;apply xK;apply AP;simp;refine xS (yS ?_);apply yH;simp[c1,G,M,N];apply AP;simp;apply CF;unfold Nx;have P:g.AD.getD p G9=g.AD[p]:=by simp[o]
 have Q:g.AD.getD c G9=g.AD[c]:=by simp[v]
 rw[P,Q];generalize B:g.AD[p]=q;generalize C:g.AD[c]=u;have R:=AF.eq_1 q;have i:=AF.eq_1 u;(repeat apply xS);apply yV;simp[o,B,R];by_cases j:a<Z q.right
 .generalize E:q.right[a]=s;have k:=AH.eq_1 s;have m:(a:Int)<Z q.right:=by omega
  have F:q.right.getD a ⟨J,0⟩=s:=by simp[j,E]
  rw[F];cases H:s.token with
  |true=>
   (repeat apply xS);refine yE (A7 36 []) (by kernel_rfl) ?_;simp;apply yZ;simp[j,m,E,k,H];refine Aj ⟨_,_,a9,?_⟩;try simp
  |false=>
   (repeat apply xS);refine yE (A7 36 []) (by kernel_rfl) ?_;simp;apply yZ;simp[j,m,E,k,H,v,C,i];refine Aj ⟨_,_,a9,?_⟩;(try simp);rw[gI];simp
 .have m:¬(a:Int)<Z q.right:=by omega
  have F:q.right.getD a ⟨J,0⟩=⟨J,0⟩:=by simp[j]
  rw[F];(repeat apply xS);refine yE (A7 36 []) (by kernel_rfl) ?_;simp;apply yZ;simp[m];refine Aj ⟨_,_,a9,?_⟩;try simp
theorem gU(g:AE)(p a c:Nat)(d:AL)(o:p<Z g.AD)(v:c<Z g.AD)(K:I0 d (Z g.conds)=J):
  Pure ao 146 [AA g,AM ⟨2,p,a,c,0,0,[],d⟩] (.bool (Nx g p a c)):=by
 have L:=Jo d (Z g.conds) K;have w:=Vd p a c d;have c1:¬(p:Int)<0:=by omega
 have G:¬(Z g.AD:Int)<=p:=by omega
 have h:¬Z g.AD<=p:=by omega
 have M:¬(c:Int)<0:=by omega
 have N:¬(Z g.AD:Int)<=c:=by omega
 have A:¬Z g.AD<=c:=by omega
 refine zP func146 152 rfl λwf=>?_;apply yW;simp;refine xS (yS ?_);apply yH;simp;refine li (L) rfl rfl (by simp[xN];try rfl) ?_;simp;apply yH;simp;refine li (w) rfl rfl (by simp[xN];try rfl) ?_;simp;apply yH;simp;apply AP;simp;apply xK;refine xS (yW ?_);simp;apply Bo;refine xS (yW ?_);simp;apply AP;simp;apply yV;simp;apply AP;simp;refine xS (yS ?_);apply yH;simp[c1,G,M,N];apply AP;simp;apply CF;unfold Nx;have P:g.AD.getD p G9=g.AD[p]:=by simp[o]
 have Q:g.AD.getD c G9=g.AD[c]:=by simp[v]
 rw[P,Q];generalize B:g.AD[p]=q;generalize C:g.AD[c]=u;have R:=AF.eq_1 q;have i:=AF.eq_1 u;(repeat apply xS);apply yV;simp[o,B,R];by_cases j:a<Z q.right
 .generalize E:q.right[a]=s;have k:=AH.eq_1 s;have m:(a:Int)<Z q.right:=by omega
  have F:q.right.getD a ⟨J,0⟩=s:=by simp[j,E]
  rw[F];cases H:s.token with
  |true=>
   (repeat apply xS);refine yE (A7 36 []) (by kernel_rfl) ?_;simp;apply yZ;simp[j,m,E,k,H];refine Aj ⟨_,_,a9,?_⟩;try simp
  |false=>
   (repeat apply xS);refine yE (A7 36 []) (by kernel_rfl) ?_;simp;apply yZ;simp[j,m,E,k,H,v,C,i];refine Aj ⟨_,_,a9,?_⟩;(try simp);rw[gI];simp
 .have m:¬(a:Int)<Z q.right:=by omega
  have F:q.right.getD a ⟨J,0⟩=⟨J,0⟩:=by simp[j]
  rw[F];(repeat apply xS);refine yE (A7 36 []) (by kernel_rfl) ?_;simp;apply yZ;simp[m];refine Aj ⟨_,_,a9,?_⟩;try simp
theorem ie(g:AE)(l t:Nat)(d:AL)(j:l<Z g.A0)(k:t<Z g.AT)(m:I0 d (Z g.conds)=J):
  Pure ao 146 [AA g,AM ⟨3,0,0,0,l,0,[(t:Int)],d⟩] (.bool (!(bC g.AT[t] ap))):=by
 have o:=Jo d (Z g.conds) m;have h:=W8 l t d;have i:=Ol g t ap k;have c1:(0:Int)<=l:=by omega
 have q:(l:Int)<Z g.A0:=by omega
 refine zP func146 152 rfl λwf=>?_;apply yW;simp;refine xS (yS ?_);apply yH;simp;refine li (o) rfl rfl (by simp[xN];try rfl) ?_;simp;apply yH;simp;refine li (h) rfl rfl (by simp[xN];try rfl) ?_;simp;apply yH;simp;apply AP;simp;apply xK;refine xS (yW ?_);simp;apply Bo;refine xS (yW ?_);simp;apply AP;simp;apply yV;simp;apply AP;simp;refine xS (yW ?_);simp;apply AP;simp;apply xK;apply AP;simp;(repeat apply xS);apply yT;apply yH;simp[c1,q];refine li (i) rfl rfl (by simp[xN];try rfl) ?_;simp;apply yH;simp;refine Aj ⟨_,_,a9,?_⟩;try simp
theorem fT(g:AE)(l t:Nat)(d:AL)(j:l<Z g.A0)(k:t<Z g.AT)(m:I0 d (Z g.conds)=J):
  Pure ao 146 [AA g,AM ⟨4,0,0,0,l,0,[(t:Int)],d⟩] (.bool (!(bC g.AT[t] ap))):=by
 have o:=Jo d (Z g.conds) m;have h:=Vz l t d;have i:=Ol g t ap k;have c1:(0:Int)<=l:=by omega
 have q:(l:Int)<Z g.A0:=by omega
 refine zP func146 152 rfl λwf=>?_;apply yW;simp;refine xS (yS ?_);apply yH;simp;refine li (o) rfl rfl (by simp[xN];try rfl) ?_;simp;apply yH;simp;refine li (h) rfl rfl (by simp[xN];try rfl) ?_;simp;apply yH;simp;apply AP;simp;apply xK;refine xS (yW ?_);simp;apply Bo;refine xS (yW ?_);simp;apply AP;simp;apply yV;simp;apply AP;simp;refine xS (yW ?_);simp;apply AP;simp;apply yV;simp;apply AP;simp;(repeat apply xS);apply yT;apply yH;simp[c1,q];refine li (i) rfl rfl (by simp[xN];try rfl) ?_;simp;apply yH;simp;refine Aj ⟨_,_,a9,?_⟩;try simp
theorem fp(g:AE)(t:Nat)(d:AL)(w:t<Z g.AT)(A:I0 d (Z g.conds)=J):
  ∃b,Pure ao 146 [AA g,AM ⟨5,0,0,0,0,0,[(t:Int)],d⟩] (.bool b):=by
 have o:=Jo d (Z g.conds) A;have k:=VZ t d;have j:=Ol g t J w;have h0:0<Z g.AT:=by omega
 have q:¬(Z g.AT:Int)<=0:=by omega
 have u:¬Z g.AT=0:=by omega
 have v:g.AT≠[]:=by intro e;simp[e]at h0
 have C:True:=trivial;cases ha:bC g.AT[t] J with
 |true=>
  rw[ha]at j;refine⟨ap,?_⟩;refine hW func146 (by kernel_rfl) rfl (by simp) λwf=>?_;rw[ntmps146];refine xW λK h=>?_;simp;apply h;refine xS (E5 λK h=>?_);refine xH ?_;simp;refine li (o) rfl rfl (by simp[xN];try rfl) ?_;simp;refine xH ?_;simp;refine li (k) rfl rfl (by simp[xN];try rfl) ?_;simp;refine xH ?_;simp;refine BY (h _ _ ?_);(try simp only[xQ,reduceIte]);refine AP ?_;simp;refine xK ?_;refine xS (xW λK h=>?_);simp;apply h;refine Bo ?_;refine xS (xW λK h=>?_);simp;apply h;refine AP ?_;simp;refine xV λK h=>?_;simp;apply h;refine AP ?_;simp;refine xS (xW λK h=>?_);simp;apply h;refine AP ?_;simp;refine xV λK h=>?_;simp;apply h;refine AP ?_;simp;refine CF ?_;refine xS (E5 λK h=>?_);refine xH ?_;simp[u];refine li (j) rfl rfl (by simp[xN];try rfl) ?_;simp;refine xH ?_;simp;refine BY (h _ _ ?_);(try simp only[xQ,reduceIte]);refine AP ?_;simp;refine xW λK h=>?_;simp;apply h;refine Aj ⟨_,_,a9,?_⟩;try simp
 |false=>
  rw[ha]at j;generalize m:g.AT[0]=tk;have B:=AX.eq_1 tk;refine⟨decide (tk.cls=0)&&decide (tk.literal=⟨#[]⟩),?_⟩;refine hW func146 (by kernel_rfl) rfl (by simp) λwf=>?_;rw[ntmps146];refine xW λK h=>?_;simp;apply h;refine xS (E5 λK h=>?_);refine xH ?_;simp;refine li (o) rfl rfl (by simp[xN];try rfl) ?_;simp;refine xH ?_;simp;refine li (k) rfl rfl (by simp[xN];try rfl) ?_;simp;refine xH ?_;simp;refine BY (h _ _ ?_);(try simp only[xQ,reduceIte]);refine AP ?_;simp;refine xK ?_;refine xS (xW λK h=>?_);simp;apply h;refine Bo ?_;refine xS (xW λK h=>?_);simp;apply h;refine AP ?_;simp;refine xV λK h=>?_;simp;apply h;refine AP ?_;simp;refine xS (xW λK h=>?_);simp;apply h;refine AP ?_;simp;refine xV λK h=>?_;simp;apply h;refine AP ?_;simp;refine CF ?_;refine xS (E5 λK h=>?_);refine xH ?_;simp[u];refine li (j) rfl rfl (by simp[xN];try rfl) ?_;simp;refine xH ?_;simp;refine BY (h _ _ ?_);(try simp only[xQ,reduceIte]);refine AP ?_;simp;refine xK ?_;(repeat refine xS ?_);refine FG λK h=>?_;refine xJ ?_;simp[h0,m,B];refine BY (h _ _ ?_);(try simp only[xQ,reduceIte]);by_cases i:tk.cls=0
  ·(repeat refine xS ?_);refine FG λK h=>?_;refine xH ?_;simp[i];refine BY (h _ _ ?_);(try simp only[xQ,reduceIte]);refine Aj ⟨_,_,a9,?_⟩;(try simp);intro _;exact i
  ·(repeat refine xS ?_);refine FG λK h=>?_;(repeat((first|refine FI rfl ?_ ?_;(·simp[i])|refine Pe rfl ?_ ?_;(·simp[i])|refine Cc ?_ ?_;(·simp[i]));simp));refine BY (h _ _ ?_);(try simp only[B5]);refine Aj ⟨_,_,a9,?_⟩;(try simp);simp[i]
open Go.Proofs DT
def VF:DT->Bool
 |.leaf _=>J
 |.node v l h=>decide (0<=v)&&(decide (v<=63)&&(decide (l≠h)&&(decide (v<l.level)&&(decide (v<h.level)&&(VF l&&VF h)))))
theorem P5:∀{t:DT},VF t=J->t.Good
 |.leaf _,_=>trivial
 |.node v l h,e=>by
  simp[VF]at e;exact⟨e.1,e.2.1,e.2.2.1,e.2.2.2.1,e.2.2.2.2.1,P5 e.2.2.2.2.2.1,P5 e.2.2.2.2.2.2⟩
def tS(l:List Ai):Nat->Int->DT
 |0,_=>.leaf ap
 |f+1,k=>if k<=0 then .leaf ap else if k=1 then .leaf J else match l[(k - 2).toNat]? with
  |none=>.leaf ap
  |some b=>.node b.var (tS l f b.low) (tS l f b.high)
def qX(d:AL):DT:=tS d.nodes 8 d.root
def Vi(d:AL)(n:Nat):Bool:=decide (Ce (qX d)=d)&&(VF (qX d)&&(decide (Z d.nodes<=4096)&&d.nodes.all λb=>decide (b.var<n)))
theorem MN{d:AL}{n:Nat}(h:Vi d n=J):B1 d n=true:=by
 simp[Vi]at h;obtain⟨g,i,o,j⟩:=h;have k:Valid d:=⟨qX d,P5 i,g.symm⟩;have m:F7 d=0:=by unfold F7;rw[bv (by omega),ca k]
 simp[B1,m];intro b hb;have:=j b hb;omega
theorem iO:((i6 256).all λb=>(i6 4).all λn=>Vi (Iv b n) n)=true:=by decide+kernel
theorem Ec{b n:Nat}(hb:b<256)(g:n<4):B1 (Iv b n) n=true:=by
 have h:=iO;simp at h;exact MN (h b hb n g)
theorem gE:((i6 256).all λb=>(i6 4).all λn=>match JQ [(b:Int)] n 8 0 0 with|none=>ap|some d=>Vi d n)=true:=by decide+kernel
theorem Qs{b n:Nat}(hb:b<256)(g:n<4){d:AL}(i:JQ [(b:Int)] n 8 0 0=some d):B1 d n=true:=by
 have h:=gE;simp at h;have:=h b hb n g;rw[i]at this;exact MN this
def zF(g:AE)(l:Level):Prop:=
 Z l.AD<=2/\0<=l.assoc/\l.assoc<=3/\B1 l.cond (Z g.conds)=J/\l.AD.Nodup/\∀p∈l.AD,0<=p/\p<Z g.AD/\Sf g p=ap
def yk(g:AE)(f:Filter):Prop:=∃d,B1 d (Z g.conds)=J/\((∃A C B:Nat,∃k:Int,(k=1\/k=2)/\A<Z g.AD/\B<Z g.AD/\Nx g A C B=J/\f=⟨k,A,C,B,0,0,[],d⟩)\/(∃l t:Nat,∃k:Int,(k=3\/k=4)/\l<Z g.A0/\t<9/\f=⟨k,0,0,0,l,0,[(t:Int)],d⟩)\/f=⟨5,0,0,0,0,0,[5],d⟩)
def zN(g:AE)(t:List Token):Prop:=∃(e:Nat) (d:AL),B1 d (Z g.conds)=J/\∃h:e<Z g.AT,t=g.AT.set e {g.AT[e]with cond:=d}
def TW:Symbol:=⟨ap,0⟩
def TE(l:Int)(r:List Symbol):Bool:=decide (Z r=3)&&((r.getD 0 TW).token&&(r.getD 2 TW).token&&!(r.getD 1 TW).token&&decide ((r.getD 1 TW).index=l))
theorem W6(nm:ByteArray)(l:Int)(r:List Symbol)(c:AL)(b:Bool):Pure ao 216 [AF ⟨nm,l,r,c,b,0,[],Ay⟩] (.bool (TE l r)):=by
 have v:Ay=⟨ap,0,0,0,0⟩:=rfl;have j:CT [D.bool ap,br .i64 0,br .i64 0,br .i64 0,br .i64 0] [D.bool ap,br .i64 0,br .i64 0,br .i64 0,br .i64 0]=true:=rfl;by_cases h:Z r=3
 .obtain⟨x,y,z,rfl⟩:∃x y z,r=[x,y,z]:=by
   match r,h with
   |[x,y,z],_=>exact⟨x,y,z,rfl⟩
  have hb:TE l [x,y,z]=(x.token&&z.token&&!y.token&&decide (y.index=l)):=by simp[TE]
  rw[hb];have k:=AH.eq_1 x;have q:=AH.eq_1 y;have o:=AH.eq_1 z;refine zP func216 54 rfl λwf=>?_;apply yW;simp;refine xS (yS ?_);apply yH;simp[v,j];apply AP;simp;apply CF;cases m:x.token with
  |false=>
   (repeat apply xS);refine yE (A7 31 []) (by kernel_rfl) ?_;simp;apply yZ;simp[k,m];apply zT;try simp
  |true=>
   cases i:z.token with
   |false=>
    (repeat apply xS);refine yE (A7 31 []) (by kernel_rfl) ?_;simp;apply yZ;simp[k,o,m,i];apply zT;try simp
   |true=>
    cases u:y.token with
    |true=>
     (repeat apply xS);refine yE (A7 31 []) (by kernel_rfl) ?_;simp;apply yZ;simp[k,q,o,m,u,i];apply zT;try simp
    |false=>
     (repeat apply xS);refine yE (A7 31 []) (by kernel_rfl) ?_;simp;apply yZ;simp[k,q,o,m,u,i];apply zT;(try simp);rw[gI];simp
 .have hb:TE l r=false:=by simp[TE,h]
  rw[hb];have g:¬(Z r:Int)=3:=by omega
  refine zP func216 54 rfl λwf=>?_;apply yW;simp;refine xS (yS ?_);(repeat((first|refine FI rfl ?_ ?_;(·simp[g])|refine Pe rfl ?_ ?_;(·simp[h,g])|refine Cc ?_ ?_;(·simp[g]));simp));apply BY;apply AP;simp[g];apply yW;simp;refine Aj ⟨_,_,a9,?_⟩;try simp
def pl(nm:ByteArray)(l:Int)(r:List Symbol)(c:AL):AO:=⟨nm,l,r,c,ap,0,[],Ay⟩
theorem T7(nm:ByteArray)(l:Int)(c:AL)(m:Nat):Pure ao 144 [AF (pl nm l [] c),.int .u8 m] (AF (pl nm l [] c)):=by
 refine zP func144 94 rfl λwf=>?_;unfold pl;apply yW;simp;apply yW;simp;refine xS (yW ?_);simp;apply AP;simp;apply yW;simp;refine Aj ⟨_,_,a9,?_⟩;try simp
abbrev GT:=@Int.tdiv_eq_ediv_of_nonneg
theorem XK(nm:ByteArray)(l:Int)(r:List Symbol)(c:AL)(k:Nat)(w:8 * k+0<256)(h0:0<Z r)(A:Z r<=4):Pure ao 144 [AF (pl nm l r c),.int .u8 (8 * k+0:Nat)] (AF (pl nm l r c)):=by
 have B:Ay=⟨ap,0,0,0,0⟩:=rfl;have g:¬Z r=0:=by omega
 have h:r≠[]:=by intro e;simp[e]at h0
 obtain⟨m,i⟩:=ce (8 * k+0);rw[i];have j:((m:Int).tmod 8)=0:=by rw[ge (by omega)];omega
 have o:((m:Int).tdiv 8)=k:=by rw[GT (by omega)];omega
 have q:(m:Int) / 8=k:=by omega
 have u:(m:Int) % 8=0:=by omega
 have w1:b8 .u8 (k:Int)=k:=by simp[pn,pm,pi];omega
 have v:b8 .i64 (k:Int)=k:=by rw[c8];omega
 refine zP func144 94 rfl λwf=>?_;unfold pl;apply yW;simp;apply yW;simp;refine xS (yW ?_);simp;apply AP;simp[g];apply xK;apply yW;simp[o,w1,v];refine xS (yW ?_);simp[j];apply Bo;apply yW;simp;apply AP;simp;apply yW;simp;apply AP;simp;apply yW;simp;apply AP;simp;apply yW;simp;apply AP;simp;apply yW;simp;apply AP;simp;apply yW;simp;apply AP;simp;apply yW;simp;apply AP;simp;apply CF;apply yW;simp;refine Aj ⟨_,_,a9,?_⟩;try simp
theorem Wp(nm:ByteArray)(l:Int)(r:List Symbol)(c:AL)(k:Nat)(w:8 * k+1<256)(h0:0<Z r)(A:Z r<=4):Pure ao 144 [AF (pl nm l r c),.int .u8 (8 * k+1:Nat)] (AF {pl nm l r c with EB:=1}):=by
 have B:Ay=⟨ap,0,0,0,0⟩:=rfl;have g:¬Z r=0:=by omega
 have h:r≠[]:=by intro e;simp[e]at h0
 obtain⟨m,i⟩:=ce (8 * k+1);rw[i];have j:((m:Int).tmod 8)=1:=by rw[ge (by omega)];omega
 have o:((m:Int).tdiv 8)=k:=by rw[GT (by omega)];omega
 have q:(m:Int) / 8=k:=by omega
 have u:(m:Int) % 8=1:=by omega
 have w1:b8 .u8 (k:Int)=k:=by simp[pn,pm,pi];omega
 have v:b8 .i64 (k:Int)=k:=by rw[c8];omega
 refine zP func144 94 rfl λwf=>?_;unfold pl;apply yW;simp;apply yW;simp;refine xS (yW ?_);simp;apply AP;simp[g];apply xK;apply yW;simp[o,w1,v];refine xS (yW ?_);simp[j];apply Bo;apply yW;simp;apply AP;simp;apply yV;simp;apply yW;simp;refine Aj ⟨_,_,a9,?_⟩;simp[AF,Ay]
theorem VR(nm:ByteArray)(l:Int)(r:List Symbol)(c:AL)(k:Nat)(w:8 * k+2<256)(h0:0<Z r)(A:Z r<=4):Pure ao 144 [AF (pl nm l r c),.int .u8 (8 * k+2:Nat)] (AF {pl nm l r c with EB:=-1}):=by
 have B:Ay=⟨ap,0,0,0,0⟩:=rfl;have g:¬Z r=0:=by omega
 have h:r≠[]:=by intro e;simp[e]at h0
 obtain⟨m,i⟩:=ce (8 * k+2);rw[i];have j:((m:Int).tmod 8)=2:=by rw[ge (by omega)];omega
 have o:((m:Int).tdiv 8)=k:=by rw[GT (by omega)];omega
 have q:(m:Int) / 8=k:=by omega
 have u:(m:Int) % 8=2:=by omega
 have w1:b8 .u8 (k:Int)=k:=by simp[pn,pm,pi];omega
 have v:b8 .i64 (k:Int)=k:=by rw[c8];omega
 refine zP func144 94 rfl λwf=>?_;unfold pl;apply yW;simp;apply yW;simp;refine xS (yW ?_);simp;apply AP;simp[g];apply xK;apply yW;simp[o,w1,v];refine xS (yW ?_);simp[j];apply Bo;apply yW;simp;apply AP;simp;apply yW;simp;apply AP;simp;apply yV;simp;apply yW;simp;refine Aj ⟨_,_,a9,?_⟩;simp[AF,Ay]
theorem WG(nm:ByteArray)(l:Int)(r:List Symbol)(c:AL)(k:Nat)(A:8 * k+3<256)(h0:0<Z r)(B:Z r<=4):Pure ao 144 [AF (pl nm l r c),.int .u8 (8 * k+3:Nat)] (AF {pl nm l r c with bracket:=TE l r}):=by
 have g:Ay=⟨ap,0,0,0,0⟩:=rfl;have h:¬Z r=0:=by omega
 have i:r≠[]:=by intro e;simp[e]at h0
 obtain⟨m,j⟩:=ce (8 * k+3);rw[j];have o:((m:Int).tmod 8)=3:=by rw[ge (by omega)];omega
 have q:((m:Int).tdiv 8)=k:=by rw[GT (by omega)];omega
 have u:(m:Int) / 8=k:=by omega
 have v:(m:Int) % 8=3:=by omega
 have w1:b8 .u8 (k:Int)=k:=by simp[pn,pm,pi];omega
 have w:b8 .i64 (k:Int)=k:=by rw[c8];omega
 have hb:=W6 nm l r c J;rw[g]at hb;refine zP func144 94 rfl λwf=>?_;unfold pl;apply yW;simp;apply yW;simp;refine xS (yW ?_);simp;apply AP;simp[h];apply xK;apply yW;simp[q,w1,w];refine xS (yW ?_);simp[o];apply Bo;apply yW;simp;apply AP;simp;apply yW;simp;apply AP;simp;apply yW;simp;apply AP;simp;apply yW;simp[g];apply yT;apply yJ;simp;refine Bq (hb) rfl (by simp[xN]) (yJ ?_);simp;apply yW;simp;refine Aj ⟨_,_,a9,?_⟩;simp[AF,Ay]
theorem W9(nm:ByteArray)(l:Int)(r:List Symbol)(c:AL)(k:Nat)(U:8 * k+4<256)(h0:0<Z r)(W:Z r<=4):Pure ao 144 [AF (pl nm l r c),.int .u8 (8 * k+4:Nat)] (AF {pl nm l r c with layout:=[⟨1+(k % 4:Nat),(k / 4 % Z r:Nat),if k % 4=0 then 0 else(Z r:Int) - 1⟩]}):=by
 have X:Ay=⟨ap,0,0,0,0⟩:=rfl;have i:¬Z r=0:=by omega
 have E:r≠[]:=by intro e;simp[e]at h0
 obtain⟨m,L⟩:=ce (8 * k+4);rw[L];have M:((m:Int).tmod 8)=4:=by rw[ge (by omega)];omega
 have N:((m:Int).tdiv 8)=k:=by rw[GT (by omega)];omega
 have P:(m:Int) / 8=k:=by omega
 have Q:(m:Int) % 8=4:=by omega
 have w1:b8 .u8 (k:Int)=k:=by simp[pn,pm,pi];omega
 have R:b8 .i64 (k:Int)=k:=by rw[c8];omega
 obtain⟨n,A⟩:=ce (Z r);obtain⟨j,hj⟩:=ce (k % 4);obtain⟨d,S⟩:=ce (k / 4);obtain⟨e,B⟩:=ce (d % n);have T:e<n:=by rw[<-B];exact i7 _ (by omega)
 have C:((k:Int).tmod 4)=j:=by rw[ge (by omega)];omega
 have h:(k:Int) % 4=j:=by omega
 have F:b8 .i64 ((1:Int)+j)=1+j:=by rw[c8];omega
 have G:((k:Int).tdiv 4)=d:=by rw[GT (by omega)];omega
 have o:(k:Int) / 4=d:=by omega
 have q:b8 .i64 (d:Int)=d:=by rw[c8];omega
 have H:((d:Int).tmod n)=e:=by rw[ge (by omega),<-B];simp
 have K:b8 .i64 ((n:Int) - 1)=(n:Int) - 1:=by rw[c8];omega
 have u:¬n=0:=by omega
 have w:1<=maxLen:=by unfold maxLen;omega
 rw[hj,S,A,B];refine zP func144 94 rfl λwf=>?_;unfold pl;apply yW;simp;apply yW;simp;refine xS (yW ?_);simp;apply AP;simp[i];apply xK;apply yW;simp[N,w1,R];refine xS (yW ?_);simp[M];apply Bo;apply yW;simp;apply AP;simp;apply yW;simp;apply AP;simp;apply yW;simp;apply AP;simp;apply yW;simp;apply AP;simp;apply yS;(iterate 10 (refine Cc (by simp[u]) ?_;simp[A,C,F,G,q,H,K]));((refine AS.J7 rfl ?_ ?_);(focus(simp[F2,maxLen];done));simp);apply yJ;simp;(repeat apply xS);apply yV;simp[C];by_cases g:j=0
 .apply AP;simp[g];apply yV;simp;apply yW;simp;apply Aj;refine⟨_,_,gl 2 (xs:=[BC ⟨1+j,e,0⟩]) rfl (by simp[BC,Df,DL,B4,g]),?_⟩;simp[BO,AF,BC,Ay,g]
 .have v:¬(j:Int)=0:=by omega
  apply AP;simp[g];apply CF;apply yW;simp;apply Aj;refine⟨_,_,gl 2 (xs:=[BC ⟨1+j,e,n - 1⟩]) rfl (by simp[BC,Df,DL,B4]),?_⟩;simp[BO,AF,BC,Ay]
theorem WX(nm:ByteArray)(l:Int)(r:List Symbol)(c:AL)(k:Nat)(w:8 * k+5<256)(h0:0<Z r)(A:Z r<=4):Pure ao 144 [AF (pl nm l r c),.int .u8 (8 * k+5:Nat)] (AF {pl nm l r c with scope:=⟨J,0,0,0,0⟩}):=by
 have B:Ay=⟨ap,0,0,0,0⟩:=rfl;have g:¬Z r=0:=by omega
 have h:r≠[]:=by intro e;simp[e]at h0
 obtain⟨m,i⟩:=ce (8 * k+5);rw[i];have j:((m:Int).tmod 8)=5:=by rw[ge (by omega)];omega
 have o:((m:Int).tdiv 8)=k:=by rw[GT (by omega)];omega
 have q:(m:Int) / 8=k:=by omega
 have u:(m:Int) % 8=5:=by omega
 have w1:b8 .u8 (k:Int)=k:=by simp[pn,pm,pi];omega
 have v:b8 .i64 (k:Int)=k:=by rw[c8];omega
 refine zP func144 94 rfl λwf=>?_;unfold pl;apply yW;simp;apply yW;simp;refine xS (yW ?_);simp;apply AP;simp[g];apply xK;apply yW;simp[o,w1,v];refine xS (yW ?_);simp[j];apply Bo;apply yW;simp;apply AP;simp;apply yW;simp;apply AP;simp;apply yW;simp;apply AP;simp;apply yW;simp;apply AP;simp;apply yW;simp;apply AP;simp;apply yV;simp;apply yW;simp;refine Aj ⟨_,_,a9,?_⟩;simp[AF,Ay]
theorem Tw(nm:ByteArray)(l:Int)(r:List Symbol)(c:AL)(k:Nat)(T:8 * k+6<256)(h0:0<Z r)(E:Z r<=4)(h:(r.getD (k % Z r) TW).token=J):Pure ao 144 [AF (pl nm l r c),.int .u8 (8 * k+6:Nat)] (AF {pl nm l r c with scope:=⟨ap,(k % Z r:Nat)+1,1+(k % 2:Nat),0,0⟩}):=by
 have U:Ay=⟨ap,0,0,0,0⟩:=rfl;have g:¬Z r=0:=by omega
 have B:r≠[]:=by intro e;simp[e]at h0
 obtain⟨m,F⟩:=ce (8 * k+6);rw[F];have G:((m:Int).tmod 8)=6:=by rw[ge (by omega)];omega
 have H:((m:Int).tdiv 8)=k:=by rw[GT (by omega)];omega
 have K:(m:Int) / 8=k:=by omega
 have L:(m:Int) % 8=6:=by omega
 have w1:b8 .u8 (k:Int)=k:=by simp[pn,pm,pi];omega
 have M:b8 .i64 (k:Int)=k:=by rw[c8];omega
 obtain⟨n,i⟩:=ce (Z r);rw[i]at h g E h0⊢;obtain⟨e,q⟩:=ce (k % n);obtain⟨j,hj⟩:=ce (k % 2);rw[q]at h⊢;rw[hj];have u:e<n:=by rw[<-q];exact i7 _ (by omega)
 have v:e<Z r:=by omega
 have N:r.getD e TW=r[e]:=by simp[v]
 rw[N]at h;generalize P:r[e]=s at *;have w:=AH.eq_1 s;have C:((k:Int).tmod n)=e:=by rw[ge (by omega),<-q];simp
 have Q:b8 .i64 ((e:Int)+1)=(e:Int)+1:=by rw[c8];omega
 have R:((k:Int).tmod 2)=j:=by rw[ge (by omega)];omega
 have A:(k:Int) % 2=j:=by omega
 have S:b8 .i64 ((1:Int)+j)=1+j:=by rw[c8];omega
 have o:¬n=0:=by omega
 refine zP func144 94 rfl λwf=>?_;unfold pl;apply yW;simp;apply yW;simp;refine xS (yW ?_);simp[i];apply AP;simp[g];apply xK;apply yW;simp[H,w1,M];refine xS (yW ?_);simp[G];apply Bo;apply yW;simp;apply AP;simp;apply yW;simp;apply AP;simp;apply yW;simp;apply AP;simp;apply yW;simp;apply AP;simp;apply yW;simp;apply AP;simp;apply yW;simp;apply AP;simp;refine yD (A7 8 []) (by kernel_rfl) ?_;simp;apply yA 0;simp[i,C,o,u,P,w,h];apply AP;simp;apply yV;simp[C,Q,R,S,o];apply yW;simp;refine Aj ⟨_,_,a9,?_⟩;simp[AF,Ay]
theorem U9(nm:ByteArray)(l:Int)(r:List Symbol)(c:AL)(k:Nat)(Q:8 * k+6<256)(h0:0<Z r)(B:Z r<=4)(h:(r.getD (k % Z r) TW).token=ap):Pure ao 144 [AF (pl nm l r c),.int .u8 (8 * k+6:Nat)] (AF (pl nm l r c)):=by
 have R:Ay=⟨ap,0,0,0,0⟩:=rfl;have g:¬Z r=0:=by omega
 have A:r≠[]:=by intro e;simp[e]at h0
 obtain⟨m,C⟩:=ce (8 * k+6);rw[C];have E:((m:Int).tmod 8)=6:=by rw[ge (by omega)];omega
 have F:((m:Int).tdiv 8)=k:=by rw[GT (by omega)];omega
 have G:(m:Int) / 8=k:=by omega
 have H:(m:Int) % 8=6:=by omega
 have w1:b8 .u8 (k:Int)=k:=by simp[pn,pm,pi];omega
 have K:b8 .i64 (k:Int)=k:=by rw[c8];omega
 obtain⟨n,i⟩:=ce (Z r);rw[i]at h g B h0;obtain⟨e,o⟩:=ce (k % n);obtain⟨j,hj⟩:=ce (k % 2);rw[o]at h;have q:e<n:=by rw[<-o];exact i7 _ (by omega)
 have u:e<Z r:=by omega
 have L:r.getD e TW=r[e]:=by simp[u]
 rw[L]at h;generalize M:r[e]=s at *;have v:=AH.eq_1 s;have N:((k:Int).tmod n)=e:=by rw[ge (by omega),<-o];simp
 have S:b8 .i64 ((e:Int)+1)=(e:Int)+1:=by rw[c8];omega
 have T:((k:Int).tmod 2)=j:=by rw[ge (by omega)];omega
 have P:(k:Int) % 2=j:=by omega
 have U:b8 .i64 ((1:Int)+j)=1+j:=by rw[c8];omega
 have w:¬n=0:=by omega
 refine zP func144 94 rfl λwf=>?_;unfold pl;apply yW;simp;apply yW;simp;refine xS (yW ?_);simp[i];apply AP;simp[g];apply xK;apply yW;simp[F,w1,K];refine xS (yW ?_);simp[E];apply Bo;apply yW;simp;apply AP;simp;apply yW;simp;apply AP;simp;apply yW;simp;apply AP;simp;apply yW;simp;apply AP;simp;apply yW;simp;apply AP;simp;apply yW;simp;apply AP;simp;refine yD (A7 8 []) (by kernel_rfl) ?_;simp;apply yA 0;simp[i,N,w,q,M,v,h];apply AP;simp;apply CF;apply yW;simp;refine Aj ⟨_,_,a9,?_⟩;try simp
theorem Ty(nm:ByteArray)(l:Int)(r:List Symbol)(c:AL)(k:Nat)(T:8 * k+7<256)(h0:0<Z r)(E:Z r<=4)(h:(r.getD (k % Z r) TW).token=J):Pure ao 144 [AF (pl nm l r c),.int .u8 (8 * k+7:Nat)] (AF {pl nm l r c with scope:=⟨ap,0,0,(k % Z r:Nat)+1,1+(k % 7:Nat)⟩}):=by
 have U:Ay=⟨ap,0,0,0,0⟩:=rfl;have g:¬Z r=0:=by omega
 have B:r≠[]:=by intro e;simp[e]at h0
 obtain⟨m,F⟩:=ce (8 * k+7);rw[F];have G:((m:Int).tmod 8)=7:=by rw[ge (by omega)];omega
 have H:((m:Int).tdiv 8)=k:=by rw[GT (by omega)];omega
 have K:(m:Int) / 8=k:=by omega
 have L:(m:Int) % 8=7:=by omega
 have w1:b8 .u8 (k:Int)=k:=by simp[pn,pm,pi];omega
 have M:b8 .i64 (k:Int)=k:=by rw[c8];omega
 obtain⟨n,i⟩:=ce (Z r);rw[i]at h g E h0⊢;obtain⟨e,q⟩:=ce (k % n);obtain⟨j,hj⟩:=ce (k % 7);rw[q]at h⊢;rw[hj];have u:e<n:=by rw[<-q];exact i7 _ (by omega)
 have v:e<Z r:=by omega
 have N:r.getD e TW=r[e]:=by simp[v]
 rw[N]at h;generalize P:r[e]=s at *;have w:=AH.eq_1 s;have C:((k:Int).tmod n)=e:=by rw[ge (by omega),<-q];simp
 have Q:b8 .i64 ((e:Int)+1)=(e:Int)+1:=by rw[c8];omega
 have R:((k:Int).tmod 7)=j:=by rw[ge (by omega)];omega
 have A:(k:Int) % 7=j:=by omega
 have S:b8 .i64 ((1:Int)+j)=1+j:=by rw[c8];omega
 have o:¬n=0:=by omega
 refine zP func144 94 rfl λwf=>?_;unfold pl;apply yW;simp;apply yW;simp;refine xS (yW ?_);simp[i];apply AP;simp[g];apply xK;apply yW;simp[H,w1,M];refine xS (yW ?_);simp[G];apply Bo;apply yW;simp;apply AP;simp;apply yW;simp;apply AP;simp;apply yW;simp;apply AP;simp;apply yW;simp;apply AP;simp;apply yW;simp;apply AP;simp;apply yW;simp;apply AP;simp;apply yW;simp;apply AP;simp;refine yD (A7 8 []) (by kernel_rfl) ?_;simp;apply yA 0;simp[i,C,o,u,P,w,h];apply AP;simp;apply yV;simp[C,Q,R,S,o];apply yW;simp;refine Aj ⟨_,_,a9,?_⟩;simp[AF,Ay]
theorem UM(nm:ByteArray)(l:Int)(r:List Symbol)(c:AL)(k:Nat)(Q:8 * k+7<256)(h0:0<Z r)(B:Z r<=4)(h:(r.getD (k % Z r) TW).token=ap):Pure ao 144 [AF (pl nm l r c),.int .u8 (8 * k+7:Nat)] (AF (pl nm l r c)):=by
 have R:Ay=⟨ap,0,0,0,0⟩:=rfl;have g:¬Z r=0:=by omega
 have A:r≠[]:=by intro e;simp[e]at h0
 obtain⟨m,C⟩:=ce (8 * k+7);rw[C];have E:((m:Int).tmod 8)=7:=by rw[ge (by omega)];omega
 have F:((m:Int).tdiv 8)=k:=by rw[GT (by omega)];omega
 have G:(m:Int) / 8=k:=by omega
 have H:(m:Int) % 8=7:=by omega
 have w1:b8 .u8 (k:Int)=k:=by simp[pn,pm,pi];omega
 have K:b8 .i64 (k:Int)=k:=by rw[c8];omega
 obtain⟨n,i⟩:=ce (Z r);rw[i]at h g B h0;obtain⟨e,o⟩:=ce (k % n);obtain⟨j,hj⟩:=ce (k % 7);rw[o]at h;have q:e<n:=by rw[<-o];exact i7 _ (by omega)
 have u:e<Z r:=by omega
 have L:r.getD e TW=r[e]:=by simp[u]
 rw[L]at h;generalize M:r[e]=s at *;have v:=AH.eq_1 s;have N:((k:Int).tmod n)=e:=by rw[ge (by omega),<-o];simp
 have S:b8 .i64 ((e:Int)+1)=(e:Int)+1:=by rw[c8];omega
 have T:((k:Int).tmod 7)=j:=by rw[ge (by omega)];omega
 have P:(k:Int) % 7=j:=by omega
 have U:b8 .i64 ((1:Int)+j)=1+j:=by rw[c8];omega
 have w:¬n=0:=by omega
 refine zP func144 94 rfl λwf=>?_;unfold pl;apply yW;simp;apply yW;simp;refine xS (yW ?_);simp[i];apply AP;simp[g];apply xK;apply yW;simp[F,w1,K];refine xS (yW ?_);simp[E];apply Bo;apply yW;simp;apply AP;simp;apply yW;simp;apply AP;simp;apply yW;simp;apply AP;simp;apply yW;simp;apply AP;simp;apply yW;simp;apply AP;simp;apply yW;simp;apply AP;simp;apply yW;simp;apply AP;simp;refine yD (A7 8 []) (by kernel_rfl) ?_;simp;apply yA 0;simp[i,N,w,q,M,v,h];apply AP;simp;apply CF;apply yW;simp;refine Aj ⟨_,_,a9,?_⟩;try simp
open Go.Proofs
section
variable {P:Program} {n b:Nat} {ops:Array Oper} {o:Oper} {tm:Tm} {S:Sg} {K:Tm->Sg->Prop}
def JI(i:Int):ByteArray:=ByteArray.empty.push (UInt8.ofNat i.toNat)
theorem Hm(i:Int):(JI i).size=1:=by simp[JI,ByteArray.size_push]
theorem Ng{T U E:TypeId}{x:Operand}{i:Int}{t e:TI}(L:o.op=.convert T U x)(M:need (ev tm x))(N:strip (ev tm x)=.full [.int .u8 i])
  (Q:ti P T=some t) (R:P.underlying U=some .string) (W:ti P E=some e) (X:t.kind=.slice E) (Y:e.kind=.int .u8):CR P n o tm S (.d (.str (JI i))) S:=.pure λG w a st=>by
 have h:=(BS st x).strip M;rw[N]at h;obtain⟨d,hd,k⟩:=An Q w;have m:(underlying U).run P w=.ok .string w:=by simp[underlying,R]
 obtain⟨d3,q,g⟩:=An W w;have:d=.slice E:=by rw[X]at k;cases d<;>simp[tk]at k⊢;exact k
 subst this;have:d3=.int .u8:=by rw[Y]at g;cases d3<;>simp[tk]at g⊢;exact g
 subst this;generalize hB:a.eval x=B at h;cases h with
 |full _ base hc=>
  cases hc with
  |sl sz _ b off cap F hI hl hcp g1 g2=>
   have v:=g1 0 (by simp);simp at v;have H:F 0=.int .u8 i:=by generalize F 0=u at v;cases v;rfl
   obtain⟨r1,r2⟩:=g2 0 (by simp);have zp:sz=1:=by rw[<-r1,H];rfl
   have A:(loadCells ⟨b,off,none⟩ 1).run P w=.ok #[.int .u8 i] w:=run_loadCells _ rfl λj hj=>by
    have:=r2 j (by omega);rw[H,show(Value.int IntKind.u8 i).cells=#[.int .u8 i]from rfl]at this;have C:j=0:=by omega
    subst C;simpa using this
   refine⟨.string (JI i),?_,.d _ _ (.str _ (by rw[Hm];unfold maxLen;omega))⟩;simp[execOp,L,convert,hB,hd,m,q,Conv.bytesToString];simp[A,JI]
theorem AS.T3{rest:List Oper}{T U:TypeId}{x:Operand}(E:TypeId)(i:Int)(g:o.op=.convert T U x)(h:o.guard=none/\A6 n o.dst/\need (ev tm x)/\strip (ev tm x)=.full [.int .u8 i]/\Al P T=some E/\intKind P E=some .u8)
  (j:P.underlying U=some .string) (k:AS P n b ops rest (put tm o.dst (.d (.str (JI i)))) S K):AS P n b ops (o::rest) tm S K:=by
 obtain⟨m,q,u,v,w,A⟩:=h;obtain⟨t,t1,t2⟩:=A4 w;obtain⟨e,B,C⟩:=Il A;exact AS.ZG ⟨m,q⟩ (Ng g u v t1 j B t2 C) k
theorem Ab.T3{B:List (Nat×(Sg->Prop))}{k:Nat}{rest:List (Nat×Bool×Oper)}{T U:TypeId}{x:Operand}(E:TypeId)(i:Int)(h:o.op=.convert T U x)(m:o.guard=none/\A6 n o.dst/\need (ev tm x)/\strip (ev tm x)=.full [.int .u8 i]/\Al P T=some E/\intKind P E=some .u8)
  (q:P.underlying U=some .string) (u:Ab P n b ops ((k,λ_=>True)::B) rest (put tm o.dst (.d (.str (JI i)))) S K):Ab P n b ops B ((k,J,o)::rest) tm S K:=by
 obtain⟨v,w,A,C,F,G⟩:=m;obtain⟨t,t1,t2⟩:=A4 F;obtain⟨e,H,L⟩:=Il G;refine q7 (λ_=>True) trivial (λhi N _=>λg M=>?_) u;have j:ev g x=ev tm x:=Hj M x (by rw[h];simp[Op.operands]);exact Do hi w v (Ng h (by rw[j];exact A) (by rw[j];exact C) t1 q H t2 L)
theorem Ab.qM{B:List (Nat×(Sg->Prop))}{i:Nat}{rest:List (Nat×Bool×Oper)}{c:Call}{f:FuncId}{args:List V}{v:V}(h:AG P f args [] v [])(g:o.op=.call c)
  (j:o.guard=none/\A6 n o.dst/\BB tm c/\FP tm c f args/\args.all (AJ 0)=J/\AJ 0 v=J) (k:Ab P n b ops ((i,λ_=>True)::B) rest (put tm o.dst v) S K):Ab P n b ops B ((i,J,o)::rest) tm S K:=by
 obtain⟨m,q,u,w,A,C⟩:=j;exact q7 (λ_=>True) trivial (λhi E _=>E2 hi g m q (FW w) u (h.Ry C A)) k
end
def Ue(n:ByteArray)(l:Int):V:=.agg [.d (.str n),.d (.int .i64 l),.full [],.d (.sl []),.d (.int .i64 1),.d (.bool ap),.d (.int .i64 0),.full [],.d (.bool ap),.d (.int .i64 0),.d (.int .i64 0),.d (.int .i64 0),.d (.int .i64 0)]
theorem dv(n:ByteArray)(l:Int):AG ao 45 [.d (.str n),.d (.int .i64 l),.full []] [] (Ue n l) [.row J 13 [Ue n l]]:=by
 have g:=B8 J;simp at g;refine zC func45 12 rfl λwf _=>?_;apply yW;simp;(repeat apply xS);apply yT;apply yJ;simp;refine Bq (g) rfl (by simp) (yJ ?_);simp[AB];apply Aj;refine⟨_,a9,?_⟩;simp[Aq,Ue]
theorem ah(n:ByteArray)(l:Int):AG ao 45 [.d (.str n),.d (.int .i64 l),.full []] [] (Ue n l) []:=
 (dv n l).ghost λtm h0=>⟨_,AI.drop 0 (c9 _) (by simp) (by simp),by simp[clean,h0,Ue,AJ,Au]⟩
structure HY where
 left:Nat
 right:List Nat
 Ew:Nat
 mark:Nat
def Cd(x:HY):D:=.agg [br .u8 (x.left:Nat),D.sl (x.right.map λ(k:Nat)=>br .u8 k),br .u8 (x.Ew:Nat),br .u8 (x.mark:Nat)]
@[simp] theorem iD(x:HY):Ae (.d (Cd x))=[.d (br .u8 (x.left:Nat)),.d (D.sl (x.right.map λ(k:Nat)=>br .u8 k)),.d (br .u8 (x.Ew:Nat)),.d (br .u8 (x.mark:Nat))]:=rfl
@[simp] theorem iK(x:HY):Ap (.d (Cd x))=true:=rfl
@[simp] theorem mg(x:HY):Bp (.d (Cd x))=false:=rfl
@[simp] theorem fZ(x:HY):BE (Cd x)=[br .u8 (x.left:Nat),D.sl (x.right.map λ(k:Nat)=>br .u8 k),br .u8 (x.Ew:Nat),br .u8 (x.mark:Nat)]:=rfl
@[simp] theorem lU(x:HY):CL.oneD (Cd x)=true:=rfl
@[simp] theorem qP(x:HY):DY (Cd x)=Bm [br .u8 (x.left:Nat),D.sl (x.right.map λ(k:Nat)=>br .u8 k),br .u8 (x.Ew:Nat),br .u8 (x.mark:Nat)]:=rfl
@[simp] theorem ki(S:Sg)(x:HY):DS S (.d (Cd x))=some [br .u8 (x.left:Nat),D.sl (x.right.map λ(k:Nat)=>br .u8 k),br .u8 (x.Ew:Nat),br .u8 (x.mark:Nat)]:=rfl
end Go.Koi
