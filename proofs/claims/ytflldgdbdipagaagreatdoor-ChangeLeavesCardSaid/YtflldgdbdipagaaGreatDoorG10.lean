/-
  Part 11 of the proof that the law ChangeLeaves returns true for every input.
-/
import Derived.Test.YtflldgdbdipagaaGreatDoorG09
set_option maxHeartbeats 64000000
set_option maxRecDepth 100000
open List renaming length->Z,take_length_add_append->afc,replicate->ke,range->kv
open Go.IntKind renaming i64->K1,wrap->bv,bits->ae6,signed->ae4,wrap->ae5
open Bool renaming true->J,false->am
open Go.Proofs.Tryz renaming prog->a8
open Go renaming maxLen->ao
open Option renaming some->al,none->br
open Go.Koi.D renaming str->afa
namespace Go.Koi
open Go.Proofs Tryz DT
def bV(g:AD)(x:AR)(h0 h1 h i j k o q s m:V)(t:Bool):V:=.agg [.d (Bv g.conds),.d (AX g.fam.nodes),.d (AF g.fam.root),.d (C7 g.AU),.d (Bv g.Ay),.d (Cd g.AE),.d (AF g.start),.d (Bl g.levels),.d (BR g.AT),.d (AF x.kind),.d (AF x.number),.d (AF x.at_),.d (AF x.to),.d (BG x.name),.d (DB x.value),.d (AX x.cond.nodes),.d (AF x.cond.root),.d (Bl x.levels),.d (BR x.AT),.d (BG x.token.name),.d (AF x.token.cls),.d (BG x.token.literal),.d (Av x.token.pattern),.d (BG x.token.Cy),.d (AX x.token.cond.nodes),.d (AF x.token.cond.root),.d (BG x.prod.name),.d (AF x.prod.left),.d (As x.prod.right),.d (AX x.prod.cond.nodes),.d (AF x.prod.cond.root),.d (DB x.prod.bracket),.d (AF x.prod.EC),.d (CX x.prod.layout),.d (DB x.prod.scope.opens),.d (AF x.prod.scope.declares),.d (AF x.prod.scope.kind),.d (AF x.prod.scope.Fk),.d (AF x.prod.scope.allowed),.d (CF x.Ah),h0,h1,h,i,j,k,o,q,s,m,.d (.bool t)]
def Tz(S:Sg)(r:Nat)(g:AD)(x:AR):Prop:=∃h0 h1 h i j k o q s m t,S[r]?=some (.row J 51 [bV g x h0 h1 h i j k o q s m t])
def CW(g:AD)(x:AR):Bool:=decide (0<=x.number)&&decide (x.number<Z g.AE)
theorem FE{S:Sg}{r:Nat}{g:AD}{x:AR}(hb:Tz S r g x):AH a8 75 [.ptr r 1 0 0] S (.d (.bool (CW g x))) S:=by
 obtain⟨h0,h1,h,i,j,k,o,q,s,m,t,hb⟩:=hb;unfold bV at hb;refine zC func75 23 rfl λwf _=>?_;apply yW;simp;(repeat apply xS);refine yE (A3 21 []) (by kernel_rfl) ?_;simp;apply yA 0;simp[hb];apply Am;refine⟨_,ap,?_⟩;simp[At,CW]
theorem oD(g:AD):Pure a8 73 [AA g] (AF (Z g.Ay)):=by
 refine zP func73 6 rfl λwf=>?_;apply yW;simp;apply yW;simp[AA];apply zT;try simp
theorem YZ(g:AD):Pure a8 77 [AA g] (AF (Z g.conds)):=by
 refine zP func77 6 rfl λwf=>?_;apply yW;simp;apply yW;simp[AA];apply zT;try simp
theorem Ix(S:Sg)(v:V):AH a8 67 [v] S (.d (.bool J)) S:=by
 refine zC func67 3 rfl λwf _=>?_;apply yW;simp;apply yW;simp;apply Am;refine⟨_,ap,?_⟩;simp[At]
def GR:AM:=⟨⟨#[]⟩,0,[],⟨[],0⟩,am,0,[],⟨am,0,0,0,0⟩⟩
def BI(g:AD)(x:AR):AM:=g.AE.getD x.number.toNat GR
theorem KQ{S:Sg}{r:Nat}{g:AD}{x:AR}(hb:Tz S r g x)(q:S.all (Ao (Z S))=J)(s:CW g x=J):AH a8 92 [.ptr r 1 0 0] S (.d (AG (BI g x))) S:=by
 obtain⟨h0,h1,v,w,z,A,B,C,E,m,F,hb⟩:=hb;unfold bV at hb;have t:=Ai hb;have o:∀X,(S++[X])[r]?=_:=λX=>(i5 t).trans hb;simp[CW]at s;obtain⟨j,hj⟩:∃j:Nat,x.number=j:=⟨x.number.toNat,by omega⟩;have i:j<Z g.AE:=by omega
 have u:BI g x=g.AE[j]:=by simp[BI,hj,i]
 rw[u];generalize h:g.AE[j]=p;have k:=AG.eq_1 p;refine zD func92 15 rfl λwf _=>?_;apply yW;simp;(repeat apply xS);refine yE (A3 12 [25]) (by kernel_rfl) ?_;simp;apply yA 0;simp[o,hj,i,h,k];apply xX 4095 (by kernel_rfl);simp;apply xM;apply Am;refine⟨_,_,_,ap,?_,?_,ea (Z S) (by simp) (ci _) (by simp) (by simpa using q)⟩
 .simp
 .simp[k]
def IT(x:AR)(n:Nat):Bool:=decide (0<=x.number)&&decide (x.number<n)
theorem Jz{S:Sg}{r q:Nat}{g:AD}{x:AR}(hb:Tz S r g x){k:FuncId}{n:Nat}(h:S[q]?=some (.row J 1 [.fn (.func k) [] []]))(i:Pure a8 k [AA g] (AF n)):
  AH a8 163 [.ptr r 1 0 0,.ptr q 1 0 0] S (.d (.bool (IT x n))) S:=by
 obtain⟨h0,h1,j,o,s,t,u,v,w,m,z,hb⟩:=hb;unfold bV at hb;refine zC func163 24 rfl λwf _=>?_;apply yW;simp;(repeat apply xS);refine yE (A3 21 []) (by kernel_rfl) ?_;simp;apply yA 0;simp[hb,h];refine Ad.Dr (ds:=[AA g]) rfl rfl (by simp;rfl) (λ_=>i) (by simp[xN]) ?_;simp;apply yA 0;simp;apply Am;refine⟨_,ap,?_⟩;simp[At,IT]
theorem W7{S:Sg}{r:Nat}{g:AD}{x:AR}(hb:Tz S r g x):AH a8 84 [.ptr r 1 0 0] S (.d (.bool (CW g x&&(HL x.cond==0)))) S:=by
 have h:=FE hb;obtain⟨h0,h1,i,j,k,o,q,s,t,m,u,hb⟩:=hb;unfold bV at hb;refine zC func84 14 rfl λwf _=>?_;apply yW;simp;(repeat apply xS);apply yT;apply yJ;simp;refine ms rfl rfl (by simp) (f:=75) (args:=[.ptr r 1 0 0]) (by simp;try rfl) (by simp) h (yJ ?_);simp[hb];refine Fr (ds:=[AB x.cond]) rfl rfl (by simp;rfl) (λ_=>Mc x.cond) (by simp[xN]) (yJ ?_);simp;apply Am;refine⟨_,ap,?_⟩;simp[At]
def Ci(g:AD)(x:AR):Bool:=CW g x&&decide (0<=x.at_)&&(match (BI g x).right[x.at_.toNat]? with|some s=>!s.token|none=>am)
theorem N8{S:Sg}{r:Nat}{g:AD}{x:AR}(hb:Tz S r g x)(w:S.all (Ao (Z S))=J):AH a8 89 [.ptr r 1 0 0] S (.d (.bool (Ci g x))) S:=by
 have s:=FE hb;have k:=KQ hb w;obtain⟨h0,h1,z,A,B,C,E,F,G,m,H,hb⟩:=hb;unfold bV at hb;generalize v:BI g x=o at *;have u:=AG.eq_1 o;refine zC func89 39 rfl λwf _=>?_;(repeat apply xS);apply yV;simp;cases h:CW g x with
 |false=>
  have t:Ci g x=false:=by simp[Ci,h]
  rw[t];(repeat apply xS);refine yE (A3 37 []) (by kernel_rfl) ?_;simp;(iterate 1 (refine H3 (by simp) ?_;simp));refine Ad.Gz (f:=75) (args:=[.ptr r 1 0 0]) s rfl (by simp;try rfl) ?_;simp;(iterate 1 (refine H3 (by simp) ?_;simp));(repeat(refine P4 rfl rfl ?_ ?_;(·simp[h]);simp[h]));(iterate 2 (refine H3 (by simp) ?_;simp));(repeat(refine P4 rfl rfl ?_ ?_;(·simp);simp));(iterate 2 (refine H3 (by simp) ?_;simp));(repeat(refine P4 rfl rfl ?_ ?_;(·simp);simp));apply yA 0;simp;apply Am;refine⟨_,ap,?_⟩;simp[At]
 |true=>
  by_cases q:0<=x.at_
  .obtain⟨j,hj⟩:∃j:Nat,x.at_=j:=⟨x.at_.toNat,by omega⟩;by_cases i:j<Z o.right
   .have t:Ci g x=!o.right[j].token:=by simp[Ci,h,v,hj,i]
    rw[t];(repeat apply xS);refine yE (A3 37 []) (by kernel_rfl) ?_;simp;(iterate 1 (refine H3 (by simp) ?_;simp));refine Ad.Gz (f:=75) (args:=[.ptr r 1 0 0]) s rfl (by simp;try rfl) ?_;simp;(iterate 1 (refine H3 (by simp) ?_;simp));(iterate 14 (refine H3 (by simp[h,hb,hj]) ?_;simp[h,hb,hj]));refine Ad.JU (g:=true) (f:=92) (args:=[.ptr r 1 0 0]) (λ_=>k h) rfl rfl (by simp;try rfl) (by simp) (by simp) ?_;simp;(iterate 6 (refine H3 (by simp[u]) ?_;simp[i,u]));refine Ad.JU (g:=true) (f:=92) (args:=[.ptr r 1 0 0]) (λ_=>k h) rfl rfl (by simp;try rfl) (by simp) (by simp) ?_;simp;apply yA 0;simp[hb,hj,i,u,AI];apply Am;refine⟨_,ap,?_⟩;simp[At]
   .have t:Ci g x=false:=by simp[Ci,h,v,hj,i]
    rw[t];(repeat apply xS);refine yE (A3 37 []) (by kernel_rfl) ?_;simp;(iterate 1 (refine H3 (by simp) ?_;simp));refine Ad.Gz (f:=75) (args:=[.ptr r 1 0 0]) s rfl (by simp;try rfl) ?_;simp;(iterate 1 (refine H3 (by simp) ?_;simp));(iterate 14 (refine H3 (by simp[h,hb,hj]) ?_;simp[h,hb,hj]));refine Ad.JU (g:=true) (f:=92) (args:=[.ptr r 1 0 0]) (λ_=>k h) rfl rfl (by simp;try rfl) (by simp) (by simp) ?_;simp;(iterate 5 (refine H3 (by simp[u]) ?_;simp[i,u]));(repeat(refine P4 rfl rfl ?_ ?_;(·simp);simp));apply yA 0;simp;apply Am;refine⟨_,ap,?_⟩;simp[At]
  .have t:Ci g x=false:=by simp[Ci,q]
   rw[t];(repeat apply xS);refine yE (A3 37 []) (by kernel_rfl) ?_;simp;(iterate 1 (refine H3 (by simp) ?_;simp));refine Ad.Gz (f:=75) (args:=[.ptr r 1 0 0]) s rfl (by simp;try rfl) ?_;simp;(iterate 1 (refine H3 (by simp) ?_;simp));(iterate 8 (refine H3 (by simp[h,hb]) ?_;simp[h,hb,q]));(repeat(refine P4 rfl rfl ?_ ?_;(·simp);simp));(iterate 2 (refine H3 (by simp) ?_;simp));(repeat(refine P4 rfl rfl ?_ ?_;(·simp);simp));apply yA 0;simp;apply Am;refine⟨_,ap,?_⟩;simp[At]
def Hv(g:AD)(x:AR):Bool:=CW g x&&decide (0<=x.at_)&&decide (x.at_<x.to)&&decide (x.to<=Z (BI g x).right)
theorem ah{S:Sg}{r:Nat}{g:AD}{x:AR}(hb:Tz S r g x)(k:S.all (Ao (Z S))=J):AH a8 91 [.ptr r 1 0 0] S (.d (.bool (Hv g x))) S:=by
 have i:=FE hb;have h:(CW g x&&decide (0<=x.at_)&&decide (x.at_<x.to))=J->AH a8 92 [.ptr r 1 0 0] S (.d (AG (BI g x))) S:=λe=>KQ hb k (by simp at e;exact e.1.1);obtain⟨h0,h1,t,u,v,w,z,A,B,m,C,hb⟩:=hb;unfold bV at hb;generalize q:BI g x=o at *;have s:=AG.eq_1 o;have j:Hv g x=(CW g x&&decide (0<=x.at_)&&decide (x.at_<x.to)&&decide (x.to<=Z o.right)):=by simp[Hv,q]
 rw[j];refine zC func91 38 rfl λwf _=>?_;apply yW;simp;(repeat apply xS);refine yE (A3 36 []) (by kernel_rfl) ?_;simp;(iterate 1 (refine H3 (by simp) ?_;simp));refine Ad.Gz (f:=75) (args:=[.ptr r 1 0 0]) i rfl (by simp;try rfl) ?_;simp;apply yA 0;simp[hb];refine Ad.JU (g:=CW g x&&decide (0<=x.at_)&&decide (x.at_<x.to)) (f:=92) (args:=[.ptr r 1 0 0]) h rfl rfl (by simp;try rfl) (by simp) (by simp +contextual;try rfl) ?_;simp;apply yA 0;simp[s];apply Am;refine⟨_,ap,?_⟩;simp[At]
def Lh(g:AD)(x:AR)(h:AD)(i:List Rewrite)(j:Bool):D:=.agg [Bv g.conds,AX g.fam.nodes,AF g.fam.root,C7 g.AU,Bv g.Ay,Cd g.AE,AF g.start,Bl g.levels,BR g.AT,AF x.kind,AF x.number,AF x.at_,AF x.to,BG x.name,DB x.value,AX x.cond.nodes,AF x.cond.root,Bl x.levels,BR x.AT,BG x.token.name,AF x.token.cls,BG x.token.literal,Av x.token.pattern,BG x.token.Cy,AX x.token.cond.nodes,AF x.token.cond.root,BG x.prod.name,AF x.prod.left,As x.prod.right,AX x.prod.cond.nodes,AF x.prod.cond.root,DB x.prod.bracket,AF x.prod.EC,CX x.prod.layout,DB x.prod.scope.opens,AF x.prod.scope.declares,AF x.prod.scope.kind,AF x.prod.scope.Fk,AF x.prod.scope.allowed,CF x.Ah,Bv h.conds,AX h.fam.nodes,AF h.fam.root,C7 h.AU,Bv h.Ay,Cd h.AE,AF h.start,Bl h.levels,BR h.AT,BA i,.bool j]
def CQ(g:AD)(x:AR)(h:AD)(m:V)(i:Bool)(j k o q:Bool):Sg:=
 [.row j 1 (h.conds.map λx=>.d (afa x)),.row k 7 (h.AU.map λx=>.d (AV x)),.row o 1 (h.Ay.map λx=>.d (afa x)),.row q 13 (h.AE.map λx=>.d (AG x)),.row J 51 [bV g x (.row 0 (Z h.conds)) (.d (AX h.fam.nodes)) (.d (AF h.fam.root)) (.row 1 (Z h.AU)) (.row 2 (Z h.Ay)) (.row 3 (Z h.AE)) (.d (AF h.start)) (.d (Bl h.levels)) (.d (BR h.AT)) m i]]
def bS(g:AD)(x:AR):Sg:=CQ g x g (.full []) am (!g.conds.isEmpty) (!g.AU.isEmpty) (!g.Ay.isEmpty) (!g.AE.isEmpty)
def FN(g:AD)(x:AR)(h:AD)(i:List Rewrite)(j:Bool):Sg:=
 [.BQ (h.conds.map afa),.BQ (h.AU.map AV),.BQ (h.Ay.map afa),.BQ (h.AE.map AG),.row J 51 [.d (Lh g x h i j)]]
theorem Jm{n b:Nat}{tm:Tm}(g:AD)(x:AR)(h:AD)(m:V)(i:List Rewrite)(j k o q s:Bool)
  (t:m=.full (i.map Ab)):AJ a8 n b tm (CQ g x h m j k o q s) tm (FN g x h i j):=by
 subst t;have u:=fc (P:=prog) (n:=n) (b:=b) (tm:=tm) (S:=CQ g x h (.full (i.map Ab)) j k o q s) 0 rfl (Ck _ afa h.conds);have v:=fc (P:=prog) (n:=n) (b:=b) (tm:=tm) (S:=(CQ g x h (.full (i.map Ab)) j k o q s).set 0 (.BQ (h.conds.map afa))) 1 rfl (Ck _ AV h.AU);have w:=fc (P:=prog) (n:=n) (b:=b) (tm:=tm) (S:=((CQ g x h (.full (i.map Ab)) j k o q s).set 0 (.BQ (h.conds.map afa))).set 1 (.BQ (h.AU.map AV))) 2 rfl (Ck _ afa h.Ay);have z:=fc (P:=prog) (n:=n) (b:=b) (tm:=tm) (S:=(((CQ g x h (.full (i.map Ab)) j k o q s).set 0 (.BQ (h.conds.map afa))).set 1 (.BQ (h.AU.map AV))).set 2 (.BQ (h.Ay.map afa))) 3 rfl (Ck _ AG h.AE);refine(((u.trans v).trans w).trans z).trans ?_;refine jp (P:=prog) (n:=n) (b:=b) (tm:=tm) 4 (wr:=true) (sz:=51) (xs:=[Lh g x h i j]) rfl ?_;simp[DR,CQ,bV,Ed,CZ,Lh]
theorem oz(g:AD)(x:AR)(hi:IT x (Z g.Ay)=J):AH a8 74 [.ptr 4 1 0 0] (bS g x) (.CA []) (FN g x {g with Ay:=g.Ay.set x.number.toNat x.name} [] am):=by
 simp[IT]at hi;obtain⟨j,hj⟩:∃j:Nat,x.number=j:=⟨x.number.toNat,by omega⟩;have i:j<Z g.Ay:=by omega
 have k:g.Ay.isEmpty=false:=by cases h:g.Ay<;>simp[h]at i⊢
 refine zC func74 18 rfl λwf _=>?_;unfold bS CQ bV;refine yE (A3 16 [33]) (by kernel_rfl) ?_;simp;apply yA 1;simp[hj,i,k];apply xX 65535 (by kernel_rfl);simp[i,Aa];apply xM;refine⟨_,(rr (S':=CQ g x {g with Ay:=g.Ay.set x.number.toNat x.name} (.full []) am (!g.conds.isEmpty) (!g.AU.isEmpty) (!g.Ay.isEmpty) (!g.AE.isEmpty)) ?_).trans (Jm g x _ (.full []) [] am _ _ _ _ rfl),?_⟩
 .simp[CQ,bV,hj,k]
 .simp[At]
theorem nB(g:AD)(x:AR)(hi:IT x (Z g.conds)=J):AH a8 78 [.ptr 4 1 0 0] (bS g x) (.CA []) (FN g x {g with conds:=g.conds.set x.number.toNat x.name} [] am):=by
 simp[IT]at hi;obtain⟨j,hj⟩:∃j:Nat,x.number=j:=⟨x.number.toNat,by omega⟩;have i:j<Z g.conds:=by omega
 have k:g.conds.isEmpty=false:=by cases h:g.conds<;>simp[h]at i⊢
 refine zC func78 18 rfl λwf _=>?_;unfold bS CQ bV;refine yE (A3 16 [33]) (by kernel_rfl) ?_;simp;apply yA 1;simp[hj,i,k];apply xX 65535 (by kernel_rfl);simp[i,Aa];apply xM;refine⟨_,(rr (S':=CQ g x {g with conds:=g.conds.set x.number.toNat x.name} (.full []) am (!g.conds.isEmpty) (!g.AU.isEmpty) (!g.Ay.isEmpty) (!g.AE.isEmpty)) ?_).trans (Jm g x _ (.full []) [] am _ _ _ _ rfl),?_⟩
 .simp[CQ,bV,hj,k]
 .simp[At]
theorem nr(g:AD)(x:AR)(hi:IT x (Z g.AE)=J):AH a8 76 [.ptr 4 1 0 0] (bS g x) (.CA []) (FN g x {g with AE:=g.AE.set x.number.toNat {g.AE.getD x.number.toNat GR with name:=x.name}} [] am):=by
 simp[IT]at hi;obtain⟨j,hj⟩:∃j:Nat,x.number=j:=⟨x.number.toNat,by omega⟩;have k:j<Z g.AE:=by omega
 have m:g.AE.isEmpty=false:=by cases h:g.AE<;>simp[h]at k⊢
 have o:g.AE.getD x.number.toNat GR=g.AE[j]:=by simp[hj,k]
 rw[o];generalize i:g.AE[j]=p;have q:=AG.eq_1 p;refine zC func76 19 rfl λwf _=>?_;unfold bS CQ bV;refine yE (A3 17 [35]) (by kernel_rfl) ?_;simp;apply yA 1;simp[hj,k,m];apply xX 131069 (by kernel_rfl);simp[k,i,q,Aa];apply xM;refine⟨_,((jp 3 (xs:=(g.AE.set j {p with name:=x.name}).map AG) rfl ?_).trans (rr (S':=CQ g x {g with AE:=g.AE.set x.number.toNat {p with name:=x.name}} (.full []) am (!g.conds.isEmpty) (!g.AU.isEmpty) (!g.Ay.isEmpty) (!g.AE.isEmpty)) ?_)).trans (Jm g x _ (.full []) [] am _ _ _ _ rfl),?_⟩
 .rw[Be,gl,md,gl,gl,md];congr 1
 .simp[CQ,bV,hj,m,lm]
 .simp[At]
theorem nO(g:AD)(x:AR):AH a8 97 [.ptr 4 1 0 0] (bS g x) (.CA []) (FN g x {g with levels:=x.levels} [] am):=by
 refine zC func97 11 rfl λwf _=>?_;unfold bS CQ bV;apply yT;apply yJ;simp;refine⟨_,(rr (S':=CQ g x {g with levels:=x.levels} (.full []) am (!g.conds.isEmpty) (!g.AU.isEmpty) (!g.Ay.isEmpty) (!g.AE.isEmpty)) ?_).trans (Jm g x _ (.full []) [] am _ _ _ _ rfl),?_⟩
 .simp[CQ,bV]
 .simp[At]
theorem oh(g:AD)(x:AR):AH a8 99 [.ptr 4 1 0 0] (bS g x) (.CA []) (FN g x {g with AT:=x.AT} [] am):=by
 refine zC func99 11 rfl λwf _=>?_;unfold bS CQ bV;apply yT;apply yJ;simp;refine⟨_,(rr (S':=CQ g x {g with AT:=x.AT} (.full []) am (!g.conds.isEmpty) (!g.AU.isEmpty) (!g.Ay.isEmpty) (!g.AE.isEmpty)) ?_).trans (Jm g x _ (.full []) [] am _ _ _ _ rfl),?_⟩
 .simp[CQ,bV]
 .simp[At]
theorem mz(g:AD)(x:AR)(k:Z g.AU<=2 ^ 20):AH a8 101 [.ptr 4 1 0 0] (bS g x) (.CA []) (FN g x {g with AU:=g.AU++[x.token]} [] am):=by
 have h:=AV.eq_1 x.token;have j:1<=ao:=by unfold ao;omega
 have i:Z g.AU+1<=1073741824:=by omega
 refine zC func101 18 rfl λwf _=>?_;unfold bS CQ bV;refine yE (A3 12 [25,26,28,30,33]) (by kernel_rfl) ?_;simp;apply yA 1;simp[j];apply xX 65 (by kernel_rfl);simp[Aa,i,Ac];apply yA 1;simp;apply xX 8185 (by kernel_rfl);simp[Aa];apply xM;refine⟨_,(rr (S':=CQ g x {g with AU:=g.AU++[x.token]} (.full []) am (!g.conds.isEmpty) J (!g.Ay.isEmpty) (!g.AE.isEmpty)) ?_).trans (Jm g x _ (.full []) [] am _ _ _ _ rfl),?_⟩
 .simp[CQ,bV,h]
 .simp[At]
theorem dV(g:AD)(x:AR)(k:Z g.AE<=2 ^ 20):AH a8 103 [.ptr 4 1 0 0] (bS g x) (.CA []) (FN g x {g with AE:=g.AE++[x.prod]} [] am):=by
 have h:=AG.eq_1 x.prod;have j:1<=ao:=by unfold ao;omega
 have i:Z g.AE+1<=1073741824:=by omega
 refine zC func103 18 rfl λwf _=>?_;unfold bS CQ bV;refine yE (A3 12 [25,26,28,30,33]) (by kernel_rfl) ?_;simp;apply yA 1;simp[j];apply xX 65 (by kernel_rfl);simp[Aa,i,Ac];apply yA 1;simp;apply xX 8185 (by kernel_rfl);simp[Aa];apply xM;refine⟨_,(rr (S':=CQ g x {g with AE:=g.AE++[x.prod]} (.full []) am (!g.conds.isEmpty) (!g.AU.isEmpty) (!g.Ay.isEmpty) J) ?_).trans (Jm g x _ (.full []) [] am _ _ _ _ rfl),?_⟩
 .simp[CQ,bV,h]
 .simp[At]
theorem lr(g:AD)(x:AR)(j:Z g.conds<=2 ^ 20):AH a8 80 [.ptr 4 1 0 0] (bS g x) (.CA []) (FN g x {g with conds:=g.conds++[x.name]} [] am):=by
 have i:1<=ao:=by unfold ao;omega
 have h:Z g.conds+1<=1073741824:=by omega
 refine zC func80 18 rfl λwf _=>?_;unfold bS CQ bV;refine yE (A3 12 [25,26,28,30,33]) (by kernel_rfl) ?_;simp;apply yA 1;simp[i];apply xX 65 (by kernel_rfl);simp[Aa,h,Ac];apply yA 1;simp;apply xX 8185 (by kernel_rfl);simp[Aa];apply xM;refine⟨_,(rr (S':=CQ g x {g with conds:=g.conds++[x.name]} (.full []) am J (!g.AU.isEmpty) (!g.Ay.isEmpty) (!g.AE.isEmpty)) ?_).trans (Jm g x _ (.full []) [] am _ _ _ _ rfl),?_⟩
 .simp[CQ,bV]
 .simp[At]
def RB(x:AR):List Rewrite:=[⟨x.number,-1,-1,x.Ah⟩]
theorem jF(g:AD)(x:AR)(hi:CW g x=J):AH a8 105 [.ptr 4 1 0 0] (bS g x) (.CA []) (FN g x {g with AE:=g.AE.set x.number.toNat x.prod} (RB x) am):=by
 simp[CW]at hi;obtain⟨j,hj⟩:∃j:Nat,x.number=j:=⟨x.number.toNat,by omega⟩;have i:j<Z g.AE:=by omega
 have k:g.AE.isEmpty=false:=by cases h:g.AE<;>simp[h]at i⊢
 have m:=AG.eq_1 x.prod;have o:1<=ao:=by unfold ao;omega
 refine zC func105 33 rfl λwf _=>?_;unfold bS CQ bV;refine yD (A3 16 [33]) (by kernel_rfl) ?_;simp;apply yA 1;simp[hj,i,k];apply xX 65535 (by kernel_rfl);simp[i,Aa];apply xM;refine yE (A3 15 [31]) (by kernel_rfl) ?_;simp;apply yA 1;simp[o];apply xX 32765 (by kernel_rfl);simp[Aa,o];apply xM;refine⟨_,((jp 3 (xs:=(g.AE.set j x.prod).map AG) rfl ?_).trans (rr (S':=CQ g x {g with AE:=g.AE.set x.number.toNat x.prod} (.full ((RB x).map Ab)) am (!g.conds.isEmpty) (!g.AU.isEmpty) (!g.Ay.isEmpty) (!g.AE.isEmpty)) ?_)).trans (Jm g x _ _ (RB x) am _ _ _ _ rfl),?_⟩
 .rw[Be,gl,md,gl,gl,md];congr 1
 .simp[CQ,bV,hj,k,lm,RB,Ab]
 .simp[At]
theorem AH.E5{P:Program}{f:FuncId}{args args':List V}{S S':Sg}{v:V}(h:AH P f args S v S')(s:Z args'=Z args)
  (k:∀i (h:i<Z args) (t:i<Z args'),args[i]=args'[i]\/∃d,BC S args'[i]=some d/\args[i]=.d d):AH P f args' S v S':=
 ⟨h.1,λG w g R u ha=>h.2 G w g R (by omega) λi hi m=>by
  have j:=ha i (by omega) m;rcases k i hi (by omega)with e|⟨d,o,q⟩
  .rw[e];exact j
  .rw[q];exact .d _ _ (j.BC R o)⟩
theorem sX(a:AO):Pure a8 165 [AB a] (.CA [AB (Dn (λx _=>!x) a ⟨[],0⟩).1,AF (Dn (λx _=>!x) a ⟨[],0⟩).2]):=by
 have hb:=(No mQ a ⟨[],0⟩).E5 (args':=[.d (AB a),.agg [.full [],.d (AF 0)],.fn (.func 216) [] []]) rfl λi h k=>by
  match i,h with
  |0,_=>exact .inl rfl
  |1,_=>exact .inr ⟨AB ⟨[],0⟩,by simp[BC,AB],rfl⟩
  |2,_=>exact .inl rfl
 refine AH.F8 func165 (by kernel_rfl) rfl (by simp) λwf j=>?_;rw[ntmps165];refine xW λK g=>?_;simp;apply g;(repeat refine xS ?_);refine H9 λK g=>?_;refine xJ ?_;simp[AB];refine AY.Uw hb rfl (by simp[AB];try rfl) ?_;simp;refine xJ ?_;simp;refine CO (g _ _ ?_);(try simp only[xQ,reduceIte]);refine Am ?_;(try simp only[xQ,reduceIte]);refine⟨_,_,_,ap,by simp,by simp,k6 0 (by simp)⟩
abbrev ab8:=@List.set_append_left
theorem Wk{S:Sg}{r:Nat}{g:AD}{x:AR}{h0 h1 i j k q s t u m:V}{v:Bool}(hb:S[r]?=some (.row J 51 [bV g x h0 h1 i j k q s t u m v]))(a b:AO)
  (w:(S.set r (.row J 51 [bV g x h0 h1 i j k q s t u m (v||(Dn and a b).2!=0)])).all (Ao (Z S))=J):
  AH a8 87 [.ptr r 1 0 0,.d (AB a),.d (AB b)] S (.d (AB (Dn and a b).1)) (S.set r (.row J 51 [bV g x h0 h1 i j k q s t u m (v||(Dn and a b).2!=0)])):=by
 unfold bV at hb w⊢;have z:=Ai hb;have A:∀T,(S++T)[r]?=_:=λT=>(i5 z).trans hb;have B:∀T o,(S++T).set r o=S.set r o++T:=λT o=>ab8 _ _ z;refine zD func87 27 rfl λwf C=>?_;apply yW;simp[AB];apply yS;apply yJ;simp;refine Bz (Nj a b) rfl (by simp[AB]) (yJ ?_);simp[AB];(repeat apply xS);apply yT;apply yJ;simp[A];rw[B];have h:∀o,Z (S.set r o)=Z S:=λo=>ab2;(repeat apply xS);apply yT;apply yJ;simp[h,List.set_append_right];apply Am;refine⟨_,_,_,ap,?_,?_,ea (Z S) (by simp[h]) (ci _) (by simp[h]) (by simpa[h]using w)⟩
 .simp[h]
 .simp[h]
abbrev adk:=@List.set_cons_succ
abbrev adl:=@List.set_cons_zero
theorem oT(g:AD)(x:AR)(hi:CW g x=J):
  AH a8 86 [.ptr 4 1 0 0] (bS g x) (.CA []) (FN g x {g with AE:=g.AE.set x.number.toNat {BI g x with cond:=(Dn and (BI g x).cond x.cond).1}} [] ((Dn and (BI g x).cond x.cond).2!=0)):=by
 simp[CW]at hi;obtain⟨j,hj⟩:∃j:Nat,x.number=j:=⟨x.number.toNat,by omega⟩;have m:j<Z g.AE:=by omega
 have o:g.AE.isEmpty=false:=by cases h:g.AE<;>simp[h]at m⊢
 have u:BI g x=g.AE[j]:=by simp[BI,hj,m]
 rw[u];generalize k:g.AE[j]=p;have s:=AG.eq_1 p;have ha:=Wk (S:=bS g x) (r:=4) (by rfl) p.cond x.cond (by simp[bS,CQ,bV]);have q:=ha.E5 (args':=[.ptr 4 1 0 0,.agg [.d (AX p.cond.nodes),.d (AF p.cond.root)],.agg [.d (AX x.cond.nodes),.d (AF x.cond.root)]]) rfl λi h w=>by
  match i,h with
  |0,_=>exact .inl rfl
  |1,_=>exact .inr ⟨AB p.cond,by simp[BC,AB],rfl⟩
  |2,_=>exact .inr ⟨AB x.cond,by simp[BC,AB],rfl⟩
 generalize v:Dn and p.cond x.cond=t at *;refine zC func86 28 rfl λwf _=>?_;unfold bS CQ bV at q⊢;simp[o,hj,Bool.not_false]at q;refine yD (A3 12 []) (by kernel_rfl) ?_;simp;apply yA 0;simp[hj,m,o];refine yE (A3 11 [23,24,26,29]) (by kernel_rfl) ?_;simp;apply yA 1;simp[m,k,s];refine xL 545 _ (q) (by kernel_rfl) rfl rfl ?_;simp[m,k,s,Aa,AB];apply yA 1;simp[m];apply xX 1021 (by kernel_rfl);simp[m,k,s,Aa];apply xM;refine⟨_,((jp 3 (xs:=(g.AE.set j {p with cond:=t.1}).map AG) rfl ?_).trans (rr (S':=CQ g x {g with AE:=g.AE.set x.number.toNat {p with cond:=t.1}} (.full []) (t.2!=0) (!g.conds.isEmpty) (!g.AU.isEmpty) (!g.Ay.isEmpty) (!g.AE.isEmpty)) ?_)).trans (Jm g x _ (.full []) [] _ _ _ _ _ rfl),?_⟩
 .rw[Be,gl,md,gl,gl,md];congr 1
 .simp[CQ,bV,hj,o,lm]
 .simp[At]
noncomputable def Mq(x:AR):AO×Int:=if x.value then(Aq x.number,Wa x.number)else Dn (λx _=>!x) (Aq x.number) ⟨[],0⟩
theorem m0(g:AD)(x:AR):
  AH a8 82 [.ptr 4 1 0 0] (bS g x) (.CA []) (FN g x {g with fam:=(Dn and g.fam (Mq x).1).1} [] (((Mq x).2!=0)||((Dn and g.fam (Mq x).1).2!=0))):=by
 have o:=sH x.number;have q:=sX (Aq x.number);have ha:∀d m,_:=λd m=>(Wk (S:=CQ g x g (.full []) m (!g.conds.isEmpty) (!g.AU.isEmpty) (!g.Ay.isEmpty) (!g.AE.isEmpty)++[.row J 2 [.d (AB d)]]) (r:=4) (by rfl) g.fam d (by simp[CQ,bV])).E5 (args':=[.ptr 4 1 0 0,.agg [.d (AX g.fam.nodes),.d (AF g.fam.root)],.d (AB d)]) rfl λi h u=>by
  match i,h with
  |0,_=>exact .inl rfl
  |1,_=>exact .inr ⟨AB g.fam,by simp[BC,AB],rfl⟩
  |2,_=>exact .inl rfl
 refine zC func82 47 rfl λwf _=>?_;unfold bS CQ bV;apply yS;apply yJ;simp;refine Bz (o) rfl (by simp[xN]) (yJ ?_);simp;refine nt (R:=λtm S=>tm 0=.ptr 4 1 0 0/\tm 2=.ptr 5 1 0 0/\tm 3=.d (AF (Mq x).2)/\S=CQ g x g (.full []) am (!g.conds.isEmpty) (!g.AU.isEmpty) (!g.Ay.isEmpty) (!g.AE.isEmpty)++[.row J 2 [.d (AB (Mq x).1)]]) ?_ ?_
 ·(repeat apply xS);apply yV;simp;cases j:x.value with
  |true=>
   apply AQ;simp;apply B8;simp[Mq,j,CQ,bV]
  |false=>
   apply AQ;simp;apply yT;apply yJ;simp;refine Bz (q) rfl (by simp[xN]) (yJ ?_);simp;unfold HQ;simp[Mq,j,CQ,bV]
 .rintro tm S ⟨t0,t2,t3,rfl⟩;generalize Mq x=s at *;obtain⟨d,e⟩:=s;simp at t3⊢;have k:=ha d (e !=0);generalize Dn and g.fam d=t at *;obtain⟨r1,r2⟩:=t;unfold CQ bV at k⊢;simp at k⊢;apply yS;apply yJ;simp[t0,t3];refine yE (A3 8 [17,18,20,22,25]) (by kernel_rfl) ?_;simp;apply yA 1;simp[t0,t2,AB];refine xL 67 _ (k) (by kernel_rfl) rfl rfl ?_;simp[t0,t2,AB,Aa];apply yA 1;simp;apply xX 249 (by kernel_rfl);simp[t0,Aa];apply xM;refine⟨_,((ea 5 (S':=CQ g x {g with fam:=r1} (.full []) ((e !=0)||(r2 !=0)) (!g.conds.isEmpty) (!g.AU.isEmpty) (!g.Ay.isEmpty) (!g.AE.isEmpty)) ?_ (by simp) (by simp) (by simp))).trans (Jm g x _ (.full []) [] _ _ _ _ _ rfl),?_⟩
  .simp[CQ,bV]
  .simp[At]
theorem SP(xs:List Int)(v:Int):Pure a8 264 [A2 xs,AF v] (AF (firstIdx (·==v) xs)):=by
 refine ip func264 rfl rfl (by simp) λwf=>?_;have q:Z xs<=ao:=by have:=wf.1;simp[Da]at this;simpa using this.1
 rw[ntmps264];apply yW;simp;refine xS (yW ?_);simp;apply Bp;refine FH (Z xs) (λi tm S=>tm 0=.d (A2 xs)/\tm 1=.d (AF v)/\tm 8=.d (AF i)/\tm 7=.d (AF (Z xs))/\S=[]/\∀j (_:j<i) (h:j<Z xs),(xs[j]==v)=am) (ed _) (by simp) ?_;rintro i tm S hi ⟨t0,t1,t8,t7,rfl,k⟩;apply yW;simp[t8,t7];apply xC;simp;refine⟨λg=>?_,λs=>?_⟩
 .apply xK;apply xB;apply yW;simp[t8];apply yS;apply yJ;simp[t0,t1,g];apply AQ;simp;refine⟨λm=>?_,λm=>?_⟩
  .apply yW;simp;apply Am;refine⟨_,_,ap,?_⟩;simp;exact(EP g (by simp[m]) λj hj=>k j hj (by omega)).symm
  .apply B8;apply yV;simp[t8];refine⟨g,_,_,ap,?_⟩;simp[t0,t1,t7,AL g q];intro j hj o;by_cases e:j=i
   .subst e;exact λh=>m h.symm
   .exact by simpa using k j (by omega) o
 .apply Co;apply yW;simp;apply Am;refine⟨_,_,ap,?_⟩;simp;exact(firstIdx_none λj hj=>k j (by omega) hj).symm
theorem Ok(xs:List Int)(v:Int):Pure a8 220 [A2 xs,AF v] (DB (xs.contains v)):=by
 refine zP func220 9 rfl λwf=>?_;apply yW;simp;(repeat apply xS);apply yT;apply yJ;simp;refine Bz (SP xs v) rfl (by simp) (yJ ?_);simp;apply Am;refine⟨_,_,ap,?_⟩;simp;have:=Ft (·==v) xs;rw[gI]at this;simpa using this
theorem au{S:Sg}{q:Nat}{i:Int}(g:S[q]?=some (.row J 1 [.d (AF i)]))(h:S.all (Ao (Z S))=J)(l:Level):AH a8 219 [.d (Ak l),.ptr q 1 0 0] S (.d (DB (l.AE.contains i))) S:=by
 have j:∀X,(S++[X])[q]?=_:=λX=>(i5 (Ai g)).trans g;refine zD func219 8 rfl λwf _=>?_;apply yW;simp[Ak];(repeat apply xS);apply yT;apply yJ;simp[j];refine Bz (Ok l.AE i) rfl (by simp) (yJ ?_);simp;apply Am;refine⟨_,_,_,ap,?_,?_,ea (Z S) (by simp) (ci _) (by simp) (by simpa using h)⟩
 .simp
 .simp
theorem av{S:Sg}{q:Nat}{i:Int}(k:S[q]?=some (.row J 1 [.d (AF i)]))(m:S.all (Ao (Z S))=J)(f:Filter):AH a8 222 [.d (AN f),.ptr q 1 0 0] S (.d (DB ((decide (f.kind=1)||decide (f.kind=2))&&(decide (f.parent=i)||decide (f.child=i))))) S:=by
 have j:∀X,(S++[X])[q]?=_:=λX=>(i5 (Ai k)).trans k;refine zD func222 24 rfl λwf _=>?_;apply yW;simp[AN];(repeat apply xS);apply yT;(iterate 9 (refine Cg (by simp) ?_;simp));cases g:(f.kind==1||f.kind==2)with
 |false=>
  have h:(decide (f.kind=1)||decide (f.kind=2))=false:=by rw[<-g];rfl
  (repeat(refine FD rfl ?_ ?_;(·simp);simp));apply yJ;simp;apply Am;refine⟨_,_,_,ap,?_,?_,ea (Z S) (by simp) (ci _) (by simp) (by simpa using m)⟩
  .simp
  .simp
 |true=>
  have h:(decide (f.kind=1)||decide (f.kind=2))=true:=by rw[<-g];rfl
  (iterate 5 ((refine Ov rfl (by simp[j];try rfl) ?_);simp[j]));(iterate 4 (refine Cg (by simp[j]) ?_;simp[j]));((refine Ov rfl (by simp;try rfl) ?_);simp);apply yJ;simp;apply Am;refine⟨_,_,_,ap,?_,?_,ea (Z S) (by simp) (ci _) (by simp) (by simpa using m)⟩
  .simp
  .simp[BEq.beq]
theorem Pu{S:Sg}{q:Nat}{i:Int}(g:S[q]?=some (.row J 1 [.d (AF i)]))(h:S.all (Ao (Z S))=J)(f:Filter):AH a8 223 [.d (AN f),.ptr q 1 0 0] S (.d (DB ((decide (f.kind=3)||decide (f.kind=4))&&decide (f.left=i)))) S:=by
 have j:∀X,(S++[X])[q]?=_:=λX=>(i5 (Ai g)).trans g;refine zD func223 18 rfl λwf _=>?_;apply yW;simp[AN];(repeat apply xS);apply yT;apply yJ;simp[j];apply Am;refine⟨_,_,_,ap,?_,?_,ea (Z S) (by simp) (ci _) (by simp) (by simpa using h)⟩
 .simp
 .simp[BEq.beq]
mutual
theorem Na{k j:Nat}(h:k<=j):∀v,AP k v=J->AP j v=J
 |.row r _,g=>by simp[AP]at g⊢;omega
 |.ptr r _ _ _,g=>by simp[AP]at g⊢;omega
 |.map r,g=>by simp[AP]at g⊢;omega
 |.fn _ m o,g=>by
  simp[AP]at g⊢;exact⟨GP h m g.1,GP h o g.2⟩
 |.agg i,g=>by simp[AP]at g⊢;exact GP h i g
 |.CA i,g=>by simp[AP]at g⊢;exact GP h i g
 |.opt _ v,g=>by simp[AP]at g⊢;exact Na h v g
 |.any,_=>rfl
 |.d _,_=>rfl
 |.full _,_=>rfl
 |.DW _,_=>rfl
theorem GP{k j:Nat}(h:k<=j):∀g,Au k g=J->Au j g=J
 |[],_=>rfl
 |v::g,i=>by
  simp[Au]at i⊢;exact⟨Na h v i.1,GP h g i.2⟩
end
theorem ZH{k j:Nat}(h:k<=j)(o:O)(g:Ao k o=J):Ao j o=true:=by
 cases o with
 |row q sz i=>exact GP h i g
 |map s=>
  simp only[Ao,de]at g⊢;exact λe m=>Na h _ (g e m)
 |BQ t=>rfl
 |dead=>rfl
theorem Nc{S T:Sg}(g:S.all (Ao (Z S))=J)(i:T.all (Ao (Z S+Z T))=J):(S++T).all (Ao (Z (S++T)))=true:=by
 simp only[de,i6,gc]at *;exact λo j=>j.elim (λh=>ZH (Nat.le_add_right _ _) o (g o h)) (i o)
def Az:Scope:=⟨am,0,0,0,0⟩
def Di(g:AD)(i:Int):Bool:=
 (decide ((g.AE.getD i.toNat GR).EC≠0)||decide (0<Z (g.AE.getD i.toNat GR).layout)||(g.AE.getD i.toNat GR).bracket||decide ((g.AE.getD i.toNat GR).scope≠Az))||
  (g.levels.any (λl=>l.AE.contains i)||g.AT.any λf=>(decide (f.kind=1)||decide (f.kind=2))&&(decide (f.parent=i)||decide (f.child=i)))
theorem Ht{S:Sg}{r:Nat}{g:AD}{x:AR}(hb:Tz S r g x)(z:S.all (Ao (Z S))=J){i:Int}(G:0<=i/\i<Z g.AE):AH a8 170 [.ptr r 1 0 0,.d (AF i)] S (.d (.bool (Di g i))) S:=by
 obtain⟨h0,h1,H,K,L,M,N,P,Q,m,R,v⟩:=hb;unfold bV at v;have B:=Ai v;have w:∀X,(S++[X])[r]?=_:=λX=>(i5 B).trans v;have k:∀X Y,(S++[X,Y])[r]?=_:=λX Y=>(i5 B).trans v;obtain⟨j,rfl⟩:∃j:Nat,i=j:=⟨i.toNat,by omega⟩;have o:j<Z g.AE:=by omega
 unfold Di;have C:g.AE.getD (j:Int).toNat GR=g.AE[j]:=by simp[o]
 rw[C];generalize h:g.AE[j]=p;have s:=AG.eq_1 p;refine zD func170 49 rfl λwf _=>?_;apply yW;simp;(repeat apply xS);refine yE (A3 8 [17,19]) (by kernel_rfl) ?_;simp;apply yA 1;simp[w,o,h,s];apply xX 0 (by kernel_rfl);simp[w,k,o,h,s,Aa];apply yA 1;simp;apply xX 255 (by kernel_rfl);simp[k,o,h,s,Aa];apply xM;have A:CS [D.bool p.scope.opens,D.int K1 p.scope.declares,D.int K1 p.scope.kind,D.int K1 p.scope.Fk,D.int K1 p.scope.allowed] [D.bool am,D.int K1 0,D.int K1 0,D.int K1 0,D.int K1 0]=decide (p.scope=Az):=Q0 p.scope Az;refine xS (yS ?_);apply yJ;simp[A];have u:∀X,(S++[O.row J 1 [.d (AF j)],O.row J 13 [.d X]]).all (Ao (Z (S++[O.row J 1 [.d (AF j)],O.row J 13 [.d X]])))=true:=λX=>Nc z (by simp[Ao,Au,AP]);have E:=λX=>LY g.levels (λl=>l.AE.contains (j:Int)) 219 [.ptr (Z S) 1 0 0] (S++[O.row J 1 [.d (AF j)],O.row J 13 [.d X]]) (λl _=>au (q:=Z S) (by simp) (u X) l);have F:=λX=>HM g.AT (λf=>(decide (f.kind=1)||decide (f.kind=2))&&(decide (f.parent=(j:Int))||decide (f.child=(j:Int)))) 222 [.ptr (Z S) 1 0 0] (S++[O.row J 1 [.d (AF j)],O.row J 13 [.d X]]) (λl _=>av (q:=Z S) (by simp) (u X) l);(repeat apply xS);refine qr (t:=decide (p.EC≠0)||decide (0<Z p.layout)||p.bracket||decide (p.scope≠Az)) ?_ (λhb=>?_) (λhb=>?_)
 .simp;rw[gI];simp[or_assoc]
 .rw[hb,Bool.true_or];apply yW;simp;apply Am;refine⟨_,_,_,ap,?_,?_,ea (Z S) (by simp) (ci _) (by simp) (by simpa using z)⟩
  .simp
  .simp
 .rw[hb,adi];apply xK;(repeat apply xS);apply yT;apply yJ;simp[k];refine ms rfl rfl (by simp) (f:=218) (args:=[.d (.sl (g.levels.map Ak)),.fn (.func 219) [] [.ptr (Z S) 1 0 0]]) (by simp[callee];try rfl) (by simp) (E _) (yJ ?_);simp[k];refine AY.JU (g:=!(g.levels.any λl=>l.AE.contains (j:Int))) (f:=221) (args:=[.d (.sl (g.AT.map AN)),.fn (.func 222) [] [.ptr (Z S) 1 0 0]]) (λ_=>F _) rfl rfl (by simp) (by simp) (λe=>by simp at e;simp[callee];exact e) (yJ ?_);simp;apply Am;refine⟨_,_,_,ap,?_,?_,ea (Z S) (by simp) (ci _) (by simp) (by simpa using z)⟩
  .simp
  .simp
theorem AJ.Dz{P:Program}{n b:Nat}{tm:Tm}{S S':Sg}(k:Nat)(hS:S.take k=S')(hb:b<=k)(g:k<=Z S)(h:S'.all (Ao k)=J):AJ P n b tm S (clean k tm) S':=
 ea k hS hb g (hS▸h)
abbrev qs:=@AJ.Dz
def HB(g:AD)(n:Int)(i:Nat):List Int:=((List.range i).filter λj=>decide ((g.AE.getD j GR).left=n)).map λ(j:Nat)=>(j:Int)
def mB(g:AD)(n:Int):List Int:=HB g n (Z g.AE)
abbrev adz:=@decide_false
theorem bB(g:AD)(n:Int)(i:Nat):HB g n (i+1)=if(g.AE.getD i GR).left=n then HB g n i++[(i:Int)]else HB g n i:=by
 unfold HB;rw[acw,ab4,xv];split<;>rename_i h<;>simp only[ac5,List.filter_nil,h,acW,adz,kw]<;>simp
abbrev ack:=@List.length_filter_le
theorem KX(g:AD)(n:Int)(i:Nat):Z (HB g n i)<=i:=by
 unfold HB;rw[oj];exact oq (ack _ _) (by simp)
theorem FF{g:AD}{n:Int}{i:Nat}{v:Int}(h:v∈HB g n i):0<=v/\v<i:=by
 unfold HB at h;simp[fd]at h;obtain⟨j,⟨h1,_⟩,rfl⟩:=h;omega
theorem Yu{S:Sg}{r:Nat}{g:AD}{x:AR}(hb:Tz S r g x)(w:S.all (Ao (Z S))=J)(G:Z g.AE<=2 ^ 20)(n:Int):AH a8 169 [.ptr r 1 0 0,.d (AF n)] S (.d (A2 (mB g n))) S:=by
 obtain⟨h0,h1,H,K,L,M,N,P,Q,m,R,o⟩:=hb;unfold bV at o;have A:=Ai o;have B:∀X,(S++[X])[r]?=_:=λX=>(i5 A).trans o;have z:Z g.AE<=ao:=by unfold ao;omega
 refine zD func169 29 rfl λwf _=>?_;have k:∀i,(S++[O.row (!(HB g n i).isEmpty) 1 ((HB g n i).map λv=>V.d (AF v))]).all (Ao (Z S+1))=true:=λi=>by simpa using Nc (T:=[O.row (!(HB g n i).isEmpty) 1 ((HB g n i).map λv=>V.d (AF v))]) w (by simp[Ao])
 apply yW;simp;apply yW;simp;refine xS (yW ?_);simp[o];refine io (tv 5 1 (xs:=[]) (by simp)) ?_;apply Bp;refine FH (Z g.AE) (λi tm S'=>tm 1=.d (AF n)/\tm 12=.d (Cd g.AE)/\tm 14=.d (AF i)/\tm 13=.d (AF (Z g.AE))/\tm 5=.row (Z S) (Z (HB g n i))/\S'=S++[.row (!(HB g n i).isEmpty) 1 ((HB g n i).map λv=>.d (AF v))]) (ed _) ⟨by simp,by simp,by simp,by simp,by simp[ER,HB],by simp[HB]⟩ ?_;rintro i tm S' hi ⟨t1,t12,t14,t13,t5,rfl⟩;apply yW;simp[t13,t14];apply xC;simp;refine⟨λj=>?_,λU=>?_⟩
 .have q:g.AE.getD i GR=g.AE[i]:=by simp[j]
  have h:=bB g n i;have C:=KX g n i;rw[q]at h;generalize s:g.AE[i]=p at *;have E:=AG.eq_1 p;apply xK;apply xB;apply yS;apply yJ;simp[t12,t14,j,s,E];apply yS;apply yJ;simp[t1];apply AQ;simp;refine⟨λt=>?_,λt=>?_⟩
  .rw[b8 t]at h;have u:Z (HB g n i)+1<=1073741824:=by omega
   have F:1<=ao:=by unfold ao;omega
   apply yT;apply yJ;simp[t5,F,u,Ac];apply yV;simp[t14];refine⟨j,_,_,qs (Z S+1) (S':=S++[.row (!(HB g n (i+1)).isEmpty) 1 ((HB g n (i+1)).map λv=>.d (AF v))]) ?_ (by simp) (by simp) ?_,?_⟩
   .simp[h,afc]
   .exact k _
   simp[clean,AP,t1,t12,t13,AL j z,h]
  .rw[a9 t]at h;apply B8;apply yV;simp[t14];refine⟨j,_,_,qs (Z S+1) (S':=S++[.row (!(HB g n (i+1)).isEmpty) 1 ((HB g n (i+1)).map λv=>.d (AF v))]) ?_ (by simp) (by simp) ?_,?_⟩
   .simp[h,afc]
   .exact k _
   simp[clean,AP,t1,t12,t13,t5,AL j z,h]
 .have e:i=Z g.AE:=by omega
  subst e;apply Co;apply yW;simp[t5];apply Am;refine⟨_,_,_,fc (Z S) (xs:=(HB g n (Z g.AE)).map AF) List.getElem?_concat_length (by simp),?_,?_,ea (Z S) (by simp) (ci _) (by simp) (by simpa using w)⟩
  .simp
  .simp[mB]
section
variable {P:Program} {n b:Nat} {ops:Array Oper} {o:Oper} {tm:Tm} {S:Sg} {K:Tm->Sg->Prop} {v:V}
def Tl(P:Program)(f:FuncId)(args:List V)(v:V)(S:Sg):Prop:=AH P f args S v S
theorem Ad.qR{B:List (Nat×(Sg->Prop))}{i:Nat}{rest:List (Nat×Bool×Oper)}{c:Call}{f:FuncId}{args:List V}(h:AH P f args S v S)(g:o.op=.call c)
  (j:o.guard=br/\A6 n o.dst/\A9 tm c/\callee tm c=al (f,args)) (k:Ad P n b ops ((i,Tl P f args v)::B) rest (put tm o.dst v) S K):Ad P n b ops B ((i,J,o)::rest) tm S K:=by
 obtain⟨m,q,s,t⟩:=j;exact vb (Tl P f args v) h (λhi u hS=>Pi hi g m q t s hS) k
end
theorem Pd(xs:List Int)(p:Int->Bool)(k:FuncId)(u:V)(S0:Sg)(s:∀x∈xs,AH prog k [u,.d (D.int .i64 x)] S0 (.d (.bool (p x))) S0):
  AH prog 224 [.d (.sl (xs.map (D.int .i64))),.fn (.func k) [u] []] S0 (.d (AF (firstIdx p xs))) S0:=by
 refine j0 func224 rfl rfl (by simp) λwf _=>?_;have t:Z xs<=ao:=by have:=wf.1;simp[K0,Da]at this;simpa using this.1
 rw[ntmps224];apply yW;simp;refine xS (yW ?_);simp;apply Bp;refine FH (Z xs) (λi tm S=>tm 0=.d (.sl (xs.map (D.int .i64)))/\tm 1=.fn (.func k) [u] []/\tm 8=.d (AF i)/\tm 7=.d (AF (Z xs))/\S=S0/\∀j (_:j<i) (h:j<Z xs),p xs[j]=am) (ed _) (by simp) ?_;rintro i tm S hi ⟨t0,t1,t8,t7,rfl,m⟩;apply yW;simp[t8,t7];apply xC;simp;refine⟨λg=>?_,λw=>?_⟩
 .apply xK;apply xB;apply yW;simp[t8];apply yS;apply yJ;simp[t0,t1,g];refine ms (v:=.d (.bool (p xs[i]))) rfl rfl (by simp) (f:=k) (args:=[u,.d (D.int .i64 xs[i])]) (by simp;try rfl) (by simp) (s _ (cF g)) ?_;simp;apply CO;apply AQ;simp;refine⟨λo=>?_,λo=>?_⟩
  .apply yW;simp;apply Am;refine⟨_,ap,?_⟩;simp[At];exact .inl (EP g o λj hj=>m j hj (by omega)).symm
  .apply B8;apply yV;simp[t8];refine⟨g,_,_,ap,?_⟩;simp[t0,t1,t7,AL g t];intro j hj q;by_cases e:j=i
   .subst e;exact o
   .exact m j (by omega) q
 .apply Co;apply yW;simp;apply Am;refine⟨_,ap,?_⟩;simp[At];exact .inl (firstIdx_none λj hj=>m j (by omega) hj).symm
theorem NF(xs:List Int)(p:Int->Bool)(k:FuncId)(u:V)(S0:Sg)(g:∀x∈xs,AH prog k [u,.d (D.int .i64 x)] S0 (.d (.bool (p x))) S0):
  AH prog 172 [.d (.sl (xs.map (D.int .i64))),.fn (.func k) [u] []] S0 (.d (.bool (xs.any p))) S0:=by
 refine zC func172 9 rfl λwf _=>?_;apply yW;simp;(repeat apply xS);apply yT;apply yJ;simp;refine ms rfl rfl (by simp) (f:=224) (args:=[.d (.sl (xs.map (D.int .i64))),.fn (.func k) [u] []]) (by simp[callee]) (by simp) (Pd xs p k u S0 g) (yJ ?_);simp;apply Am;refine⟨_,ap,?_⟩;simp[At];have:=Ft p xs;simp at this;simp[this]
def Ji(g:AD)(x:AR):Symbol:=(BI g x).right.getD x.at_.toNat ⟨am,0⟩
def Ig(g:AD)(x:AR):Bool:=
 (mB g (Ji g x).index).any (Di g)||g.AT.any λf=>(decide (f.kind=3)||decide (f.kind=4))&&decide (f.left=(Ji g x).index)
theorem C6{g:AD}{x:AR}(h:Ci g x=J):CW g x=J/\∃j:Nat,x.at_=j/\∃hj:j<Z (BI g x).right,Ji g x=(BI g x).right[j]/\(Ji g x).token=false:=by
 simp[Ci]at h;obtain⟨⟨h1,q⟩,i⟩:=h;obtain⟨j,hj⟩:∃j:Nat,x.at_=j:=⟨x.at_.toNat,by omega⟩;refine⟨h1,j,hj,?_⟩;rw[hj]at i;simp at i;split at i
 .rename_i s m;obtain⟨k,o⟩:=er.1 m;refine⟨k,?_,?_⟩
  .simp[Ji,hj,k]
  .simp[Ji,hj,k,o];simpa using i
 .cases i
theorem Kd{S:Sg}{r:Nat}{g:AD}{x:AR}(hb:Tz S r g x)(C:S.all (Ao (Z S))=J)(K:Z g.AE<=2 ^ 20)(L:Ci g x=J):AH prog 171 [.ptr r 1 0 0] S (.d (.bool (Ig g x))) S:=by
 obtain⟨G,j,hj,A,i,zp⟩:=C6 L;have u:=KQ hb C G;have zO:=hb;obtain⟨h0,h1,M,N,P,Q,R,T,U,m,W,w⟩:=hb;have H:=Ai w;have E:∀X,Tz (S++[X]) r g x:=λX=>⟨h0,h1,M,N,P,Q,R,T,U,m,W,(i5 H).trans w⟩;unfold bV at w;have k:∀X,(S++[X])[r]?=_:=λX=>(i5 H).trans w;have t:∀X,(S++[O.row J 1 [.d X]]).all (Ao (Z (S++[O.row J 1 [.d X]])))=true:=λX=>Nc C (by simp[Ao,Au,AP]);have h:∀X,AH prog 92 [.ptr r 1 0 0] (S++[O.row J 1 [.d X]]) (.d (AG (BI g x))) (S++[O.row J 1 [.d X]]):=λX=>KQ (E _) (t X) G;unfold Ig;generalize Ji g x=s at *;generalize BI g x=o at *;have z:=AG.eq_1 o;have F:=Yu (E (O.row J 1 [.d (AF s.index)])) (t _) K s.index;have Y:=NF (mB g s.index) (Di g) 170 (.ptr r 1 0 0) (S++[O.row J 1 [.d (AF s.index)]]) (λv hv=>Ht (E _) (t _) (FF hv));have cf:=HM g.AT (λf=>(decide (f.kind=3)||decide (f.kind=4))&&decide (f.left=s.index)) 223 [.ptr (Z S) 1 0 0] (S++[O.row J 1 [.d (AF s.index)]]) (λl _=>Pu (q:=Z S) (by simp) (t _) l);have B:=AI.eq_1 s;simp[z,As,AX,CX,AF,DB,BG]at h;refine zD func171 30 rfl λwf _=>?_;apply yW;simp;refine yD (A3 11 [23,25]) (by kernel_rfl) ?_;simp;apply yA 1;simp;refine Ad.qR (f:=92) (args:=[.ptr r 1 0 0]) u rfl (by simp;try rfl) ?_;simp;apply yA 1;simp[w,hj,A,i.symm,z,B];apply xX 0 (by kernel_rfl);simp[k,hj,A,i.symm,B,Aa,Tl,h];apply yA 1;simp;apply xX 2047 (by kernel_rfl);simp[k,hj,A,i.symm,B,Aa,Tl,h];apply xM;(repeat apply xS);apply yT;apply yJ;simp;refine ms rfl rfl (by simp) (f:=169) (args:=[.ptr r 1 0 0,.d (AF s.index)]) (by simp[callee];try rfl) (by simp) F (yJ ?_);simp;refine ms rfl rfl (by simp) (f:=172) (args:=[.d (.sl ((mB g s.index).map (D.int .i64))),.fn (.func 170) [.ptr r 1 0 0] []]) (by simp[callee];try rfl) (by simp) Y (yJ ?_);simp[k];refine AY.JU (g:=!((mB g s.index).any (Di g))) (f:=221) (args:=[.d (.sl (g.AT.map AN)),.fn (.func 223) [] [.ptr (Z S) 1 0 0]]) (λ_=>cf) rfl rfl (by simp) (by simp) (λe=>by simp at e;simp[callee];exact e) (yJ ?_);simp;apply Am;refine⟨_,_,_,ap,?_,?_,ea (Z S) (by simp) (ci _) (by simp) (by simpa using C)⟩
 .simp
 .simp
open Go.Proofs DT
abbrev c8:=@IntKind.wrap_i64
abbrev adq:=@List.size_toArray
section
variable {P:Program} {n:Nat} {o:Oper} {tm:Tm} {S S':Sg} {v:V}
theorem Uk{w:World}{K xT E ty:TypeId}{e:TI}{z:Value}{base:Option Addr}{m:Nat}(h0:0<m)(M:m<=2 ^ 30)
  (N:BB P K=al E) (k:ti P E=al e) (Q:e.zero=al z) (_:z.cells.size=e.size) (T:P.underlying xT=al (.int .i64)) (q:e.bytes<=65536):
  ∃s u,m<=s/\s<=ao/\u.heap=w.heap/\u.os=w.os/\u.output=w.output/\(Builtin.append_ #[K,xT] ty #[.slice base 0 0,.int .i64 m]).run P w=
    .ok (.slice (al ⟨w.heap.size,0,br⟩) m s) (Bj u (.cells (#[]++(if m * e.size=0 then #[]else Builtin.zeroCells z.cells m)++Builtin.zeroCells z.cells (s - m)) E (0,0))):=by
 obtain⟨t,t1,t2⟩:=A8 N;obtain⟨d,U,A⟩:=An t1 w;have B:d=.slice E:=by rw[t2]at A;cases d<;>simp[tk]at A⊢;exact A
 subst B;have C:∀w,(underlying xT).run P w=.ok (.int .i64) w:=λw=>by simp[underlying,T]
 have W:=Ba k;obtain⟨g,X,i2,i3,i4⟩:=Dt k w;obtain⟨L,F,Y,i3',i4'⟩:=Dt k {w with drawn:=w.drawn+1};have G:bv .i64 (m:Int)=m:=by rw[c8];omega
 have i:(Question.appendCap (0+m) 0 E).forced=false:=rfl;refine⟨(Question.appendCap (0+m) 0 E).cut (w.tape w.drawn (.appendCap (0+m) 0 E)),{w with drawn:=w.drawn+1},?_,?_,rfl,rfl,rfl,?_⟩
 .simp[Question.cut]
 .simp only[Question.cut,ao];have:w.tape w.drawn (Question.appendCap (0+m) 0 E) % (2 ^ 63 - (0+m))<2 ^ 63 - (0+m):=pm _ (by omega);omega
 .have zO:¬((m:Int) * g.bytes>2 ^ 48):=by
   have:(g.bytes:Int) * m<=281474976710656:=by
    have h:g.bytes * m<=65536 * 2 ^ 30:=acA (by omega) M;have:((g.bytes * m:Nat):Int)<=281474976710656:=by omega
    rwa [Int.natCast_mul]at this
   rw[Int.mul_comm];omega
  have zB:¬(Builtin.nextslicecap (0+m) 0 * g.bytes>2 ^ 48):=by
   have h3:=PB (need:=0+m) (cap:=0) (by omega);have h4:Builtin.nextslicecap (0+m) 0 * g.bytes<=(2 * (0+m)+768) * 65536:=acA h3 (by omega);omega
  have H:¬(((0+m:Nat):Int)>IntKind.i64.max/\(True\/g.bytes=0)):=by
   have:IntKind.i64.max=9223372036854775807:=by decide
   omega
  have zI:¬((m:Int)<0):=by omega
  have j:¬(0+m<=0):=by omega
  unfold Builtin.append_;simp only[adu,abN,y3,l6,U,lh,W,C,tp,asInt,asIntOf,G,Sem.run_ite,a9 zI,X,a9 zO,a9 j,b8,a9 zB,jw];have hf:∀w:World,(Builtin.firstCells e.size 0 (.slice base 0 0)).run P w=.ok #[] w:=λw=>by
   cases base<;>simp[Builtin.firstCells,loadCells,loadCellsFrom]
  simp only[a9 H,run_choose,i,su,li,lh,F,run_askRoom,hf,adb,ED k _ Q];split
  .simp[newRow,Bj];rfl
  .simp[newRow,Bj];rfl
theorem XF{c:Call}{A xT E:TypeId}{x y:Operand}{e:TI}{z:Value}{m:Nat}(ho:o.op=.call c)(hc:c.callee=.builtin .append)(zd:c.args=#[x,y])(hT:c.argTypes=#[A,xT])
  (C:need (ev tm x)) (hy:need (ev tm y)) (hs:BB P A=al E) (F:P.underlying xT=al (.int .i64)) (he:ti P E=al e) (hz:e.zero=al z) (g:z.cells.size=e.size) (H:(Ap (Og z)||Bu (Og z))=J) (h:e.bytes<=65536)
  (ex:strip (ev tm x)=.full []) (ey:strip (ev tm y)=.d (.int .i64 m)) (h0:0<m) (hm:m<=2 ^ 30):
  CP P n o tm S (.row (Z S) m) (S++[.row J e.size (ke m (Og z))]):=.val λG w a st=>by
 have h1:=(BY st x).strip C;have h2:=B5 st hy ey;rw[ex]at h1;generalize K:a.eval x=B at h1;cases h1 with
 |full _ base hcd=>
  obtain⟨q,s,M,U,W,e2,e3,zc⟩:=Uk (P:=P) (w:=w) (ty:=o.type) (base:=base) h0 hm hs he hz g F h;have X:(execOp a.eval o).run P w=((Builtin.append_ #[A,xT] o.type #[a.eval x,a.eval y]).run P w).andThen λv w'=>.ok (.value v) w':=by
   simp[execOp,ho,resolve,hc,zd,hT,invoke,builtin]
  rw[K,h2]at X;obtain⟨q1,q2,q3⟩:=st.rel.drawn W e2 e3;obtain⟨r1,r2,Y⟩:=q1.add q (.row J e.size (ke m (Og z))) (.cells (#[]++(if m * e.size=0 then #[]else Builtin.zeroCells z.cells m)++Builtin.zeroCells z.cells (q - m)) E (0,0)) (λL=>by
   have hv:(G.at (Z S) s.heap.size q br).BJ (Z S)=none:=by simp[Gh.at]
   have N:(G.at (Z S) s.heap.size q br).Cf (Z S)=s.heap.size:=by simp[Gh.at]
   have Q:(G.at (Z S) s.heap.size q br).cap (Z S)=(q,0):=by simp[Gh.at]
   simp only[OK,hv,N,Q];refine⟨_,E,EK,?_,by simpa using M,by simp[ao];omega,λi hi=>?_⟩
   .refine ad3 (Eq.symm ?_);have:(if m * e.size=0 then(#[]:Array Value)else Builtin.zeroCells z.cells m).size=m * e.size:=by
     split<;>simp[Ew, *]
    simp only[acZ,Ew,g,wl,this,adq,rc];rw[<-sw];congr 1;omega
   .have hi:i<m:=by simpa using hi
    have t:=Ia (G.at (Z S) s.heap.size q br) (S++[.row J e.size (ke m (Og z))]) (Bj s (.cells (#[]++(if m * e.size=0 then #[]else Builtin.zeroCells z.cells m)++Builtin.zeroCells z.cells (q - m)) E (0,0))) z;obtain⟨c1,c2,_⟩:=t.cells (by simpa using H);refine⟨z,by simpa using t,g,λx C=>?_,λj hj=>?_⟩
    .obtain⟨k,hk,rfl⟩:=abF.1 C;exact c2 k hk
    .have y7:=FZ hi hj;have u:(i * e.size+j) % z.cells.size=j:=by rw[g,acR,adK];exact ww hj
     have R:j<z.cells.size:=by omega
     have y9:m * e.size≠0:=by omega
     have zH:i * e.size+j<m * z.cells.size:=by rw[g];exact y7
     rw[a9 y9,wl,Array.empty_append,ab9 (by rw[Ew];exact zH)];simp[Builtin.zeroCells,zH,u,R])
  rw[W]at r1 r2 Y;refine⟨_,_,_,by rw[X];simp only[rc];rw[zc];rfl,?_,r1,q2.trans r2,q3.trans Y⟩;refine .row _ _ _ rfl (by simp) λm' T=>?_;have:m'=m:=by simpa[lenOf]using T.symm
  subst this;exact⟨ci _,λ_=>by simp[Gh.BP,Gh.at]⟩
theorem AY.TH{ops:Array Oper}{b:Nat}{K:Tm->Sg->Prop}{rest:List Oper}{c:Call}{i xT E:TypeId}{x y:Operand}{bt:Nat}(m:Nat)(z:V)(sz:Nat)(q:o.op=.call c)(s:c.callee=.builtin .append)(w:c.args=#[x,y])(A:c.argTypes=#[i,xT])
  (B:o.guard=br/\A6 n o.dst/\need (ev tm x)/\need (ev tm y)/\strip (ev tm x)=.full []/\strip (ev tm y)=.d (.int .i64 m)) (g:P.underlying xT=al (.int .i64))
  (j:BB P i=al E) (C:Gg P E=al z) (F:DH P E=al sz) (G:Jr P E=al bt) (H:bt<=65536) (h:Z (Aj z)=sz/\(Ap z||Bu z)=J) (h0:0<m) (L:m<=2 ^ 30)
  (M:AY P n b ops rest (put tm o.dst (.row (Z S) m)) (S++[.row J sz (ke m z)]) K):AY P n b ops (o::rest) tm S K:=by
 obtain⟨N,Q,R,T,U,W⟩:=B;obtain⟨t,Y,e2⟩:=A8 j;obtain⟨e,f1,f2,_⟩:=CB F;obtain⟨X,u,k1,k2,k3⟩:=Em C;rw[f1]at k1;cases k1;obtain⟨X,l1,l2⟩:=Jv G;rw[f1]at l1;cases l1;subst k3;obtain⟨g1,k⟩:=h;obtain⟨c1,_⟩:=(Ia {I:=λ_=>False,Cf:=λ_=>0,cap:=λ_=>(0,0),BJ:=λ_=>br} ([]:Sg) (default:World) u).cells (by simpa using k);subst f2;exact AY.Zb ⟨N,Q⟩ (XF q s w A R T j g f1 k2 (by omega) k (by omega) U W h0 L) M
theorem Zx{T E:TypeId}{x y:Operand}{e:TI}{t:TI}{k:IntKind}(j:o.op=.slice T x br (al y) br)(m:need (ev tm x))
  (q:strip (ev tm x)=.full []) (s:ti P T=al t) (u:t.kind=.slice E) (z:ti P E=al e) (A:need (ev tm y)) (C:strip (ev tm y)=.d (.int k 0)):
  CP P n o tm S (.full []) S:=.pure λG w a st=>by
 have g:=(BY st x).strip m;obtain⟨d,F,h⟩:=An s w;have i:d=.slice E:=by rw[u]at h;cases d<;>simp[tk]at h⊢;exact h
 subst i;rw[q]at g;generalize H:a.eval x=B at g;cases g with
 |full _ b L=>
  have K:=B5 st A C;have hb:(Instr.sliceBounds J 0 0 br (al (a.eval y)) br).run P w=.ok (0,0,0) w:=by
   unfold Instr.sliceBounds;simp[K,Ca (H1 0) (show(0:Int)<=((0:Nat):Int)from H1 0)]
  refine⟨.slice b 0 0,?_,?_⟩
  .simp[execOp,j,Instr.sliceAt,H,F,Instr.slice,hb,Ba z]
  .exact .full [] b (.nil b 0)
theorem AY.V2{ops:Array Oper}{b:Nat}{K:Tm->Sg->Prop}{rest:List Oper}{T E:TypeId}{x y:Operand}{sz:Nat}(g:o.op=.slice T x br (al y) br)
  (h:o.guard=br/\A6 n o.dst/\need (ev tm x)/\strip (ev tm x)=.full []/\need (ev tm y)/\∃k,strip (ev tm y)=.d (.int k 0)) (i:BB P T=al E) (j:DH P E=al sz)
  (m:AY P n b ops rest (put tm o.dst (.full [])) S K):AY P n b ops (o::rest) tm S K:=by
 obtain⟨q,s,u,w,z,k,A⟩:=h;obtain⟨t,B,C⟩:=A8 i;obtain⟨e,f1,f2,_⟩:=CB j;exact AY.Zb ⟨q,s⟩ (Zx g u w B C f1 z A) m
end
theorem oU(n:Nat)(hn:n<=2 ^ 30):AH prog 225 [.full [],.d (AF n)] [] (.row 0 0) [.row (decide (0<n)) 2 []]:=by
 refine zC func225 27 rfl λwf _=>?_;apply yW;simp;refine xS (yW ?_);simp;apply AQ;simp;refine⟨λh=>absurd h (by omega),?_⟩;apply B8;have i:bv .i64 (n:Int)=n:=by rw[c8];omega
 have g:bv .i64 0=0:=by decide
 refine xS (yW ?_);simp[i,g];apply yW;simp;apply AQ;simp;refine⟨λh=>?_,λh=>?_⟩
 .have h0:0<n:=by omega
  have j:prog.underlying 3=al (.int .i64):=by kernel_rfl
  apply yT;(iterate 3 (refine Cg (by simp) ?_;simp));refine AY.V2 (E:=80) (sz:=2) rfl (by simp) (by simp) (by simp) ?_;simp;(iterate 1 (refine Cg (by simp) ?_;simp));refine AY.TH (E:=80) (bt:=16) n (.agg [.d (.bool am),.d (.int .i64 0)]) 2 rfl rfl rfl rfl (by simp) j (by simp) (by simp) (by simp) (by simp) (by simp) (by simp) h0 hn ?_;simp;(iterate 2 (refine Cg (by simp) ?_;simp));(refine AY.KZ 0 n 2 (ke n (.agg [.d (.bool am),.d (.int .i64 0)])) 0 0 rfl ?_ ?_)
  .simp[vG]
  .simp;apply yJ;simp;apply yW;simp;apply Am;refine⟨_,C4 [1] (S0:=[.row (decide (0<n)) 2 []]) (by simp[h0]) (by simp) (by simp),?_⟩;simp[At,pick];try decide
 .have h0:n=0:=by omega
  subst h0;apply xK;apply yW;simp;apply Am;refine⟨_,tv 4 2 (xs:=[]) (by simp),?_⟩;simp[At]
def HK(g:List (List Symbol))(i:Nat):List Symbol:=(g.take i).flatten
abbrev acg:=@List.flatten_append
abbrev abR:=@List.flatten_cons
abbrev adC:=@List.flatten_nil
theorem PV(g:List (List Symbol)){i:Nat}(h:i<Z g):HK g (i+1)=HK g i++g[i]:=by
 unfold HK;rw[vj h,acg];simp
theorem Re(g:List (List Symbol)):HK g (Z g)=g.flatten:=by unfold HK;rw[s9]
abbrev abL:=@List.take_append_drop
theorem ig(g:List (List Symbol))(i:Nat):Z (HK g i)<=Z g.flatten:=by
 unfold HK;conv=>rhs;rw[<-abL i g,acg,i6]
 omega
abbrev ac6:=@List.mem_flatten
abbrev aca:=@List.length_pos_of_mem
theorem Ng(g:List (List Symbol))(hn:Z g.flatten<=2 ^ 30):Pure prog 173 [.sl (g.map λxs=>As xs)] (As g.flatten):=by
 have q:∀i,Z (HK g i)<=2 ^ 30:=λi=>oq (ig g i) hn;have k:HK g 0=[]:=rfl;refine ip func173 rfl rfl (by simp) λwf=>?_;have t:Z g<=ao:=by have:=wf.1;simp[Da]at this;simpa using this.1
 rw[ntmps173];apply yW;simp;apply yW;simp;refine xS (yW ?_);simp;apply Bp;refine FH (Z g) (λi tm S=>tm 0=.d (.sl (g.map λxs=>As xs))/\tm 9=.d (.sl (g.map λxs=>As xs))/\tm 11=.d (AF i)/\tm 10=.d (AF (Z g))/\tm 3=.d (AF (Z (HK g i)))/\S=[]) (ed _) (by simp[k]) ?_;rintro i tm S hi ⟨t0,t9,t11,t10,t3,rfl⟩;apply yW;simp[t10,t11];apply xC;simp;refine⟨λj=>?_,λu=>?_⟩
 .apply xK;apply xB;have m:Z (HK g (i+1))=Z (HK g i)+Z g[i]:=by rw[PV g j,i6]
  have o:=q (i+1);have A:=q i;rw[m]at o;have v:bv .i64 (Z (HK g i)+Z g[i]:Int)=(Z (HK g (i+1)):Int):=by rw[c8,m];omega
  apply yW;simp[t9,t11,j];apply yW;simp[t3,v];apply yW;simp;apply AQ;simp;refine⟨λh=>?_,?_⟩
  .exact absurd h (by omega)
  .apply B8;apply yV;simp[t11];refine⟨j,_,_,ap,?_⟩;simp[t0,t9,t10,AL j t]
 .have e:i=Z g:=by omega
  subst e;rw[Re]at t3;apply Co;apply yS;apply yJ;simp[t3];refine xF (oU (Z g.flatten) hn) [] rfl ?_;simp;apply yJ;simp;refine xS (yW ?_);simp[t0];apply Bp;generalize s:Z g.flatten=F at *;refine FH (Z g) (λi tm S=>tm 25=.d (.sl (g.map λxs=>As xs))/\tm 27=.d (AF i)/\tm 26=.d (AF (Z g))/\tm 6=.row 0 (Z (HK g i))/\S=[.row (decide (0<F)) 2 ((HK g i).map λx=>.d (AI x))]) (ed _) (by simp[k,<-s]) ?_;rintro i tm S hi ⟨t25,t27,t26,t6,rfl⟩;apply yW;simp[t26,t27];apply xC;simp;refine⟨λj=>?_,λu=>?_⟩
  .have m:=PV g j;have o:=q (i+1);rw[m,i6]at o;have w:(decide (0<F)||!g[i].isEmpty)=decide (0<F):=by
    cases h:g[i]with
    |nil=>simp
    |cons y B=>
     have:y∈g.flatten:=ac6.2 ⟨_,cF j,by rw[h];simp⟩;have:0<F:=by rw[<-s];exact aca this
     simp[this]
   apply xK;apply xB;apply yW;simp[t25,t27,j];apply yT;apply yJ;simp[t6,o,Ac];apply yV;simp[t27];refine⟨j,_,_,ap,?_⟩;simp[t25,t26,AL j t,m,w]
  .have e:i=Z g:=by omega
   subst e;rw[Re]at t6⊢;generalize z:g.flatten=L at *;apply Co;apply yW;simp[t6];apply Am;refine⟨_,_,fc 0 (xs:=L.map AI) rfl (by simp),?_⟩;simp[s,BC];rw[<-z];simp
def Bd(p:Int):Bo:=⟨-1,p,-1,ByteArray.empty⟩
def C2(i:Int):Bo:=⟨i,-1,-1,ByteArray.empty⟩
theorem M7(p:Int):Pure prog 176 [AF p] (Ar (Bd p)):=by
 refine zP func176 5 rfl λwf=>?_;apply yW;simp;apply yW;simp;apply Am;refine⟨_,_,ap,?_⟩;simp[Bd,Ar]
def A5(a:Nat):Nat->List Bo
 |0=>[]
 |k+1=>A5 a k++[C2 ((a+k:Nat):Int)]
theorem CU(a k:Nat):Z (A5 a k)=k:=by
 induction k with
 |zero=>rfl
 |succ k g=>simp[A5,g]
abbrev l5:=@or_imp
abbrev ls:=@forall_and
theorem KT(xs:List Bo)(w:Bool)(a k:Nat)(h:Z xs+k<=2 ^ 30)(ha:a+k<=2 ^ 31):
  AH prog 175 [.row 0 (Z xs),.d (AF a),.d (AF (a+k:Nat))] [.row w 4 (xs.map λt=>.d (Ar t))] (.row 0 (Z xs+k)) [.row (w||decide (0<k)) 4 ((xs++A5 a k).map λt=>.d (Ar t))]:=by
 refine zC func175 20 rfl λwf _=>?_;apply yW;simp;refine xS (yW ?_);simp;apply Bp;refine FH k (λi tm S=>tm 0=.row 0 (Z xs+i)/\tm 2=.d (AF (a+k:Nat))/\tm 7=.d (AF (a+i:Nat))/\S=[.row (w||decide (0<i)) 4 ((xs++A5 a i).map λt=>.d (Ar t))]) (ed _) (by simp[A5]) ?_;rintro i tm S hi ⟨t0,t2,t7,rfl⟩;refine xS (yW ?_);simp[t2,t7];apply AQ;simp;refine⟨λm=>?_,λs=>?_⟩
 .have m:i<k:=by omega
  have o:bv .i64 ((a:Int)+i+1)=(a:Int)+(i+1):=by rw[c8];omega
  have g:Z xs+i+1<=1073741824:=by omega
  have q:1<=ao:=by unfold ao;omega
  have j:=CU a i;apply xK;apply xB;apply yT;apply yJ;simp[t0,t7,q,g,Ac,j,l5,ls];apply yV;simp[t7,o];refine⟨m,_,_,ap,?_⟩;simp[t2,A5,q7,Ar,C2]
 .have e:i=k:=by omega
  subst e;apply Co;apply yW;simp[t0];apply Am;refine⟨_,ap,?_⟩;simp[At]
theorem Td{S:Sg}{r q k:Nat}{g:AD}{x:AR}{h0 h1 F G H K L M m:V}{N w:Bool}{els:List V}(hb:S[r]?=al (.row J 51 [bV g x h0 h1 F G H (.row q k) K L M m N]))(B:S[q]?=al (.row w 13 els))(Y:Z els=k)(hk:k+1<=2 ^ 30)(hz:Ac 13 els)(p:AM)
  (W:((S.set q (.row J 13 (els++[.d (AG p)]))).set r (.row J 51 [bV g x h0 h1 F G H (.row q (k+1)) K L M m N])).all (Ao (Z S))=J):
  AH prog 174 [.ptr r 1 0 0,.d (AG p)] S (.d (AF k)) ((S.set q (.row J 13 (els++[.d (AG p)]))).set r (.row J 51 [bV g x h0 h1 F G H (.row q (k+1)) K L M m N])):=by
 unfold bV at hb W⊢;have v:=Ai hb;have j:=Ai B;have z:q≠r:=λe=>by subst e;rw[hb]at B;cases B
 have C:∀T,(S++T)[r]?=_:=λT=>(i5 v).trans hb;have s:∀T,(S++T)[q]?=_:=λT=>(i5 j).trans B;have zb:∀T o,(S++T).set r o=S.set r o++T:=λT o=>ab8 _ _ v;have P:∀T o,(S++T).set q o=S.set q o++T:=λT o=>ab8 _ _ j;have h:∀o,Z (S.set q o)=Z S:=λo=>ab2;have t:∀T o i,(S.set q o++T).set r i=(S.set q o).set r i++T:=λT o i=>ab8 _ _ (by rw[h];exact v);have E:∀T o,(S.set q o++T)[r]?=_:=λT o=>((i5 (by rw[h];exact v)).trans (sn z)).trans hb;have A:∀T o i,((S.set q o).set r i++T)[r]?=al i:=λT o i=>(i5 (by rw[ab2,h];exact v)).trans (abf (by rw[h];exact v));have Q:∀T o i,((S.set q o).set r i++T)[q]?=al o:=λT o i=>(i5 (by rw[ab2,h];exact j)).trans ((sn (ru z)).trans (abf j));have u:=AG.eq_1 p;have X:1<=ao:=by unfold ao;omega
 have R:k+1<=1073741824:=by omega
 have hw:bv .i64 (k:Int)=k:=by rw[c8];omega
 have U:(∀y,y∈els->Z (Aj y)=13/\(Ap y=J\/Bu y=J))↔True:=iff_true_intro (by simpa[Ac]using hz);subst Y;refine zD func174 24 rfl λwf _=>?_;apply yW;simp[u];refine yD (A3 8 [17,18,20,22,25]) (by kernel_rfl) ?_;simp;apply yA 1;simp[C,X];apply xX 5 (by kernel_rfl);simp[C,s,E,Aa,P,R,U,Ac,X];apply yA 1;simp[E];apply xX 505 (by kernel_rfl);simp[E,A,Aa,t];apply xM;(repeat apply xS);apply yT;apply yJ;simp[A,Q,hw];apply Am;refine⟨_,_,_,ap,?_,?_,ea (Z S) (by simp[h,u]) (ci _) (by simp[h]) (by simpa[h,u]using W)⟩
 .simp
 .simp
theorem U1{S:Sg}{r q k:Nat}{g:AD}{x:AR}{h0 h1 E F G H K L m:V}{M w:Bool}{els:List V}(hb:S[r]?=al (.row J 51 [bV g x h0 h1 E F (.row q k) G H K L m M]))(A:S[q]?=al (.row w 1 els))(X:Z els=k)(hk:k+1<=2 ^ 30)(Y:Ac 1 els)
  (U:((S.set q (.row J 1 (els++[.d (BG x.name)]))).set r (.row J 51 [bV g x h0 h1 E F (.row q (k+1)) G H K L m M])).all (Ao (Z S))=J):
  AH prog 177 [.ptr r 1 0 0] S (.d (AI ⟨am,k⟩)) ((S.set q (.row J 1 (els++[.d (BG x.name)]))).set r (.row J 51 [bV g x h0 h1 E F (.row q (k+1)) G H K L m M])):=by
 unfold bV at hb U⊢;have u:=Ai hb;have j:=Ai A;have v:q≠r:=λe=>by subst e;rw[hb]at A;cases A
 have B:∀T,(S++T)[r]?=_:=λT=>(i5 u).trans hb;have s:∀T,(S++T)[q]?=_:=λT=>(i5 j).trans A;have zb:∀T o,(S++T).set r o=S.set r o++T:=λT o=>ab8 _ _ u;have N:∀T o,(S++T).set q o=S.set q o++T:=λT o=>ab8 _ _ j;have h:∀o,Z (S.set q o)=Z S:=λo=>ab2;have t:∀T o i,(S.set q o++T).set r i=(S.set q o).set r i++T:=λT o i=>ab8 _ _ (by rw[h];exact u);have C:∀T o,(S.set q o++T)[r]?=_:=λT o=>((i5 (by rw[h];exact u)).trans (sn v)).trans hb;have z:∀T o i,((S.set q o).set r i++T)[r]?=al i:=λT o i=>(i5 (by rw[ab2,h];exact u)).trans (abf (by rw[h];exact u));have P:∀T o i,((S.set q o).set r i++T)[q]?=al o:=λT o i=>(i5 (by rw[ab2,h];exact j)).trans ((sn (ru v)).trans (abf j));have W:1<=ao:=by unfold ao;omega
 have Q:k+1<=1073741824:=by omega
 have hw:bv .i64 (k:Int)=k:=by rw[c8];omega
 have R:(∀y,y∈els->Z (Aj y)=1/\(Ap y=J\/Bu y=J))↔True:=iff_true_intro (by simpa[Ac]using Y);subst X;refine zD func177 27 rfl λwf _=>?_;apply yW;simp;refine yD (A3 12 [25,26,28,30,33]) (by kernel_rfl) ?_;simp;apply yA 1;simp[B,W];apply xX 65 (by kernel_rfl);simp[B,s,C,Aa,N,Q,R,Ac,W];apply yA 1;simp[C];apply xX 8185 (by kernel_rfl);simp[C,z,Aa,t];apply xM;(repeat apply xS);apply yT;apply yJ;simp[z,P,hw];apply Am;refine⟨_,_,_,ap,?_,?_,ea (Z S) (by simp[h]) (ci _) (by simp[h]) (by simpa[h]using U)⟩
 .simp
 .simp[AI]
section
variable {P:Program} {n b:Nat} {ops:Array Oper} {o:Oper} {tm:Tm} {S S':Sg} {K:Tm->Sg->Prop} {v:V}
theorem Ad.pP{B:List (Nat×(Sg->Prop))}{i:Nat}{rest:List (Nat×Bool×Oper)}{c:Call}{f:FuncId}{args:List V}(ws:List Bool)(h:AH P f args S v S')(g:B.map (λp=>waits ops i p.1)=ws)(j:o.op=.call c)
  (k:o.guard=br/\A6 n o.dst/\A9 tm c/\callee tm c=al (f,args)/\okB ws B S S') (m:Ad P n b ops (FK ws B) rest (put tm o.dst v) S' K):Ad P n b ops B ((i,am,o)::rest) tm S K:=by
 obtain⟨q,s,t,u,w⟩:=k;exact Ad.tT ws g (λhi=>Pi hi j q s u t h) w m
end
def Ms(g:AD)(x:AR):AM:={GR with name:=x.name,left:=Z g.Ay,right:=((BI g x).right.take x.to.toNat).drop x.at_.toNat,cond:=(BI g x).cond}
def MR(g:AD)(x:AR):List Symbol:=(BI g x).right.take x.at_.toNat++[⟨am,Z g.Ay⟩]++(BI g x).right.drop x.to.toNat
def KW(g:AD)(x:AR):List Bo:=([Bd x.number]++A5 0 x.at_.toNat)++[Bd (Z g.AE)]++A5 x.at_.toNat (Z (BI g x).right - x.at_.toNat)
def I8(g:AD)(x:AR):AD:={g with Ay:=g.Ay++[x.name],AE:=(g.AE++[Ms g x]).set x.number.toNat {BI g x with right:=MR g x}}
def foldM(g:AD)(x:AR):List Rewrite:=[⟨x.number,-1,-1,KW g x⟩]
theorem Ha{g:AD}{x:AR}(h:Hv g x=J):CW g x=J/\∃j a t:Nat,x.number=j/\x.at_=a/\x.to=t/\j<Z g.AE/\a<t/\t<=Z (BI g x).right:=by
 simp[Hv]at h;obtain⟨⟨⟨h1,k⟩,m⟩,o⟩:=h;have i:=h1;simp[CW]at i;exact⟨h1,x.number.toNat,x.at_.toNat,x.to.toNat,by omega,by omega,by omega,by omega,by omega,by omega⟩
theorem uZ(g:AD)(x:AR):Tz (bS g x) 4 g x:=⟨_,_,_,_,_,_,_,_,_,_,_,rfl⟩
theorem mR(g:AD)(x:AR)(hf:Hv g x=J)(hb:Di g x.number=am)(hl:Z g.AE<=2 ^ 20)(hn:Z g.Ay<=2 ^ 20)(hr:Z (BI g x).right<=2 ^ 20):
  AH prog 93 [.ptr 4 1 0 0] (bS g x) (.d (AF 0)) (FN g x (I8 g x) (foldM g x) am):=by
 obtain⟨hp,j,a,t,hj,ha,s,zu,h1,C⟩:=Ha hf;have E:=Ht (uZ g x) (by simp[bS,CQ,bV]) (i:=x.number) (by omega);rw[hb]at E;have A:=KQ (uZ g x) (by simp[bS,CQ,bV]) hp;unfold I8 foldM Ms KW MR;generalize zl:BI g x=o at *;have m:=AG.eq_1 o;have F:=U1 (S:=bS g x++[O.row J 13 [.d (AG o)]]) (r:=4) (q:=2) (k:=Z g.Ay) (g:=g) (x:=x) rfl rfl (by simp) (by omega) (by simp[Ac]) (by simp[bS,CQ,bV]);have hcl:=(JH ((o.right.take t).drop a) (by simp;omega)).Lt;have M:=Td (S:=CQ g x {g with Ay:=g.Ay++[x.name]} (.full []) am (!g.conds.isEmpty) (!g.AU.isEmpty) J (!g.AE.isEmpty)++[O.row J 13 [.d (AG o)],O.row J 2 [.d (AI ⟨am,Z g.Ay⟩)]]) (r:=4) (q:=3) (k:=Z g.AE) (g:=g) (x:=x) rfl rfl (by simp) (by omega) (by simp[Ac]) {GR with name:=x.name,left:=Z g.Ay,right:=(o.right.take t).drop a,cond:=o.cond} (by simp[CQ,bV]);have v:=M.E5 (args':=[.ptr 4 1 0 0,.agg [.d (.str x.name),.d (.int .i64 (Z g.Ay)),.d (.sl (((o.right.map AI).take t).drop a)),.d (.sl (o.cond.nodes.map AZ)),.d (.int .i64 o.cond.root),.d (.bool am),.d (.int .i64 0),.full [],.d (.bool am),.d (.int .i64 0),.d (.int .i64 0),.d (.int .i64 0),.d (.int .i64 0)]]) rfl λi h h'=>by
  match i,h with
  |0,_=>exact .inl rfl
  |1,_=>exact .inr ⟨_,by simp[BC,AG,GR],rfl⟩
 clear M;refine zC func93 102 rfl λwf _=>?_;unfold bS CQ bV at E A F⊢;unfold CQ bV at v;simp[m,hj,ha,s]at v;simp[m]at F;apply yW;simp;refine xS (yS ?_);apply yJ;simp;refine ms rfl rfl (by simp) (f:=170) (args:=[.ptr 4 1 0 0,.d (AF x.number)]) (by simp[callee];try rfl) (by simp) E (yJ ?_);simp;apply AQ;simp;apply xK;apply yS;apply yJ;simp;refine ms rfl rfl (by simp) (f:=92) (args:=[.ptr 4 1 0 0]) (by simp[callee];try rfl) (by simp) A (yJ ?_);simp[m];refine yD (A3 12 []) (by kernel_rfl) ?_;simp;apply yA 0;simp;(repeat apply xS);apply yT;apply yJ;simp;refine ms rfl rfl (by simp) (f:=177) (args:=[.ptr 4 1 0 0]) (by simp[callee];try rfl) (by simp) F (yJ ?_);simp;have hX:∃X5 X6,X5=O.row J 13 [.d (AG o)]/\X6=O.row J 2 [.d (AI ⟨am,Z g.Ay⟩)]:=⟨_,_,rfl,rfl⟩;have d1:a<=t:=by omega
 have d3:a<Z o.right:=by omega
 (repeat apply xS);refine yE (A3 17 [35,36]) (by kernel_rfl) ?_;simp;apply yA 1;simp[hj,ha,s,d1,C,d3];refine kt (hcl) rfl (by simp[xN]) ?_;simp;apply yA 1;simp;refine Ad.pP (xT [1,0,0,1,0,0,0,0,0,0,0,0,0,0,0,0,1]) (v) (by kernel_rfl) rfl (by simp[Aa,d1,C,d3];try rfl) ?_;simp;apply yA 1;simp;clear v F E A;obtain⟨z,B⟩:∃z,z=g.AE++[{GR with name:=x.name,left:=Z g.Ay,right:=(o.right.take t).drop a,cond:=o.cond}]:=⟨_,rfl⟩;have T:List.map (λx=>V.d (AG x)) g.AE++[V.d (AG {GR with name:=x.name,left:=Z g.Ay,right:=(o.right.take t).drop a,cond:=o.cond})]=List.map (λx=>V.d (AG x)) z:=by rw[B];simp
 rw[T];have u:Z z=Z g.AE+1:=by rw[B];simp
 have G:j<Z z:=by omega
 have H:j<Z g.AE+1:=by omega
 have w:z[j]=o:=by
  have:BI g x=g.AE[j]:=by simp[BI,hj,zu]
  rw[zl]at this;simp[B,zu,this]
 rw[s,ha,hj];simp;rw[<-B];clear B T;have K:=Ng [o.right.take a,[⟨am,(Z g.Ay:Nat)⟩],o.right.drop t] (by simp;omega);obtain⟨R,hR⟩:∃R,R=o.right.take a++⟨am,(Z g.Ay:Nat)⟩::o.right.drop t:=⟨_,rfl⟩;have U:[o.right.take a,[(⟨am,(Z g.Ay:Nat)⟩:Symbol)],o.right.drop t].flatten=R:=by rw[hR];simp
 rw[U]at K;have d4:a<=Z o.right:=by omega
 have L:(j:Int)<Z g.AE+1:=by omega
 have Y:List.take (Z o.right) (List.map AI o.right)=List.map AI o.right:=vq (by simp);refine PP (R:=λtm S=>tm 0=.ptr 4 1 0 0/\tm 3=.ptr 5 1 0 0/\tm 4=.d (AF a)/\tm 5=.d (AF t)/\tm 7=.d (AF (Z g.AE))/\S=CQ g x {g with Ay:=g.Ay++[x.name],AE:=z.set j {o with right:=R}} (.full []) am (!g.conds.isEmpty) (!g.AU.isEmpty) J J++[O.row J 13 [.d (AG o)],O.row J 2 [.d (AI ⟨am,Z g.Ay⟩)]]) ?_ ?_
 .by_cases d5:t<Z o.right
  .skip;refine yE (A3 24 [49]) (by kernel_rfl) ?_;simp;apply yA 1;simp[d4,C,ao,d5];refine kt (K) rfl (by simp[Y,xN]) ?_;simp[Y];apply yA 1;simp[H,L,u];apply xX 16777213 (by kernel_rfl);simp[Aa,m,d4,C,H,L,u,w,ao,d5];apply xM;refine⟨_,_,(jp 3 (xs:=(z.set j {o with right:=R}).map AG) rfl ?_).trans (rr (S':=CQ g x {g with Ay:=g.Ay++[x.name],AE:=z.set j {o with right:=R}} (.full []) am (!g.conds.isEmpty) (!g.AU.isEmpty) J J++[O.row J 13 [.d (AG o)],O.row J 2 [.d (AI ⟨am,Z g.Ay⟩)]]) ?_),?_⟩
   .rw[Be,gl,md,gl,gl,md];congr 1
   .simp[CQ,bV,hj,ha,s,u,lm,m]
   .simp
  .have d6:t=Z o.right:=by omega
   have d7:Z o.right<=t:=by omega
   refine yE (A3 24 [49]) (by kernel_rfl) ?_;simp;apply yA 1;simp[d4,ao,d6];refine kt (K) rfl (by simp[Y,d7,xN]) ?_;simp[Y];apply yA 1;simp[H,L,u];apply xX 16777213 (by kernel_rfl);simp[Aa,m,d4,H,L,u,w,ao];apply xM;refine⟨_,_,(jp 3 (xs:=(z.set j {o with right:=R}).map AG) rfl ?_).trans (rr (S':=CQ g x {g with Ay:=g.Ay++[x.name],AE:=z.set j {o with right:=R}} (.full []) am (!g.conds.isEmpty) (!g.AU.isEmpty) J J++[O.row J 13 [.d (AG o)],O.row J 2 [.d (AI ⟨am,Z g.Ay⟩)]]) ?_),?_⟩
   .rw[Be,gl,md,gl,gl,md];congr 1
   .simp[CQ,bV,hj,ha,s,u,lm,m];omega
   .simp;omega
 rintro tm S ⟨t0,t3,t4,t5,t7,rfl⟩;clear K U;have hl3:Z (z.set j {o with right:=R})=Z g.AE+1:=by simp[u]
 generalize hP3:z.set j {o with right:=R}=P3 at *;have W:=M7 (j:Int);have X:=M7 (Z g.AE:Int);have hh1:=KT [Bd j] am 0 a (by simp;omega) (by omega);have N:=KT (([Bd j]++A5 0 a)++[Bd (Z g.AE)]) J a (Z o.right - a) (by simp[CU];omega) (by omega);have zV:a+(Z o.right - a)=Z o.right:=by omega
 rw[zV]at N;unfold CQ bV;(repeat apply xS);apply yT;apply yJ;simp[t0,hj];refine Bz (W) rfl (by simp[xN]) (yJ ?_);simp[ao,t4];refine z0 (tv 78 4 (xs:=[Ar (Bd j)]) (by simp)) ?_;refine xF (hh1) [7] rfl ?_;simp;apply yJ;simp;have e5:a+1=1+a:=by omega
 have e6:1+a<=1073741823:=by omega
 simp[CU,e5]at N;(repeat apply xS);refine yE (A3 4 [10,12,14,16,9,19,20]) (by kernel_rfl) ?_;simp;apply yA 1;simp[t7];refine Bs (X) rfl (by simp[xN]) ?_;simp;apply yA 1;simp[t3,t4,m,ao];apply xX 176 (by kernel_rfl);simp[Aa,Ag,CU,Ac,l5,ls,t3,t4,t7,ao,e5,e6];refine AC (xT [1,0,0,1,0]) (N) [7] (by kernel_rfl) rfl (by simp[Aa,t3,t4,t7,ao];try rfl) ?_;simp;apply yA 1;simp;obtain⟨P,Q⟩:∃P,P=Bd j::(A5 0 a++Bd (Z g.AE:Int)::A5 a (Z o.right - a)):=⟨_,rfl⟩;have hTl:Z P=1+a+1+(Z o.right - a):=by rw[Q];simp[CU];omega
 rw[<-hTl];refine io (fc 7 (wr:=true) (sz:=4) (els:=(P.map Ar).map V.d) (xs:=P.map Ar) (by rw[Q];simp[lm]) (Cr _ _)) ?_;simp;apply yW;simp[t0,ao];apply yW;simp;apply Am;rw[<-Q,<-hR,hP3];refine⟨_,(ea 5 (S':=CQ g x {g with Ay:=g.Ay++[x.name],AE:=P3} (.full [Ab ⟨j,-1,-1,P⟩]) am (!g.conds.isEmpty) (!g.AU.isEmpty) J J) ?_ (by simp) (by simp) ?_).trans (Jm g x _ _ [⟨j,-1,-1,P⟩] am _ _ _ _ rfl),?_⟩
 .simp[CQ,bV,hj,Ab]
 .simp
 .simp[At,clean,ER,AP]
section
variable {P:Program} {n b:Nat} {tm:Tm} {S:Sg}
theorem St.setRow{G:Gh}{w:World}{a:Act}(st:St P n G S w a tm){r sz:Nat}{els els':List V}(o:S[r]?=al (.row J sz els))(F:Z els'=Z els)
  (t:∀c T,w.heap[G.Cf r]?=al (.cells c T (0,0))->PU G S w sz els c (G.cap r).2->PU G S w sz els' c (G.cap r).2):
  St P n G (S.set r (.row J sz els')) w a tm/\Tr G S w G (S.set r (.row J sz els')) w/\BH G S w G (S.set r (.row J sz els')) w:=by
 have R:=st.rel;have H:=Ai o;have Dj:(S.set r (.row J sz els'))[r]?=al (.row J sz els'):=by simp[H]
 have u:∀g,g≠r->(S.set r (.row J sz els'))[g]?=S[g]?:=λg h=>by simp[sn (ru h)]
 have el:∀g,lenOf (S.set r (.row J sz els')) g=lenOf S g:=λg=>by
  by_cases e:g=r
  .subst e;simp[lenOf,Dj,o,F]
  .simp[lenOf,u g e]
 have K:∀g,C0 (S.set r (.row J sz els')) g=C0 S g:=λg=>by
  by_cases e:g=r
  .subst e;simp[C0,Dj,o]
  .simp[C0,u g e]
 have em:∀g,Bn (S.set r (.row J sz els')) g=Bn S g:=λg=>by
  by_cases e:g=r
  .subst e;simp[Bn,Dj,o]
  .simp[Bn,u g e]
 have L:BH G S w G (S.set r (.row J sz els')) w:=
  ⟨λ_ h=>h,λ_ _=>rfl,by simp,λg _ M N=>⟨M,by rw[<-el];exact N,ci _,λ_=>⟨rfl,rfl,rfl,.inl (K g)⟩⟩,λg _ Q=>⟨by rw[<-em];exact Q,rfl⟩⟩
 have own:∀g x,(S.set r (.row J sz els'))[g]?=al x->∃A,S[g]?=al A/\Bb G g A=Bb G g x:=λg x B=>by
  by_cases e:g=r
  .subst e;rw[Dj]at B;cases B;exact⟨_,o,rfl⟩
  .rw[u g e]at B;exact⟨x,B,rfl⟩
 have i:∀k,HG G (S.set r (.row J sz els')) k->HG G S k:=by
  rintro k ⟨g,x,h1,C,U⟩;obtain⟨A,s,v⟩:=own g x h1;exact⟨g,A,s,by rw[v];exact C,U⟩
 refine⟨⟨st.size,st.tm.later L,⟨R.HU.later L,λg x j=>?_,λr1 r2 W X h1 C o1 Y he=>?_,λk m=>R.nI k (i k m),R.Kf,λk m=>R.Ik k (i k m)⟩⟩,⟨ci _,λ_ h=>h,λ_ _ _=>rfl,λk m=>.inl (i k m),λk m=>.inl m,rfl,rfl⟩,L⟩
 .by_cases e:g=r
  .subst e;rw[Dj]at j;cases j;have z:=R.DX g _ o;simp only[OK]at z⊢;cases E:G.BJ g with
   |none=>
    simp only[E]at z⊢;obtain⟨c,T,s,v,g3,g4,g5⟩:=z;exact⟨c,T,s,v,by omega,by omega,(t c T s g5).later L⟩
   |some q=>simp only[E]at z;exact absurd z.1 (by simp)
  .rw[u g e]at j;exact(R.DX g x j).later L (λ_=>rfl) rfl rfl rfl
 .obtain⟨y1,s,p1⟩:=own r1 W h1;obtain⟨y2,v,p2⟩:=own r2 X C;exact R.inj r1 r2 y1 y2 s v (by rw[p1];exact o1) (by rw[p2];exact Y) he
theorem AJ.Qe(r i c g:Nat){sz:Nat}{els u:List V}{xs:List D}(z:S[r]?=al (.row J sz els))(hi:els[i]?=al (.agg u))(W:u[c]?=al (.full xs)):
  AJ P n b tm S tm ((S++[O.row am g (xs.map .d)]).set r (.row J sz (els.set i (.agg (u.set c (V.row (Z S) (Z xs))))))):=λG w a st hb=>by
 have X:=Ai z;have m:=st.rel.DX r _ z;simp only[OK]at m;cases M:G.BJ r with
 |some q=>simp only[M]at m;exact absurd m.1 (by simp)
 |none=>
  simp only[M]at m;obtain⟨d,T,g1,g2,g3,g4,g5⟩:=m;obtain⟨zs,A⟩:=er.1 hi;obtain⟨B,C⟩:=er.1 W;obtain⟨v,f1,f2,f3,f4⟩:=g5 i zs;rw[A]at f1;cases f1 with
  |agg _ N hs Q ho=>
   have E:=Q c B;rw[C]at E;generalize hY:N[c]'(by omega)=Y at E;cases E with
   |full _ base o=>
    obtain⟨r1,r2,F⟩:=st.rel.NB g xs base o.len o;have H:St P n (G.at (Z S) 0 0 (al base)) (S++[.row am g (xs.map .d)]) w a tm:=⟨st.size,st.tm.later F,r1⟩;have R:r≠Z S:=by omega
    have eb:(G.at (Z S) 0 0 (al base)).Cf r=G.Cf r:=by simp[Gh.at,R]
    have ec:(G.at (Z S) 0 0 (al base)).cap r=G.cap r:=by simp[Gh.at,R]
    obtain⟨s1,s2,s3⟩:=H.setRow (r:=r) (els':=els.set i (.agg (u.set c (V.row (Z S) (Z xs))))) (by rw[i5 X];exact z) (by simp) λc2 T2 s t=>by
     rw[eb,g1]at s;cases s;rw[ec]at t⊢;intro j hj;have K:j<Z els:=by simpa using hj
     by_cases e:j=i
     .subst e;refine⟨.agg N,?_,f2,f3,f4⟩;simp;refine .agg _ _ (by simp[hs]) (λk hk=>?_) ho;by_cases U:k=c
      .subst U;simp[hY];refine .row _ _ _ rfl (by simp) λm' L=>?_;have:m'=Z xs:=by simpa[lenOf]using L.symm
       subst this;exact⟨ci _,λ_=>by simp[Gh.BP,Gh.at]⟩
      .rw[acu (λh=>U h.symm)];exact(Q k (by simpa using hk)).later F
     .rw[acu (λh=>e h.symm)];exact t j K
    exact⟨_,s1,r2.trans s2,(F.trans s3).late hb⟩
end
end Go.Koi
open Go.Koi.D renaming int->bi
namespace Go.Koi
open Go.Proofs Tryz
def RF:Al:=⟨0,0,0⟩
def gG(d:AO)(n:Int):Al:=d.nodes.getD (n - 2).toNat RF
def Fs(d:AO)(n v:Int):Int×Int:=if d.level n=v then((gG d n).low,(gG d n).high)else(n,n)
def Nr(d:AO)(n v:Int):Bool:=decide (0<=n)&&decide (n<2+Z d.nodes)&&(decide (2<=n)||decide (d.level n≠v))
def IC(l:List Al)(b:Al):List Al×Int:=
 if b.low=b.high then(l,b.low)else if firstIdx (λx=>decide (x=b)) l<0 then(l++[b],(Z l:Int)+2)else(l,firstIdx (λx=>decide (x=b)) l+2)
def QP(op x y:Int):Int:=if op=0 then x * y else if op=1 then max x y else(x+y).tmod 2
structure Seen where
 x:Int
 y:Int
 r:Int
 deriving DecidableEq
def IM(x:Seen):D:=.agg [AF x.x,AF x.y,AF x.r]
@[simp] theorem e9(x:Seen):Aj (.d (IM x))=[.d (AF x.x),.d (AF x.y),.d (AF x.r)]:=rfl
@[simp] theorem dT(x:Seen):Ap (.d (IM x))=true:=rfl
@[simp] theorem mW(x:Seen):Bu (.d (IM x))=false:=rfl
@[simp] theorem kF(x:Seen):BE (IM x)=[AF x.x,AF x.y,AF x.r]:=rfl
@[simp] theorem oL(x:Seen):CR.oneD (IM x)=true:=rfl
@[simp] theorem rk(x:Seen):Da (IM x)=Bq [AF x.x,AF x.y,AF x.r]:=rfl
@[simp] theorem ld(x y:Seen):CS [bi .i64 x.x,bi .i64 x.y,bi .i64 x.r] [bi .i64 y.x,bi .i64 y.y,bi .i64 y.r]=decide (x=y):=by
 cases x;cases y;rw[gI];simp[CS,DY]
@[simp] theorem lA(S:Sg)(x:Seen):Dp S (.d (IM x))=al [AF x.x,AF x.y,AF x.r]:=rfl
def seenAt(g:List Seen)(x y:Int):Int:=firstIdx (λt=>decide (t.x=x)&&decide (t.y=y)) g
def atR(a b:AO)(op:Int):Nat->List Al->List Seen->Int->Int->Option (List Al×List Seen×Int)
 |0,_,_,_,_=>br
 |f+1,j,h,x,y=>
  if x<2/\y<2 then(if 0<=x/\0<=y then al (j,h,QP op x y)else br)else
  if 0<=seenAt h x y then al (j,h,(h.getD (seenAt h x y).toNat ⟨0,0,0⟩).r)else
   if Nr a x (min (a.level x) (b.level y))&&Nr b y (min (a.level x) (b.level y))then
    match atR a b op f j h (Fs a x (min (a.level x) (b.level y))).1 (Fs b y (min (a.level x) (b.level y))).1 with
    |none=>br
    |some (k,m,low)=>
     match atR a b op f k m (Fs a x (min (a.level x) (b.level y))).2 (Fs b y (min (a.level x) (b.level y))).2 with
     |none=>br
     |some (g,i,high)=>
      if 1048576<=Z g\/1048576<=Z i then br else
      al ((IC g ⟨min (a.level x) (b.level y),low,high⟩).1,i++[⟨x,y,(IC g ⟨min (a.level x) (b.level y),low,high⟩).2⟩],(IC g ⟨min (a.level x) (b.level y),low,high⟩).2)
   else br
def Tu(nodes:List Al):Nat->List Int->List Al->Int->Option (List Int×List Al×Int)
 |0,_,_,_=>br
 |f+1,i,out,n=>
  if n<2 then al (i,out,n)else
  match i[(n - 2).toNat]? with
  |none=>br
  |some k=>
   if 0<k then al (i,out,k)else
   match Tu nodes f i out (nodes.getD (n - 2).toNat RF).low with
   |none=>br
   |some (j,h,low)=>
    match Tu nodes f j h (nodes.getD (n - 2).toNat RF).high with
    |none=>br
    |some (m,g,high)=>
     if 1048576<=Z g then br else
     al (m.set (n - 2).toNat ((Z g:Int)+2),g++[⟨(nodes.getD (n - 2).toNat RF).var,low,high⟩],(Z g:Int)+2)
def Yk(nodes:List Al)(root:Int):Option AO:=
 if 1048576<Z nodes then br else
 match Tu nodes 64 (ke (Z nodes) 0) [] root with
 |none=>br
 |some (_,out,r)=>al ⟨out,r⟩
def Mn(a b:AO)(op:Int):Option AO:=
 match atR a b op 64 [] [] a.root b.root with
 |none=>br
 |some (g,_,r)=>Yk g r
def PW(a:AO):Option AO:=Mn a ⟨[],1⟩ 2
def TN(a b:AO):Option AO:=match PW b with|none=>br|some c=>Mn a c 0
def Wf(l:List Int)(k:Nat):Bool:=decide (k / 8<Z l)&&(bv .u8 (max ((l.getD (k / 8) 0).fdiv (2 ^ (k % 8)) % 256) 0 % 2)==1)
def Jh(l:List Int)(n:Nat):Nat->Nat->Nat->Option AO
 |0,_,_=>br
 |f+1,v,k=>
  if 1048576<=k\/7<=v then br else
  if v=n then al ⟨[],if Wf l k then 1 else 0⟩else
  match Jh l n f (v+1) (k+2 ^ v)with
  |none=>br
  |some d1=>
   match Jh l n f (v+1) k with
   |none=>br
   |some d0=>
    match Mn (Aq v) d1 0 with
    |none=>br
    |some g=>
     match TN d0 (Aq v)with
     |none=>br
     |some h=>Mn g h 1
theorem SA(d:AO)(n v:Int)(h:Nr d n v=J):Pure a8 242 [AB d,AF n,AF v] (.CA [AF (Fs d n v).1,AF (Fs d n v).2]):=by
 simp[Nr]at h;obtain⟨⟨h1,k⟩,g⟩:=h;refine ip func242 rfl rfl (by simp) λwf=>?_;simp[Bq,Dh,Da]at wf;rw[ntmps242];apply yW;simp;refine xS (yS ?_);apply yJ;simp;refine Bz (Ir d n k) rfl (by simp[xN]) (yJ ?_);simp;apply AQ;simp;refine⟨λi=>?_,λi=>?_⟩
 .apply yW;simp;refine Am ⟨_,_,ap,?_⟩;simp[Fs,i]
 .have m:2<=n:=by rcases g with g|g;exact g;exact absurd i g
  have o:bv .i64 (n - 2)=n - 2:=wrap_i64 (by omega) (by omega);have j:(n - 2).toNat<Z d.nodes:=by omega
  have q:n - 2<(Z d.nodes:Int):=by omega
  apply xK;(repeat apply xS);refine yE (A3 16 []) (by kernel_rfl) ?_;simp;apply yA 0;simp[o,j,q,m];apply zT;simp[Fs,i,gG,j]
theorem fY(l:List Al)(b:Al)(w:Bool)(B:Z l<=2 ^ 20):AH a8 243 [.row 0 (Z l),.d (AZ b)] [.row w 3 (l.map λx=>.d (AZ x))] (.CA [.row 0 (Z (IC l b).1),.d (AF (IC l b).2)]) [.row (w||decide (Z l<Z (IC l b).1)) 3 ((IC l b).1.map λx=>.d (AZ x))]:=by
 have z:Z l<=ao:=by unfold ao;omega
 refine zC func243 38 rfl λwf _=>?_;apply yW;simp;refine xS (yW ?_);simp;apply AQ;simp;refine⟨λg=>?_,λg=>?_⟩
 .have m:IC l b=(l,b.low):=by simp[IC,g]
  rw[m];simp;(repeat apply xS);refine yE (A3 5 []) (by kernel_rfl) ?_;simp;apply yA 0;simp;apply Am;refine⟨_,C4 [0] (S0:=[.row w 3 (l.map λx=>.d (AZ x))]) (by simp) (by simp) (by simp),?_⟩;simp[At,pick]
 .have o:¬b.low=b.high:=g;apply xK;refine xS (yW ?_);simp;apply Bp;refine FH (Z l) (λi tm S=>tm 0=.row 0 (Z l)/\tm 3=.ptr 1 1 0 0/\tm 6=.d (AF i)/\S=[.row w 3 (l.map λx=>.d (AZ x)),.row J 3 [.d (AZ b)]]/\∀j (_:j<i) (h:j<Z l),l[j]≠b) (ed _) (by simp) ?_;rintro i tm S hi ⟨t0,t3,t6,rfl,s⟩;refine xS (yW ?_);simp[t0,t6];apply AQ;simp;refine⟨λq=>?_,λC=>?_⟩
  .apply xK;apply xB;refine yD (A3 6 []) (by kernel_rfl) ?_;simp;apply yA 0;simp[t0,t6,t3,q,-Dp];apply AQ;simp;refine⟨λg=>?_,λg=>?_⟩
   .have k:firstIdx (λx=>decide (x=b)) l=i:=EP q (by simpa using g) λj hj=>by simpa using s j hj (by omega)
    have t:bv .i64 ((i:Int)+2)=i+2:=by rw[c8];omega
    have h0:¬((i:Int)<0):=by omega
    have m:IC l b=(l,(i:Int)+2):=by simp[IC,o,k,h0]
    rw[m];simp;apply yW;simp[t0,t6,t];apply Am;refine⟨_,C4 [0] (S0:=[.row w 3 (l.map λx=>.d (AZ x))]) (by simp) (by simp) (by simp),?_⟩;simp[At,pick]
   .apply B8;apply yV;simp[t6];refine⟨q,_,_,ap,?_⟩;simp[t0,t3,AL q z];intro j hj u;by_cases e:j=i
    .subst e;simpa using g
    .exact s j (by omega) u
  .have e:i=Z l:=by omega
   subst e;have k:firstIdx (λx=>decide (x=b)) l= -1:=firstIdx_none λj hj=>by simpa using s j hj hj
   have A:1<=ao:=by unfold ao;omega
   have v:Z l+1<=1073741824:=by omega
   have t:bv .i64 ((Z l:Int)+1+1)=Z l+2:=by rw[c8];omega
   have m:IC l b=(l++[b],(Z l:Int)+2):=by simp[IC,o,k]
   rw[m];simp only[i6,gr,rc,wl,Nat.lt_add_one,acW,Bool.or_true];apply Co;apply yS;apply yJ;simp[t0,t3,A,v,Ac,ls];apply yW;simp[t];apply Am;refine⟨_,C4 [0] (S0:=[.row J 3 ((l++[b]).map λx=>.d (AZ x))]) (by simp) (by simp) (by simp),?_⟩;simp[At,pick]
def ZK(a b:AO)(op:Int)(ns:List Al)(g:List Seen)(h i:Bool):Sg:=
 [.row J 7 [.agg [.d (AX a.nodes),.d (AF a.root),.d (AX b.nodes),.d (AF b.root),.d (AF op),.row 1 (Z ns),.row 2 (Z g)]],.row h 3 (ns.map λx=>.d (AZ x)),.row i 3 (g.map λx=>.d (IM x))]
theorem aD(a b:AO)(op:Int)(ns:List Al)(i:List Seen)(j k:Bool)(x y:Int)(h:0<=x/\x<2)(s:0<=y/\y<2):AH a8 240 [.ptr 0 1 0 0,.d (AF x),.d (AF y)] (ZK a b op ns i j k) (.d (AF (QP op x y))) (ZK a b op ns i j k):=by
 have h1:bv .i64 (x * y)=x * y:=by
  have:x=0\/x=1:=by omega
  rcases this with rfl|rfl<;>simp[c8]<;>omega
 have o:bv .i64 (x+y)=x+y:=by rw[c8];omega
 have q:bv .i64 ((x+y).tmod 2)=(x+y).tmod 2:=by
  have:x=0\/x=1:=by omega
  have:y=0\/y=1:=by omega
  rcases ‹x=0\/x=1› with e|e<;>rcases this with m|m<;>rw[e,m]<;>decide
 refine zC func240 25 rfl λwf _=>?_;unfold ZK;apply yW;simp;refine xS (yW ?_);simp;apply Bp;apply yW;simp;apply AQ;simp;refine⟨λh=>?_,λh=>?_⟩
 .apply yW;simp[h1];apply Am;refine⟨_,ap,?_⟩;simp[At,QP,h]
 .apply yW;simp;apply AQ;simp;refine⟨λg=>?_,λg=>?_⟩
  .apply yW;simp;apply Am;refine⟨_,ap,?_⟩;simp[At,QP,g];split<;>omega
  .apply B8;apply yW;simp[o];apply Am;refine⟨_,ap,?_⟩;simp[At,QP,h,g]
theorem sx(a b:AO)(op:Int):∀(f:Nat) (u:List Al) (g:List Seen) (x y:Int) (o q:Bool) (k:List Al×List Seen×Int),atR a b op f u g x y=al k->∃F G,AH a8 201 [.ptr 0 1 0 0,.d (AF x),.d (AF y)] (ZK a b op u g o q) (.d (AF k.2.2)) (ZK a b op k.1 k.2.1 F G):=by
 intro f;induction f with
 |zero=>intro u g x y o q k h;simp[atR]at h
 |succ f ih=>
  intro u g x y o q k h;unfold atR at h;by_cases A:x<2/\y<2
  .rw[b8 A]at h;split at h
   .rename_i h0;cases h;refine⟨o,q,?_⟩;have hk:=aD a b op u g o q x y ⟨h0.1,A.1⟩ ⟨h0.2,A.2⟩;refine zC func201 137 rfl λwf _=>?_;apply yW;simp;refine xS (yW ?_);simp[A];apply AQ;simp;(repeat apply xS);apply yT;apply yJ;simp;refine ms rfl rfl (by simp) (f:=240) (args:=[.ptr 0 1 0 0,.d (AF x),.d (AF y)]) (by simp[callee];try rfl) (by simp) hk (yJ ?_);simp;apply Am;refine⟨_,ap,?_⟩;simp[At]
   .cases h
  .rw[a9 A]at h;have B:(decide (x<2)&&decide (y<2))=false:=by simpa using A
   by_cases H:0<=seenAt g x y
   .rw[b8 H]at h;cases h;refine⟨o,q,?_⟩;refine j0 func201 rfl rfl (by simp) λwf K=>?_;have L:Z g<=ao:=by have:=K.2.2.1.1;simpa using this
    rw[ntmps201];apply yW;simp;refine xS (yW ?_);simp;(repeat apply xS);refine qr (t:=decide (x<2)&&decide (y<2)) ?_ (λhb=>?_) (λhb=>?_)
    .simp
    .rw[B]at hb;cases hb
    apply xK;refine xS (yW ?_);simp;apply Bp;refine FH (Z g) (λi tm S=>tm 0=.ptr 0 1 0 0/\tm 1=.d (AF x)/\tm 2=.d (AF y)/\tm 7=.d (AF i)/\S=ZK a b op u g o q/\∀j (_:j<i) (h:j<Z g),¬(g[j].x=x/\g[j].y=y)) (ed _) (by simp) ?_;rintro i tm S hi ⟨t0,t1,t2,t7,rfl,M⟩;unfold ZK;refine xS (yW ?_);simp[t0,t7];apply AQ;simp;refine⟨λm=>?_,λzf=>?_⟩
    .apply xK;apply xB;apply yW;simp[t0,t1,t2,t7,m];(repeat apply xS);refine qr (t:=decide (g[i].x=x)&&decide (g[i].y=y)) ?_ (λhb=>?_) (λhb=>?_)
     .simp;rw[gI];simp
     ·(repeat apply xS);apply yV;simp[t0,t7,m];have C:seenAt g x y=i:=EP m hb λj hj=>by simpa using M j hj (by omega)
      apply Am;refine⟨_,ap,?_⟩;simp[At,C,m]
     .apply B8;apply yV;simp[t7];refine⟨m,_,_,ap,?_⟩;simp[t0,t1,t2,AL m L];intro j hj N;by_cases e:j=i
      .subst e;simpa using hb
      .simpa using M j (by omega) N
    .have C:seenAt g x y= -1:=firstIdx_none λj hj=>by simpa using M j (by omega) hj
     omega
   .rw[a9 H]at h;split at h
    .rename_i E;simp at E;obtain⟨w,z⟩:=E;have P:(if b.level y<a.level x then b.level y else a.level x)=min (a.level x) (b.level y):=by split<;>omega
     generalize hv:min (a.level x) (b.level y)=v at *;cases Q:atR a b op f u g (Fs a x v).1 (Fs b y v).1 with
     |none=>simp[Q]at h
     |some r1=>
      obtain⟨R,T,low⟩:=r1;simp[Q]at h;cases W:atR a b op f R T (Fs a x v).2 (Fs b y v).2 with
      |none=>simp[W]at h
      |some r2=>
       obtain⟨s,X,high⟩:=r2;simp only[W]at h;split at h
       .cases h
       .rename_i zg;cases h;obtain⟨u1,u2,k1⟩:=ih _ _ _ _ o q _ Q;obtain⟨v1,v2,k2⟩:=ih _ _ _ _ u1 u2 _ W;have Y:x<2+Z a.nodes:=by simp[Nr]at w;exact w.1.2
        have hy2:y<2+Z b.nodes:=by simp[Nr]at z;exact z.1.2
        have l1:=Ir a x Y;have l2:=Ir b y hy2;have s1:=SA a x v w;have s2:=SA b y v z;have q1:=fY s ⟨v,low,high⟩ v1 (by omega);have n2:Z X+1<=1073741824:=by omega
        have zk:1<=ao:=by unfold ao;omega
        generalize hU:IC s ⟨v,low,high⟩=U at *;obtain⟨ns3,r⟩:=U;simp only[]at q1⊢;generalize Fs a x v=sa at *;generalize Fs b y v=sb at *;obtain⟨sa1,sa2⟩:=sa;obtain⟨sb1,sb2⟩:=sb;have q2:=q1.E5 (args':=[.row 0 (Z s),.agg [.d (AF v),.d (AF low),.d (AF high)]]) rfl λi h h'=>by
         match i,h with
         |0,_=>exact .inl rfl
         |1,_=>exact .inr ⟨AZ ⟨v,low,high⟩,by simp[BC,AZ],rfl⟩
        refine⟨v1||decide (Z s<Z ns3),J,?_⟩;refine j0 func201 rfl rfl (by simp) λwf K=>?_;have L:Z g<=ao:=by have:=K.2.2.1.1;simpa using this
        rw[ntmps201];apply yW;simp;refine xS (yW ?_);simp;(repeat apply xS);refine qr (t:=decide (x<2)&&decide (y<2)) ?_ (λhb=>?_) (λhb=>?_)
        .simp
        .rw[B]at hb;cases hb
        apply xK;refine xS (yW ?_);simp;apply Bp;refine FH (Z g) (λi tm S=>tm 0=.ptr 0 1 0 0/\tm 1=.d (AF x)/\tm 2=.d (AF y)/\tm 7=.d (AF i)/\S=ZK a b op u g o q) (ed _) (by simp) ?_;rintro i tm S hi ⟨t0,t1,t2,t7,rfl⟩;unfold ZK;refine xS (yW ?_);simp[t0,t7];apply AQ;simp;refine⟨λm=>?_,λzf=>?_⟩
        .apply xK;apply xB;apply yW;simp[t0,t1,t2,t7,m];(repeat apply xS);refine qr (t:=decide (g[i].x=x)&&decide (g[i].y=y)) ?_ (λhb=>?_) (λhb=>?_)
         .simp;rw[gI];simp
         .have:g.any (λt=>decide (t.x=x)&&decide (t.y=y))=true:=Hs.2 ⟨_,cF m,hb⟩;rw[<-Ft]at this;exact absurd (show 0<=seenAt g x y from adp this) H
         .apply B8;apply yV;simp[t7];refine⟨m,_,_,ap,?_⟩;simp[t0,t1,t2,AL m L]
        .apply Co;refine yD (A3 14 []) (by kernel_rfl) ?_;simp;apply yA 0;simp[t0,t1];refine kt (l1) rfl (by simp[xN]) ?_;simp;apply yA 0;simp[t0,t2];refine kt (l2) rfl (by simp[xN]) ?_;simp;apply yA 0;simp[P];apply yS;apply yJ;simp[t0,t1];refine Bz (s1) rfl (by simp[xN]) (yJ ?_);simp;(repeat apply xS);apply yT;apply yJ;simp[t0,t2];refine Bz (s2) rfl (by simp[xN]) (yJ ?_);simp;unfold ZK at k1 k2;apply yS;apply yJ;simp[t0];refine ms rfl rfl (by simp) (f:=201) (args:=[.ptr 0 1 0 0,.d (AF sa1),.d (AF sb1)]) (by simp[callee];try rfl) (by simp) k1 (yJ ?_);simp;apply yS;apply yJ;simp[t0];refine ms rfl rfl (by simp) (f:=201) (args:=[.ptr 0 1 0 0,.d (AF sa2),.d (AF sb2)]) (by simp[callee];try rfl) (by simp) k2 (yJ ?_);simp;apply yS;apply yJ;simp[t0];refine xF (q2) [1] rfl ?_;simp;apply yJ;simp;apply yW;simp[t0];apply yS;apply yJ;simp[t0,t1,t2,zk,n2,Ac,ls];apply yW;simp;apply Am;refine⟨_,ap,?_⟩;simp[At]
    .cases h
def ZY(nodes:List Al)(g:List Int)(out:List Al)(w:Bool):Sg:=
 [.row J 3 [.agg [.d (AX nodes),.row 1 (Z g),.row 2 (Z out)]],.row J 1 (g.map λx=>.d (AF x)),.row w 3 (out.map λx=>.d (AZ x))]
theorem oC(nodes:List Al):∀(f:Nat) (q:List Int) (out:List Al) (n:Int) (w:Bool) (i:List Int×List Al×Int),Tu nodes f q out n=al i->Z q=Z nodes->(∃U,AH a8 244 [.ptr 0 1 0 0,.d (AF n)] (ZY nodes q out w) (.d (AF i.2.2)) (ZY nodes i.1 i.2.1 U))/\Z i.1=Z nodes:=by
 intro f;induction f with
 |zero=>intro q out n w i h;simp[Tu]at h
 |succ f R=>
  intro q out n w i h s;unfold Tu at h;by_cases G:n<2
  .rw[b8 G]at h;cases h;refine⟨⟨w,?_⟩,s⟩;refine zC func244 77 rfl λwf _=>?_;apply yW;simp;refine xS (yW ?_);simp[G];apply AQ;simp;apply yW;simp;apply Am;refine⟨_,ap,?_⟩;simp[At]
  .rw[a9 G]at h;have W:2<=n:=by omega
   cases H:q[(n - 2).toNat]? with
   |none=>simp[H]at h
   |some k=>
    simp only[H]at h;obtain⟨E,j⟩:=er.1 H;obtain⟨m,rfl⟩:∃m:Nat,n=m+2:=⟨(n - 2).toNat,by omega⟩;have S:((m:Int)+2 - 2).toNat=m:=by omega
    have e3:(m:Int)+2 - 2=m:=by omega
    rw[S]at E;simp only[S]at h j;have u:m<Z nodes:=by omega
    have v:¬(m:Int)+2<2:=by omega
    by_cases F:0<k
    .rw[b8 F]at h;cases h;refine⟨⟨w,?_⟩,s⟩;refine j0 func244 rfl rfl (by simp) λwf _=>?_;have t:bv .i64 (m:Int)=m:=by
      have:=wf.2.1;simp[K0,Da,IX]at this;rw[c8];omega
     rw[ntmps244];unfold ZY;apply yW;simp;refine xS (yW ?_);simp;apply AQ;simp[v];apply xK;refine xS (yW ?_);simp[t,E,j];apply AQ;simp[F];apply yW;simp[t,E,j];apply Am;refine⟨_,ap,?_⟩;simp[At]
    .rw[a9 F]at h;have K:nodes.getD m RF=nodes[m]:=by simp[u]
     rw[K]at h;cases L:Tu nodes f q out nodes[m].low with
     |none=>simp[L]at h
     |some r1=>
      obtain⟨M,z,low⟩:=r1;simp[L]at h;cases N:Tu nodes f M z nodes[m].high with
      |none=>simp[N]at h
      |some r2=>
       obtain⟨o,g,high⟩:=r2;simp only[N]at h;split at h
       .cases h
       .rename_i zg;cases h;obtain⟨⟨X,k1⟩,A⟩:=R _ _ _ w _ L s;obtain⟨⟨u2,k2⟩,B⟩:=R _ _ _ X _ N A;simp[]at A B k1 k2;refine⟨⟨J,?_⟩,by simpa using B⟩;have n2:Z g+1<=1073741824:=by omega
        have T:1<=ao:=by unfold ao;omega
        have C:m<Z o:=by omega
        have P:bv .i64 ((Z g:Int)+1+1)=Z g+2:=by rw[c8];omega
        generalize hb:nodes[m]=b at *;unfold ZY at k1 k2;refine j0 func244 rfl rfl (by simp) λwf _=>?_;have t:bv .i64 (m:Int)=m:=by
         have:=wf.2.1;simp[K0,Da,IX]at this;rw[c8];omega
        rw[ntmps244];unfold ZY;apply yW;simp;refine xS (yW ?_);simp;apply AQ;simp[v];apply xK;refine xS (yW ?_);simp[t,E,j];apply AQ;simp[F];apply xK;apply yW;simp[t,u,hb];apply yS;apply yJ;simp;refine xF (k1) [0,1,2] rfl ?_;simp;apply yJ;simp;apply yS;apply yJ;simp;refine xF (k2) [0,1,2] rfl ?_;simp;apply yJ;simp;refine yD (A3 11 [23,24,26,29]) (by kernel_rfl) ?_;simp;apply yA 1;simp[T];apply xX 65 (by kernel_rfl);simp[Aa,n2,T,Ac,ls];apply yA 1;simp;apply xX 2045 (by kernel_rfl);simp[Aa];apply xM;refine yD (A3 13 [27]) (by kernel_rfl) ?_;simp;apply yA 1;simp[t,C,P];apply xX 8191 (by kernel_rfl);simp[Aa,t,C,P];apply xM;apply yW;simp[P];apply Am;have Q:(List.map (λx=>V.d (bi .i64 x)) o).set m (V.d (bi .i64 ((Z g:Int)+2)))=List.map (λx=>V.d (bi .i64 x)) (o.set m ((Z g:Int)+2)):=by simp
        rw[Q];generalize o.set m _=Y;refine⟨_,C4 [0,1,2] (by simp[AZ]) (by simp) rfl,?_⟩;simp[At,pick]
@[simp] theorem uF(f:Nat->Nat)(n:Nat)(d:D):CE f (ke n (V.d d))=ke n (V.d d):=by
 induction n with
 |zero=>rfl
 |succ n g=>simp[ac7,CE,BU,g]
@[simp] theorem pL(k n:Nat)(d:D):Au k (ke n (V.d d))=true:=by
 induction n with
 |zero=>rfl
 |succ n g=>simp[ac7,Au,AP,g]
theorem U6(nodes:List Al)(root:Int)(d:AO)(h:Yk nodes root=al d):Pure a8 202 [AX nodes,AF root] (AB d):=by
 unfold Yk at h;split at h
 .cases h
 rename_i k;have i:(Z nodes:Int)<=1073741824:=by omega
 cases j:Tu nodes 64 (ke (Z nodes) 0) [] root with
 |none=>simp[j]at h
 |some r1=>
  obtain⟨m,g,r⟩:=r1;simp[j]at h;cases h;obtain⟨⟨o,k1⟩,_⟩:=oC nodes 64 (ke (Z nodes) 0) [] root false _ j (by simp);simp at k1;unfold ZY at k1;simp at k1;refine zP func202 22 rfl λwf=>?_;apply yW;simp;apply yW;simp[i];refine io (AJ.Qe 2 0 2 3 (xs:=[]) rfl rfl rfl) ?_;simp;apply yS;apply yJ;simp;refine xF (k1) [2,1,3] rfl ?_;simp;apply yJ;simp;apply yW;simp;apply Am;refine⟨_,_,fc 3 (xs:=g.map AZ) rfl (by simp),?_⟩;simp[BC,AB]
theorem PT(a b:AO)(op:Int)(d:AO)(h:Mn a b op=al d):Pure a8 150 [AB a,AB b,AF op] (AB d):=by
 unfold Mn at h;cases i:atR a b op 64 [] [] a.root b.root with
 |none=>simp[i]at h
 |some r1=>
  obtain⟨k,m,r⟩:=r1;simp only[i]at h;obtain⟨o,q,k1⟩:=sx a b op 64 [] [] a.root b.root false false _ i;simp only[]at k1;unfold ZK at k1;simp at k1;have j:=U6 k r d h;refine ip func150 (by kernel_rfl) rfl (by simp) λwf=>?_;rw[ntmps150];refine xW λK g=>?_;simp;apply g;refine xW λK g=>?_;simp[AB];apply g;refine io (AJ.Qe 3 0 5 3 (xs:=[]) rfl rfl rfl) ?_;simp;refine io (AJ.Qe 3 0 6 3 (xs:=[]) rfl rfl rfl) ?_;simp;refine Gb λK g=>?_;refine xJ ?_;simp;refine xF (k1) [3,4,5] rfl ?_;simp;refine xJ ?_;simp;refine CO (g _ _ ?_);refine io (fc 4 (xs:=k.map AZ) rfl (by simp)) ?_;simp;(repeat refine xS ?_);refine H9 λK g=>?_;refine xJ ?_;simp;refine Bz (j) rfl (by simp) ?_;simp;refine xJ ?_;simp;refine CO (g _ _ ?_);(try simp only[xQ,reduceIte]);refine Am ⟨_,_,ap,?_⟩;try simp
theorem DJ(a d:AO)(h:PW a=al d):Pure a8 60 [AB a] (AB d):=by
 have g:=PT a ⟨[],1⟩ 2 d h;have h1:=B2 J;simp at h1;refine zP func60 6 rfl λwf=>?_;apply yW;simp;(repeat apply xS);refine yE (A3 3 [7]) (by kernel_rfl) ?_;simp;apply yA 0;simp;refine kt (h1) rfl (by simp[xN]) ?_;simp;apply yA 0;simp;refine kt (g) rfl (by simp[xN]) ?_;simp;apply yA 0;simp;apply xX 7 (by kernel_rfl);simp;apply xM;apply zT;try simp
theorem Rx(a b d:AO)(h:Mn a b 0=al d):Pure a8 193 [AB a,AB b] (AB d):=by
 have g:=PT a b 0 d h;refine zP func193 8 rfl λwf=>?_;apply yW;simp;(repeat apply xS);apply yT;apply yJ;simp;refine Bz (g) rfl (by simp[xN]) (yJ ?_);simp;apply zT;try simp
theorem Zg(a b d:AO)(h:Mn a b 1=al d):Pure a8 192 [AB a,AB b] (AB d):=by
 have g:=PT a b 1 d h;refine zP func192 8 rfl λwf=>?_;apply yW;simp;(repeat apply xS);apply yT;apply yJ;simp;refine Bz (g) rfl (by simp[xN]) (yJ ?_);simp;apply zT;try simp
theorem Y2(a b d:AO)(h:TN a b=al d):Pure a8 194 [AB a,AB b] (AB d):=by
 unfold TN at h;cases e:PW b with
 |none=>simp[e]at h
 |some c=>
  simp[e]at h;have g:=DJ b c e;have hi:=Rx a c d h;refine zP func194 9 rfl λwf=>?_;apply yW;simp;(repeat apply xS);refine yE (A3 4 [9]) (by kernel_rfl) ?_;simp;apply yA 0;simp;refine kt (g) rfl (by simp[xN]) ?_;simp;apply yA 0;simp;refine kt (hi) rfl (by simp[xN]) ?_;simp;apply yA 0;simp;apply xX 15 (by kernel_rfl);simp;apply xM;apply zT;try simp
def LX(l:List Int):D:=.sl (l.map (bi .u8))
theorem bT(l:List Int)(n:Nat):∀(f v k:Nat) (d:AO),Jh l n f v k=al d->Pure a8 139 [LX l,AF n,AF v,AF k] (AB d):=by
 intro f;induction f with
 |zero=>intro v k d h;simp[Jh]at h
 |succ f P=>
  intro v k d h;unfold Jh at h;split at h
  .cases h
  rename_i hb;have hk:k<1048576:=by omega
  have W:v<7:=by omega
  by_cases q:v=n
  .rw[b8 q]at h;cases h;have w:=B2 (Wf l k);have i:Wf l k=(decide (k / 8<Z l)&&(bv .u8 (max ((l.getD (k / 8) 0).fdiv (2 ^ (k % 8)) % 256) 0 % 2)==1)):=rfl;generalize Wf l k=bb at *;obtain⟨j,hj⟩:=ce (k / 8);obtain⟨m,Q⟩:=ce (k % 8);rw[hj,Q]at i;have C:((k:Int).tdiv 8)=j:=by rw[<-hj];simp
   have E:((k:Int).tmod 8)=m:=by rw[i7 (by omega),<-Q];simp
   have F:(k:Int) / 8=j:=by omega
   have G:(k:Int) % 8=m:=by omega
   have s:bv .i64 (j:Int)=j:=by rw[c8];omega
   have t:bv .u64 (m:Int)=m:=by simp[ae5,ae4,ae6];omega
   have u:min m 8=m:=by omega
   have g:IntKind.u8.bits=8:=rfl;refine zP func139 59 rfl λwf=>?_;unfold LX;apply yW;simp;refine xS (yW ?_);simp;apply AQ;simp[q];(repeat apply xS);apply yT;(iterate 6 (refine Cg (by simp) ?_;simp[C,s]));cases H:decide (j<Z l)with
   |true=>
    have o:j<Z l:=by simpa using H
    have X:l.getD j 0=l[j]:=by simp[o]
    rw[H,X,x0]at i;(iterate 11 ((refine Ov rfl (by simp[o];try rfl) ?_);simp[C,E,s,t,u,o,g]));(iterate 1 (refine Cg (by simp) ?_;simp[i]));rw[<-i];refine Bz (w) rfl (by simp) (yJ ?_);simp;refine Am ⟨_,_,ap,?_⟩;try simp
   |false=>
    have o:¬j<Z l:=by simpa using H
    rw[H,abZ]at i;subst i;(repeat(refine FD rfl ?_ ?_;(·simp);simp));(iterate 1 (refine Cg (by simp) ?_;simp));refine Bz (w) rfl (by simp) (yJ ?_);simp;refine Am ⟨_,_,ap,?_⟩;try simp
  .rw[a9 q]at h;cases K:Jh l n f (v+1) (k+2 ^ v)with
   |none=>simp[K]at h
   |some d1=>
    simp[K]at h;cases L:Jh l n f (v+1) k with
    |none=>simp[L]at h
    |some d0=>
     simp[L]at h;cases f1:Mn (Aq v) d1 0 with
     |none=>simp[f1]at h
     |some g1=>
      simp[f1]at h;cases f0:TN d0 (Aq v)with
      |none=>simp[f0]at h
      |some g0=>
       simp[f0]at h;have k1:=P _ _ _ K;have R:=P _ _ _ L;have M:=Yp (v:Int);have ha:=Rx _ _ _ f1;have Y:=Y2 _ _ _ f0;have N:=Zg _ _ _ h;have z:¬(v:Int)=n:=by omega
       have p2:2 ^ v<=64:=abq (by omega) (show v<=6 by omega);obtain⟨A,B⟩:=ce (2 ^ v);have S:(2:Int) ^ v=A:=by rw[<-B];simp
       rw[B]at k1 p2;have T:bv .i64 ((v:Int)+1)=(v+1:Nat):=by rw[c8];omega
       have s:bv .u64 (v:Int)=v:=by simp[ae5,ae4,ae6];omega
       have t:min v 64=v:=by omega
       have u:bv .i64 (A:Int)=A:=by rw[c8];omega
       have U:bv .i64 ((k:Int)+A)=(k+A:Nat):=by rw[c8];omega
       have g:IntKind.i64.bits=64:=rfl;generalize hvv:Aq v=vd at *;refine zP func139 59 rfl λwf=>?_;unfold LX at k1 R⊢;apply yW;simp;refine xS (yW ?_);simp;apply AQ;simp[z];apply xK;apply yS;apply yJ;simp;refine Bz (M) rfl (by simp) (yJ ?_);simp;(repeat apply xS);refine yE (A3 21 [43]) (by kernel_rfl) ?_;simp;apply yA 0;simp[T,s,t,u,U,g,S];refine kt (k1) rfl (by simp[xN]) ?_;simp;apply yA 0;simp;refine kt (ha) rfl (by simp[xN]) ?_;simp;apply yA 0;simp[T];refine kt (R) rfl (by simp[xN]) ?_;simp;apply yA 0;simp;refine kt (Y) rfl (by simp[xN]) ?_;simp;apply yA 0;simp;refine kt (N) rfl (by simp[xN]) ?_;simp;apply yA 0;simp;apply xX 2097151 (by kernel_rfl);simp;apply xM;apply zT;try simp
theorem Uz(l:List Int)(n:Nat)(hn:n<=6)(d:AO)(h:Jh l n 8 0 0=al d):Pure a8 52 [LX l,AF n] (AB d):=by
 have g:=bT l n 8 0 0 d h;have j:(if(6:Int)<(n:Int)then(6:Int)else n)=n:=by split<;>omega
 have h0:(if(0:Int)<(n:Int)then(n:Int)else 0)=n:=by split<;>omega
 have i:(n=0->(0:Int)=n)↔True:=iff_true_intro (by omega);refine zP func52 11 rfl λwf=>?_;unfold LX at g⊢;apply yW;simp;apply yW;simp[j];(repeat apply xS);apply yT;apply yJ;simp;refine Bz (g) rfl (by simp[i]) (yJ ?_);simp;apply zT;try simp
def rV(d:AO)(i:Nat):Bool:=
 decide (0<=(d.nodes.getD i RF).var/\(d.nodes.getD i RF).var<=63/\0<=(d.nodes.getD i RF).low/\0<=(d.nodes.getD i RF).high/\(d.nodes.getD i RF).low<i+2/\(d.nodes.getD i RF).high<i+2/\(d.nodes.getD i RF).low≠(d.nodes.getD i RF).high/\(d.nodes.getD i RF).var<d.level (d.nodes.getD i RF).low/\(d.nodes.getD i RF).var<d.level (d.nodes.getD i RF).high)&&(kv i).all λj=>decide (d.nodes.getD j RF≠d.nodes.getD i RF)
def Ur(d:AO):Bool:=decide (0<=d.root/\d.root<Z d.nodes+2/\Z d.nodes<=4096)&&(kv (Z d.nodes)).all (rV d)&&decide (Yk d.nodes d.root=al d)
def Lm(d:AO)(n:Nat):Bool:=Ur d&&d.nodes.all λb=>decide (b.var<n)
theorem fQ(d:AO):Pure a8 283 [AB d,AB d] (.bool J):=by
 refine ip func283 rfl rfl (by simp) λwf=>?_;have h:Z d.nodes<=ao:=by have:=wf.1;simp[Da,Bq]at this;exact this.1.1
 rw[ntmps283];apply yW;simp;refine xS (yW ?_);simp;apply AQ;simp;apply xK;refine xS (yW ?_);simp;apply Bp;refine FH (Z d.nodes) (λi tm S=>tm 2=.ptr 0 1 0 0/\tm 3=.ptr 1 1 0 0/\tm 5=.d (AF i)/\S=[.row J 2 [.d (AB d)],.row J 2 [.d (AB d)]]) (ed _) (by simp) ?_;rintro i tm S hi ⟨t2,t3,t5,rfl⟩;refine xS (yW ?_);simp[t2,t5];apply AQ;simp;refine⟨λg=>?_,λj=>?_⟩
 .apply xK;apply xB;refine yD (A3 11 []) (by kernel_rfl) ?_;simp;apply yA 0;simp[t2,t3,t5,g];apply AQ;simp;apply B8;apply yV;simp[t5];refine⟨g,_,_,ap,?_⟩;simp[t2,t3,AL g h]
 .apply Co;apply yW;simp;apply zT;try simp
theorem WB(d:AO)(i:Nat)(hi:i<Z d.nodes)(hn:Z d.nodes<=4096)(h:rV d i=J):Pure a8 282 [AB d,AF i] (.bool J):=by
 have P:d.nodes.getD i RF=d.nodes[i]:=by simp[hi]
 simp only[rV,P,b9,cR,de,th]at h;obtain⟨⟨v,w,z,A,B,C,E,T,U⟩,Q⟩:=h;have o:∀j (_:j<i) (hj:j<Z d.nodes),¬d.nodes[j]=d.nodes[i]:=λj q hj=>by have:=Q j q;simpa[hj]using this
 refine ip func282 (by kernel_rfl) rfl (by simp) λwf=>?_;have W:Z d.nodes<=ao:=by have:=wf.1;simp[Da,Bq]at this;exact this.1.1
 have F:bv .i64 ((i:Int)+2)=i+2:=by rw[c8];omega
 generalize hb:d.nodes[i]=b at *;have l1:=Ir d b.low (by omega);have l2:=Ir d b.high (by omega);rw[ntmps282];refine xW λK g=>?_;simp;apply g;(repeat refine xS ?_);refine xV λK g=>?_;simp[hi,hb];refine g _ _ ?_;(try simp only[xQ,reduceIte]);have c1:¬b.var<0:=by omega
 have c2:¬63<b.var:=by omega
 have G:¬b.low<0:=by omega
 have H:¬b.high<0:=by omega
 have L:¬(i:Int)+2<=b.low:=by omega
 have M:¬(i:Int)+2<=b.high:=by omega
 have m:¬d.level b.low<=b.var:=by omega
 have N:¬d.level b.high<=b.var:=by omega
 refine xS (xW λK g=>?_);simp[F,c1,c2,G,H,L,M];apply g;refine AQ ?_;simp[E];refine xK ?_;refine xS ?_;refine xD (A3 16 []) (by kernel_rfl) λK g=>?_;simp;refine xA 0 ?_;simp;refine kt (l1) rfl (by simp[xN]) ?_;simp;refine xA 0 ?_;simp[m];refine Ad.Dr (ds:=[AB d,AF b.high]) rfl rfl (by simp;rfl) (λ_=>l2) (by simp[xN]) ?_;simp;refine xA 0 ?_;simp[N];refine xM (g _ _ ?_);(try simp only[xQ,reduceIte]);refine AQ ?_;simp;refine xK ?_;refine xS (xW λK g=>?_);simp;apply g;refine Bp ?_;refine FH i (λk tm S=>tm 1=.d (AF i)/\tm 2=.ptr 0 1 0 0/\tm 5=.ptr 1 1 0 0/\tm 6=.d (AF k)/\S=[.row J 2 [.d (AB d)],.row J 3 [.d (AZ b)]]) (ed _) (by simp[AZ]) ?_;rintro k tm S X ⟨t1,t2,t5,t6,rfl⟩;refine xS (xW λK g=>?_);simp[t1,t6];apply g;refine AQ ?_;simp;refine⟨λs=>?_,λY=>?_⟩
 .have t:k<Z d.nodes:=by omega
  have u:=o k s t;refine xK ?_;refine xB ?_;(repeat refine xS ?_);refine xE (A3 7 []) (by kernel_rfl) λK g=>?_;simp;(repeat(refine H3 ?_ ?_;(·simp[t2,t5,t]);simp[t2,t5,t6,t]));(repeat((refine H3 ?_ ?_);(focus(simp[AZ];done));simp[AZ,u]));refine xM (g _ _ ?_);(try simp only[C8]);refine AQ ?_;simp;refine B8 ?_;refine xV λK g=>?_;simp[t6];apply g;refine⟨s,_,_,ap,?_⟩;have R:i<=ao:=by omega
  simp[t1,t2,t5,AL s R,AZ]
 .refine Co ?_;refine xW λK g=>?_;simp;apply g;refine Am ⟨_,_,ap,?_⟩;try simp
theorem Zh(d:AO)(h:Ur d=J):Pure a8 267 [AB d] (.bool J):=by
 simp[Ur]at h;obtain⟨⟨⟨h1,v,o⟩,q⟩,s⟩:=h;have j:=U6 d.nodes d.root d s;have t:=fQ d;have u:Z d.nodes<=ao:=by unfold ao;omega
 have m:bv .i64 ((Z d.nodes:Int)+2)=Z d.nodes+2:=by rw[c8];omega
 have c1:¬d.root<0:=by omega
 have c2:¬(Z d.nodes:Int)+2<=d.root:=by omega
 refine zP func267 34 rfl λwf=>?_;apply yW;simp;refine xS (yW ?_);simp[m,c1,c2];apply AQ;simp;apply xK;refine xS (yW ?_);simp;apply Bp;refine FH (Z d.nodes) (λi tm S=>tm 1=.ptr 0 1 0 0/\tm 3=.d (AF i)/\S=[.row J 2 [.d (AB d)]]) (ed _) (by simp) ?_;rintro i tm S hi ⟨t1,t3,rfl⟩;refine xS (yW ?_);simp[t1,t3];apply AQ;simp;refine⟨λg=>?_,λw=>?_⟩
 .have k:=WB d i g o (q i g);apply xK;apply xB;apply yS;apply yJ;simp[t1,t3];refine Bz (k) rfl (by simp[xN]) (yJ ?_);simp;apply AQ;simp;apply B8;apply yV;simp[t3];refine⟨g,_,_,ap,?_⟩;simp[t1,AL g u]
 .apply Co;(repeat apply xS);refine yE (A3 8 []) (by kernel_rfl) ?_;simp;apply yA 0;simp[t1];refine kt (j) rfl (by simp[xN]) ?_;simp;apply yA 0;simp;refine kt (t) rfl (by simp[xN]) ?_;simp;apply yA 0;simp;apply zT;try simp
theorem aQ(d:AO)(h:Ur d=J):Pure a8 236 [AB d] (AF 0):=by
 have j:=Zh d h;simp[Ur]at h;have i:¬4096<(Z d.nodes:Int):=by omega
 have g:¬4096<Z d.nodes:=by omega
 refine zP func236 10 rfl λwf=>?_;apply yW;simp;refine xS (yW ?_);simp[i];apply AQ;simp;apply xK;refine xS (yS ?_);apply yJ;simp;refine Bz (j) rfl (by simp[xN]) (yJ ?_);simp;apply AQ;simp;apply xK;apply yW;simp;apply zT;try simp
theorem QH(d:AO)(n:Nat)(h:Lm d n=J):Pure a8 196 [AB d,AF n] (.bool J):=by
 simp[Lm]at h;have k:=aQ d h.1;have m:=h.2;refine ip func196 rfl rfl (by simp) λwf=>?_;have o:Z d.nodes<=ao:=by have:=wf.1;simp[Da,Bq]at this;exact this.1.1
 rw[ntmps196];apply yW;simp;refine xS (yS ?_);apply yJ;simp;refine Bz (k) rfl (by simp[xN]) (yJ ?_);simp;apply AQ;simp;apply xK;refine xS (yW ?_);simp;apply Bp;refine FH (Z d.nodes) (λi tm S=>tm 1=.d (AF n)/\tm 2=.ptr 0 1 0 0/\tm 5=.d (AF i)/\S=[.row J 2 [.d (AB d)]]) (ed _) (by simp) ?_;rintro i tm S hi ⟨t1,t2,t5,rfl⟩;refine xS (yW ?_);simp[t2,t5];apply AQ;simp;refine⟨λg=>?_,λq=>?_⟩
 .have j:¬(n:Int)<=d.nodes[i].var:=by have:=m _ (cF g);omega
  apply xK;apply xB;apply yW;simp[t1,t2,t5,g,j];apply AQ;simp;apply B8;apply yV;simp[t5];refine⟨g,_,_,ap,?_⟩;simp[t1,t2,AL g o]
 .apply Co;apply yW;simp;apply zT;try simp
def nk(b n:Nat):Option AO:=
 if n=0\/b % 6<3 then al ⟨[],1⟩else if b % 6=3 then al (Aq (b / 6 % n:Nat))else if b % 6=4 then PW (Aq (b / 6 % n:Nat))else Jh [(b:Int)] n 8 0 0
def N4(b n:Nat):AO:=(nk b n).getD ⟨[],1⟩
theorem eM:((kv 256).all λb=>(kv 4).all λn=>(nk b n).isSome&&Lm (N4 b n) n)=true:=by decide+kernel
theorem Rc{b n:Nat}(hb:b<256)(hn:n<4):nk b n=al (N4 b n)/\Lm (N4 b n) n=true:=by
 have h:=eM;simp at h;obtain⟨h1,g⟩:=h b hb n hn;refine⟨?_,g⟩;obtain⟨d,i⟩:=ol.1 h1;simp[N4,i]
theorem O5(b n:Nat)(z:b<256)(hn:n<4):Pure a8 16 [.int .u8 b,AF n] (AB (N4 b n)):=by
 have h:=(Rc z hn).1;generalize N4 b n=d at *;unfold nk at h;have w:((b:Int).tmod 6)=(b % 6:Nat):=by rw[i7 (by omega)];simp
 have G:((b:Int).tdiv 6)=(b / 6:Nat):=by simp
 have h1:=B2 J;simp at h1;obtain⟨m,L⟩:=ce (b % 6);rw[L]at h w;by_cases H:n=0\/m<3
 .rw[b8 H]at h;cases h;refine zP func16 33 rfl λwf=>?_;apply yW;simp;refine xS (yW ?_);simp[w];(repeat apply xS);refine qr (t:=decide (n=0)||decide (m<3)) ?_ (λhb=>?_) (λhb=>?_)
  .simp;rw[gI];simp;omega
  ·(repeat apply xS);apply yT;apply yJ;simp;refine Bz (h1) rfl (by simp) (yJ ?_);simp;refine Am ⟨_,_,ap,?_⟩;try simp
  .simp at hb;omega
 .rw[a9 H]at h;have K:¬n=0:=by omega
  have A:¬m<3:=by omega
  have B:(decide (n=0)||decide (m<3))=false:=by simp[K,A]
  have o:b / 6 % n<n:=pm _ (by omega);have C:(((b / 6:Nat):Int).tmod n)=(b / 6 % n:Nat):=by rw[i7 (by omega)];simp
  obtain⟨q,M⟩:=ce (b / 6);rw[M]at h G C o;obtain⟨v,N⟩:=ce (q % n);rw[N]at h C o;have P:(b:Int) / 6=q:=by omega
  have Q:bv .u8 (q:Int)=q:=by simp[ae5,ae4,ae6];omega
  have R:bv .i64 (q:Int)=q:=by rw[c8];omega
  have S:=CL (v:Int);have E:Jh [(b:Int)] n 8 0 0=al d->_:=Uz [(b:Int)] n (by omega) d;refine zP func16 33 rfl λwf=>?_;apply yW;simp;refine xS (yW ?_);simp[w];(repeat apply xS);refine qr (t:=decide (n=0)||decide (m<3)) ?_ (λhb=>?_) (λhb=>?_)
  .simp;rw[gI];simp;omega
  .rw[B]at hb;cases hb
  .clear hb;apply xK;(repeat apply xS);apply yT;apply yJ;simp[G,C,Q,R,K];refine Bz (S) rfl (by simp) (yJ ?_);simp;have i:((b:Int).tmod 6)=m:=w;by_cases j:m=3
   .rw[b8 j]at h;cases h;refine xS (yW ?_);simp[i];apply Bp;apply yW;simp[j];apply AQ;simp;apply yW;simp;refine Am ⟨_,_,ap,?_⟩;try simp
   .rw[a9 j]at h;by_cases k:m=4
    .rw[b8 k]at h;have F:=DJ _ _ h;refine xS (yW ?_);simp[i];apply Bp;apply yW;simp[k];apply AQ;simp;apply yW;simp;apply AQ;simp;(repeat apply xS);apply yT;apply yJ;simp;refine Bz (F) rfl (by simp[xN]) (yJ ?_);simp;refine Am ⟨_,_,ap,?_⟩;try simp
    .rw[a9 k]at h;have s:=E h;simp[LX]at s;have u:¬(m:Int)=3:=by omega
     have g:¬(m:Int)=4:=by omega
     refine xS (yW ?_);simp[i];apply Bp;apply yW;simp;apply AQ;simp[u];apply yW;simp;apply AQ;simp[g];apply B8;have T:1<=ao:=by unfold ao;omega
     (repeat apply xS);apply yT;apply yJ;simp[T];refine Bz (s) rfl (by simp[xN]) (yJ ?_);simp;apply zT;try simp
theorem NY(p a c l t:Int)(d:AO)(f:Filter)(g:f=⟨1,p,a,c,0,0,[],d⟩\/f=⟨2,p,a,c,0,0,[],d⟩\/f=⟨3,0,0,0,l,0,[t],d⟩\/f=⟨4,0,0,0,l,0,[t],d⟩\/f=⟨5,0,0,0,0,0,[t],d⟩):Pure a8 197 [AN f] (.bool J):=by
 rcases g with rfl|rfl|rfl|rfl|rfl;all_goals
  refine zP func197 63 rfl λwf=>?_
  apply yW;simp
  apply yW;simp
  refine xS (yW ?_);simp
  apply AQ;simp
  apply xK
  apply yW;simp
  apply yW;simp
  apply zT;try simp
def Wi(g:AD)(p:Int):Bool:=g.levels.any λl=>l.AE.contains p
theorem Pe(g:AD)(p:Int)(h1:Z g.levels<=ao)(C:∀l∈g.levels,Z l.AE<=ao):Pure a8 141 [AA g,AF p] (.bool (Wi g p)):=by
 refine zP func141 36 rfl λwf=>?_;apply yW;simp;refine xS (yW ?_);simp;apply Bp;refine FH (Z g.levels) (λi tm S=>tm 1=.d (AF p)/\tm 2=.ptr 0 1 0 0/\tm 5=.d (AF i)/\S=[.row J 9 [.d (AA g)]]/\∀j (_:j<i) (h:j<Z g.levels),g.levels[j].AE.contains p=false) (ed _) (by simp) ?_;rintro i tm S hi ⟨t1,t2,t5,rfl,z⟩;refine xS (yW ?_);simp[t2,t5];apply AQ;simp;refine⟨λo=>?_,λE=>?_⟩
 .have u:=C _ (cF o);have v:=cF o;generalize w:g.levels[i]=l at *;have A:=Ak.eq_1 l;apply xK;apply xB;apply yW;simp;apply Bp;refine FH (Z l.AE) (λk tm S=>tm 1=.d (AF p)/\tm 2=.ptr 0 1 0 0/\tm 5=.d (AF i)/\tm 6=.d (AF k)/\S=[.row J 9 [.d (AA g)]]/\∀j (_:j<k) (h:j<Z l.AE),l.AE[j]≠p) (ed _) (by simp[t1,t2,t5]) ?_;rintro k tm S L ⟨t1,t2,t5,t6,rfl,B⟩;refine xS (yW ?_);simp[t2,t5,t6,o,w,A];apply AQ;simp;refine⟨λt=>?_,λE=>?_⟩
  .apply xK;apply xB;apply yW;simp[t1,t2,t5,t6,o,w,A,t];apply AQ;simp;refine⟨λF=>?_,λG=>?_⟩
   .have:Wi g p=true:=Hs.2 ⟨l,v,by have:=cF t;rw[F]at this;simpa using this⟩;rw[this];apply yW;simp;refine Am ⟨_,_,ap,?_⟩;try simp
   .apply B8;apply yV;simp[t6];refine⟨t,_,_,ap,?_⟩;simp[t1,t2,t5,AL t u];intro j hj m;by_cases e:j=k
    .subst e;simpa using G
    .exact B j (by omega) m
  .apply Co;have e:k=Z l.AE:=by omega
   subst e;apply yV;simp[t5];refine⟨o,_,_,ap,?_⟩;simp[t1,t2,AL o h1];intro j hj m;by_cases e:j=i
   .subst e;rw[w];simp[oi,not_exists];intro q s H;exact B q s s H
   .simpa using z j (by omega) m
 .apply Co;have:Wi g p=false:=by
   rw[Wi,E2];intro x K;obtain⟨j,hj,rfl⟩:=oi.1 K;rw[z j (by omega) hj];simp
  rw[this];apply yW;simp;apply zT;try simp
end Go.Koi
open Go.Koi.D renaming int->bi
namespace Go.Koi
open Go.Proofs Tryz
section
variable {P:Program} {n b:Nat} {ops:Array Oper} {o:Oper} {tm:Tm} {S:Sg} {K:Tm->Sg->Prop}
theorem kI{B:List (Nat×(Sg->Prop))}{i:Nat}{q:Bool}{rest:List (Nat×Bool×Oper)}{j:Nat}{g:Bool}(t:q=J)(m:o.guard=some (j,g))
  (u:CN ops tm j g=some J/\A6 n o.dst/\BV P o.op tm S/\C5 P o.op tm S=S)
  (v:Ad P n b ops ((i,λh=>h=S)::B) rest (put tm o.dst (BX P o.op tm S)) S K):Ad P n b ops B ((i,q,o)::rest) tm S K:=by
 subst t;obtain⟨w,z,A,C⟩:=u;refine vb (λh=>h=S) rfl (λhi h hS=>?_) v;subst hS;intro k s;obtain⟨E,F,G⟩:=LW (P:=P) (S:=h) (op:=o.op) (Hr s);have:=Step.Hc (b:=b) hi z m (by rw[guard_congr m s];exact w) (Mr (P:=P) (n:=n) (o:=o) (tm:=k) (S:=h) (by rw[E];exact A));rw[F,G,C]at this;exact this
end
def jB(tk:Token)(lit:Bool):Bool:=if lit then decide (tk.literal=⟨#[]⟩)else decide (tk.cls≠0)
theorem VL(g:AD)(t:Nat)(lit:Bool)(o:t<Z g.AU):Pure a8 198 [AA g,A2 [(t:Int)],.bool lit] (.bool (!(jB g.AU[t] lit))):=by
 have c1:¬(t:Int)<0:=by omega
 have c2:¬(Z g.AU:Int)<=t:=by omega
 have k:¬Z g.AU<=t:=by omega
 generalize q:g.AU[t]=tk;have s:=AV.eq_1 tk;refine ip func198 (by kernel_rfl) rfl (by simp) λwf=>?_;rw[ntmps198];refine xW λK h=>?_;simp;apply h;refine xS (xW λK h=>?_);simp;apply h;refine Bp ?_;refine FH 1 (λi tm S=>tm 1=.d (A2 [(t:Int)])/\tm 2=.d (.bool lit)/\tm 3=.ptr 0 1 0 0/\tm 7=.d (AF i)/\S=[.row J 9 [.d (AA g)]]/\(0<i->jB tk lit=am)) (ed _) (by simp) ?_;rintro i tm S hi ⟨t1,t2,t3,t7,rfl,u⟩;rcases x3 i 1 with h0|h0
 .have m:i=0:=by omega
  subst m;refine xS (xW λK h=>?_);simp[t1,t7];apply h;refine AQ ?_;simp;refine xK ?_;refine xB ?_;refine xS ?_;refine xD (A3 31 []) (by kernel_rfl) λK h=>?_;simp;refine xZ ?_;simp[t1,t3,t7,c1,c2];refine xM (h _ _ ?_);(try simp only[xQ,reduceIte]);refine AQ ?_;simp;refine xK ?_;(repeat refine xS ?_);refine xE (A3 8 [17,19]) (by kernel_rfl) λK h=>?_;simp;refine xA 1 ?_;simp[t1,t3,t7,o,q,s];refine xX 0 (by kernel_rfl) ?_;simp[t1,t3,t7,Aa,o,q,s];refine xA 1 ?_;simp;refine xX 255 (by kernel_rfl) ?_;simp[Aa];refine xM (h _ _ ?_);(try simp only[xQ,reduceIte]);cases lit with
  |true=>
   (repeat refine xS ?_);refine H9 λK h=>?_;(repeat((first|refine FD rfl ?_ ?_;(·simp)|refine Ov rfl ?_ ?_;(·simp)|refine Cg ?_ ?_;(·simp));simp[t2]));refine CO (h _ _ ?_);(try simp only[C8]);refine AQ ?_;simp;refine⟨λj=>?_,λj=>?_⟩
   .have ha:jB tk J=true:=by simp[jB,j]
    rw[ha];refine xW λK h=>?_;simp;apply h;refine Am ⟨_,_,ap,?_⟩;try simp
   .refine B8 ?_;refine xV λK h=>?_;simp[t7];apply h;refine⟨_,_,qs 1 (S':=[.row J 9 [.d (AA g)]]) (by simp) (by simp) (by simp) (by simp),?_⟩;simp[clean,AP,t1,t2,t3,jB,j];decide
  |false=>
   refine Gb λK h=>?_;refine xH ?_;simp[t2];refine CO (h _ _ ?_);refine AQ ?_;simp;refine⟨λj=>?_,λj=>?_⟩
   .have ha:jB tk am=true:=by simp[jB,j]
    rw[ha];refine xW λK h=>?_;simp;apply h;refine Am ⟨_,_,ap,?_⟩;try simp
   .refine B8 ?_;refine xV λK h=>?_;simp[t7];apply h;refine⟨_,_,qs 1 (S':=[.row J 9 [.d (AA g)]]) (by simp) (by simp) (by simp) (by simp),?_⟩;simp[clean,AP,t1,t2,t3,jB,j];decide
 .have e:i=1:=by omega
  subst e;have ha:=u (by omega);rw[ha];refine xS (xW λK h=>?_);simp[t1,t7];apply h;refine AQ ?_;simp;refine Co ?_;refine xW λK h=>?_;simp[t1];apply h;refine Am ⟨_,_,ap,?_⟩;try simp
def Vi(g:AD)(p a c:Nat):Bool:=!((g.AE.getD p GR).right.getD a ⟨J,0⟩).token&&decide (((g.AE.getD p GR).right.getD a ⟨J,0⟩).index=(g.AE.getD c GR).left)
theorem bE(g:AD)(z:Int)(p a c:Nat)(d:AO)(E:z=1\/z=2)(m:p<Z g.AE)(o:c<Z g.AE)(H:Lm d (Z g.conds)=J):
  Pure a8 142 [AA g,AN ⟨z,p,a,c,0,0,[],d⟩] (.bool (Vi g p a c)):=by
 have K:=QH d (Z g.conds) H;have t:Pure a8 197 [AN ⟨z,p,a,c,0,0,[],d⟩] (.bool J):=NY p a c 0 0 d _ (by rcases E with rfl|rfl<;>simp);have c1:¬(p:Int)<0:=by omega
 have c2:¬(Z g.AE:Int)<=p:=by omega
 have h:¬Z g.AE<=p:=by omega
 have L:¬(c:Int)<0:=by omega
 have M:¬(Z g.AE:Int)<=c:=by omega
 have v:¬Z g.AE<=c:=by omega
 rcases E with rfl|rfl;all_goals
  refine zP func142 152 rfl λwf=>?_
  apply yW;simp
  refine xS (yS ?_)
  apply yH;simp
  refine nc (K) rfl rfl (by simp[xN];try rfl) ?_;simp
  apply yH;simp
  refine nc (t) rfl rfl (by simp[xN];try rfl) ?_;simp
  apply yH;simp
  apply AQ;simp
  apply xK
  refine xS (yW ?_);simp
  apply Bp
  refine xS (yW ?_);simp
  apply AQ;simp
  first|refine xK ?_|(apply yV;simp)
  apply AQ;simp
  refine xS (yS ?_)
  apply yH;simp[c1,c2,L,M]
  apply AQ;simp
  apply B8
  unfold Vi
  have N:g.AE.getD p GR=g.AE[p]:=by simp[m]
  have P:g.AE.getD c GR=g.AE[c]:=by simp[o]
  rw[N,P]
  generalize w:g.AE[p]=q
  generalize A:g.AE[c]=u
  have Q:=AG.eq_1 q
  have i:=AG.eq_1 u
  (repeat apply xS);apply yV;simp[m,w,Q]
  by_cases j:a<Z q.right
  .generalize B:q.right[a]=s
   have F:=AI.eq_1 s
   have k:(a:Int)<Z q.right:=by omega
   have C:q.right.getD a ⟨J,0⟩=s:=by simp[j,B]
   rw[C]
   cases G:s.token with
   |true=>
    (repeat apply xS);refine yE (A3 36 []) (by kernel_rfl) ?_;simp;apply yZ;simp[j,k,B,F,G];refine Am ⟨_,_,ap,?_⟩;try simp
   |false=>
    (repeat apply xS);refine yE (A3 36 []) (by kernel_rfl) ?_;simp;apply yZ;simp[j,k,B,F,G,o,A,i];refine Am ⟨_,_,ap,?_⟩;(try simp);rw[gI];simp
  .have k:¬(a:Int)<Z q.right:=by omega
   have C:q.right.getD a ⟨J,0⟩=⟨J,0⟩:=by simp[j]
   rw[C]
   (repeat apply xS);refine yE (A3 36 []) (by kernel_rfl) ?_;simp
   apply yZ;simp[k]
   refine Am ⟨_,_,ap,?_⟩;try simp
theorem Ze(g:AD)(z:Int)(l t:Nat)(d:AO)(j:z=3\/z=4)(k:l<Z g.Ay)(m:t<Z g.AU)(o:Lm d (Z g.conds)=J):
  Pure a8 142 [AA g,AN ⟨z,0,0,0,l,0,[(t:Int)],d⟩] (.bool (!(jB g.AU[t] am))):=by
 have q:=QH d (Z g.conds) o;have h:Pure a8 197 [AN ⟨z,0,0,0,l,0,[(t:Int)],d⟩] (.bool J):=NY 0 0 0 l t d _ (by rcases j with rfl|rfl<;>simp);have i:=VL g t am m;have c1:(0:Int)<=l:=by omega
 have c2:(l:Int)<Z g.Ay:=by omega
 rcases j with rfl|rfl;all_goals
  refine zP func142 152 rfl λwf=>?_
  apply yW;simp
  refine xS (yS ?_)
  apply yH;simp
  refine nc (q) rfl rfl (by simp[xN];try rfl) ?_;simp
  apply yH;simp
  refine nc (h) rfl rfl (by simp[xN];try rfl) ?_;simp
  apply yH;simp
  apply AQ;simp
  apply xK
  refine xS (yW ?_);simp
  apply Bp
  refine xS (yW ?_);simp
  apply AQ;simp
  apply yV;simp
  apply AQ;simp
  refine xS (yW ?_);simp
  apply AQ;simp
  first|refine xK ?_|(apply yV;simp)
  apply AQ;simp
  (repeat apply xS);apply yT
  apply yH;simp[c1,c2]
  refine nc (i) rfl rfl (by simp[xN];try rfl) ?_;simp
  apply yH;simp
  refine Am ⟨_,_,ap,?_⟩;try simp
theorem dm(g:AD)(t:Nat)(d:AO)(s:t<Z g.AU)(u:Lm d (Z g.conds)=J):
  ∃b,Pure a8 142 [AA g,AN ⟨5,0,0,0,0,0,[(t:Int)],d⟩] (.bool b):=by
 have m:=QH d (Z g.conds) u;have k:=NY 0 0 0 0 t d ⟨5,0,0,0,0,0,[(t:Int)],d⟩ (by simp);have j:=VL g t J s;have h0:0<Z g.AU:=by omega
 have c2:¬(Z g.AU:Int)<=0:=by omega
 have o:¬Z g.AU=0:=by omega
 have q:g.AU≠[]:=by intro e;simp[e]at h0
 have z:True:=trivial;cases ha:jB g.AU[t] J with
 |true=>
  rw[ha]at j;refine⟨am,?_⟩;refine ip func142 (by kernel_rfl) rfl (by simp) λwf=>?_;rw[ntmps142];refine xW λK h=>?_;simp;apply h;refine xS (Gb λK h=>?_);refine xH ?_;simp;refine nc (m) rfl rfl (by simp[xN];try rfl) ?_;simp;refine xH ?_;simp;refine nc (k) rfl rfl (by simp[xN];try rfl) ?_;simp;refine xH ?_;simp;refine CO (h _ _ ?_);(try simp only[xQ,reduceIte]);refine AQ ?_;simp;refine xK ?_;refine xS (xW λK h=>?_);simp;apply h;refine Bp ?_;refine xS (xW λK h=>?_);simp;apply h;refine AQ ?_;simp;refine xV λK h=>?_;simp;apply h;refine AQ ?_;simp;refine xS (xW λK h=>?_);simp;apply h;refine AQ ?_;simp;refine xV λK h=>?_;simp;apply h;refine AQ ?_;simp;refine B8 ?_;refine xS (Gb λK h=>?_);refine xH ?_;simp[o];refine nc (j) rfl rfl (by simp[xN];try rfl) ?_;simp;refine xH ?_;simp;refine CO (h _ _ ?_);(try simp only[xQ,reduceIte]);refine AQ ?_;simp;refine xW λK h=>?_;simp;apply h;refine Am ⟨_,_,ap,?_⟩;try simp
 |false=>
  rw[ha]at j;generalize v:g.AU[0]=tk;have w:=AV.eq_1 tk;refine⟨decide (tk.cls=0)&&decide (tk.literal=⟨#[]⟩),?_⟩;refine ip func142 (by kernel_rfl) rfl (by simp) λwf=>?_;rw[ntmps142];refine xW λK h=>?_;simp;apply h;refine xS (Gb λK h=>?_);refine xH ?_;simp;refine nc (m) rfl rfl (by simp[xN];try rfl) ?_;simp;refine xH ?_;simp;refine nc (k) rfl rfl (by simp[xN];try rfl) ?_;simp;refine xH ?_;simp;refine CO (h _ _ ?_);(try simp only[xQ,reduceIte]);refine AQ ?_;simp;refine xK ?_;refine xS (xW λK h=>?_);simp;apply h;refine Bp ?_;refine xS (xW λK h=>?_);simp;apply h;refine AQ ?_;simp;refine xV λK h=>?_;simp;apply h;refine AQ ?_;simp;refine xS (xW λK h=>?_);simp;apply h;refine AQ ?_;simp;refine xV λK h=>?_;simp;apply h;refine AQ ?_;simp;refine B8 ?_;refine xS (Gb λK h=>?_);refine xH ?_;simp[o];refine nc (j) rfl rfl (by simp[xN];try rfl) ?_;simp;refine xH ?_;simp;refine CO (h _ _ ?_);(try simp only[xQ,reduceIte]);refine AQ ?_;simp;refine xK ?_;(repeat refine xS ?_);refine H9 λK h=>?_;refine xJ ?_;simp[h0,v,w];refine CO (h _ _ ?_);(try simp only[xQ,reduceIte]);by_cases i:tk.cls=0
  ·(repeat refine xS ?_);refine H9 λK h=>?_;refine xH ?_;simp[i];refine CO (h _ _ ?_);(try simp only[xQ,reduceIte]);refine Am ⟨_,_,ap,?_⟩;(try simp);intro _;exact i
  ·(repeat refine xS ?_);refine H9 λK h=>?_;(repeat((first|refine FD rfl ?_ ?_;(·simp[i])|refine Ov rfl ?_ ?_;(·simp[i])|refine Cg ?_ ?_;(·simp[i]));simp));refine CO (h _ _ ?_);(try simp only[C8]);refine Am ⟨_,_,ap,?_⟩;(try simp);simp[i]
open Go.Proofs DT
def Vk:DT->Bool
 |.leaf _=>J
 |.node v l h=>decide (0<=v)&&(decide (v<=63)&&(decide (l≠h)&&(decide (v<l.level)&&(decide (v<h.level)&&(Vk l&&Vk h)))))
theorem Qk:∀{t:DT},Vk t=J->t.Good
 |.leaf _,_=>trivial
 |.node v l h,e=>by
  simp[Vk]at e;exact⟨e.1,e.2.1,e.2.2.1,e.2.2.2.1,e.2.2.2.2.1,Qk e.2.2.2.2.2.1,Qk e.2.2.2.2.2.2⟩
def tL(l:List Al):Nat->Int->DT
 |0,_=>.leaf am
 |f+1,k=>if k<=0 then .leaf am else if k=1 then .leaf J else match l[(k - 2).toNat]? with
  |none=>.leaf am
  |some b=>.node b.var (tL l f b.low) (tL l f b.high)
def sZ(d:AO):DT:=tL d.nodes 8 d.root
def W9(d:AO)(n:Nat):Bool:=decide (Ch (sZ d)=d)&&(Vk (sZ d)&&(decide (Z d.nodes<=4096)&&d.nodes.all λb=>decide (b.var<n)))
theorem L9{d:AO}{n:Nat}(h:W9 d n=J):Cp d n=true:=by
 simp[W9]at h;obtain⟨h1,g,m,i⟩:=h;have j:Valid d:=⟨sZ d,Qk g,h1.symm⟩;have k:HL d=0:=by unfold HL;rw[a9 (by omega),b8 j]
 simp[Cp,k];intro b hb;have:=i b hb;omega
theorem eQ:((kv 256).all λb=>(kv 4).all λn=>W9 (N4 b n) n)=true:=by decide+kernel
theorem RY{b n:Nat}(hb:b<256)(hn:n<4):Cp (N4 b n) n=true:=by
 have h:=eQ;simp at h;exact L9 (h b hb n hn)
theorem iZ:((kv 256).all λb=>(kv 4).all λn=>match Jh [(b:Int)] n 8 0 0 with|none=>am|some d=>W9 d n)=true:=by decide+kernel
theorem RN{b n:Nat}(hb:b<256)(hn:n<4){d:AO}(g:Jh [(b:Int)] n 8 0 0=some d):Cp d n=true:=by
 have h:=iZ;simp at h;have:=h b hb n hn;rw[g]at this;exact L9 this
def ye(g:AD)(l:Level):Prop:=
 Z l.AE<=2/\0<=l.assoc/\l.assoc<=3/\Cp l.cond (Z g.conds)=J/\l.AE.Nodup/\∀p∈l.AE,0<=p/\p<Z g.AE/\Wi g p=am
def yb(g:AD)(f:Filter):Prop:=∃d,Cp d (Z g.conds)=J/\((∃A C B:Nat,∃k:Int,(k=1\/k=2)/\A<Z g.AE/\B<Z g.AE/\Vi g A C B=J/\f=⟨k,A,C,B,0,0,[],d⟩)\/(∃l t:Nat,∃k:Int,(k=3\/k=4)/\l<Z g.Ay/\t<9/\f=⟨k,0,0,0,l,0,[(t:Int)],d⟩)\/f=⟨5,0,0,0,0,0,[5],d⟩)
def yz(g:AD)(t:List Token):Prop:=∃(e:Nat) (d:AO),Cp d (Z g.conds)=J/\∃h:e<Z g.AU,t=g.AU.set e {g.AU[e]with cond:=d}
def XO:Symbol:=⟨am,0⟩
def Ti(l:Int)(r:List Symbol):Bool:=decide (Z r=3)&&((r.getD 0 XO).token&&(r.getD 2 XO).token&&!(r.getD 1 XO).token&&decide ((r.getD 1 XO).index=l))
theorem XU(nm:ByteArray)(l:Int)(r:List Symbol)(c:AO)(b:Bool):Pure a8 195 [AG ⟨nm,l,r,c,b,0,[],Az⟩] (.bool (Ti l r)):=by
 have t:Az=⟨am,0,0,0,0⟩:=rfl;have j:CS [D.bool am,bi .i64 0,bi .i64 0,bi .i64 0,bi .i64 0] [D.bool am,bi .i64 0,bi .i64 0,bi .i64 0,bi .i64 0]=true:=rfl;by_cases h:Z r=3
 .obtain⟨x,y,z,rfl⟩:∃x y z,r=[x,y,z]:=by
   match r,h with
   |[x,y,z],_=>exact⟨x,y,z,rfl⟩
  have hb:Ti l [x,y,z]=(x.token&&z.token&&!y.token&&decide (y.index=l)):=by simp[Ti]
  rw[hb];have k:=AI.eq_1 x;have q:=AI.eq_1 y;have o:=AI.eq_1 z;refine zP func195 54 rfl λwf=>?_;apply yW;simp;refine xS (yS ?_);apply yH;simp[t,j];apply AQ;simp;apply B8;cases m:x.token with
  |false=>
   (repeat apply xS);refine yE (A3 31 []) (by kernel_rfl) ?_;simp;apply yZ;simp[k,m];apply zT;try simp
  |true=>
   cases i:z.token with
   |false=>
    (repeat apply xS);refine yE (A3 31 []) (by kernel_rfl) ?_;simp;apply yZ;simp[k,o,m,i];apply zT;try simp
   |true=>
    cases s:y.token with
    |true=>
     (repeat apply xS);refine yE (A3 31 []) (by kernel_rfl) ?_;simp;apply yZ;simp[k,q,o,m,s,i];apply zT;try simp
    |false=>
     (repeat apply xS);refine yE (A3 31 []) (by kernel_rfl) ?_;simp;apply yZ;simp[k,q,o,m,s,i];apply zT;(try simp);rw[gI];simp
 .have hb:Ti l r=false:=by simp[Ti,h]
  rw[hb];have g:¬(Z r:Int)=3:=by omega
  refine zP func195 54 rfl λwf=>?_;apply yW;simp;refine xS (yS ?_);(repeat((first|refine FD rfl ?_ ?_;(·simp[g])|refine Ov rfl ?_ ?_;(·simp[h,g])|refine Cg ?_ ?_;(·simp[g]));simp));apply CO;apply AQ;simp[g];apply yW;simp;refine Am ⟨_,_,ap,?_⟩;try simp
def pl(nm:ByteArray)(l:Int)(r:List Symbol)(c:AO):AM:=⟨nm,l,r,c,am,0,[],Az⟩
abbrev ac3:=@Int.tdiv_eq_ediv_of_nonneg
theorem Qv{r:List Symbol}{k j m:Nat}(h0:0<Z r)(h:8 * k+j=m)(hj:j<8)(g:8 * k+j<256):¬Z r=0/\r≠[]/\(m:Int).tmod 8=j/\(m:Int).tdiv 8=k/\(m:Int) / 8=k/\(m:Int) % 8=j/\bv .u8 (k:Int)=k/\bv .i64 (k:Int)=k:=
 ⟨by omega,by intro e;simp[e]at h0,by rw[i7 (by omega)];omega,by rw[ac3 (by omega)];omega,by omega,by omega,by simp[IntKind.wrap,IntKind.signed,IntKind.bits];omega,by rw[c8];omega⟩
theorem mN{r:List Symbol}{n k e j d i:Nat}(D:Int)(hD:D=d)(hn:Z r=n)(u:¬n=0)(g:k % n=e)(hj:k % d=j)(v:d≠0)(q:d<8)(w:8 * k+i<256):∃s,(∃h:e<Z r,r[e]=s)/\r.getD e XO=s/\e<n/\(k:Int).tmod n=e/\bv .i64 ((e:Int)+1)=(e:Int)+1/\(k:Int).tmod D=j/\(k:Int) % D=j/\bv .i64 ((1:Int)+j)=1+j:=by
 subst hD;have h1:e<n:=by rw[<-g];exact pm _ (by omega)
 have z:j<d:=by rw[<-hj];exact pm _ (by omega)
 have A:e<=k:=by rw[<-g];exact Nat.mod_le _ _
 have t:(k:Int) % n=e:=by rw[<-g];simp
 have m:(k:Int) % d=j:=by rw[<-hj];simp
 have o:e<Z r:=by omega
 exact⟨r[e],⟨o,rfl⟩,by simp[o],h1,by rw[i7 (by omega)];exact t,by rw[c8];omega,by rw[i7 (by omega)];exact m,m,by rw[c8];omega⟩
theorem Va(nm:ByteArray)(l:Int)(c:AO)(m:Nat):Pure a8 140 [AG (pl nm l [] c),.int .u8 m] (AG (pl nm l [] c)):=by
 refine zP func140 94 rfl λwf=>?_;unfold pl;apply yW;simp;apply yW;simp;refine xS (yW ?_);simp;apply AQ;simp;apply yW;simp;refine Am ⟨_,_,ap,?_⟩;try simp
theorem Wp(nm:ByteArray)(l:Int)(r:List Symbol)(c:AO)(k:Nat)(j:8 * k+0<256)(h0:0<Z r)(_:Z r<=4):Pure a8 140 [AG (pl nm l r c),.int .u8 (8 * k+0:Nat)] (AG (pl nm l r c)):=by
 have z:Az=⟨am,0,0,0,0⟩:=rfl;obtain⟨m,g⟩:=ce (8 * k+0);rw[g];obtain⟨h,i,o,q,s,t,u,v⟩:=Qv h0 g (by decide) j;refine zP func140 94 rfl λwf=>?_;unfold pl;apply yW;simp;apply yW;simp;refine xS (yW ?_);simp;apply AQ;simp[h];apply xK;apply yW;simp[q,u,v];refine xS (yW ?_);simp[o];apply Bp;apply yW;simp;apply AQ;simp;apply yW;simp;apply AQ;simp;apply yW;simp;apply AQ;simp;apply yW;simp;apply AQ;simp;apply yW;simp;apply AQ;simp;apply yW;simp;apply AQ;simp;apply yW;simp;apply AQ;simp;apply B8;apply yW;simp;refine Am ⟨_,_,ap,?_⟩;try simp
theorem WX(nm:ByteArray)(l:Int)(r:List Symbol)(c:AO)(k:Nat)(j:8 * k+1<256)(h0:0<Z r)(_:Z r<=4):Pure a8 140 [AG (pl nm l r c),.int .u8 (8 * k+1:Nat)] (AG {pl nm l r c with EC:=1}):=by
 have z:Az=⟨am,0,0,0,0⟩:=rfl;obtain⟨m,g⟩:=ce (8 * k+1);rw[g];obtain⟨h,i,o,q,s,t,u,v⟩:=Qv h0 g (by decide) j;refine zP func140 94 rfl λwf=>?_;unfold pl;apply yW;simp;apply yW;simp;refine xS (yW ?_);simp;apply AQ;simp[h];apply xK;apply yW;simp[q,u,v];refine xS (yW ?_);simp[o];apply Bp;apply yW;simp;apply AQ;simp;apply yV;simp;apply yW;simp;refine Am ⟨_,_,ap,?_⟩;simp[AG,Az]
theorem Xc(nm:ByteArray)(l:Int)(r:List Symbol)(c:AO)(k:Nat)(j:8 * k+2<256)(h0:0<Z r)(_:Z r<=4):Pure a8 140 [AG (pl nm l r c),.int .u8 (8 * k+2:Nat)] (AG {pl nm l r c with EC:=-1}):=by
 have z:Az=⟨am,0,0,0,0⟩:=rfl;obtain⟨m,g⟩:=ce (8 * k+2);rw[g];obtain⟨h,i,o,q,s,t,u,v⟩:=Qv h0 g (by decide) j;refine zP func140 94 rfl λwf=>?_;unfold pl;apply yW;simp;apply yW;simp;refine xS (yW ?_);simp;apply AQ;simp[h];apply xK;apply yW;simp[q,u,v];refine xS (yW ?_);simp[o];apply Bp;apply yW;simp;apply AQ;simp;apply yW;simp;apply AQ;simp;apply yV;simp;apply yW;simp;refine Am ⟨_,_,ap,?_⟩;simp[AG,Az]
theorem WJ(nm:ByteArray)(l:Int)(r:List Symbol)(c:AO)(k:Nat)(o:8 * k+3<256)(h0:0<Z r)(_:Z r<=4):Pure a8 140 [AG (pl nm l r c),.int .u8 (8 * k+3:Nat)] (AG {pl nm l r c with bracket:=Ti l r}):=by
 have g:Az=⟨am,0,0,0,0⟩:=rfl;obtain⟨m,h⟩:=ce (8 * k+3);rw[h];obtain⟨i,j,q,s,t,u,v,w⟩:=Qv h0 h (by decide) o;have hb:=XU nm l r c J;rw[g]at hb;refine zP func140 94 rfl λwf=>?_;unfold pl;apply yW;simp;apply yW;simp;refine xS (yW ?_);simp;apply AQ;simp[i];apply xK;apply yW;simp[s,v,w];refine xS (yW ?_);simp[q];apply Bp;apply yW;simp;apply AQ;simp;apply yW;simp;apply AQ;simp;apply yW;simp;apply AQ;simp;apply yW;simp[g];apply yT;apply yJ;simp;refine Bz (hb) rfl (by simp[xN]) (yJ ?_);simp;apply yW;simp;refine Am ⟨_,_,ap,?_⟩;simp[AG,Az]
theorem WG(nm:ByteArray)(l:Int)(r:List Symbol)(c:AO)(k:Nat)(G:8 * k+4<256)(h0:0<Z r)(R:Z r<=4):Pure a8 140 [AG (pl nm l r c),.int .u8 (8 * k+4:Nat)] (AG {pl nm l r c with layout:=[⟨1+(k % 4:Nat),(k / 4 % Z r:Nat),if k % 4=0 then 0 else(Z r:Int) - 1⟩]}):=by
 have S:Az=⟨am,0,0,0,0⟩:=rfl;obtain⟨m,w⟩:=ce (8 * k+4);rw[w];obtain⟨z,A,H,K,L,M,N,P⟩:=Qv h0 w (by decide) G;obtain⟨n,hn⟩:=ce (Z r);obtain⟨j,hj⟩:=ce (k % 4);obtain⟨d,Q⟩:=ce (k / 4);obtain⟨e,u⟩:=ce (d % n);have T:e<n:=by rw[<-u];exact pm _ (by omega)
 have v:((k:Int).tmod 4)=j:=by rw[i7 (by omega)];omega
 have h:(k:Int) % 4=j:=by omega
 have B:bv .i64 ((1:Int)+j)=1+j:=by rw[c8];omega
 have C:((k:Int).tdiv 4)=d:=by rw[ac3 (by omega)];omega
 have i:(k:Int) / 4=d:=by omega
 have o:bv .i64 (d:Int)=d:=by rw[c8];omega
 have E:((d:Int).tmod n)=e:=by rw[i7 (by omega),<-u];simp
 have F:bv .i64 ((n:Int) - 1)=(n:Int) - 1:=by rw[c8];omega
 have q:¬n=0:=by omega
 have t:1<=maxLen:=by unfold maxLen;omega
 rw[hj,Q,hn,u];refine zP func140 94 rfl λwf=>?_;unfold pl;apply yW;simp;apply yW;simp;refine xS (yW ?_);simp;apply AQ;simp[z];apply xK;apply yW;simp[K,N,P];refine xS (yW ?_);simp[H];apply Bp;apply yW;simp;apply AQ;simp;apply yW;simp;apply AQ;simp;apply yW;simp;apply AQ;simp;apply yW;simp;apply AQ;simp;apply yS;(iterate 10 (refine Cg (by simp[q]) ?_;simp[hn,v,B,C,o,E,F]));((refine AY.I3 rfl ?_ ?_);(focus(simp[FR,maxLen];done));simp);apply yJ;simp;(repeat apply xS);apply yV;simp[v];by_cases g:j=0
 .apply AQ;simp[g];apply yV;simp;apply yW;simp;apply Am;refine⟨_,_,fc 2 (xs:=[BF ⟨1+j,e,0⟩]) rfl (by simp[BF,DR,Ed,CZ,g]),?_⟩;simp[BC,AG,BF,Az,g]
 .have s:¬(j:Int)=0:=by omega
  apply AQ;simp[g];apply B8;apply yW;simp;apply Am;refine⟨_,_,fc 2 (xs:=[BF ⟨1+j,e,n - 1⟩]) rfl (by simp[BF,DR,Ed,CZ]),?_⟩;simp[BC,AG,BF,Az]
theorem WH(nm:ByteArray)(l:Int)(r:List Symbol)(c:AO)(k:Nat)(j:8 * k+5<256)(h0:0<Z r)(_:Z r<=4):Pure a8 140 [AG (pl nm l r c),.int .u8 (8 * k+5:Nat)] (AG {pl nm l r c with scope:=⟨J,0,0,0,0⟩}):=by
 have z:Az=⟨am,0,0,0,0⟩:=rfl;obtain⟨m,g⟩:=ce (8 * k+5);rw[g];obtain⟨h,i,o,q,s,t,u,v⟩:=Qv h0 g (by decide) j;refine zP func140 94 rfl λwf=>?_;unfold pl;apply yW;simp;apply yW;simp;refine xS (yW ?_);simp;apply AQ;simp[h];apply xK;apply yW;simp[q,u,v];refine xS (yW ?_);simp[o];apply Bp;apply yW;simp;apply AQ;simp;apply yW;simp;apply AQ;simp;apply yW;simp;apply AQ;simp;apply yW;simp;apply AQ;simp;apply yW;simp;apply AQ;simp;apply yV;simp;apply yW;simp;refine Am ⟨_,_,ap,?_⟩;simp[AG,Az]
theorem Uu(nm:ByteArray)(l:Int)(r:List Symbol)(c:AO)(k:Nat)(q:8 * k+6<256)(h0:0<Z r)(_:Z r<=4)(h:(r.getD (k % Z r) XO).token=J):Pure a8 140 [AG (pl nm l r c),.int .u8 (8 * k+6:Nat)] (AG {pl nm l r c with scope:=⟨am,(k % Z r:Nat)+1,1+(k % 2:Nat),0,0⟩}):=by
 have R:Az=⟨am,0,0,0,0⟩:=rfl;obtain⟨m,t⟩:=ce (8 * k+6);rw[t];obtain⟨i,u,A,B,C,E,F,G⟩:=Qv h0 t (by decide) q;obtain⟨n,hn⟩:=ce (Z r);rw[hn]at h i h0⊢;obtain⟨e,v⟩:=ce (k % n);obtain⟨j,hj⟩:=ce (k % 2);rw[v]at h⊢;rw[hj];have g:¬n=0:=by omega
 obtain⟨s,⟨S,H⟩,K,L,w,M,N,o,P⟩:=mN (d:=2) 2 rfl hn g v hj (by decide) (by decide) q;rw[K]at h;have Q:=AI.eq_1 s;refine zP func140 94 rfl λwf=>?_;unfold pl;apply yW;simp;apply yW;simp;refine xS (yW ?_);simp[hn];apply AQ;simp[i];apply xK;apply yW;simp[B,F,G];refine xS (yW ?_);simp[A];apply Bp;apply yW;simp;apply AQ;simp;apply yW;simp;apply AQ;simp;apply yW;simp;apply AQ;simp;apply yW;simp;apply AQ;simp;apply yW;simp;apply AQ;simp;apply yW;simp;apply AQ;simp;refine yD (A3 8 []) (by kernel_rfl) ?_;simp;apply yA 0;simp[hn,w,g,L,H,Q,h];apply AQ;simp;apply yV;simp[w,M,N,P,g];apply yW;simp;refine Am ⟨_,_,ap,?_⟩;simp[AG,Az]
theorem Vd(nm:ByteArray)(l:Int)(r:List Symbol)(c:AO)(k:Nat)(o:8 * k+6<256)(h0:0<Z r)(_:Z r<=4)(g:(r.getD (k % Z r) XO).token=am):Pure a8 140 [AG (pl nm l r c),.int .u8 (8 * k+6:Nat)] (AG (pl nm l r c)):=by
 have N:Az=⟨am,0,0,0,0⟩:=rfl;obtain⟨m,q⟩:=ce (8 * k+6);rw[q];obtain⟨i,t,w,z,A,B,C,E⟩:=Qv h0 q (by decide) o;obtain⟨n,hn⟩:=ce (Z r);rw[hn]at g i h0;obtain⟨e,u⟩:=ce (k % n);obtain⟨j,hj⟩:=ce (k % 2);rw[u]at g;have h:¬n=0:=by omega
 obtain⟨s,⟨P,F⟩,G,H,K,Q,R,L,S⟩:=mN (d:=2) 2 rfl hn h u hj (by decide) (by decide) o;rw[G]at g;have M:=AI.eq_1 s;refine zP func140 94 rfl λwf=>?_;unfold pl;apply yW;simp;apply yW;simp;refine xS (yW ?_);simp[hn];apply AQ;simp[i];apply xK;apply yW;simp[z,C,E];refine xS (yW ?_);simp[w];apply Bp;apply yW;simp;apply AQ;simp;apply yW;simp;apply AQ;simp;apply yW;simp;apply AQ;simp;apply yW;simp;apply AQ;simp;apply yW;simp;apply AQ;simp;apply yW;simp;apply AQ;simp;refine yD (A3 8 []) (by kernel_rfl) ?_;simp;apply yA 0;simp[hn,K,h,H,F,M,g];apply AQ;simp;apply B8;apply yW;simp;refine Am ⟨_,_,ap,?_⟩;try simp
theorem Uv(nm:ByteArray)(l:Int)(r:List Symbol)(c:AO)(k:Nat)(q:8 * k+7<256)(h0:0<Z r)(_:Z r<=4)(h:(r.getD (k % Z r) XO).token=J):Pure a8 140 [AG (pl nm l r c),.int .u8 (8 * k+7:Nat)] (AG {pl nm l r c with scope:=⟨am,0,0,(k % Z r:Nat)+1,1+(k % 7:Nat)⟩}):=by
 have R:Az=⟨am,0,0,0,0⟩:=rfl;obtain⟨m,t⟩:=ce (8 * k+7);rw[t];obtain⟨i,u,A,B,C,E,F,G⟩:=Qv h0 t (by decide) q;obtain⟨n,hn⟩:=ce (Z r);rw[hn]at h i h0⊢;obtain⟨e,v⟩:=ce (k % n);obtain⟨j,hj⟩:=ce (k % 7);rw[v]at h⊢;rw[hj];have g:¬n=0:=by omega
 obtain⟨s,⟨S,H⟩,K,L,w,M,N,o,P⟩:=mN (d:=7) 7 rfl hn g v hj (by decide) (by decide) q;rw[K]at h;have Q:=AI.eq_1 s;refine zP func140 94 rfl λwf=>?_;unfold pl;apply yW;simp;apply yW;simp;refine xS (yW ?_);simp[hn];apply AQ;simp[i];apply xK;apply yW;simp[B,F,G];refine xS (yW ?_);simp[A];apply Bp;apply yW;simp;apply AQ;simp;apply yW;simp;apply AQ;simp;apply yW;simp;apply AQ;simp;apply yW;simp;apply AQ;simp;apply yW;simp;apply AQ;simp;apply yW;simp;apply AQ;simp;apply yW;simp;apply AQ;simp;refine yD (A3 8 []) (by kernel_rfl) ?_;simp;apply yA 0;simp[hn,w,g,L,H,Q,h];apply AQ;simp;apply yV;simp[w,M,N,P,g];apply yW;simp;refine Am ⟨_,_,ap,?_⟩;simp[AG,Az]
theorem VP(nm:ByteArray)(l:Int)(r:List Symbol)(c:AO)(k:Nat)(o:8 * k+7<256)(h0:0<Z r)(_:Z r<=4)(g:(r.getD (k % Z r) XO).token=am):Pure a8 140 [AG (pl nm l r c),.int .u8 (8 * k+7:Nat)] (AG (pl nm l r c)):=by
 have N:Az=⟨am,0,0,0,0⟩:=rfl;obtain⟨m,q⟩:=ce (8 * k+7);rw[q];obtain⟨i,t,w,z,A,B,C,E⟩:=Qv h0 q (by decide) o;obtain⟨n,hn⟩:=ce (Z r);rw[hn]at g i h0;obtain⟨e,u⟩:=ce (k % n);obtain⟨j,hj⟩:=ce (k % 7);rw[u]at g;have h:¬n=0:=by omega
 obtain⟨s,⟨P,F⟩,G,H,K,Q,R,L,S⟩:=mN (d:=7) 7 rfl hn h u hj (by decide) (by decide) o;rw[G]at g;have M:=AI.eq_1 s;refine zP func140 94 rfl λwf=>?_;unfold pl;apply yW;simp;apply yW;simp;refine xS (yW ?_);simp[hn];apply AQ;simp[i];apply xK;apply yW;simp[z,C,E];refine xS (yW ?_);simp[w];apply Bp;apply yW;simp;apply AQ;simp;apply yW;simp;apply AQ;simp;apply yW;simp;apply AQ;simp;apply yW;simp;apply AQ;simp;apply yW;simp;apply AQ;simp;apply yW;simp;apply AQ;simp;apply yW;simp;apply AQ;simp;refine yD (A3 8 []) (by kernel_rfl) ?_;simp;apply yA 0;simp[hn,K,h,H,F,M,g];apply AQ;simp;apply B8;apply yW;simp;refine Am ⟨_,_,ap,?_⟩;try simp
open Go.Proofs
section
variable {P:Program} {n b:Nat} {ops:Array Oper} {o:Oper} {tm:Tm} {S:Sg} {K:Tm->Sg->Prop}
def Iz(i:Int):ByteArray:=ByteArray.empty.push (UInt8.ofNat i.toNat)
theorem GU(i:Int):(Iz i).size=1:=by simp[Iz,ByteArray.size_push]
theorem OD{T U E:TypeId}{x:Operand}{i:Int}{t e:TI}(C:o.op=.convert T U x)(F:need (ev tm x))(H:strip (ev tm x)=.full [.int .u8 i])
  (L:ti P T=some t) (M:P.underlying U=some .string) (N:ti P E=some e) (Q:t.kind=.slice E) (R:e.kind=.int .u8):CP P n o tm S (.d (.str (Iz i))) S:=.pure λG w a st=>by
 have h1:=(BY st x).strip F;rw[H]at h1;obtain⟨d,W,h⟩:=An L w;have k:(underlying U).run P w=.ok .string w:=by simp[underlying,M]
 obtain⟨d3,m,g⟩:=An N w;have:d=.slice E:=by rw[Q]at h;cases d<;>simp[tk]at h⊢;exact h
 subst this;have:d3=.int .u8:=by rw[R]at g;cases d3<;>simp[tk]at g⊢;exact g
 subst this;generalize X:a.eval x=B at h1;cases h1 with
 |full _ base Y=>
  cases Y with
  |sl sz _ b off cap z hI hl hcp g1 g2=>
   have q:=g1 0 (by simp);simp at q;have A:z 0=.int .u8 i:=by generalize z 0=u at q;cases q;rfl
   obtain⟨r1,r2⟩:=g2 0 (by simp);have zg:sz=1:=by rw[<-r1,A];rfl
   have s:(loadCells ⟨b,off,none⟩ 1).run P w=.ok #[.int .u8 i] w:=run_loadCells _ rfl λj hj=>by
    have:=r2 j (by omega);rw[A,show(Value.int IntKind.u8 i).cells=#[.int .u8 i]from rfl]at this;have v:j=0:=by omega
    subst v;simpa using this
   refine⟨.string (Iz i),?_,.d _ _ (.str _ (by rw[GU];unfold maxLen;omega))⟩;simp[execOp,C,convert,X,W,k,m,Conv.bytesToString];simp[s,Iz]
theorem AY.QE{rest:List Oper}{T U:TypeId}{x:Operand}(E:TypeId)(i:Int)(g:o.op=.convert T U x)(h:o.guard=none/\A6 n o.dst/\need (ev tm x)/\strip (ev tm x)=.full [.int .u8 i]/\BB P T=some E/\intKind P E=some .u8)
  (j:P.underlying U=some .string) (k:AY P n b ops rest (put tm o.dst (.d (.str (Iz i)))) S K):AY P n b ops (o::rest) tm S K:=by
 obtain⟨m,q,s,u,v,w⟩:=h;obtain⟨t,t1,t2⟩:=A8 v;obtain⟨e,z,A⟩:=JL w;exact AY.Zb ⟨m,q⟩ (OD g s u t1 j z t2 A) k
theorem Ad.QE{B:List (Nat×(Sg->Prop))}{k:Nat}{rest:List (Nat×Bool×Oper)}{T U:TypeId}{x:Operand}(E:TypeId)(i:Int)(h:o.op=.convert T U x)(j:o.guard=none/\A6 n o.dst/\need (ev tm x)/\strip (ev tm x)=.full [.int .u8 i]/\BB P T=some E/\intKind P E=some .u8)
  (m:P.underlying U=some .string) (q:Ad P n b ops ((k,λ_=>True)::B) rest (put tm o.dst (.d (.str (Iz i)))) S K):Ad P n b ops B ((k,J,o)::rest) tm S K:=by
 obtain⟨s,u,v,w,z,A⟩:=j;obtain⟨t,t1,t2⟩:=A8 z;obtain⟨e,C,F⟩:=JL A;refine vb (λ_=>True) trivial (λhi H _=>λg G=>?_) q;have h1:ev g x=ev tm x:=Hr G x (by rw[h];simp[Op.operands]);exact aeq hi u s (OD h (by rw[h1];exact v) (by rw[h1];exact w) t1 m C t2 F)
theorem Ad.sQ{B:List (Nat×(Sg->Prop))}{i:Nat}{rest:List (Nat×Bool×Oper)}{c:Call}{f:FuncId}{args:List V}{v:V}(h:AH P f args [] v [])(g:o.op=.call c)
  (j:o.guard=none/\A6 n o.dst/\A9 tm c/\FT tm c f args/\args.all (AP 0)=J/\AP 0 v=J) (k:Ad P n b ops ((i,λ_=>True)::B) rest (put tm o.dst v) S K):Ad P n b ops B ((i,J,o)::rest) tm S K:=by
 obtain⟨m,q,s,t,u,w⟩:=j;exact vb (λ_=>True) trivial (λhi z _=>Pi hi g m q (FX t) s (h.Tw w u)) k
end
def Uj(n:ByteArray)(l:Int):V:=.agg [.d (.str n),.d (.int .i64 l),.full [],.d (.sl []),.d (.int .i64 1),.d (.bool am),.d (.int .i64 0),.full [],.d (.bool am),.d (.int .i64 0),.d (.int .i64 0),.d (.int .i64 0),.d (.int .i64 0)]
theorem eH(n:ByteArray)(l:Int):AH a8 51 [.d (.str n),.d (.int .i64 l),.full []] [] (Uj n l) [.row J 13 [Uj n l]]:=by
 have h1:=B2 J;simp at h1;refine zC func51 12 rfl λwf _=>?_;apply yW;simp;(repeat apply xS);apply yT;apply yJ;simp;refine Bz (h1) rfl (by simp) (yJ ?_);simp[AB];apply Am;refine⟨_,ap,?_⟩;simp[At,Uj]
theorem ZS(n:ByteArray)(l:Int):AH a8 51 [.d (.str n),.d (.int .i64 l),.full []] [] (Uj n l) []:=
 (eH n l).ghost λtm h0=>⟨_,AJ.drop 0 (ci _) (by simp) (by simp),by simp[clean,h0,Uj,AP,Au]⟩
structure Hq where
 left:Nat
 right:List Nat
 IV:Nat
 mark:Nat
def CY(x:Hq):D:=.agg [bi .u8 (x.left:Nat),D.sl (x.right.map λ(k:Nat)=>bi .u8 k),bi .u8 (x.IV:Nat),bi .u8 (x.mark:Nat)]
@[simp] theorem jZ(x:Hq):Aj (.d (CY x))=[.d (bi .u8 (x.left:Nat)),.d (D.sl (x.right.map λ(k:Nat)=>bi .u8 k)),.d (bi .u8 (x.IV:Nat)),.d (bi .u8 (x.mark:Nat))]:=rfl
@[simp] theorem gR(x:Hq):Ap (.d (CY x))=true:=rfl
@[simp] theorem lO(x:Hq):Bu (.d (CY x))=false:=rfl
@[simp] theorem jX(x:Hq):BE (CY x)=[bi .u8 (x.left:Nat),D.sl (x.right.map λ(k:Nat)=>bi .u8 k),bi .u8 (x.IV:Nat),bi .u8 (x.mark:Nat)]:=rfl
@[simp] theorem ln(x:Hq):CR.oneD (CY x)=true:=rfl
@[simp] theorem se(x:Hq):Da (CY x)=Bq [bi .u8 (x.left:Nat),D.sl (x.right.map λ(k:Nat)=>bi .u8 k),bi .u8 (x.IV:Nat),bi .u8 (x.mark:Nat)]:=rfl
@[simp] theorem k8(S:Sg)(x:Hq):Dp S (.d (CY x))=some [bi .u8 (x.left:Nat),D.sl (x.right.map λ(k:Nat)=>bi .u8 k),bi .u8 (x.IV:Nat),bi .u8 (x.mark:Nat)]:=rfl
end Go.Koi
