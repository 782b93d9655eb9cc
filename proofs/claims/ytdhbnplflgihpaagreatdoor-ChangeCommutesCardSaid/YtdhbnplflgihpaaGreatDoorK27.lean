/-
  Part 28 of the proof that the law ChangeCommutes of the package koinelaw31 returns true for every input.
-/
import Derived.Test.YtdhbnplflgihpaaGreatDoorK26
set_option maxHeartbeats 64000000
set_option maxRecDepth 100000
namespace Go.Koi
open Go.Proofs Tryz DT
def H0(g:AF)(x:Change)(h:AF)(mm:List Rewrite)(lg:Bool):D:=.agg [CW g.conds,AV g.Cz.nodes,AG g.Cz.root,Bs g.Ak,CW g.BC,Bb g.AD,AG g.start,BI g.levels,A8 g.AM,AG x.kind,AG x.number,AG x.at_,AG x.to,Ba x.name,CS x.value,AV x.cond.nodes,AG x.cond.root,BI x.levels,A8 x.AM,Ba x.token.name,AG x.token.cls,Ba x.token.literal,Ax x.token.pattern,Ba x.token.Cr,AV x.token.cond.nodes,AG x.token.cond.root,Ba x.prod.name,AG x.prod.left,As x.prod.right,AV x.prod.cond.nodes,AG x.prod.cond.root,CS x.prod.bracket,AG x.prod.Di,Bf x.prod.layout,CS x.prod.scope.opens,AG x.prod.scope.declares,AG x.prod.scope.kind,AG x.prod.scope.EA,AG x.prod.scope.allowed,Bm x.BL,CW h.conds,AV h.Cz.nodes,AG h.Cz.root,Bs h.Ak,CW h.BC,Bb h.AD,AG h.start,BI h.levels,A8 h.AM,An mm,.bool lg]
def CG(g:AF)(x:Change)(h:AF)(m:V)(lg:Bool)(w0 w1 w2 w3:Bool):Sg:=
 [.row w0 1 (h.conds.map fun x=>.d (D.str x)),.row w1 7 (h.Ak.map fun x=>.d (Aa x)),.row w2 1 (h.BC.map fun x=>.d (D.str x)),.row w3 13 (h.AD.map fun x=>.d (AH x)),.row true 51 [bV g x (.row 0 h.conds.length) (.d (AV h.Cz.nodes)) (.d (AG h.Cz.root)) (.row 1 h.Ak.length) (.row 2 h.BC.length) (.row 3 h.AD.length) (.d (AG h.start)) (.d (BI h.levels)) (.d (A8 h.AM)) m lg]]
def bS(g:AF)(x:Change):Sg:=CG g x g (.full []) false (!g.conds.isEmpty) (!g.Ak.isEmpty) (!g.BC.isEmpty) (!g.AD.isEmpty)
def D5(g:AF)(x:Change)(h:AF)(mm:List Rewrite)(lg:Bool):Sg:=
 [.BJ (h.conds.map D.str),.BJ (h.Ak.map Aa),.BJ (h.BC.map D.str),.BJ (h.AD.map AH),.row true 51 [.d (H0 g x h mm lg)]]
theorem Jo{n b:Nat}{tm:Tm}(g:AF)(x:Change)(h:AF)(m:V)(mm:List Rewrite)(lg w0 w1 w2 w3:Bool)
  (hm:m=.full (mm.map Ab)):AJ prog n b tm (CG g x h m lg w0 w1 w2 w3) tm (D5 g x h mm lg):=by
 subst hm;have g0:=AJ.B6 (P:=prog) (n:=n) (b:=b) (tm:=tm) (S:=CG g x h (.full (mm.map Ab)) lg w0 w1 w2 w3) 0 rfl (Bz _ D.str h.conds);have g1:=AJ.B6 (P:=prog) (n:=n) (b:=b) (tm:=tm) (S:=(CG g x h (.full (mm.map Ab)) lg w0 w1 w2 w3).set 0 (.BJ (h.conds.map D.str))) 1 rfl (Bz _ Aa h.Ak);have g2:=AJ.B6 (P:=prog) (n:=n) (b:=b) (tm:=tm) (S:=((CG g x h (.full (mm.map Ab)) lg w0 w1 w2 w3).set 0 (.BJ (h.conds.map D.str))).set 1 (.BJ (h.Ak.map Aa))) 2 rfl (Bz _ D.str h.BC);have g3:=AJ.B6 (P:=prog) (n:=n) (b:=b) (tm:=tm) (S:=(((CG g x h (.full (mm.map Ab)) lg w0 w1 w2 w3).set 0 (.BJ (h.conds.map D.str))).set 1 (.BJ (h.Ak.map Aa))).set 2 (.BJ (h.BC.map D.str))) 3 rfl (Bz _ AH h.AD);refine(((g0.trans g1).trans g2).trans g3).trans ?_;refine AJ.A2 (P:=prog) (n:=n) (b:=b) (tm:=tm) 4 (wr:=true) (sz:=51) (xs:=[H0 g x h mm lg]) rfl ?_;simp[allD,CG,bV,asDs,asD1,H0]
theorem YZ(g:AF)(x:Change)(hi:Fz x g.BC.length=true):AE prog 71 [.ptr 4 1 0 0] (bS g x) (.Bd []) (D5 g x {g with BC:=g.BC.set x.number.toNat x.name} [] false):=by
 simp only[Fz,Bool.and_eq_true,decide_eq_true_eq]at hi;obtain⟨j,hj⟩:∃j:Nat,x.number=j:=⟨x.number.toNat,by omega⟩;have hj1:j<g.BC.length:=by omega
 have hem:g.BC.isEmpty=false:=by cases h:g.BC<;>simp[h]at hj1⊢
 refine AE.AI func71 (by kernel_rfl) rfl (by simp) fun wf _=>?_;rw[ntmps71];unfold bS CG bV;refine xE [0,2,4,6,8,10,12,14,16,18,20,22,24,26,28,30,33] (by kernel_rfl) fun K hK=>?_;simp;refine xA 1 ?_;simp[hj,hj1,hem];refine xX 65535 (by kernel_rfl) ?_;simp[hj1,AR];refine xM (hK _ _ ?_);refine⟨_,(AJ.JK (S':=CG g x {g with BC:=g.BC.set x.number.toNat x.name} (.full []) false (!g.conds.isEmpty) (!g.Ak.isEmpty) (!g.BC.isEmpty) (!g.AD.isEmpty)) ?_).trans (Jo g x _ (.full []) [] false _ _ _ _ rfl),?_⟩
 ·simp[CG,bV,hj,hem,List.map_set]
 ·simp[Am]
theorem YO(g:AF)(x:Change)(hi:Fz x g.conds.length=true):AE prog 75 [.ptr 4 1 0 0] (bS g x) (.Bd []) (D5 g x {g with conds:=g.conds.set x.number.toNat x.name} [] false):=by
 simp only[Fz,Bool.and_eq_true,decide_eq_true_eq]at hi;obtain⟨j,hj⟩:∃j:Nat,x.number=j:=⟨x.number.toNat,by omega⟩;have hj1:j<g.conds.length:=by omega
 have hem:g.conds.isEmpty=false:=by cases h:g.conds<;>simp[h]at hj1⊢
 refine AE.AI func75 (by kernel_rfl) rfl (by simp) fun wf _=>?_;rw[ntmps75];unfold bS CG bV;refine xE [0,2,4,6,8,10,12,14,16,18,20,22,24,26,28,30,33] (by kernel_rfl) fun K hK=>?_;simp;refine xA 1 ?_;simp[hj,hj1,hem];refine xX 65535 (by kernel_rfl) ?_;simp[hj1,AR];refine xM (hK _ _ ?_);refine⟨_,(AJ.JK (S':=CG g x {g with conds:=g.conds.set x.number.toNat x.name} (.full []) false (!g.conds.isEmpty) (!g.Ak.isEmpty) (!g.BC.isEmpty) (!g.AD.isEmpty)) ?_).trans (Jo g x _ (.full []) [] false _ _ _ _ rfl),?_⟩
 ·simp[CG,bV,hj,hem,List.map_set]
 ·simp[Am]
theorem X0(g:AF)(x:Change)(hi:Fz x g.AD.length=true):AE prog 73 [.ptr 4 1 0 0] (bS g x) (.Bd []) (D5 g x {g with AD:=g.AD.set x.number.toNat {g.AD.getD x.number.toNat F1 with name:=x.name}} [] false):=by
 simp only[Fz,Bool.and_eq_true,decide_eq_true_eq]at hi;obtain⟨j,hj⟩:∃j:Nat,x.number=j:=⟨x.number.toNat,by omega⟩;have hj1:j<g.AD.length:=by omega
 have hem:g.AD.isEmpty=false:=by cases h:g.AD<;>simp[h]at hj1⊢
 have hgd:g.AD.getD x.number.toNat F1=g.AD[j]:=by simp[hj,hj1]
 rw[hgd];generalize hpp:g.AD[j]=p;have henc:=AH.eq_1 p;refine AE.AI func73 (by kernel_rfl) rfl (by simp) fun wf _=>?_;rw[ntmps73];unfold bS CG bV;refine xE [0,2,4,6,8,10,12,14,16,18,20,22,24,26,28,30,32,35] (by kernel_rfl) fun K hK=>?_;simp;refine xA 1 ?_;simp[hj,hj1,hem];refine xX 131069 (by kernel_rfl) ?_;simp[hj1,hpp,henc,AR];refine xM (hK _ _ ?_);refine⟨_,((AJ.A2 3 (xs:=(g.AD.set j {p with name:=x.name}).map AH) rfl ?_).trans (AJ.JK (S':=CG g x {g with AD:=g.AD.set x.number.toNat {p with name:=x.name}} (.full []) false (!g.conds.isEmpty) (!g.Ak.isEmpty) (!g.BC.isEmpty) (!g.AD.isEmpty)) ?_)).trans (Jo g x _ (.full []) [] false _ _ _ _ rfl),?_⟩
 ·rw[Bc,List.map_set,List.map_map,List.map_set,List.map_set,List.map_map];congr 1
 ·simp[CG,bV,hj,hem,List.map_set,Function.comp_def]
 ·simp[Am]
theorem Xc(g:AF)(x:Change):AE prog 94 [.ptr 4 1 0 0] (bS g x) (.Bd []) (D5 g x {g with levels:=x.levels} [] false):=by
 refine AE.AI func94 (by kernel_rfl) rfl (by simp) fun wf _=>?_;rw[ntmps94];unfold bS CG bV;refine BX fun K hK=>?_;refine xJ ?_;simp;refine Aj (hK _ _ ?_);refine⟨_,(AJ.JK (S':=CG g x {g with levels:=x.levels} (.full []) false (!g.conds.isEmpty) (!g.Ak.isEmpty) (!g.BC.isEmpty) (!g.AD.isEmpty)) ?_).trans (Jo g x _ (.full []) [] false _ _ _ _ rfl),?_⟩
 ·simp[CG,bV]
 ·simp[Am]
theorem XY(g:AF)(x:Change):AE prog 96 [.ptr 4 1 0 0] (bS g x) (.Bd []) (D5 g x {g with AM:=x.AM} [] false):=by
 refine AE.AI func96 (by kernel_rfl) rfl (by simp) fun wf _=>?_;rw[ntmps96];unfold bS CG bV;refine BX fun K hK=>?_;refine xJ ?_;simp;refine Aj (hK _ _ ?_);refine⟨_,(AJ.JK (S':=CG g x {g with AM:=x.AM} (.full []) false (!g.conds.isEmpty) (!g.Ak.isEmpty) (!g.BC.isEmpty) (!g.AD.isEmpty)) ?_).trans (Jo g x _ (.full []) [] false _ _ _ _ rfl),?_⟩
 ·simp[CG,bV]
 ·simp[Am]
open Go.Proofs Tryz DT
theorem YG(g:AF)(x:Change)(hl:g.Ak.length≤2 ^ 20):AE prog 98 [.ptr 4 1 0 0] (bS g x) (.Bd []) (D5 g x {g with Ak:=g.Ak++[x.token]} [] false):=by
 have henc:=Aa.eq_1 x.token;have h1m:1≤maxLen:=by unfold maxLen;omega
 have hl1:g.Ak.length+1≤1073741824:=by omega
 refine AE.AI func98 (by kernel_rfl) rfl (by simp) fun wf _=>?_;rw[ntmps98];unfold bS CG bV;refine xE [0,2,4,6,8,10,12,14,16,18,20,22,25,26,28,30,33] (by kernel_rfl) fun K hK=>?_;simp;refine xA 1 ?_;simp[h1m];refine xX 65 (by kernel_rfl) ?_;simp[AR,hl1,Af];refine xA 1 ?_;simp;refine xX 8185 (by kernel_rfl) ?_;simp[AR];refine xM (hK _ _ ?_);refine⟨_,(AJ.JK (S':=CG g x {g with Ak:=g.Ak++[x.token]} (.full []) false (!g.conds.isEmpty) true (!g.BC.isEmpty) (!g.AD.isEmpty)) ?_).trans (Jo g x _ (.full []) [] false _ _ _ _ rfl),?_⟩
 ·simp[CG,bV,henc]
 ·simp[Am]
theorem dY(g:AF)(x:Change)(hl:g.AD.length≤2 ^ 20):AE prog 100 [.ptr 4 1 0 0] (bS g x) (.Bd []) (D5 g x {g with AD:=g.AD++[x.prod]} [] false):=by
 have henc:=AH.eq_1 x.prod;have h1m:1≤maxLen:=by unfold maxLen;omega
 have hl1:g.AD.length+1≤1073741824:=by omega
 refine AE.AI func100 (by kernel_rfl) rfl (by simp) fun wf _=>?_;rw[ntmps100];unfold bS CG bV;refine xE [0,2,4,6,8,10,12,14,16,18,20,22,25,26,28,30,33] (by kernel_rfl) fun K hK=>?_;simp;refine xA 1 ?_;simp[h1m];refine xX 65 (by kernel_rfl) ?_;simp[AR,hl1,Af];refine xA 1 ?_;simp;refine xX 8185 (by kernel_rfl) ?_;simp[AR];refine xM (hK _ _ ?_);refine⟨_,(AJ.JK (S':=CG g x {g with AD:=g.AD++[x.prod]} (.full []) false (!g.conds.isEmpty) (!g.Ak.isEmpty) (!g.BC.isEmpty) true) ?_).trans (Jo g x _ (.full []) [] false _ _ _ _ rfl),?_⟩
 ·simp[CG,bV,henc]
 ·simp[Am]
theorem eF(g:AF)(x:Change)(hl:g.conds.length≤2 ^ 20):AE prog 77 [.ptr 4 1 0 0] (bS g x) (.Bd []) (D5 g x {g with conds:=g.conds++[x.name]} [] false):=by
 have h1m:1≤maxLen:=by unfold maxLen;omega
 have hl1:g.conds.length+1≤1073741824:=by omega
 refine AE.AI func77 (by kernel_rfl) rfl (by simp) fun wf _=>?_;rw[ntmps77];unfold bS CG bV;refine xE [0,2,4,6,8,10,12,14,16,18,20,22,25,26,28,30,33] (by kernel_rfl) fun K hK=>?_;simp;refine xA 1 ?_;simp[h1m];refine xX 65 (by kernel_rfl) ?_;simp[AR,hl1,Af];refine xA 1 ?_;simp;refine xX 8185 (by kernel_rfl) ?_;simp[AR];refine xM (hK _ _ ?_);refine⟨_,(AJ.JK (S':=CG g x {g with conds:=g.conds++[x.name]} (.full []) false true (!g.Ak.isEmpty) (!g.BC.isEmpty) (!g.AD.isEmpty)) ?_).trans (Jo g x _ (.full []) [] false _ _ _ _ rfl),?_⟩
 ·simp[CG,bV]
 ·simp[Am]
def Xj(x:Change):List Rewrite:=[⟨x.number,-1,-1,x.BL⟩]
theorem dA(g:AF)(x:Change)(hi:Ck g x=true):AE prog 102 [.ptr 4 1 0 0] (bS g x) (.Bd []) (D5 g x {g with AD:=g.AD.set x.number.toNat x.prod} (Xj x) false):=by
 simp only[Ck,Bool.and_eq_true,decide_eq_true_eq]at hi;obtain⟨j,hj⟩:∃j:Nat,x.number=j:=⟨x.number.toNat,by omega⟩;have hj1:j<g.AD.length:=by omega
 have hem:g.AD.isEmpty=false:=by cases h:g.AD<;>simp[h]at hj1⊢
 have henc:=AH.eq_1 x.prod;have h1m:1≤maxLen:=by unfold maxLen;omega
 refine AE.AI func102 (by kernel_rfl) rfl (by simp) fun wf _=>?_;rw[ntmps102];unfold bS CG bV;refine xD [0,2,4,6,8,10,12,14,16,18,20,22,24,26,28,30,33] (by kernel_rfl) fun K hK=>?_;simp;refine xA 1 ?_;simp[hj,hj1,hem];refine xX 65535 (by kernel_rfl) ?_;simp[hj1,AR];refine xM (hK _ _ ?_);refine xE [0,2,4,6,8,10,12,14,16,18,20,22,24,26,28,31] (by kernel_rfl) fun K hK=>?_;simp;refine xA 1 ?_;simp[h1m];refine xX 32765 (by kernel_rfl) ?_;simp[AR,h1m];refine xM (hK _ _ ?_);refine⟨_,((AJ.A2 3 (xs:=(g.AD.set j x.prod).map AH) rfl ?_).trans (AJ.JK (S':=CG g x {g with AD:=g.AD.set x.number.toNat x.prod} (.full ((Xj x).map Ab)) false (!g.conds.isEmpty) (!g.Ak.isEmpty) (!g.BC.isEmpty) (!g.AD.isEmpty)) ?_)).trans (Jo g x _ _ (Xj x) false _ _ _ _ rfl),?_⟩
 ·rw[Bc,List.map_set,List.map_map,List.map_set,List.map_set,List.map_map];congr 1
 ·simp[CG,bV,hj,hem,List.map_set,Function.comp_def,Xj,Ab]
 ·simp[Am]
open Go.Proofs Tryz DT
theorem AE.Ei{P:Program}{f:FuncId}{args args':List V}{S S':Sg}{v:V}(h:AE P f args S v S')(hl:args'.length=args.length)
  (hw:∀i (h:i<args.length) (h':i<args'.length),args[i]=args'[i]∨∃d,asD S args'[i]=some d∧args[i]=.d d):AE P f args' S v S':=
 ⟨h.1,fun G w cargs R hs ha=>h.2 G w cargs R (by omega) fun i hi hi'=>by
  have h2:=ha i (by omega) hi';rcases hw i hi (by omega)with e|⟨d,e1,e2⟩
  ·rw[e];exact h2
  ·rw[e2];exact .d _ _ (h2.asD R e1)⟩
theorem az(a:AN):Pure prog 141 [AA a] (.Bd [AA (Du (fun x _=>!x) a ⟨[],0⟩).1,AG (Du (fun x _=>!x) a ⟨[],0⟩).2]):=by
 have hb:=(JJ Yj a ⟨[],0⟩).Ei (args':=[.d (AA a),.agg [.full [],.d (AG 0)],.fn (.func 176) [] []]) rfl fun i h h'=>by
  match i,h with
  |0,_=>exact .inl rfl
  |1,_=>exact .inr ⟨AA ⟨[],0⟩,by simp[asD,AA],rfl⟩
  |2,_=>exact .inl rfl
 refine AE.B9 func141 (by kernel_rfl) rfl (by simp) fun wf wfs=>?_;rw[ntmps141];refine xW fun K hK=>?_;simp;apply hK;(repeat refine xS ?_);refine BX fun K hK=>?_;refine xJ ?_;simp[AA];refine AS.Oa hb rfl (by simp[AA];try rfl) ?_;simp;refine xJ ?_;simp;refine Aj (hK _ _ ?_);(try simp only[xQ,reduceIte]);refine Ag ?_;(try simp only[xQ,reduceIte]);refine⟨_,_,_,AJ.refl,by simp,by simp,AJ.AY 0 (by simp) (by simp) (by simp) (by simp)⟩
theorem Pq{S:Sg}{r:Nat}{g:AF}{x:Change}{h0 h1 h2 h3 h4 h5 h6 h7 h8 m:V}{lg:Bool}(hb:S[r]?=some (.row true 51 [bV g x h0 h1 h2 h3 h4 h5 h6 h7 h8 m lg]))(a b:AN)
  (hs:(S.set r (.row true 51 [bV g x h0 h1 h2 h3 h4 h5 h6 h7 h8 m (lg||(Du and a b).2!=0)])).all (belowO S.length)=true):
  AE prog 84 [.ptr r 1 0 0,.d (AA a),.d (AA b)] S (.d (AA (Du and a b).1)) (S.set r (.row true 51 [bV g x h0 h1 h2 h3 h4 h5 h6 h7 h8 m (lg||(Du and a b).2!=0)])):=by
 unfold bV at hb hs⊢;have hr:=AZ hb;have hb':∀T,(S++T)[r]?=_:=fun T=>(List.getElem?_append_left hr).trans hb;have hst:∀T o,(S++T).set r o=S.set r o++T:=fun T o=>List.set_append_left _ _ hr;refine AE.B9 func84 (by kernel_rfl) rfl (by simp) fun wf wfs=>?_;rw[ntmps84];refine xW fun K hK=>?_;simp[AA];apply hK;refine Az fun K hK=>?_;refine xJ ?_;simp;refine Bp (I2 a b) rfl (by simp[AA]) ?_;simp[AA];refine xJ ?_;simp;refine Aj (hK _ _ ?_);(repeat refine xS ?_);refine BX fun K hK=>?_;refine xJ ?_;simp[hb'];refine Aj (hK _ _ ?_);(try simp only[]);rw[hst];have hlen:∀o,(S.set r o).length=S.length:=fun o=>List.length_set;(repeat refine xS ?_);refine BX fun K hK=>?_;refine xJ ?_;simp[hlen,List.set_append_right];refine Aj (hK _ _ ?_);(try simp only[xQ,reduceIte]);refine Ag ?_;(try simp only[xQ,reduceIte]);refine⟨_,_,_,AJ.refl,?_,?_,AJ.AY S.length (by simp[hlen]) (Nat.le_refl _) (by simp[hlen]) (by simpa[hlen]using hs)⟩
 ·simp[hlen]
 ·simp[hlen,AA]
open Go.Proofs Tryz DT
theorem eI(g:AF)(x:Change)(hi:Ck g x=true):
  AE prog 83 [.ptr 4 1 0 0] (bS g x) (.Bd []) (D5 g x {g with AD:=g.AD.set x.number.toNat {CL g x with cond:=(Du and (CL g x).cond x.cond).1}} [] ((Du and (CL g x).cond x.cond).2!=0)):=by
 simp only[Ck,Bool.and_eq_true,decide_eq_true_eq]at hi;obtain⟨j,hj⟩:∃j:Nat,x.number=j:=⟨x.number.toNat,by omega⟩;have hj1:j<g.AD.length:=by omega
 have hem:g.AD.isEmpty=false:=by cases h:g.AD<;>simp[h]at hj1⊢
 have hop:CL g x=g.AD[j]:=by simp[CL,hj,hj1]
 rw[hop];generalize hpp:g.AD[j]=p;have henc:=AH.eq_1 p;have ha:=Pq (S:=bS g x) (r:=4) (by rfl) p.cond x.cond (by simp[bS,CG,bV]);have ha':=ha.Ei (args':=[.ptr 4 1 0 0,.agg [.d (AV p.cond.nodes),.d (AG p.cond.root)],.agg [.d (AV x.cond.nodes),.d (AG x.cond.root)]]) rfl fun i h h'=>by
  match i,h with
  |0,_=>exact .inl rfl
  |1,_=>exact .inr ⟨AA p.cond,by simp[asD,AA],rfl⟩
  |2,_=>exact .inr ⟨AA x.cond,by simp[asD,AA],rfl⟩
 generalize hrr:Du and p.cond x.cond=rr at *;refine AE.AI func83 (by kernel_rfl) rfl (by simp) fun wf _=>?_;rw[ntmps83];unfold bS CG bV at ha'⊢;simp only[List.set_cons_succ,List.set_cons_zero,hem,hj,Bool.not_false,Bool.false_or]at ha';refine xD [0,2,4,6,8,10,12,14,16,18,20,22] (by kernel_rfl) fun K hK=>?_;simp;refine xA 0 ?_;simp[hj,hj1,hem];refine xM (hK _ _ ?_);refine xE [0,2,4,6,8,10,12,14,16,18,20,23,24,26,29] (by kernel_rfl) fun K hK=>?_;simp;refine xA 1 ?_;simp[hj1,hpp,henc];refine xL 545 _ (ha') (by kernel_rfl) rfl rfl ?_;simp[hj1,hpp,henc,AR,AA];refine xA 1 ?_;simp[hj1];refine xX 1021 (by kernel_rfl) ?_;simp[hj1,hpp,henc,AR];refine xM (hK _ _ ?_);refine⟨_,((AJ.A2 3 (xs:=(g.AD.set j {p with cond:=rr.1}).map AH) rfl ?_).trans (AJ.JK (S':=CG g x {g with AD:=g.AD.set x.number.toNat {p with cond:=rr.1}} (.full []) (rr.2!=0) (!g.conds.isEmpty) (!g.Ak.isEmpty) (!g.BC.isEmpty) (!g.AD.isEmpty)) ?_)).trans (Jo g x _ (.full []) [] _ _ _ _ _ rfl),?_⟩
 ·rw[Bc,List.map_set,List.map_map,List.map_set,List.map_set,List.map_map];congr 1
 ·simp[CG,bV,hj,hem,List.map_set,Function.comp_def]
 ·simp[Am]
open Go.Proofs Tryz DT
noncomputable def OR(x:Change):AN×Int:=if x.value then(Ap x.number,O5 x.number)else Du (fun x _=>!x) (Ap x.number) ⟨[],0⟩
theorem eB(g:AF)(x:Change):
  AE prog 79 [.ptr 4 1 0 0] (bS g x) (.Bd []) (D5 g x {g with Cz:=(Du and g.Cz (OR x).1).1} [] (((OR x).2!=0)||((Du and g.Cz (OR x).1).2!=0))):=by
 have hv:=an x.number;have hno:=az (Ap x.number);have ha:∀d lg,_:=fun d lg=>(Pq (S:=CG g x g (.full []) lg (!g.conds.isEmpty) (!g.Ak.isEmpty) (!g.BC.isEmpty) (!g.AD.isEmpty)++[.row true 2 [.d (AA d)]]) (r:=4) (by rfl) g.Cz d (by simp[CG,bV])).Ei (args':=[.ptr 4 1 0 0,.agg [.d (AV g.Cz.nodes),.d (AG g.Cz.root)],.d (AA d)]) rfl fun i h h'=>by
  match i,h with
  |0,_=>exact .inl rfl
  |1,_=>exact .inr ⟨AA g.Cz,by simp[asD,AA],rfl⟩
  |2,_=>exact .inl rfl
 refine AE.AI func79 (by kernel_rfl) rfl (by simp) fun wf _=>?_;rw[ntmps79];unfold bS CG bV;refine Az fun K hK=>?_;refine xJ ?_;simp;refine Bp (hv) rfl (by simp[xN]) ?_;simp;refine xJ ?_;simp;refine Aj (hK _ _ ?_);refine AW.El (R:=fun tm S=>tm 0=.ptr 4 1 0 0∧tm 2=.ptr 5 1 0 0∧tm 3=.d (AG (OR x).2)∧S=CG g x g (.full []) false (!g.conds.isEmpty) (!g.Ak.isEmpty) (!g.BC.isEmpty) (!g.AD.isEmpty)++[.row true 2 [.d (AA (OR x).1)]]) ?_ ?_
 ·(repeat refine xS ?_);refine xV fun K hK=>?_;simp;refine hK _ _ ?_;(try simp only[]);cases hvl:x.value with
  |true=>
   refine AU ?_;simp;refine CC ?_;simp[OR,hvl,CG,bV]
  |false=>
   refine AU ?_;simp;refine BX fun K hK=>?_;refine xJ ?_;simp;refine Bp (hno) rfl (by simp[xN]) ?_;simp;refine xJ ?_;simp;refine Aj (hK _ _ ?_);simp[OR,hvl,CG,bV]
 ·rintro tm S ⟨t0,t2,t3,rfl⟩;generalize OR x=de at *;obtain⟨d,e⟩:=de;simp only[]at t3⊢;have ha':=ha d (e !=0);generalize Du and g.Cz d=rr at *;obtain⟨r1,r2⟩:=rr;unfold CG bV at ha'⊢;simp only[List.cons_append,List.nil_append,List.set_cons_succ,List.set_cons_zero]at ha'⊢;refine Az fun K hK=>?_;refine xJ ?_;simp[t0,t3];refine Aj (hK _ _ ?_);refine xE [0,2,4,6,8,10,12,14,17,18,20,22,25] (by kernel_rfl) fun K hK=>?_;simp;refine xA 1 ?_;simp[t0,t2,AA];refine xL 67 _ (ha') (by kernel_rfl) rfl rfl ?_;simp[t0,t2,AA,AR];refine xA 1 ?_;simp;refine xX 249 (by kernel_rfl) ?_;simp[t0,AR];refine xM (hK _ _ ?_);refine⟨_,((AJ.AY 5 (S':=CG g x {g with Cz:=r1} (.full []) ((e !=0)||(r2 !=0)) (!g.conds.isEmpty) (!g.Ak.isEmpty) (!g.BC.isEmpty) (!g.AD.isEmpty)) ?_ (by simp) (by simp) (by simp))).trans (Jo g x _ (.full []) [] _ _ _ _ _ rfl),?_⟩
  ·simp[CG,bV]
  ·simp[Am]
open Go.Proofs Tryz DT
theorem Mq(xs:List Int)(v:Int):Pure prog 214 [Ci xs,AG v] (AG (B4 (·==v) xs)):=by
 refine Pure.AI func214 (by kernel_rfl) rfl (by simp) fun wf=>?_;have a1:xs.length≤maxLen:=by have:=wf.1;simp[WFD]at this;simpa using this.1
 rw[ntmps214];refine xW fun K hK=>?_;simp;apply hK;refine xS (xW fun K hK=>?_);simp;apply hK;refine Bw ?_;refine DC xs.length (fun i tm S=>tm 0=.d (Ci xs)∧tm 1=.d (AG v)∧tm 8=.d (.int .i64 i)∧tm 7=.d (.int .i64 xs.length)∧S=[]∧∀j (_:j<i) (h:j<xs.length),(xs[j]==v)=false) (Nat.zero_le _) (by simp) ?_;rintro i tm S hi ⟨t0,t1,t8,t7,rfl,hq⟩;refine xW fun K hK=>?_;simp[t8,t7];apply hK;refine xC ?_;simp;refine⟨fun hlt=>?_,fun hge=>?_⟩
 ·refine xK ?_;refine xB ?_;refine xW fun K hK=>?_;simp[t8];apply hK;refine Az fun K hK=>?_;refine xJ ?_;simp[t0,t1,hlt];refine Aj (hK _ _ ?_);refine AU ?_;simp;refine⟨fun hp=>?_,fun hp=>?_⟩
  ·refine xW fun K hK=>?_;simp;apply hK;refine Ag ?_;(try simp only[xQ,reduceIte]);refine⟨_,_,AJ.refl,?_⟩;simp;exact(B8 hlt (by simp[hp]) fun j hj=>hq j hj (by omega)).symm
  ·refine CC ?_;refine xV fun K hK=>?_;simp[t8];apply hK;refine⟨hlt,_,_,AJ.refl,?_⟩;simp[t0,t1,t7,AQ hlt a1];intro j hj hjl;by_cases e:j=i
   ·subst e;exact fun h=>hp h.symm
   ·exact by simpa using hq j (by omega) hjl
 ·refine Cu ?_;refine xW fun K hK=>?_;simp;apply hK;refine Ag ?_;(try simp only[xQ,reduceIte]);refine⟨_,_,AJ.refl,?_⟩;simp;exact(B0 fun j hj=>hq j (by omega) hj).symm
theorem Jg(xs:List Int)(v:Int):Pure prog 180 [Ci xs,AG v] (CS (xs.contains v)):=by
 refine Pure.AI func180 (by kernel_rfl) rfl (by simp) fun wf=>?_;rw[ntmps180];refine xW fun K hK=>?_;simp;apply hK;(repeat refine xS ?_);refine BX fun K hK=>?_;refine xJ ?_;simp;refine Bp (Mq xs v) rfl (by simp) ?_;simp;refine xJ ?_;simp;refine Aj (hK _ _ ?_);(try simp only[xQ,reduceIte]);refine Ag ?_;(try simp only[xQ,reduceIte]);refine⟨_,_,AJ.refl,?_⟩;simp;have:=CR (·==v) xs;rw[Bool.eq_iff_iff]at this;simpa using this
theorem SL{S:Sg}{q:Nat}{i:Int}(hq:S[q]?=some (.row true 1 [.d (AG i)]))(hs:S.all (belowO S.length)=true)(l:Level):AE prog 179 [.d (Ac l),.ptr q 1 0 0] S (.d (CS (l.AD.contains i))) S:=by
 have hb':∀X,(S++[X])[q]?=_:=fun X=>(List.getElem?_append_left (AZ hq)).trans hq;refine AE.B9 func179 (by kernel_rfl) rfl (by simp) fun wf _=>?_;rw[ntmps179];refine xW fun K hK=>?_;simp[Ac];apply hK;(repeat refine xS ?_);refine BX fun K hK=>?_;refine xJ ?_;simp[hb'];refine Bp (Jg l.AD i) rfl (by simp) ?_;simp;refine xJ ?_;simp;refine Aj (hK _ _ ?_);(try simp only[xQ,reduceIte]);refine Ag ?_;(try simp only[xQ,reduceIte]);refine⟨_,_,_,AJ.refl,?_,?_,AJ.AY S.length (by simp) (Nat.le_refl _) (by simp) (by simpa using hs)⟩
 ·simp
 ·simp
theorem R1{S:Sg}{q:Nat}{i:Int}(hq:S[q]?=some (.row true 1 [.d (AG i)]))(hs:S.all (belowO S.length)=true)(f:Filter):AE prog 182 [.d (AK f),.ptr q 1 0 0] S (.d (CS ((decide (f.kind=1)||decide (f.kind=2))&&(decide (f.parent=i)||decide (f.child=i))))) S:=by
 have hb':∀X,(S++[X])[q]?=_:=fun X=>(List.getElem?_append_left (AZ hq)).trans hq;refine AE.B9 func182 (by kernel_rfl) rfl (by simp) fun wf _=>?_;rw[ntmps182];refine xW fun K hK=>?_;simp[AK];apply hK;(repeat refine xS ?_);refine BX fun K hK=>?_;(iterate 9 (refine B7 (by simp) ?_;simp));cases hk:(f.kind==1||f.kind==2)with
 |false=>
  have hk':(decide (f.kind=1)||decide (f.kind=2))=false:=by rw[←hk];rfl
  (repeat(refine Dp rfl ?_ ?_;(·simp);simp));refine xJ ?_;simp;refine Aj (hK _ _ ?_);(try simp only[xQ,reduceIte]);refine Ag ?_;(try simp only[xQ,reduceIte]);refine⟨_,_,_,AJ.refl,?_,?_,AJ.AY S.length (by simp) (Nat.le_refl _) (by simp) (by simpa using hs)⟩
  ·simp
  ·simp[hk']
 |true=>
  have hk':(decide (f.kind=1)||decide (f.kind=2))=true:=by rw[←hk];rfl
  (iterate 5 ((refine Jf rfl (by simp[hb'];try rfl) ?_);simp[hb']));(iterate 4 (refine B7 (by simp[hb']) ?_;simp[hb']));((refine Jf rfl (by simp;try rfl) ?_);simp);refine xJ ?_;simp;refine Aj (hK _ _ ?_);refine Ag ?_;(try simp only[xQ,reduceIte]);refine⟨_,_,_,AJ.refl,?_,?_,AJ.AY S.length (by simp) (Nat.le_refl _) (by simp) (by simpa using hs)⟩
  ·simp
  ·simp[hk',BEq.beq]
theorem J3{S:Sg}{q:Nat}{i:Int}(hq:S[q]?=some (.row true 1 [.d (AG i)]))(hs:S.all (belowO S.length)=true)(f:Filter):AE prog 183 [.d (AK f),.ptr q 1 0 0] S (.d (CS ((decide (f.kind=3)||decide (f.kind=4))&&decide (f.left=i)))) S:=by
 have hb':∀X,(S++[X])[q]?=_:=fun X=>(List.getElem?_append_left (AZ hq)).trans hq;refine AE.B9 func183 (by kernel_rfl) rfl (by simp) fun wf _=>?_;rw[ntmps183];refine xW fun K hK=>?_;simp[AK];apply hK;(repeat refine xS ?_);refine BX fun K hK=>?_;refine xJ ?_;simp[hb'];refine Aj (hK _ _ ?_);(try simp only[xQ,reduceIte]);refine Ag ?_;(try simp only[xQ,reduceIte]);refine⟨_,_,_,AJ.refl,?_,?_,AJ.AY S.length (by simp) (Nat.le_refl _) (by simp) (by simpa using hs)⟩
 ·simp
 ·simp[BEq.beq]
open Go.Proofs Tryz DT
mutual
theorem I6{k k':Nat}(h:k≤k'):∀v,belowV k v=true→belowV k' v=true
 |.row r _,hv=>by simp[belowV]at hv⊢;omega
 |.ptr r _ _ _,hv=>by simp[belowV]at hv⊢;omega
 |.map r,hv=>by simp[belowV]at hv⊢;omega
 |.fn _ xs ys,hv=>by
  simp only[belowV,Bool.and_eq_true]at hv⊢;exact⟨EU h xs hv.1,EU h ys hv.2⟩
 |.agg cs,hv=>by simp only[belowV]at hv⊢;exact EU h cs hv
 |.Bd cs,hv=>by simp only[belowV]at hv⊢;exact EU h cs hv
 |.opt _ v,hv=>by simp only[belowV]at hv⊢;exact I6 h v hv
 |.any,_=>rfl
 |.d _,_=>rfl
 |.full _,_=>rfl
 |.Cc _,_=>rfl
theorem EU{k k':Nat}(h:k≤k'):∀vs,belowVs k vs=true→belowVs k' vs=true
 |[],_=>rfl
 |v::vs,hv=>by
  simp only[belowVs,Bool.and_eq_true]at hv⊢;exact⟨I6 h v hv.1,EU h vs hv.2⟩
end
theorem Rz{k k':Nat}(h:k≤k')(o:O)(ho:belowO k o=true):belowO k' o=true:=by
 cases o with
 |row wr sz els=>exact EU h els ho
 |map es=>
  simp only[belowO,List.all_eq_true]at ho⊢;exact fun e he=>I6 h _ (ho e he)
 |BJ xs=>rfl
 |dead=>rfl
theorem Iu{S T:Sg}(hs:S.all (belowO S.length)=true)(ht:T.all (belowO (S.length+T.length))=true):(S++T).all (belowO (S++T).length)=true:=by
 simp only[List.all_eq_true,List.length_append,List.mem_append]at *;exact fun o ho=>ho.elim (fun h=>Rz (Nat.le_add_right _ _) o (hs o h)) (ht o)
def Av:Scope:=⟨false,0,0,0,0⟩
def GO(g:AF)(i:Int):Bool:=
 (decide ((g.AD.getD i.toNat F1).Di≠0)||decide (0<(g.AD.getD i.toNat F1).layout.length)||(g.AD.getD i.toNat F1).bracket||decide ((g.AD.getD i.toNat F1).scope≠Av))||
  (g.levels.any (fun l=>l.AD.contains i)||g.AM.any fun f=>(decide (f.kind=1)||decide (f.kind=2))&&(decide (f.parent=i)||decide (f.child=i)))
theorem Gd{S:Sg}{r:Nat}{g:AF}{x:Change}(hb:Oj S r g x)(hs:S.all (belowO S.length)=true){i:Int}(hp:0≤i∧i<g.AD.length):AE prog 146 [.ptr r 1 0 0,.d (AG i)] S (.d (.bool (GO g i))) S:=by
 obtain⟨h0,h1,h2,h3,h4,h5,h6,h7,h8,m,lg,hB⟩:=hb;unfold bV at hB;have hr:=AZ hB;have hb':∀X,(S++[X])[r]?=_:=fun X=>(List.getElem?_append_left hr).trans hB;have hb2:∀X Y,(S++[X,Y])[r]?=_:=fun X Y=>(List.getElem?_append_left hr).trans hB;obtain⟨j,rfl⟩:∃j:Nat,i=j:=⟨i.toNat,by omega⟩;have hj1:j<g.AD.length:=by omega
 unfold GO;have ho:g.AD.getD (j:Int).toNat F1=g.AD[j]:=by simp[hj1]
 rw[ho];generalize hpp:g.AD[j]=p;have henc:=AH.eq_1 p;refine AE.B9 func146 (by kernel_rfl) rfl (by simp) fun wf _=>?_;rw[ntmps146];refine xW fun K hK=>?_;simp;apply hK;(repeat refine xS ?_);refine xE [0,2,4,6,8,10,12,14,17,19] (by kernel_rfl) fun K hK=>?_;simp;refine xA 1 ?_;simp[hb',hj1,hpp,henc];refine xX 0 (by kernel_rfl) ?_;simp[hb',hb2,hj1,hpp,henc,AR];refine xA 1 ?_;simp;refine xX 255 (by kernel_rfl) ?_;simp[hb2,hj1,hpp,henc,AR];refine xM (hK _ _ ?_);(try simp only[xQ,reduceIte]);have hsc:deqs [D.bool p.scope.opens,D.int IntKind.i64 p.scope.declares,D.int IntKind.i64 p.scope.kind,D.int IntKind.i64 p.scope.EA,D.int IntKind.i64 p.scope.allowed] [D.bool false,D.int IntKind.i64 0,D.int IntKind.i64 0,D.int IntKind.i64 0,D.int IntKind.i64 0]=decide (p.scope=Av):=LI p.scope Av;refine xS (Az fun K hK=>?_);refine xJ ?_;simp[hsc];refine Aj (hK _ _ ?_);(try simp only[xQ,reduceIte]);have hs2:∀X,(S++[O.row true 1 [.d (AG j)],O.row true 13 [.d X]]).all (belowO (S++[O.row true 1 [.d (AG j)],O.row true 13 [.d X]]).length)=true:=fun X=>Iu hs (by simp[belowO,belowVs,belowV]);have cl:=fun X=>Ht g.levels (fun l=>l.AD.contains (j:Int)) 179 [.ptr S.length 1 0 0] (S++[O.row true 1 [.d (AG j)],O.row true 13 [.d X]]) (fun l _=>SL (q:=S.length) (by simp) (hs2 X) l);have cf:=fun X=>Ev g.AM (fun f=>(decide (f.kind=1)||decide (f.kind=2))&&(decide (f.parent=(j:Int))||decide (f.child=(j:Int)))) 182 [.ptr S.length 1 0 0] (S++[O.row true 1 [.d (AG j)],O.row true 13 [.d X]]) (fun l _=>R1 (q:=S.length) (by simp) (hs2 X) l);(repeat refine xS ?_);refine AW.BD (t:=decide (p.Di≠0)||decide (0<p.layout.length)||p.bracket||decide (p.scope≠Av)) ?_ (fun hb=>?_) (fun hb=>?_)
 ·simp;rw[Bool.eq_iff_iff];simp[or_assoc]
 ·rw[hb,Bool.true_or];refine xW fun K hK=>?_;simp;apply hK;refine Ag ?_;(try simp only[xQ,reduceIte]);refine⟨_,_,_,AJ.refl,?_,?_,AJ.AY S.length (by simp) (Nat.le_refl _) (by simp) (by simpa using hs)⟩
  ·simp
  ·simp
 ·rw[hb,Bool.false_or];refine xK ?_;(repeat refine xS ?_);refine BX fun K hK=>?_;refine xJ ?_;simp[hb2];refine AS.call rfl rfl (by simp) (f:=178) (args:=[.d (.sl (g.levels.map Ac)),.fn (.func 179) [] [.ptr S.length 1 0 0]]) (by simp[callee];try rfl) (by simp) (cl _) ?_;simp;refine xJ ?_;simp[hb2];refine AS.Gb (g:=!(g.levels.any fun l=>l.AD.contains (j:Int))) (f:=181) (args:=[.d (.sl (g.AM.map AK)),.fn (.func 182) [] [.ptr S.length 1 0 0]]) (fun _=>cf _) rfl rfl (by simp) (by simp) (fun e=>by simp at e;simp[callee];exact e) ?_;simp;refine xJ ?_;simp;refine Aj (hK _ _ ?_);(try simp only[xQ,reduceIte]);refine Ag ?_;(try simp only[xQ,reduceIte]);refine⟨_,_,_,AJ.refl,?_,?_,AJ.AY S.length (by simp) (Nat.le_refl _) (by simp) (by simpa using hs)⟩
  ·simp
  ·simp
open Go.Proofs Tryz DT
theorem AJ.EL{P:Program}{n b:Nat}{tm:Tm}{S S':Sg}(k:Nat)(hS:S.take k=S')(hb:b≤k)(hk:k≤S.length)(ho:S'.all (belowO k)=true):AJ P n b tm S (clean k tm) S':=
 AJ.AY k hS hb hk (hS▸ho)
def Et(g:AF)(n:Int)(i:Nat):List Int:=((List.range i).filter fun j=>decide ((g.AD.getD j F1).left=n)).map fun(j:Nat)=>(j:Int)
def aW(g:AF)(n:Int):List Int:=Et g n g.AD.length
theorem Sh(g:AF)(n:Int)(i:Nat):Et g n (i+1)=if(g.AD.getD i F1).left=n then Et g n i++[(i:Int)]else Et g n i:=by
 unfold Et;rw[List.range_succ,List.filter_append,List.map_append];split<;>rename_i h<;>simp only[List.filter_cons,List.filter_nil,h,decide_true,decide_false,if_true]<;>simp
theorem Jy(g:AF)(n:Int)(i:Nat):(Et g n i).length≤i:=by
 unfold Et;rw[List.length_map];exact Nat.le_trans (List.length_filter_le _ _) (by simp)
theorem Io{g:AF}{n:Int}{i:Nat}{v:Int}(h:v∈Et g n i):0≤v∧v<i:=by
 unfold Et at h;simp only[List.mem_map,List.mem_filter,List.mem_range]at h;obtain⟨j,⟨h1,_⟩,rfl⟩:=h;omega
theorem UU{S:Sg}{r:Nat}{g:AF}{x:Change}(hb:Oj S r g x)(hs:S.all (belowO S.length)=true)(hl:g.AD.length≤2 ^ 20)(n:Int):AE prog 145 [.ptr r 1 0 0,.d (AG n)] S (.d (Ci (aW g n))) S:=by
 obtain⟨h0,h1,h2,h3,h4,h5,h6,h7,h8,m,lg,hB⟩:=hb;unfold bV at hB;have hr:=AZ hB;have hB':∀X,(S++[X])[r]?=_:=fun X=>(List.getElem?_append_left hr).trans hB;have a1:g.AD.length≤maxLen:=by unfold maxLen;omega
 refine AE.B9 func145 (by kernel_rfl) rfl (by simp) fun wf _=>?_;rw[ntmps145];have hs2:∀i,(S++[O.row (!(Et g n i).isEmpty) 1 ((Et g n i).map fun v=>V.d (AG v))]).all (belowO (S.length+1))=true:=fun i=>by simpa using Iu (T:=[O.row (!(Et g n i).isEmpty) 1 ((Et g n i).map fun v=>V.d (AG v))]) hs (by simp[belowO])
 refine xW fun K hK=>?_;simp;apply hK;refine xW fun K hK=>?_;simp;apply hK;refine xS (xW fun K hK=>?_);simp[hB];apply hK;refine AW.ghost (AJ.BB 5 1 (xs:=[]) (by simp)) ?_;refine Bw ?_;refine DC g.AD.length (fun i tm S'=>tm 1=.d (AG n)∧tm 12=.d (Bb g.AD)∧tm 14=.d (AG i)∧tm 13=.d (AG g.AD.length)∧tm 5=.row S.length (Et g n i).length∧S'=S++[.row (!(Et g n i).isEmpty) 1 ((Et g n i).map fun v=>.d (AG v))]) (Nat.zero_le _) ⟨by simp,by simp,by simp,by simp,by simp[EJ,Et],by simp[Et]⟩ ?_;rintro i tm S' hi ⟨t1,t12,t14,t13,t5,rfl⟩;refine xW fun K hK=>?_;simp[t13,t14];apply hK;refine xC ?_;simp;refine⟨fun hlt=>?_,fun hge=>?_⟩
 ·have hgd:g.AD.getD i F1=g.AD[i]:=by simp[hlt]
  have hst:=Sh g n i;have hln:=Jy g n i;rw[hgd]at hst;generalize hpp:g.AD[i]=p at *;have henc:=AH.eq_1 p;refine xK ?_;refine xB ?_;refine Az fun K hK=>?_;refine xJ ?_;simp[t12,t14,hlt,hpp,henc];refine Aj (hK _ _ ?_);refine Az fun K hK=>?_;refine xJ ?_;simp[t1];refine Aj (hK _ _ ?_);refine AU ?_;simp;refine⟨fun hc=>?_,fun hc=>?_⟩
  ·rw[if_pos hc]at hst;have hl1:(Et g n i).length+1≤1073741824:=by omega
   have h1m:1≤maxLen:=by unfold maxLen;omega
   refine BX fun K hK=>?_;refine xJ ?_;simp[t5,h1m,hl1,Af];refine Aj (hK _ _ ?_);refine xV fun K hK=>?_;simp[t14];apply hK;refine⟨hlt,_,_,AJ.EL (S.length+1) (S':=S++[.row (!(Et g n (i+1)).isEmpty) 1 ((Et g n (i+1)).map fun v=>.d (AG v))]) ?_ (by simp) (by simp) ?_,?_⟩
   ·simp[hst,List.take_length_add_append]
   ·exact hs2 _
   simp[clean,belowV,t1,t12,t13,AQ hlt a1,hst]
  ·rw[if_neg hc]at hst;refine CC ?_;refine xV fun K hK=>?_;simp[t14];apply hK;refine⟨hlt,_,_,AJ.EL (S.length+1) (S':=S++[.row (!(Et g n (i+1)).isEmpty) 1 ((Et g n (i+1)).map fun v=>.d (AG v))]) ?_ (by simp) (by simp) ?_,?_⟩
   ·simp[hst,List.take_length_add_append]
   ·exact hs2 _
   simp[clean,belowV,t1,t12,t13,t5,AQ hlt a1,hst]
 ·have e:i=g.AD.length:=by omega
  subst e;refine Cu ?_;refine xW fun K hK=>?_;simp[t5];apply hK;refine Ag ?_;(try simp only[xQ,reduceIte]);refine⟨_,_,_,AJ.B6 S.length (xs:=(Et g n g.AD.length).map AG) List.getElem?_concat_length (by simp),?_,?_,AJ.AY S.length (by simp) (Nat.le_refl _) (by simp) (by simpa using hs)⟩
  ·simp
  ·simp[aW]
open Go.Proofs Tryz DT
section
variable {P:Program} {n b:Nat} {ops:Array Oper} {o:Oper} {tm:Tm} {S:Sg} {K:Tm→Sg→Prop} {v:V}
def NF(P:Program)(f:FuncId)(args:List V)(v:V)(S:Sg):Prop:=AE P f args S v S
theorem Ae.Zq{B:List (Nat×(Sg→Prop))}{i:Nat}{rest:List (Nat×Bool×Oper)}{c:Call}{f:FuncId}{args:List V}(h:AE P f args S v S)(ho:o.op=.call c)
  (hp:o.guard=none∧A6 n o.dst∧A5 tm c∧callee tm c=some (f,args)) (h2:Ae P n b ops ((i,NF P f args v)::B) rest (put tm o.dst v) S K):Ae P n b ops B ((i,true,o)::rest) tm S K:=by
 obtain⟨h3,h4,h5,h6⟩:=hp;exact Ae.quiet (NF P f args v) h (fun hi S' hS=>A7.call hi ho h3 h4 h6 h5 hS) h2
end
theorem Kz(xs:List Int)(p:Int→Bool)(k:FuncId)(u:V)(S0:Sg)(hf:∀x∈xs,AE prog k [u,.d (D.int .i64 x)] S0 (.d (.bool (p x))) S0):
  AE prog 184 [.d (.sl (xs.map (D.int .i64))),.fn (.func k) [u] []] S0 (.d (AG (B4 p xs))) S0:=by
 refine AE.AI func184 (by kernel_rfl) rfl (by simp) fun wf _=>?_;have a1:xs.length≤maxLen:=by have:=wf.1;simp only[WFV,WFD]at this;simpa using this.1
 rw[ntmps184];refine xW fun K hK=>?_;simp;apply hK;refine xS (xW fun K hK=>?_);simp;apply hK;refine Bw ?_;refine DC xs.length (fun i tm S=>tm 0=.d (.sl (xs.map (D.int .i64)))∧tm 1=.fn (.func k) [u] []∧tm 8=.d (.int .i64 i)∧tm 7=.d (.int .i64 xs.length)∧S=S0∧∀j (_:j<i) (h:j<xs.length),p xs[j]=false) (Nat.zero_le _) (by simp) ?_;rintro i tm S hi ⟨t0,t1,t8,t7,rfl,hq⟩;refine xW fun K hK=>?_;simp[t8,t7];apply hK;refine xC ?_;simp;refine⟨fun hlt=>?_,fun hge=>?_⟩
 ·refine xK ?_;refine xB ?_;refine xW fun K hK=>?_;simp[t8];apply hK;refine Az fun K hK=>?_;refine xJ ?_;simp[t0,t1,hlt];refine AS.call (v:=.d (.bool (p xs[i]))) rfl rfl (by simp) (f:=k) (args:=[u,.d (D.int .i64 xs[i])]) (by simp;try rfl) (by simp) (hf _ (List.getElem_mem hlt)) ?_;simp;refine Aj (hK _ _ ?_);refine AU ?_;simp;refine⟨fun hp=>?_,fun hp=>?_⟩
  ·refine xW fun K hK=>?_;simp;apply hK;refine Ag ?_;(try simp only[xQ,reduceIte]);refine⟨_,AJ.refl,?_⟩;simp[Am];exact .inl (B8 hlt hp fun j hj=>hq j hj (by omega)).symm
  ·refine CC ?_;refine xV fun K hK=>?_;simp[t8];apply hK;refine⟨hlt,_,_,AJ.refl,?_⟩;simp[t0,t1,t7,AQ hlt a1];intro j hj hjl;by_cases e:j=i
   ·subst e;exact hp
   ·exact hq j (by omega) hjl
 ·refine Cu ?_;refine xW fun K hK=>?_;simp;apply hK;refine Ag ?_;(try simp only[xQ,reduceIte]);refine⟨_,AJ.refl,?_⟩;simp[Am];exact .inl (B0 fun j hj=>hq j (by omega) hj).symm
theorem IS(xs:List Int)(p:Int→Bool)(k:FuncId)(u:V)(S0:Sg)(hf:∀x∈xs,AE prog k [u,.d (D.int .i64 x)] S0 (.d (.bool (p x))) S0):
  AE prog 148 [.d (.sl (xs.map (D.int .i64))),.fn (.func k) [u] []] S0 (.d (.bool (xs.any p))) S0:=by
 refine AE.AI func148 (by kernel_rfl) rfl (by simp) fun wf _=>?_;rw[ntmps148];refine xW fun K hK=>?_;simp;apply hK;(repeat refine xS ?_);refine BX fun K hK=>?_;refine xJ ?_;simp;refine AS.call rfl rfl (by simp) (f:=184) (args:=[.d (.sl (xs.map (D.int .i64))),.fn (.func k) [u] []]) (by simp[callee]) (by simp) (Kz xs p k u S0 hf) ?_;simp;refine xJ ?_;simp;refine Aj (hK _ _ ?_);(try simp only[xQ,reduceIte]);refine Ag ?_;(try simp only[xQ,reduceIte]);refine⟨_,AJ.refl,?_⟩;simp[Am];have:=CR p xs;simp at this;simp[this]
def Ip(g:AF)(x:Change):Symbol:=(CL g x).right.getD x.at_.toNat ⟨false,0⟩
def Mh(g:AF)(x:Change):Bool:=
 (aW g (Ip g x).index).any (GO g)||g.AM.any fun f=>(decide (f.kind=3)||decide (f.kind=4))&&decide (f.left=(Ip g x).index)
theorem Hl{g:AF}{x:Change}(h:CH g x=true):Ck g x=true∧∃j:Nat,x.at_=j∧∃hj:j<(CL g x).right.length,Ip g x=(CL g x).right[j]∧(Ip g x).token=false:=by
 simp only[CH,Bool.and_eq_true,decide_eq_true_eq]at h;obtain⟨⟨h1,h2⟩,h3⟩:=h;obtain⟨j,hj⟩:∃j:Nat,x.at_=j:=⟨x.at_.toNat,by omega⟩;refine⟨h1,j,hj,?_⟩;rw[hj]at h3;simp only[Int.toNat_natCast]at h3;split at h3
 ·rename_i s hs;obtain⟨h5,h6⟩:=List.getElem?_eq_some_iff.1 hs;refine⟨h5,?_,?_⟩
  ·simp[Ip,hj,h5]
  ·simp[Ip,hj,h5,h6];simpa using h3
 ·cases h3
theorem La{S:Sg}{r:Nat}{g:AF}{x:Change}(hb:Oj S r g x)(hs:S.all (belowO S.length)=true)(hl:g.AD.length≤2 ^ 20)(hc:CH g x=true):AE prog 147 [.ptr r 1 0 0] S (.d (.bool (Mh g x))) S:=by
 obtain⟨hp,j,hj,hj1,hsy,htk⟩:=Hl hc;have hold:=Hv hb hs hp;have hb1:=hb;obtain⟨h0,h1,h2,h3,h4,h5,h6,h7,h8,m,lg,hB⟩:=hb;have hr:=AZ hB;have hb2:∀X,Oj (S++[X]) r g x:=fun X=>⟨h0,h1,h2,h3,h4,h5,h6,h7,h8,m,lg,(List.getElem?_append_left hr).trans hB⟩;unfold bV at hB;have hB':∀X,(S++[X])[r]?=_:=fun X=>(List.getElem?_append_left hr).trans hB;have hs2:∀X,(S++[O.row true 1 [.d X]]).all (belowO (S++[O.row true 1 [.d X]]).length)=true:=fun X=>Iu hs (by simp[belowO,belowVs,belowV]);have hold2:∀X,AE prog 89 [.ptr r 1 0 0] (S++[O.row true 1 [.d X]]) (.d (AH (CL g x))) (S++[O.row true 1 [.d X]]):=fun X=>Hv (hb2 _) (hs2 X) hp;unfold Mh;generalize Ip g x=s at *;generalize CL g x=o at *;have henc:=AH.eq_1 o;have hof:=UU (hb2 (O.row true 1 [.d (AG s.index)])) (hs2 _) hl s.index;have ci:=IS (aW g s.index) (GO g) 146 (.ptr r 1 0 0) (S++[O.row true 1 [.d (AG s.index)]]) (fun v hv=>Gd (hb2 _) (hs2 _) (Io hv));have cf:=Ev g.AM (fun f=>(decide (f.kind=3)||decide (f.kind=4))&&decide (f.left=s.index)) 183 [.ptr S.length 1 0 0] (S++[O.row true 1 [.d (AG s.index)]]) (fun l _=>J3 (q:=S.length) (by simp) (hs2 _) l);have hes:=AL.eq_1 s;simp only[henc,As,AV,Bf,AG,CS,Ba]at hold2;refine AE.B9 func147 (by kernel_rfl) rfl (by simp) fun wf _=>?_;rw[ntmps147];refine xW fun K hK=>?_;simp;apply hK;refine xD [0,2,4,6,8,10,12,14,16,18,20,23,25] (by kernel_rfl) fun K hK=>?_;simp;refine xA 1 ?_;simp;refine Ae.Zq (f:=89) (args:=[.ptr r 1 0 0]) hold rfl (by simp;try rfl) ?_;simp;refine xA 1 ?_;simp[hB,hj,hj1,hsy.symm,henc,hes];refine xX 0 (by kernel_rfl) ?_;simp[hB',hj,hj1,hsy.symm,hes,AR,NF,hold2];refine xA 1 ?_;simp;refine xX 2047 (by kernel_rfl) ?_;simp[hB',hj,hj1,hsy.symm,hes,AR,NF,hold2];refine xM (hK _ _ ?_);(repeat refine xS ?_);refine BX fun K hK=>?_;refine xJ ?_;simp;refine AS.call rfl rfl (by simp) (f:=145) (args:=[.ptr r 1 0 0,.d (AG s.index)]) (by simp[callee];try rfl) (by simp) hof ?_;simp;refine xJ ?_;simp;refine AS.call rfl rfl (by simp) (f:=148) (args:=[.d (.sl ((aW g s.index).map (D.int .i64))),.fn (.func 146) [.ptr r 1 0 0] []]) (by simp[callee];try rfl) (by simp) ci ?_;simp;refine xJ ?_;simp[hB'];refine AS.Gb (g:=!((aW g s.index).any (GO g))) (f:=181) (args:=[.d (.sl (g.AM.map AK)),.fn (.func 183) [] [.ptr S.length 1 0 0]]) (fun _=>cf) rfl rfl (by simp) (by simp) (fun e=>by simp at e;simp[callee];exact e) ?_;simp;refine xJ ?_;simp;refine Aj (hK _ _ ?_);(try simp only[xQ,reduceIte]);refine Ag ?_;(try simp only[xQ,reduceIte]);refine⟨_,_,_,AJ.refl,?_,?_,AJ.AY S.length (by simp) (Nat.le_refl _) (by simp) (by simpa using hs)⟩
 ·simp
 ·simp
end Go.Koi
