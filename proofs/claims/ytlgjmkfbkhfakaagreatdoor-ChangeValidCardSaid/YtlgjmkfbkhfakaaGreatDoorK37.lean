/- Part 38 of the proof that the law ChangeValid returns true for every input. -/
import Derived.Test.YtlgjmkfbkhfakaaGreatDoorK34
set_option maxHeartbeats 64000000
set_option maxRecDepth 100000
namespace Go.Koi
open Go.Proofs Tryz DT
section
variable {P:Program} {n b:Nat} {ops:Array Oper} {o:Oper} {tm:Tm} {S S':Sg} {K:Tm→Sg→Prop} {v:V}
theorem Ae.QG{B:List (Nat×(Sg→Prop))}{i:Nat}{rest:List (Nat×Bool×Oper)}{c:Call}{f:FuncId}{args:List V}{j:Nat}{want:Bool}(h:AE P f args S v S)(ho:o.op=.call c)(hg:o.guard=some (j,want))
  (hp:AAd ops tm j want=some true∧A6 n o.dst∧A5 tm c∧callee tm c=some (f,args)) (h2:Ae P n b ops ((i,fun S'=>S'=S)::B) rest (put tm o.dst v) S K):Ae P n b ops B ((i,true,o)::rest) tm S K:=by
 obtain⟨h3,h4,h5,h6⟩:=hp;exact Ae.quiet (fun S'=>S'=S) rfl (fun hi S' hS=>by subst hS;exact A7.KF hi ho hg h4 h3 h6 h5 h) h2
end
theorem ZK{n b:Nat}{tm:Tm}(hb:b≤5)(g:AF)(x:AAC)(h:AF)(mm:List Rewrite)(lg w0 w1 w2 w3 w:Bool)(pre:Sg):
  AJ prog n b tm (CG g x h (.row (pre.length+5) mm.length) lg w0 w1 w2 w3++(pre++[.row w 4 (mm.map fun r=>.d (Ab r))])) (clean 5 tm) (D5 g x h mm lg):=by
 obtain⟨T,hT⟩:∃T,T=pre++[O.row w 4 (mm.map fun r=>.d (Ab r))]:=⟨_,rfl⟩;rw[←hT];have hT1:T[pre.length]?=some (.row w 4 ((mm.map Ab).map .d)):=by rw[hT];simp[Function.comp_def]
 have hT2:(T.set pre.length (.BJ (mm.map Ab)))[pre.length]?=some (.BJ (mm.map Ab)):=by rw[hT];simp
 have hT3:(T.set pre.length (.BJ (mm.map Ab))).length=pre.length+1:=by rw[hT];simp
 have ed:∀xs:List D,AAi ([]:Sg) (xs.map .d)=some xs:=fun xs=>BT _ xs;unfold CG;have g0:=AJ.B6 (P:=prog) (n:=n) (b:=b) (tm:=tm) (S:=CG g x h (.row (pre.length+5) mm.length) lg w0 w1 w2 w3++T) 0 rfl (Bz _ D.str h.conds);refine g0.trans ?_;refine(AJ.B6 1 rfl (Bz _ Aa h.Ak)).trans ?_;refine(AJ.B6 2 rfl (Bz _ D.str h.BC)).trans ?_;refine(AJ.B6 3 rfl (Bz _ AH h.AD)).trans ?_;refine(AJ.B6 (pre.length+5) (wr:=w) (sz:=4) (els:=(mm.map Ab).map .d) (xs:=mm.map Ab) (by simp[CG,hT1]) (BT _ _)).trans ?_;simp[CG];generalize T.set pre.length (.BJ (mm.map Ab))=U at *;refine(AJ.A2 (P:=prog) (n:=n) (b:=b) (tm:=tm) 4 (wr:=true) (sz:=51) (xs:=[H0 g x h mm lg]) rfl ?_).trans ?_
 ·simp[AAi,bV,AA0,AAn,H0,hT2]
 ·exact AJ.AY 5 (by simp[D5]) hb (by simp) (by simp)
def Ru(g:AF)(x:AAC)(i:Int):List Symbol:=(CL g x).right.take x.at_.toNat++((CO g i).right++(CL g x).right.drop (x.at_.toNat+1))
noncomputable def F9(g:AF)(x:AAC)(i:Int):AT:={F1 with name:=(CL g x).name++⟨#[95]⟩++(CO g i).name,left:=(CL g x).left,right:=Ru g x i,cond:=(Du and (CL g x).cond (CO g i).cond).1}
def PZ(g:AF)(x:AAC)(k:Nat)(i:Int):Rewrite:=⟨x.number,x.at_,i,Bh k::Cg 0 (Ru g x i).length⟩
def Iy(g:AF)(x:AAC):Nat→List Int→List Rewrite
 |_,[]=>[]
 |k,i::l=>PZ g x k i::Iy g x (k+1) l
theorem Of(g:AF)(x:AAC):∀(l:List Int) (k:Nat) (i:Int),Iy g x k (l++[i])=Iy g x k l++[PZ g x (k+l.length) i]
 |[],k,i=>by simp[Iy]
 |j::l,k,i=>by simp[Iy,Of g x l,Nat.add_assoc,Nat.add_comm 1]
theorem AB3(g:AF)(x:AAC):∀(l:List Int) (k:Nat),(Iy g x k l).length=l.length
 |[],_=>rfl
 |_::l,k=>by simp[Iy,AB3 g x l]
def B1(g:AF)(x:AAC):List Int:=aW g (Ip g x).index
noncomputable def X1(g:AF)(x:AAC):AF:={g with AD:=(g.AD++(B1 g x).map (F9 g x)).set x.number.toNat {CL g x with cond:=⟨[],0⟩}}
def VT(g:AF)(x:AAC):Bool:=x.at_==(CL g x).right.length - 1
noncomputable def He(g:AF)(x:AAC)(i:Nat):List AT:=g.AD++((B1 g x).take i).map (F9 g x)
def Hc(g:AF)(x:AAC)(i:Nat):List Rewrite:=Iy g x g.AD.length ((B1 g x).take i)
def Gk(g:AF)(x:AAC)(o:AT)(a:Nat)(P:List AT)(M:List Rewrite)(i:Nat):Sg:=
 CG g x {g with AD:=P} (.row 8 i) false (!g.conds.isEmpty) (!g.Ak.isEmpty) (!g.BC.isEmpty) true++
  [.row true 1 [.ptr 4 1 0 0],.row true 13 [.d (AH o)],.row true 1 [.d (.bool ((a:Int)==(o.right.length:Int) - 1))],.row (decide (0<i)) 4 (M.map fun r=>.d (Ab r))]
theorem WS{S:Sg}{r q1 q2:Nat}{g:AF}{x:AAC}{lst:Bool}(hb:Oj S r g x)(h1:S[q1]?=some (.row true 1 [.d (.bool lst)]))(h2:S[q2]?=some (.row true 1 [.ptr r 1 0 0])){i:Int}(hp:0≤i∧i<g.AD.length):
  AE prog 142 [.d (AG i),.ptr q1 1 0 0,.ptr q2 1 0 0] S (.d (.bool (lst&&(CO g i).right.isEmpty))) S:=by
 obtain⟨j,rfl⟩:∃j:Nat,i=j:=⟨i.toNat,by omega⟩;have hj:j<g.AD.length:=by omega
 obtain⟨h0,jZ,oz,h3,h4,h5,h6,h7,h8,m,lg,hB⟩:=hb;unfold bV at hB;have e1:CO g (j:Int)=g.AD[j]:=by simp[CO,hj]
 rw[e1];generalize qx:g.AD[j]=o;have jj:=AH.eq_1 o;refine AE.AI func142 (by kernel_rfl) rfl (by simp) fun wf _=>?_;rw[ntmps142];(repeat refine xS ?_);refine xV fun K hK=>?_;simp;refine hK _ _ ?_;(try simp only[xQ,reduceIte]);have m0:((o.right.length:Int)==0)=o.right.isEmpty:=by cases o.right<;>simp;omega
 cases lst with
 |false=>
  (repeat refine xS ?_);refine BX fun K hK=>?_;refine xH ?_;simp[h1];refine Aj (hK _ _ ?_);(try simp only[xQ,reduceIte]);refine Ag ?_;(try simp only[xQ,reduceIte]);refine⟨_,AJ.refl,?_⟩;simp[Am]
 |true=>
  (repeat refine xS ?_);refine BX fun K hK=>?_;refine xH ?_;simp[h1,h2,hB,hj,qx,jj];refine Aj (hK _ _ ?_);(try simp only[xQ,reduceIte]);refine Ag ?_;(try simp only[xQ,reduceIte]);refine⟨_,AJ.refl,?_⟩;simp[Am,m0]
theorem SY(g:AF)(x:AAC)(hf:CH g x=true)(hb:GO g x.number=false)(uU:Mh g x=false)(iE:(B1 g x).any (fun i=>VT g x&&(CO g i).right.isEmpty)=false)
  (hand:∀i∈B1 g x,(Du and (CL g x).cond (CO g i).cond).2=0) (hl:g.AD.length≤2 ^ 20) (hr:(CL g x).right.length≤2 ^ 20) (sc:∀i∈B1 g x,(CO g i).right.length≤2 ^ 20∧(CO g i).name.size≤2 ^ 20) (yv:(CL g x).name.size≤2 ^ 20):
  AE prog 80 [.ptr 4 1 0 0] (bS g x) (.d (AG 0)) (D5 g x (X1 g x) (Iy g x g.AD.length (B1 g x)) false):=by
 obtain⟨hp,a,ha,jP,kK,g9⟩:=Hl hf;have jH:=hp;simp only[Ck,Bool.and_eq_true,decide_eq_true_eq]at jH;obtain⟨j,hj⟩:∃j:Nat,x.number=j:=⟨x.number.toNat,by omega⟩;have ij:j<g.AD.length:=by omega
 have dI:g.AD.isEmpty=false:=by cases h:g.AD<;>simp[h]at ij⊢
 obtain⟨X5,hX5⟩:∃X5,X5=O.row true 1 [.ptr 4 1 0 0]:=⟨_,rfl⟩;obtain⟨X6,hX6⟩:∃X6,X6=O.row true 13 [.d (AH (CL g x))]:=⟨_,rfl⟩;obtain⟨X7,hX7⟩:∃X7,X7=O.row true 1 [.d (.bool ((a:Int)==((CL g x).right.length:Int) - 1))]:=⟨_,rfl⟩;have nT:VT g x=((a:Int)==((CL g x).right.length:Int) - 1):=by unfold VT;rw[ha]
 rw[nT]at iE;have hB1:Oj (bS g x++[X5]) 4 g x:=⟨_,_,_,_,_,_,_,_,_,_,_,rfl⟩;have hB3:Oj (bS g x++[X5,X6,X7]) 4 g x:=⟨_,_,_,_,_,_,_,_,_,_,_,rfl⟩;have kJ:(bS g x++[X5]).all (AAG (bS g x++[X5]).length)=true:=by simp[bS,CG,bV,hX5,AAB]
 have mT:(bS g x++[X5,X6,X7]).all (AAG (bS g x++[X5,X6,X7]).length)=true:=by simp[bS,CG,bV,hX5,hX6,hX7,AAB]
 have hold:=Hv hB1 kJ hp;have mQ:AE prog 143 [.ptr 4 1 0 0,.d (AG (Ip g x).index)] _ (.d (Ci (B1 g x))) _:=UU hB3 mT hl (Ip g x).index;have j2:=Gd hB3 mT (i:=x.number) (by omega);have hbC:=La hB3 mT hl hf;have lR:=I0 (B1 g x) (fun i=>((a:Int)==((CL g x).right.length:Int) - 1)&&(CO g i).right.isEmpty) 142 [.ptr 7 1 0 0,.ptr 5 1 0 0] (bS g x++[X5,X6,X7]) (fun i hi=>WS hB3 (by rw[hX7];rfl) (by rw[hX5];rfl) (Io hi));rw[iE]at lR;rw[hb]at j2;rw[uU]at hbC;refine AE.AI func80 (by kernel_rfl) rfl (by simp) fun wf _=>?_;rw[ntmps80];generalize g7:CL g x=o at *;generalize mA:Ip g x=s at *;have cy:=AH.eq_1 o;have iB:=AL.eq_1 s;subst hX5 hX6 hX7;unfold bS CG bV at *;refine xW fun K hK=>?_;simp;apply hK;refine Az fun K hK=>?_;refine xJ ?_;simp;refine AS.call rfl rfl (by simp) (f:=82) (args:=[.ptr 4 1 0 0]) (by simp[callee];try rfl) (by simp) hold ?_;simp;refine xJ ?_;simp[cy];refine Aj (hK _ _ ?_);(repeat refine xS ?_);refine xV fun K hK=>?_;simp;refine hK _ _ ?_;(try simp only[]);have jz:IntKind.i64.wrap ((o.right.length:Int) - 1)=(o.right.length:Int) - 1:=by rw[IntKind.wrap_i64];omega
 refine xW fun K hK=>?_;simp[jz];apply hK;(repeat refine xS ?_);refine xV fun K hK=>?_;simp;refine hK _ _ ?_;(try simp only[xQ,reduceIte]);simp only[ha]at mQ j2 hbC lR;refine xD [0,2,4,6,8,10,12,14,16] (by kernel_rfl) fun K hK=>?_;simp;refine xA 1 ?_;simp[ha,jP,kK.symm,iB];refine Ae.Gt (f:=143) (args:=[.ptr 4 1 0 0,.d (AG s.index)]) mQ rfl (by simp[callee];try rfl) ?_;simp;refine xA 1 ?_;simp;refine xM (hK _ _ ?_);refine xS ?_;refine xD [0,2,4,6,8,10,12,14,16,18,20,22,24,26,28,30] (by kernel_rfl) fun K hK=>?_;simp;refine xA 1 ?_;simp;refine Ae.Gt (f:=144) (args:=[.ptr 4 1 0 0,.d (AG x.number)]) j2 rfl (by simp[callee];try rfl) ?_;simp;refine xZ ?_;simp;refine Ae.QG (f:=145) (args:=[.ptr 4 1 0 0]) hbC rfl rfl (by simp[callee];try rfl) ?_;simp;refine xZ ?_;simp;refine Ae.QG (f:=146) (args:=[.d (.sl ((B1 g x).map (D.int .i64))),.fn (.func 142) [] [.ptr 7 1 0 0,.ptr 5 1 0 0]]) lR rfl rfl (by simp[callee];try rfl) ?_;simp;refine xZ ?_;simp;refine xM (hK _ _ ?_);(try simp only[xQ,reduceIte]);refine AU ?_;simp;refine CC ?_;clear hold mQ j2 hbC lR hB1 hB3 kJ mT;refine xS (xW fun K hK=>?_);simp;apply hK;refine AW.ghost (AJ.Lb 4 0 49 4 rfl rfl rfl) ?_;simp;refine Bw ?_;refine DC (B1 g x).length (fun i tm S=>tm 1=.ptr 5 1 0 0∧tm 3=.ptr 6 1 0 0∧tm 4=.d (.int .i64 a)∧tm 52=.d (Ci (B1 g x))∧tm 53=.d (.int .i64 (B1 g x).length)∧tm 54=.d (.int .i64 i)∧S=Gk g x o a (He g x i) (Hc g x i) i) (Nat.zero_le _) (by simp[Gk,CG,bV,ha,cy,He,Hc,Iy,dI]) ?_;rintro i tm S hi ⟨t1,t3,t4,t52,t53,t54,rfl⟩;have jQ:(B1 g x).length≤g.AD.length:=Jy _ _ _;refine xW fun K hK=>?_;simp[t53,t54];apply hK;refine xC ?_;simp;refine⟨fun cx=>?_,fun hO=>?_⟩
 ·have lL:(B1 g x).take (i+1)=(B1 g x).take i++[(B1 g x)[i]]:=by rw[List.take_add_one,List.getElem?_eq_getElem cx];rfl
  have xt:=Io (List.getElem_mem cx);have ju:=hand _ (List.getElem_mem cx);have iH:=sc _ (List.getElem_mem cx);obtain⟨c,hc⟩:∃c:Nat,(B1 g x)[i]=c:=⟨(B1 g x)[i].toNat,by omega⟩;have iW:c<g.AD.length:=by omega
  have mG:CO g (c:Int)=g.AD[c]:=by simp[CO,iW]
  have hRe:Ru g x c=o.right.take a++(g.AD[c].right++o.right.drop (a+1)):=by simp[Ru,g7,ha,mG]
  have hPe:F9 g x c={F1 with name:=o.name++⟨#[95]⟩++g.AD[c].name,left:=o.left,right:=Ru g x c,cond:=(Du and o.cond g.AD[c].cond).1}:=by simp[F9,g7,mG]
  rw[hc]at ju iH lL;rw[mG]at ju iH;have hPl:(He g x i).length=g.AD.length+i:=by simp[He];omega
  have hMl:(Hc g x i).length=i:=by unfold Hc;rw[AB3];simp;omega
  have jA:((B1 g x).take i).length=i:=by simp;omega
  have hPs:He g x (i+1)=He g x i++[F9 g x c]:=by unfold He;rw[lL];simp
  have hMs:Hc g x (i+1)=Hc g x i++[PZ g x (g.AD.length+i) c]:=by unfold Hc;rw[lL,Of,jA]
  clear lL jA;generalize He g x i=P at *;generalize Hc g x i=M at *;generalize hq:g.AD[c]=q at *;generalize hR:Ru g x c=R at *;have heq:=AH.eq_1 q;unfold Gk CG bV;refine xK ?_;refine xB ?_;refine xW fun K hK=>?_;simp[t52,t54,cx,hc];apply hK;(repeat refine xS ?_);refine xV fun K hK=>?_;simp[t1,iW,hq,heq];refine hK _ _ ?_;(try simp only[]);obtain⟨iH,xu⟩:=iH;have pq:o.name.size≤9223372036854775806:=by omega
  have qh:o.name.size+1+q.name.size≤9223372036854775807:=by omega
  have lA:=JF [o.right.take a,q.right,o.right.drop (a+1)] (by simp;omega);have jh:[o.right.take a,q.right,o.right.drop (a+1)].flatten=R:=by rw[hRe];simp
  rw[jh]at lA;have hRl:R.length≤2 ^ 22:=by rw[hRe];simp;omega
  have hw:IntKind.i64.wrap ((a:Int)+1)=(a+1:Nat):=by rw[IntKind.wrap_i64];omega
  have d1:a≤o.right.length:=by omega
  have g9:List.take o.right.length (List.map AL o.right)=List.map AL o.right:=List.take_of_length_le (by simp);have d7:(a:Int)+1≤o.right.length:=by omega
  have d9:(0:Int)≤a+1:=by omega
  have d8:a+1≤o.right.length:=by omega
  refine AW.El (R:=fun tm S=>tm 1=.ptr 5 1 0 0∧tm 3=.ptr 6 1 0 0∧tm 4=.d (.int .i64 a)∧tm 9=.d (.int .i64 c)∧tm 10=.ptr 9 1 0 0∧tm 11=.d (As R)∧tm 52=.d (Ci (B1 g x))∧tm 53=.d (.int .i64 (B1 g x).length)∧tm 54=.d (.int .i64 i)∧S=Gk g x o a P M i++[.row true 13 [.d (AH q)]]) ?_ ?_
  ·by_cases d5:a+1<o.right.length
   ·skip;refine xE [0,2,4,6,8,10,12,14,16,18,20,22,24,26] (by kernel_rfl) fun K hK=>?_;simp;refine xA 1 ?_;simp[cy,t3,t4,hw,maxLen,d1,d5,d7,d9];refine Ae.CA (lA) rfl (by simp[g9,List.map_take,List.map_drop,xN]) ?_;simp[g9];refine xA 1 ?_;simp;refine xM (hK _ _ ?_);simp[t1,t3,t4,t52,t53,t54,Gk,CG,bV,cy,heq]
   ·have d6:a+1=o.right.length:=by omega
    refine xE [0,2,4,6,8,10,12,14,16,18,20,22,24,26] (by kernel_rfl) fun K hK=>?_;simp;refine xA 1 ?_;simp[cy,t3,t4,hw,maxLen,d1,d6];refine Ae.CA (lA) rfl (by simp[d6,List.map_take,xN]) ?_;simp;refine xA 1 ?_;simp;refine xM (hK _ _ ?_);simp[t1,t3,t4,t52,t53,t54,Gk,CG,bV,cy,heq]
  rintro tm S ⟨t1,t3,t4,t9,t10,t11,t52,t53,t54,rfl⟩;clear lA jh;have jP:=Pq (S:=Gk g x o a P M i++[.row true 13 [.d (AH q)]]) (r:=4) (g:=g) (x:=x) rfl o.cond q.cond (by simp[Gk,CG,bV,AAB,AAI]);have sd:=jP.Ei (args':=[.ptr 4 1 0 0,.agg [.d (AV o.cond.nodes),.d (AG o.cond.root)],.agg [.d (AV q.cond.nodes),.d (AG q.cond.root)]]) rfl fun i h h'=>by
   match i,h with
   |0,_=>exact .inl rfl
   |1,_=>exact .inr ⟨AA o.cond,by simp[asD,AA],rfl⟩
   |2,_=>exact .inr ⟨AA q.cond,by simp[asD,AA],rfl⟩
  rw[ju]at sd;clear jP;generalize(Du and o.cond q.cond).1=cd at *;have nS:=MQ (S:=Gk g x o a P M i++[.row true 13 [.d (AH q)]]) (r:=4) (q:=3) (k:=P.length) (g:=g) (x:=x) rfl rfl (by simp) (by omega) (by simp[Af]) (F9 g x c) (by simp[Gk,CG,bV,AAB,AAI]);have jb:=nS.Ei (args':=[.ptr 4 1 0 0,.agg [.d (.str (o.name++⟨#[95]⟩++q.name)),.d (.int .i64 o.left),.d (As R),.d (.sl (cd.nodes.map AX)),.d (.int .i64 cd.root),.d (.bool false),.d (.int .i64 0),.full [],.d (.bool false),.d (.int .i64 0),.d (.int .i64 0),.d (.int .i64 0),.d (.int .i64 0)]]) rfl fun i h h'=>by
   match i,h with
   |0,_=>exact .inl rfl
   |1,_=>exact .inr ⟨_,by simp[asD,AH,F1,hPe],rfl⟩
  clear nS;unfold Gk CG bV at sd jb;simp only[List.cons_append,List.nil_append,List.set_cons_succ,List.set_cons_zero,Bool.false_or,bne_self_eq_false]at sd jb;unfold Gk CG bV;(repeat refine xS ?_);refine xE [0,2,4,6,8,10,12,14,16,18,20,22,24,26,28,30,32,35,36] (by kernel_rfl) fun K hK=>?_;simp;refine xA 1 ?_;simp[t1,t3,t10,t11,cy,heq,maxLen,pq,qh];refine Ae.Gt (f:=77) (args:=[.ptr 4 1 0 0,.agg [.d (AV o.cond.nodes),.d (AG o.cond.root)],.agg [.d (AV q.cond.nodes),.d (AG q.cond.root)]]) sd rfl (by simp[callee];try rfl) ?_;simp;refine xA 1 ?_;simp[AA];refine Ae.Yq (xT [1,1,0,0,0,0,0,0,0,0,0,0,0,0,0,0,1]) (jb) (by kernel_rfl) rfl (by simp[AR,cy,heq,t1,t3,t10,maxLen,pq,qh];try rfl) ?_;simp[cy,heq];refine xA 1 ?_;simp;refine xM (hK _ _ ?_);(try simp only[xQ,reduceIte]);clear sd jb hand sc;have gy:=H6 (P.length:Int);have hh:=Gv [Bh P.length] false 0 R.length (by simp;omega) (by omega);have lz:List.map (fun x=>V.d (AH x)) P++[V.d (AH (F9 g x c))]=List.map (fun x=>V.d (AH x)) (P++[F9 g x c]):=by simp
  rw[lz];have jT:P.length+1=(P++[F9 g x c]).length:=by simp
  have hWe:PZ g x (g.AD.length+i) c=⟨x.number,a,c,Bh P.length::Cg 0 R.length⟩:=by simp[PZ,ha,hR,hPl]
  generalize P++[F9 g x c]=P2 at *;(repeat refine xS ?_);refine BX fun K hK=>?_;refine xJ ?_;simp;refine Bp (gy) rfl (by simp[xN]) ?_;simp;refine xJ ?_;simp[maxLen,t11];refine AS.ghost (AJ.BB 99 4 (xs:=[A1 (Bh P.length)]) (by simp)) ?_;refine xF (hh) [10] rfl ?_;simp;refine xJ ?_;simp;refine Aj (hK _ _ ?_);(try simp only[xQ,reduceIte]);obtain⟨TT,hTT⟩:∃TT,TT=Bh P.length::Cg 0 R.length:=⟨_,rfl⟩;have hTl:TT.length=1+R.length:=by rw[hTT];simp[C2];omega
  rw[←hTl];rw[←hTT]at hWe;refine AW.ghost (AJ.B6 10 (wr:=decide (0<R.length)) (sz:=4) (els:=(TT.map A1).map V.d) (xs:=TT.map A1) (by rw[hTT];simp[Function.comp_def]) (BT _ _)) ?_;simp;have o7:i+1≤1073741824:=by omega
  refine xE [0,2,4,6,8,10,12,14,16,18,20,22,24,26,28,31,32,34,37] (by kernel_rfl) fun K hK=>?_;simp;refine xA 1 ?_;simp[t1,t4,t9,maxLen];refine xX 1025 (by kernel_rfl) ?_;simp[AR,Af,t1,t4,t9,hMl,o7,maxLen,forall_and];refine xA 1 ?_;simp;refine xX 32765 (by kernel_rfl) ?_;simp[AR,t1,t4,t9,maxLen];refine xM (hK _ _ ?_);have ji:IntKind.i64.wrap ((i:Int)+1)=(i+1:Nat):=by rw[IntKind.wrap_i64];omega
  refine xV fun K hK=>?_;simp[t54,ji];apply hK;refine⟨cx,_,_,(AJ.A2 8 (xs:=(M++[PZ g x (g.AD.length+i) c]).map Ab) rfl ?_).trans (AJ.EL 9 (S':=Gk g x o a P2 (M++[PZ g x (g.AD.length+i) c]) (i+1)) ?_ (by simp) (by simp) (by simp[Gk,CG,bV,AAB,AAI])),?_⟩
  ·rw[hWe];simp[Bc,asD,Ab]
  ·rw[hWe];simp[Gk,CG,bV,ha,cy,jT,Ab]
  ·simp[clean,AAB,t1,t3,t4,t52,t53,hPs,hMs,Gk,CG,bV]
 ·have e:i=(B1 g x).length:=by omega
  subst e;refine Cu ?_;have hPn:He g x (B1 g x).length=g.AD++(B1 g x).map (F9 g x):=by simp[He]
  have hMn:Hc g x (B1 g x).length=Iy g x g.AD.length (B1 g x):=by simp[Hc]
  have hMl:=AB3 g x (B1 g x) g.AD.length;rw[hPn,hMn,←hMl];have ta:g.AD[j]=o:=by
   have:CL g x=g.AD[j]:=by simp[CL,hj,ij]
   rw[←this,g7]
  have hPj1:j<(g.AD++(B1 g x).map (F9 g x)).length:=by simp;omega
  have hPj:(g.AD++(B1 g x).map (F9 g x))[j]=o:=by rw[List.getElem_append_left ij,ta]
  have hPj2:(j:Int)<(g.AD++(B1 g x).map (F9 g x)).length:=by omega
  have uV:x.number.toNat=j:=by omega
  unfold X1;rw[g7,uV];generalize Iy g x g.AD.length (B1 g x)=M at *;generalize g.AD++(B1 g x).map (F9 g x)=P at *;unfold Gk CG bV;refine xD [0,2,4,6,8,10,12,14,16,18,20,22,24,27] (by kernel_rfl) fun K hK=>?_;simp;refine xA 1 ?_;simp[t1,hj];refine Ae.CA (Fb false) rfl (by simp[xN]) ?_;simp;refine xA 1 ?_;simp[hPj1,hPj2,cy];refine xX 8189 (by kernel_rfl) ?_;simp[AR,t1,hPj1,hPj,hPj2,cy];refine xM (hK _ _ ?_);refine xW fun K hK=>?_;simp;apply hK;refine Ag ?_;(try simp only[]);refine⟨_,(AJ.A2 3 (xs:=(P.set j {o with cond:=⟨[],0⟩}).map AH) rfl ?_).trans ((AJ.JK (S':=CG g x {g with AD:=P.set j {o with cond:=⟨[],0⟩}} (.row 8 M.length) false (!g.conds.isEmpty) (!g.Ak.isEmpty) (!g.BC.isEmpty) true++([.row true 1 [.ptr 4 1 0 0],.row true 13 [.d (AH o)],.row true 1 [.d (.bool ((a:Int)==(o.right.length:Int) - 1))]]++[.row (decide (0<M.length)) 4 (M.map fun r=>.d (Ab r))])) ?_).trans (ZK (Nat.le_refl 5) g x {g with AD:=P.set j {o with cond:=⟨[],0⟩}} M false _ _ _ _ _ [.row true 1 [.ptr 4 1 0 0],.row true 13 [.d (AH o)],.row true 1 [.d (.bool ((a:Int)==(o.right.length:Int) - 1))]])),?_⟩
  ·rw[Bc,List.map_set,List.map_map,List.map_set,List.map_set,List.map_map];congr 1
  ·simp[CG,bV,hj,ha,List.map_set,Function.comp_def,cy]
  ·simp[Am,clean,EJ,AAB]
theorem ADC(g:AF)(x:AAC)(hf:CH g x=true)(he:(GO g x.number||(Mh g x||(B1 g x).any (fun i=>VT g x&&(CO g i).right.isEmpty)))=true)(hl:g.AD.length≤2 ^ 20)(hr:(CL g x).right.length≤2 ^ 20):
  AE prog 80 [.ptr 4 1 0 0] (bS g x) (.d (AG 311)) (D5 g x g [] false):=by
 obtain⟨hp,a,ha,jP,kK,g9⟩:=Hl hf;have jH:=hp;simp only[Ck,Bool.and_eq_true,decide_eq_true_eq]at jH;obtain⟨j,hj⟩:∃j:Nat,x.number=j:=⟨x.number.toNat,by omega⟩;have ij:j<g.AD.length:=by omega
 have dI:g.AD.isEmpty=false:=by cases h:g.AD<;>simp[h]at ij⊢
 obtain⟨X5,hX5⟩:∃X5,X5=O.row true 1 [.ptr 4 1 0 0]:=⟨_,rfl⟩;obtain⟨X6,hX6⟩:∃X6,X6=O.row true 13 [.d (AH (CL g x))]:=⟨_,rfl⟩;obtain⟨X7,hX7⟩:∃X7,X7=O.row true 1 [.d (.bool ((a:Int)==((CL g x).right.length:Int) - 1))]:=⟨_,rfl⟩;have nT:VT g x=((a:Int)==((CL g x).right.length:Int) - 1):=by unfold VT;rw[ha]
 rw[nT]at he;have hB1:Oj (bS g x++[X5]) 4 g x:=⟨_,_,_,_,_,_,_,_,_,_,_,rfl⟩;have hB3:Oj (bS g x++[X5,X6,X7]) 4 g x:=⟨_,_,_,_,_,_,_,_,_,_,_,rfl⟩;have kJ:(bS g x++[X5]).all (AAG (bS g x++[X5]).length)=true:=by simp[bS,CG,bV,hX5,AAB]
 have mT:(bS g x++[X5,X6,X7]).all (AAG (bS g x++[X5,X6,X7]).length)=true:=by simp[bS,CG,bV,hX5,hX6,hX7,AAB]
 have hold:=Hv hB1 kJ hp;have mQ:AE prog 143 [.ptr 4 1 0 0,.d (AG (Ip g x).index)] _ (.d (Ci (B1 g x))) _:=UU hB3 mT hl (Ip g x).index;have j2:=Gd hB3 mT (i:=x.number) (by omega);have hbC:=La hB3 mT hl hf;have lR:=I0 (B1 g x) (fun i=>((a:Int)==((CL g x).right.length:Int) - 1)&&(CO g i).right.isEmpty) 142 [.ptr 7 1 0 0,.ptr 5 1 0 0] (bS g x++[X5,X6,X7]) (fun i hi=>WS hB3 (by rw[hX7];rfl) (by rw[hX5];rfl) (Io hi));generalize GO g x.number=b1 at *;generalize Mh g x=b2 at *;generalize nO:(B1 g x).any (fun i=>((a:Int)==((CL g x).right.length:Int) - 1)&&(CO g i).right.isEmpty)=b3 at *;refine AE.AI func80 (by kernel_rfl) rfl (by simp) fun wf _=>?_;rw[ntmps80];generalize g7:CL g x=o at *;generalize mA:Ip g x=s at *;have cy:=AH.eq_1 o;have iB:=AL.eq_1 s;subst hX5 hX6 hX7;unfold bS CG bV at *;refine xW fun K hK=>?_;simp;apply hK;refine Az fun K hK=>?_;refine xJ ?_;simp;refine AS.call rfl rfl (by simp) (f:=82) (args:=[.ptr 4 1 0 0]) (by simp[callee];try rfl) (by simp) hold ?_;simp;refine xJ ?_;simp[cy];refine Aj (hK _ _ ?_);(repeat refine xS ?_);refine xV fun K hK=>?_;simp;refine hK _ _ ?_;(try simp only[]);have jz:IntKind.i64.wrap ((o.right.length:Int) - 1)=(o.right.length:Int) - 1:=by rw[IntKind.wrap_i64];omega
 refine xW fun K hK=>?_;simp[jz];apply hK;(repeat refine xS ?_);refine xV fun K hK=>?_;simp;refine hK _ _ ?_;(try simp only[xQ,reduceIte]);simp only[ha]at mQ j2 hbC lR;(repeat refine xS ?_);refine xE [0,2,4,6,8,10,12,14,16] (by kernel_rfl) fun K hK=>?_;simp;refine xA 1 ?_;simp[ha,jP,kK.symm,iB];refine Ae.Gt (f:=143) (args:=[.ptr 4 1 0 0,.d (AG s.index)]) mQ rfl (by simp[callee];try rfl) ?_;simp;refine xA 1 ?_;simp;refine xM (hK _ _ ?_);(try simp only[xQ,reduceIte]);cases b1 with
 |true=>
  refine xS ?_;refine xD [0,2,4,6,8,10,12,14,16,18,20,22,24,26,28,30] (by kernel_rfl) fun K hK=>?_;simp;refine xA 1 ?_;simp;refine Ae.Gt (f:=144) (args:=[.ptr 4 1 0 0,.d (AG x.number)]) j2 rfl (by simp[callee];try rfl) ?_;simp;refine xZ ?_;simp;refine xM (hK _ _ ?_);(try simp only[xQ,reduceIte]);refine AU ?_;simp;refine xW fun K hK=>?_;simp;apply hK;refine Ag ?_;(try simp only[xQ,reduceIte]);refine⟨_,(AJ.AY 5 (S':=CG g x g (.full []) false (!g.conds.isEmpty) (!g.Ak.isEmpty) (!g.BC.isEmpty) (!g.AD.isEmpty)) (by simp[CG,bV,ha]) (by simp) (by simp) (by simp)).trans (Jo g x _ _ [] false _ _ _ _ rfl),?_⟩;simp[Am,clean,EJ,AAB]
 |false=>
  cases b2 with
  |true=>
   refine xS ?_;refine xD [0,2,4,6,8,10,12,14,16,18,20,22,24,26,28,30] (by kernel_rfl) fun K hK=>?_;simp;refine xA 1 ?_;simp;refine Ae.Gt (f:=144) (args:=[.ptr 4 1 0 0,.d (AG x.number)]) j2 rfl (by simp[callee];try rfl) ?_;simp;refine xZ ?_;simp;refine Ae.QG (f:=145) (args:=[.ptr 4 1 0 0]) hbC rfl rfl (by simp[callee];try rfl) ?_;simp;refine xZ ?_;simp;refine xM (hK _ _ ?_);(try simp only[xQ,reduceIte]);refine AU ?_;simp;refine xW fun K hK=>?_;simp;apply hK;refine Ag ?_;(try simp only[xQ,reduceIte]);refine⟨_,(AJ.AY 5 (S':=CG g x g (.full []) false (!g.conds.isEmpty) (!g.Ak.isEmpty) (!g.BC.isEmpty) (!g.AD.isEmpty)) (by simp[CG,bV,ha]) (by simp) (by simp) (by simp)).trans (Jo g x _ _ [] false _ _ _ _ rfl),?_⟩;simp[Am,clean,EJ,AAB]
  |false=>
   obtain rfl:b3=true:=by simpa using he
   refine xS ?_;refine xD [0,2,4,6,8,10,12,14,16,18,20,22,24,26,28,30] (by kernel_rfl) fun K hK=>?_;simp;refine xA 1 ?_;simp;refine Ae.Gt (f:=144) (args:=[.ptr 4 1 0 0,.d (AG x.number)]) j2 rfl (by simp[callee];try rfl) ?_;simp;refine xZ ?_;simp;refine Ae.QG (f:=145) (args:=[.ptr 4 1 0 0]) hbC rfl rfl (by simp[callee];try rfl) ?_;simp;refine xZ ?_;simp;refine Ae.QG (f:=146) (args:=[.d (.sl ((B1 g x).map (D.int .i64))),.fn (.func 142) [] [.ptr 7 1 0 0,.ptr 5 1 0 0]]) lR rfl rfl (by simp[callee];try rfl) ?_;simp;refine xZ ?_;simp;refine xM (hK _ _ ?_);(try simp only[xQ,reduceIte]);refine AU ?_;simp;refine xW fun K hK=>?_;simp;apply hK;refine Ag ?_;(try simp only[xQ,reduceIte]);refine⟨_,(AJ.AY 5 (S':=CG g x g (.full []) false (!g.conds.isEmpty) (!g.Ak.isEmpty) (!g.BC.isEmpty) (!g.AD.isEmpty)) (by simp[CG,bV,ha]) (by simp) (by simp) (by simp)).trans (Jo g x _ _ [] false _ _ _ _ rfl),?_⟩;simp[Am,clean,EJ,AAB]
open Go.Proofs Tryz DT
def ff(g:AF)(x:AAC):List Symbol:=(CL g x).right.set x.at_.toNat ⟨false,g.BC.length⟩
def Up(g:AF)(_:AAC)(i:Int):AT:={CO g i with name:=(CO g i).name++⟨#[95,99,111,112,121]⟩,left:=g.BC.length}
def ep(g:AF)(x:AAC)(k:Nat)(i:Int):List Cw:=(([Bh x.number]++Cg 0 x.at_.toNat)++[Bh k])++Cg x.at_.toNat ((CL g x).right.length - 1+(CO g i).right.length - x.at_.toNat)
def Zc(g:AF)(x:AAC)(k:Nat)(i:Int):Rewrite:=⟨x.number,x.at_,i,ep g x k i⟩
def SK(g:AF)(x:AAC):Nat→List Int→List Rewrite
 |_,[]=>[]
 |k,i::l=>Zc g x k i::SK g x (k+1) l
theorem Qe(g:AF)(x:AAC):∀(l:List Int) (k:Nat) (i:Int),SK g x k (l++[i])=SK g x k l++[Zc g x (k+l.length) i]
 |[],k,i=>by simp[SK]
 |j::l,k,i=>by simp[SK,Qe g x l,Nat.add_assoc,Nat.add_comm 1]
theorem Mi(g:AF)(x:AAC):∀(l:List Int) (k:Nat),(SK g x k l).length=l.length
 |[],_=>rfl
 |_::l,k=>by simp[SK,Mi g x l]
def eP(g:AF)(x:AAC):AF:={g with BC:=g.BC++[x.name],AD:=(g.AD++(B1 g x).map (Up g x)).set x.number.toNat {CL g x with right:=ff g x}}
def K9(g:AF)(x:AAC)(i:Nat):List AT:=g.AD++((B1 g x).take i).map (Up g x)
def LN(g:AF)(x:AAC)(i:Nat):List Rewrite:=SK g x g.AD.length ((B1 g x).take i)
def W3(g:AF)(x:AAC)(o:AT)(P:List AT)(M:List Rewrite)(i:Nat):Sg:=
 CG g x {g with BC:=g.BC++[x.name],AD:=P} (.row 7 i) false (!g.conds.isEmpty) (!g.Ak.isEmpty) true true++
  [.row true 13 [.d (AH o)],.row true 2 [.d (AL ⟨false,g.BC.length⟩)],.row (decide (0<i)) 4 (M.map fun r=>.d (Ab r))]
theorem VM(g:AF)(x:AAC)(hf:CH g x=true)(hb:GO g x.number=false)(uU:Mh g x=false)
  (hl:g.AD.length≤2 ^ 20) (hn:g.BC.length≤2 ^ 20) (hr:(CL g x).right.length≤2 ^ 20) (sc:∀i∈B1 g x,(CO g i).right.length≤2 ^ 20∧(CO g i).name.size≤2 ^ 20):
  AE prog 85 [.ptr 4 1 0 0] (bS g x) (.d (AG 0)) (D5 g x (eP g x) (SK g x g.AD.length (B1 g x)) false):=by
 obtain⟨hp,a,ha,jP,kK,g9⟩:=Hl hf;have jH:=hp;simp only[Ck,Bool.and_eq_true,decide_eq_true_eq]at jH;obtain⟨j,hj⟩:∃j:Nat,x.number=j:=⟨x.number.toNat,by omega⟩;have ij:j<g.AD.length:=by omega
 have dI:g.AD.isEmpty=false:=by cases h:g.AD<;>simp[h]at ij⊢
 have hB0:=eK g x;have ie:(bS g x).all (AAG (bS g x).length)=true:=by simp[bS,CG,bV]
 have hold:=Hv hB0 ie hp;have j2:=Gd hB0 ie (i:=x.number) (by omega);have hbC:=La hB0 ie hl hf;rw[hb]at j2;rw[uU]at hbC;have mP:(CL g x).right.length≤2 ^ 20:=hr;generalize g7:CL g x=o at *;have hB2:Oj (CG g x {g with BC:=g.BC++[x.name]} (.full []) false (!g.conds.isEmpty) (!g.Ak.isEmpty) true (!g.AD.isEmpty)++[O.row true 13 [.d (AH o)],O.row true 2 [.d (AL ⟨false,g.BC.length⟩)]]) 4 g x:=⟨_,_,_,_,_,_,_,_,_,_,_,rfl⟩;have mQ:AE prog 143 [.ptr 4 1 0 0,.d (AG (Ip g x).index)] _ (.d (Ci (B1 g x))) _:=UU hB2 (by simp[CG,bV]) hl (Ip g x).index;generalize mA:Ip g x=s at *;have cy:=AH.eq_1 o;have iB:=AL.eq_1 s;have ph:=NI (S:=bS g x++[O.row true 13 [.d (AH o)]]) (r:=4) (q:=2) (k:=g.BC.length) (g:=g) (x:=x) rfl rfl (by simp) (by omega) (by simp[Af]) (by simp[bS,CG,bV]);refine AE.AI func85 (by kernel_rfl) rfl (by simp) fun wf _=>?_;rw[ntmps85];unfold bS CG bV at *;simp[cy]at ph;refine xW fun K hK=>?_;simp;apply hK;refine xS (Az fun K hK=>?_);refine xJ ?_;simp;refine AS.call rfl rfl (by simp) (f:=144) (args:=[.ptr 4 1 0 0,.d (AG x.number)]) (by simp[callee];try rfl) (by simp) j2 ?_;simp;refine xH ?_;simp;refine AS.Gb (g:=true) (f:=145) (args:=[.ptr 4 1 0 0]) (fun _=>hbC) rfl rfl (by simp) (by simp) (by simp[callee]) ?_;simp;refine xH ?_;simp;refine Aj (hK _ _ ?_);(try simp only[]);refine AU ?_;simp;refine xK ?_;refine Az fun K hK=>?_;refine xJ ?_;simp;refine AS.call rfl rfl (by simp) (f:=82) (args:=[.ptr 4 1 0 0]) (by simp[callee];try rfl) (by simp) hold ?_;simp;refine xJ ?_;simp[cy];refine Aj (hK _ _ ?_);refine xW fun K hK=>?_;simp;apply hK;(repeat refine xS ?_);refine BX fun K hK=>?_;refine xJ ?_;simp;refine AS.call rfl rfl (by simp) (f:=151) (args:=[.ptr 4 1 0 0]) (by simp[callee];try rfl) (by simp) ph ?_;simp;refine xJ ?_;simp;refine Aj (hK _ _ ?_);(try simp only[xQ,reduceIte]);simp only[ha,List.map_append,List.map_cons,List.map_nil,List.length_append,List.length_cons,List.length_nil,Nat.zero_add]at mQ;refine xS (Az fun K hK=>?_);refine xJ ?_;simp[ha,jP,kK.symm,iB];refine AS.call rfl rfl (by simp) (f:=143) (args:=[.ptr 4 1 0 0,.d (AG s.index)]) (by simp[callee];try rfl) (by simp) mQ ?_;simp;refine xJ ?_;simp;refine Aj (hK _ _ ?_);(try simp only[xQ,reduceIte]);clear hold mQ j2 hbC ph hB0 hB2 ie;refine AW.ghost (AJ.Lb 4 0 49 4 rfl rfl rfl) ?_;simp;refine Bw ?_;refine DC (B1 g x).length (fun i tm S=>tm 0=.ptr 4 1 0 0∧tm 3=.ptr 5 1 0 0∧tm 4=.d (.int .i64 a)∧tm 5=.ptr 6 1 0 0∧tm 40=.d (Ci (B1 g x))∧tm 41=.d (.int .i64 (B1 g x).length)∧tm 42=.d (.int .i64 i)∧S=W3 g x o (K9 g x i) (LN g x i) i) (Nat.zero_le _) (by simp[W3,CG,bV,ha,cy,K9,LN,SK,dI]) ?_;rintro i tm S hi ⟨t0,t3,t4,t5,t40,t41,t42,rfl⟩;have jQ:(B1 g x).length≤g.AD.length:=Jy _ _ _;refine xW fun K hK=>?_;simp[t41,t42];apply hK;refine xC ?_;simp;refine⟨fun cx=>?_,fun hO=>?_⟩
 ·have lL:(B1 g x).take (i+1)=(B1 g x).take i++[(B1 g x)[i]]:=by rw[List.take_add_one,List.getElem?_eq_getElem cx];rfl
  have xt:=Io (List.getElem_mem cx);have iH:=sc _ (List.getElem_mem cx);obtain⟨c,hc⟩:∃c:Nat,(B1 g x)[i]=c:=⟨(B1 g x)[i].toNat,by omega⟩;have iW:c<g.AD.length:=by omega
  have mG:CO g (c:Int)=g.AD[c]:=by simp[CO,iW]
  have hPe:Up g x c={g.AD[c]with name:=g.AD[c].name++⟨#[95,99,111,112,121]⟩,left:=g.BC.length}:=by simp[Up,mG]
  rw[hc]at iH lL;rw[mG]at iH;obtain⟨iH,xu⟩:=iH;have hPl:(K9 g x i).length=g.AD.length+i:=by simp[K9];omega
  have hMl:(LN g x i).length=i:=by unfold LN;rw[Mi];simp;omega
  have jA:((B1 g x).take i).length=i:=by simp;omega
  have hPs:K9 g x (i+1)=K9 g x i++[Up g x c]:=by unfold K9;rw[lL];simp
  have hMs:LN g x (i+1)=LN g x i++[Zc g x (g.AD.length+i) c]:=by unfold LN;rw[lL,Qe,jA]
  clear lL jA;generalize K9 g x i=P at *;generalize LN g x i=M at *;have hTe:ep g x (g.AD.length+i) c=(([Bh j]++Cg 0 a)++[Bh P.length])++Cg a (o.right.length - 1+g.AD[c].right.length - a):=by simp[ep,hj,ha,g7,mG,hPl]
  generalize hq:g.AD[c]=q at *;have heq:=AH.eq_1 q;have pq:q.name.size≤9223372036854775802:=by omega
  generalize hQ:Up g x c=Q at *;have heQ:=AH.eq_1 Q;have jb:=MQ (S:=W3 g x o P M i++[.row true 13 [.d (AH Q)]]) (r:=4) (q:=3) (k:=P.length) (g:=g) (x:=x) rfl rfl (by simp) (by omega) (by simp[Af]) Q (by simp[W3,CG,bV,AAB,AAI]);unfold W3 CG bV at jb⊢;simp only[List.cons_append,List.nil_append,List.set_cons_succ,List.set_cons_zero,List.map_append,List.map_cons,List.map_nil,List.length_append,List.length_cons,List.length_nil,Nat.zero_add]at jb;refine xK ?_;refine xB ?_;refine xW fun K hK=>?_;simp[t40,t42,cx,hc];apply hK;refine xW fun K hK=>?_;simp[t0,iW,hq,heq];apply hK;refine xW fun K hK=>?_;simp;apply hK;refine xD [0,2,4,6,8,10,13,14,17] (by kernel_rfl) fun K hK=>?_;simp;refine xA 1 ?_;simp[maxLen,pq,t5];refine xX 57 (by kernel_rfl) ?_;simp[AR,maxLen,pq,t5];refine xA 1 ?_;simp;refine xX 7 (by kernel_rfl) ?_;simp[AR,t5];refine xM (hK _ _ ?_);refine AW.ghost (AJ.A2 8 (xs:=[AH Q]) rfl (by simp[AAi,asD,hPe,AH])) ?_;simp;(repeat refine xS ?_);refine BX fun K hK=>?_;refine xJ ?_;simp[t0];refine AS.call rfl rfl (by simp) (f:=148) (args:=[.ptr 4 1 0 0,.d (AH Q)]) (by simp[callee];try rfl) (by simp) jb ?_;simp;refine xJ ?_;simp;refine Aj (hK _ _ ?_);(try simp only[xQ,reduceIte]);clear jb sc;have lz:List.map (fun x=>V.d (AH x)) P++[V.d (AH Q)]=List.map (fun x=>V.d (AH x)) (P++[Q]):=by simp
  rw[lz];have jT:P.length+1=(P++[Q]).length:=by simp
  generalize P++[Q]=P2 at *;have qo:=H6 (j:Int);have qp:=H6 (P.length:Int);obtain⟨N,hN⟩:∃N,N=o.right.length - 1+q.right.length:=⟨_,rfl⟩;have jz:IntKind.i64.wrap ((o.right.length:Int) - 1)=(o.right.length:Int) - 1:=by rw[IntKind.wrap_i64];omega
  have jm:IntKind.i64.wrap ((o.right.length:Int) - 1+q.right.length)=(N:Int):=by rw[IntKind.wrap_i64];omega
  rw[←hN]at hTe;have ux:=Gv [Bh j] false 0 a (by simp;omega) (by omega);have oh:=Gv (([Bh j]++Cg 0 a)++[Bh P.length]) true a (N - a) (by simp[C2];omega) (by omega);have uW:a+(N - a)=N:=by omega
  rw[uW]at oh;(repeat refine xS ?_);refine BX fun K hK=>?_;refine xJ ?_;simp[t0,hj];refine Bp (qo) rfl (by simp[xN]) ?_;simp;refine xJ ?_;simp[maxLen,t4];refine AS.ghost (AJ.BB 73 4 (xs:=[A1 (Bh j)]) (by simp)) ?_;refine xF (ux) [9] rfl ?_;simp;refine xJ ?_;simp;refine Aj (hK _ _ ?_);(try simp only[xQ,reduceIte]);have e5:a+1=1+a:=by omega
  have e6:1+a≤1073741823:=by omega
  simp[C2,e5]at oh;(repeat refine xS ?_);refine xE [0,2,4,6,10,12,14,16,18,20,22,9,25,26] (by kernel_rfl) fun K hK=>?_;simp;refine xA 1 ?_;simp;refine Bj (qp) rfl (by simp[xN]) ?_;simp;refine xA 1 ?_;simp[t3,t4,cy,maxLen,jz,jm];refine xX 1408 (by kernel_rfl) ?_;simp[AR,Al,C2,Af,or_imp,forall_and,t3,t4,maxLen,e5,e6,jz,jm];refine Ae.Ds (xT [1,0,0,0,0,0,1,0]) (oh) [9] (by kernel_rfl) rfl (by simp[AR,t3,t4,maxLen,jz,jm];try rfl) ?_;simp;refine xA 1 ?_;simp;refine xM (hK _ _ ?_);(try simp only[xQ,reduceIte]);obtain⟨TT,hTT⟩:∃TT,TT=Bh j::(Cg 0 a++Bh (P.length:Int)::Cg a (N - a)):=⟨_,rfl⟩;have hTl:TT.length=1+a+1+(N - a):=by rw[hTT];simp[C2];omega
  rw[←hTl];refine AW.ghost (AJ.B6 9 (wr:=true) (sz:=4) (els:=(TT.map A1).map V.d) (xs:=TT.map A1) (by rw[hTT];simp[Function.comp_def]) (BT _ _)) ?_;simp;have hWe:Zc g x (g.AD.length+i) c=⟨x.number,a,c,TT⟩:=by simp[Zc,ha,hTe,hTT]
  have o7:i+1≤1073741824:=by omega
  refine xE [0,2,4,6,8,10,12,14,16,18,20,22,24,26,28,31,32,34,37] (by kernel_rfl) fun K hK=>?_;simp;refine xA 1 ?_;simp[t0,t4,maxLen];refine xX 1025 (by kernel_rfl) ?_;simp[AR,Af,t0,t4,hMl,o7,maxLen,forall_and];refine xA 1 ?_;simp;refine xX 32765 (by kernel_rfl) ?_;simp[AR,t0,t4,maxLen];refine xM (hK _ _ ?_);have ji:IntKind.i64.wrap ((i:Int)+1)=(i+1:Nat):=by rw[IntKind.wrap_i64];omega
  refine xV fun K hK=>?_;simp[t42,ji];apply hK;refine⟨cx,_,_,(AJ.A2 7 (xs:=(M++[Zc g x (g.AD.length+i) c]).map Ab) rfl ?_).trans (AJ.EL 8 (S':=W3 g x o P2 (M++[Zc g x (g.AD.length+i) c]) (i+1)) ?_ (by simp) (by simp) (by simp[W3,CG,bV,AAB,AAI])),?_⟩
  ·rw[hWe];simp[Bc,asD,Ab,hj]
  ·rw[hWe];simp[W3,CG,bV,ha,hj,cy,jT,Ab]
  ·simp[clean,AAB,t0,t3,t4,t5,t40,t41,hPs,hMs,W3,CG,bV]
 ·have e:i=(B1 g x).length:=by omega
  subst e;refine Cu ?_;have hPn:K9 g x (B1 g x).length=g.AD++(B1 g x).map (Up g x):=by simp[K9]
  have hMn:LN g x (B1 g x).length=SK g x g.AD.length (B1 g x):=by simp[LN]
  have hMl:=Mi g x (B1 g x) g.AD.length;rw[hPn,hMn,←hMl];have ta:g.AD[j]=o:=by
   have:CL g x=g.AD[j]:=by simp[CL,hj,ij]
   rw[←this,g7]
  have hPj1:j<(g.AD++(B1 g x).map (Up g x)).length:=by simp;omega
  have hPj:(g.AD++(B1 g x).map (Up g x))[j]=o:=by rw[List.getElem_append_left ij,ta]
  have hPj2:(j:Int)<(g.AD++(B1 g x).map (Up g x)).length:=by omega
  have uV:x.number.toNat=j:=by omega
  have xw:x.at_.toNat=a:=by omega
  have xx:o.right.isEmpty=false:=by cases h:o.right<;>simp[h]at jP⊢
  have lI:=GG o.right (by omega);rw[xx]at lI;unfold eP ff;rw[g7,uV,xw];generalize SK g x g.AD.length (B1 g x)=M at *;generalize g.AD++(B1 g x).map (Up g x)=P at *;unfold W3 CG bV;refine Az fun K hK=>?_;refine xJ ?_;simp[t3,cy];refine xF (lI) [] rfl ?_;simp;refine xJ ?_;simp;refine Aj (hK _ _ ?_);(repeat refine xS ?_);refine xV fun K hK=>?_;simp[t4,t5,jP];refine hK _ _ ?_;(try simp only[]);obtain⟨R,hR⟩:∃R,R=o.right.set a ⟨false,g.BC.length⟩:=⟨_,rfl⟩;have hRl:R.length=o.right.length:=by rw[hR];simp
  rw[←hR];obtain⟨P3,hP3⟩:∃P3,P3=P.set j {o with right:=R}:=⟨_,rfl⟩;rw[←hP3];refine AW.ghost (AJ.B6 8 (wr:=true) (sz:=2) (els:=(R.map AL).map V.d) (xs:=R.map AL) (by rw[hR];simp[List.map_set,Function.comp_def]) (BT _ _)) ?_;simp;refine xD [0,2,4,6,8,10,12,14,16,18,20,22,24,27] (by kernel_rfl) fun K hK=>?_;simp;refine xA 1 ?_;simp[t0,hj,hPj1,hPj2];refine xX 8189 (by kernel_rfl) ?_;simp[AR,t0,hPj1,hPj,hPj2,cy];refine xM (hK _ _ ?_);refine xW fun K hK=>?_;simp;apply hK;refine Ag ?_;(try simp only[xQ,reduceIte]);refine⟨_,(AJ.A2 3 (xs:=P3.map AH) rfl ?_).trans ((AJ.EL 8 (S':=CG g x {g with BC:=g.BC++[x.name],AD:=P3} (.row 7 M.length) false (!g.conds.isEmpty) (!g.Ak.isEmpty) true true++([.row true 13 [.d (AH o)],.row true 2 [.d (AL ⟨false,g.BC.length⟩)]]++[.row (decide (0<M.length)) 4 (M.map fun r=>.d (Ab r))])) ?_ (by simp) (by simp) (by simp[CG,bV,AAB,AAI])).trans (ZK (Nat.le_refl 5) g x {g with BC:=g.BC++[x.name],AD:=P3} M false _ _ _ _ _ [.row true 13 [.d (AH o)],.row true 2 [.d (AL ⟨false,g.BC.length⟩)]])),?_⟩
  ·rw[Bc,hP3,List.map_set,List.map_map,List.map_set,List.map_set,List.map_map];congr 1;simp[asD,AH,hRl]
  ·simp[CG,bV,hj,ha,hP3,List.map_set,Function.comp_def,cy]
  ·simp[Am,clean,EJ,AAB]
theorem ADg(g:AF)(x:AAC)(hf:CH g x=true)(he:(GO g x.number||Mh g x)=true)(hl:g.AD.length≤2 ^ 20):
  AE prog 85 [.ptr 4 1 0 0] (bS g x) (.d (AG 311)) (D5 g x g [] false):=by
 obtain⟨hp,a,ha,jP,kK,g9⟩:=Hl hf;simp only[Ck,Bool.and_eq_true,decide_eq_true_eq]at hp;have hB0:=eK g x;have ie:(bS g x).all (AAG (bS g x).length)=true:=by simp[bS,CG,bV]
 have j2:=Gd hB0 ie (i:=x.number) (by omega);have hbC:=La hB0 ie hl hf;generalize GO g x.number=b1 at *;generalize Mh g x=b2 at *;refine AE.AI func85 (by kernel_rfl) rfl (by simp) fun wf _=>?_;rw[ntmps85];unfold bS CG bV at *;(repeat refine xS ?_);refine xV fun K hK=>?_;simp;refine hK _ _ ?_;(try simp only[]);cases b1 with
 |true=>
  refine xS (Az fun K hK=>?_);refine xJ ?_;simp;refine AS.call rfl rfl (by simp) (f:=144) (args:=[.ptr 4 1 0 0,.d (AG x.number)]) (by simp[callee];try rfl) (by simp) j2 ?_;simp;refine xH ?_;simp;refine Aj (hK _ _ ?_);(try simp only[xQ,reduceIte]);refine AU ?_;simp;refine xW fun K hK=>?_;simp;apply hK;refine Ag ?_;(try simp only[xQ,reduceIte]);refine⟨_,(AJ.AY 5 (S':=CG g x g (.full []) false (!g.conds.isEmpty) (!g.Ak.isEmpty) (!g.BC.isEmpty) (!g.AD.isEmpty)) (by simp[CG,bV]) (by simp) (by simp) (by simp)).trans (Jo g x _ _ [] false _ _ _ _ rfl),?_⟩;simp[Am,clean,EJ,AAB]
 |false=>
  obtain rfl:b2=true:=by simpa using he
  refine xS (Az fun K hK=>?_);refine xJ ?_;simp;refine AS.call rfl rfl (by simp) (f:=144) (args:=[.ptr 4 1 0 0,.d (AG x.number)]) (by simp[callee];try rfl) (by simp) j2 ?_;simp;refine xH ?_;simp;refine AS.Gb (g:=true) (f:=145) (args:=[.ptr 4 1 0 0]) (fun _=>hbC) rfl rfl (by simp) (by simp) (by simp[callee]) ?_;simp;refine xH ?_;simp;refine Aj (hK _ _ ?_);(try simp only[xQ,reduceIte]);refine AU ?_;simp;refine xW fun K hK=>?_;simp;apply hK;refine Ag ?_;(try simp only[xQ,reduceIte]);refine⟨_,(AJ.AY 5 (S':=CG g x g (.full []) false (!g.conds.isEmpty) (!g.Ak.isEmpty) (!g.BC.isEmpty) (!g.AD.isEmpty)) (by simp[CG,bV]) (by simp) (by simp) (by simp)).trans (Jo g x _ _ [] false _ _ _ _ rfl),?_⟩;simp[Am,clean,EJ,AAB]
theorem AD1(g:AF)(x:AAC)(hf:FE g x=true)(he:GO g x.number=true):AE prog 83 [.ptr 4 1 0 0] (bS g x) (.d (AG 311)) (D5 g x g [] false):=by
 obtain⟨hp,j,a,t,hj,ha,ht,ij,h1,h2⟩:=LZ hf;have j2:=Gd (eK g x) (by simp[bS,CG,bV]) (i:=x.number) (by omega);rw[he]at j2;refine AE.AI func83 (by kernel_rfl) rfl (by simp) fun wf _=>?_;rw[ntmps83];unfold bS CG bV at *;refine xW fun K hK=>?_;simp;apply hK;refine xS (Az fun K hK=>?_);refine xJ ?_;simp;refine AS.call rfl rfl (by simp) (f:=144) (args:=[.ptr 4 1 0 0,.d (AG x.number)]) (by simp[callee];try rfl) (by simp) j2 ?_;simp;refine xJ ?_;simp;refine Aj (hK _ _ ?_);(try simp only[]);refine AU ?_;simp;refine xW fun K hK=>?_;simp;apply hK;refine Ag ?_;(try simp only[xQ,reduceIte]);refine⟨_,(AJ.AY 5 (S':=CG g x g (.full []) false (!g.conds.isEmpty) (!g.Ak.isEmpty) (!g.BC.isEmpty) (!g.AD.isEmpty)) (by simp[CG,bV]) (by simp) (by simp) (by simp)).trans (Jo g x _ _ [] false _ _ _ _ rfl),?_⟩;simp[Am,clean,EJ,AAB]
end Go.Koi
