/- Part 28 of the proof that the law ChangeValid returns true for every input. -/
import Derived.Test.YtlgjmkfbkhfakaaGreatDoorK26
set_option maxHeartbeats 64000000
set_option maxRecDepth 100000
namespace Go.Koi
open Go.Proofs Tryz DT
section
variable {P:Program} {n b:Nat} {ops:Array Oper} {o:Oper} {tm:Tm} {S S':Sg} {K:Tm→Sg→Prop} {v:V}
theorem Ae.Yq{B:List (Nat×(Sg→Prop))}{i:Nat}{rest:List (Nat×Bool×Oper)}{c:Call}{f:FuncId}{args:List V}(ws:List Bool)(h:AE P f args S v S')(j5:B.map (fun p=>waits ops i p.1)=ws)(ho:o.op=.call c)
  (hp:o.guard=none∧A6 n o.dst∧A5 tm c∧callee tm c=some (f,args)∧okB ws B S S') (h2:Ae P n b ops (AA1 ws B) rest (put tm o.dst v) S' K):Ae P n b ops B ((i,false,o)::rest) tm S K:=by
 obtain⟨h3,h4,h5,h6,h7⟩:=hp;exact Ae.Z5 ws j5 (fun hi=>A7.call hi ho h3 h4 h6 h5 h) h7 h2
end
def Yo(g:AF)(x:AAC):AT:={F1 with name:=x.name,left:=g.BC.length,right:=((CL g x).right.take x.to.toNat).drop x.at_.toNat,cond:=(CL g x).cond}
def Yz(g:AF)(x:AAC):List Symbol:=(CL g x).right.take x.at_.toNat++[⟨false,g.BC.length⟩]++(CL g x).right.drop x.to.toNat
def Yt(g:AF)(x:AAC):List Cw:=([Bh x.number]++Cg 0 x.at_.toNat)++[Bh g.AD.length]++Cg x.at_.toNat ((CL g x).right.length - x.at_.toNat)
def Vu(g:AF)(x:AAC):AF:={g with BC:=g.BC++[x.name],AD:=(g.AD++[Yo g x]).set x.number.toNat {CL g x with right:=Yz g x}}
def foldM(g:AF)(x:AAC):List Rewrite:=[⟨x.number,-1,-1,Yt g x⟩]
theorem LZ{g:AF}{x:AAC}(h:FE g x=true):Ck g x=true∧∃j a t:Nat,x.number=j∧x.at_=a∧x.to=t∧j<g.AD.length∧a<t∧t≤(CL g x).right.length:=by
 simp only[FE,Bool.and_eq_true,decide_eq_true_eq]at h;obtain⟨⟨⟨h1,h2⟩,h3⟩,h4⟩:=h;have h5:=h1;simp only[Ck,Bool.and_eq_true,decide_eq_true_eq]at h5;exact⟨h1,x.number.toNat,x.at_.toNat,x.to.toNat,by omega,by omega,by omega,by omega,by omega,by omega⟩
theorem eK(g:AF)(x:AAC):Oj (bS g x) 4 g x:=⟨_,_,_,_,_,_,_,_,_,_,_,rfl⟩
theorem YI(g:AF)(x:AAC)(hf:FE g x=true)(hb:GO g x.number=false)(hl:g.AD.length≤2 ^ 20)(hn:g.BC.length≤2 ^ 20)(hr:(CL g x).right.length≤2 ^ 20):
  AE prog 83 [.ptr 4 1 0 0] (bS g x) (.d (AG 0)) (D5 g x (Vu g x) (foldM g x) false):=by
 obtain⟨hp,j,a,t,hj,ha,ht,ij,h1,h2⟩:=LZ hf;have j2:=Gd (eK g x) (by simp[bS,CG,bV]) (i:=x.number) (by omega);rw[hb]at j2;have hold:=Hv (eK g x) (by simp[bS,CG,bV]) hp;unfold Vu foldM Yo Yt Yz;generalize g7:CL g x=o at *;have cy:=AH.eq_1 o;have ph:=NI (S:=bS g x++[O.row true 13 [.d (AH o)]]) (r:=4) (q:=2) (k:=g.BC.length) (g:=g) (x:=x) rfl rfl (by simp) (by omega) (by simp[Af]) (by simp[bS,CG,bV]);have jQ:=(GG ((o.right.take t).drop a) (by simp;omega)).Hi;have nS:=MQ (S:=CG g x {g with BC:=g.BC++[x.name]} (.full []) false (!g.conds.isEmpty) (!g.Ak.isEmpty) true (!g.AD.isEmpty)++[O.row true 13 [.d (AH o)],O.row true 2 [.d (AL ⟨false,g.BC.length⟩)]]) (r:=4) (q:=3) (k:=g.AD.length) (g:=g) (x:=x) rfl rfl (by simp) (by omega) (by simp[Af]) {F1 with name:=x.name,left:=g.BC.length,right:=(o.right.take t).drop a,cond:=o.cond} (by simp[CG,bV]);have jb:=nS.Ei (args':=[.ptr 4 1 0 0,.agg [.d (.str x.name),.d (.int .i64 g.BC.length),.d (.sl (((o.right.map AL).take t).drop a)),.d (.sl (o.cond.nodes.map AX)),.d (.int .i64 o.cond.root),.d (.bool false),.d (.int .i64 0),.full [],.d (.bool false),.d (.int .i64 0),.d (.int .i64 0),.d (.int .i64 0),.d (.int .i64 0)]]) rfl fun i h h'=>by
  match i,h with
  |0,_=>exact .inl rfl
  |1,_=>exact .inr ⟨_,by simp[asD,AH,F1,List.map_take,List.map_drop],rfl⟩
 clear nS;refine AE.AI func83 (by kernel_rfl) rfl (by simp) fun wf _=>?_;rw[ntmps83];unfold bS CG bV at j2 hold ph⊢;unfold CG bV at jb;simp[cy,hj,ha,ht]at jb;simp[cy]at ph;refine xW fun K hK=>?_;simp;apply hK;refine xS (Az fun K hK=>?_);refine xJ ?_;simp;refine AS.call rfl rfl (by simp) (f:=144) (args:=[.ptr 4 1 0 0,.d (AG x.number)]) (by simp[callee];try rfl) (by simp) j2 ?_;simp;refine xJ ?_;simp;refine Aj (hK _ _ ?_);(try simp only[]);refine AU ?_;simp;refine xK ?_;refine Az fun K hK=>?_;refine xJ ?_;simp;refine AS.call rfl rfl (by simp) (f:=82) (args:=[.ptr 4 1 0 0]) (by simp[callee];try rfl) (by simp) hold ?_;simp;refine xJ ?_;simp[cy];refine Aj (hK _ _ ?_);refine xD [0,2,4,6,8,10,12,14,16,18,20,22] (by kernel_rfl) fun K hK=>?_;simp;refine xA 0 ?_;simp;refine xM (hK _ _ ?_);(repeat refine xS ?_);refine BX fun K hK=>?_;refine xJ ?_;simp;refine AS.call rfl rfl (by simp) (f:=151) (args:=[.ptr 4 1 0 0]) (by simp[callee];try rfl) (by simp) ph ?_;simp;refine xJ ?_;simp;refine Aj (hK _ _ ?_);(try simp only[xQ,reduceIte]);have hX:∃X5 X6,X5=O.row true 13 [.d (AH o)]∧X6=O.row true 2 [.d (AL ⟨false,g.BC.length⟩)]:=⟨_,_,rfl,rfl⟩;have d1:a≤t:=by omega
 have d3:a<o.right.length:=by omega
 (repeat refine xS ?_);refine xE [0,2,4,6,8,10,12,14,16,18,20,22,24,26,28,30,32,35,36] (by kernel_rfl) fun K hK=>?_;simp;refine xA 1 ?_;simp[hj,ha,ht,d1,h2,d3];refine Ae.CA (jQ) rfl (by simp[xN]) ?_;simp;refine xA 1 ?_;simp;refine Ae.Yq (xT [1,0,0,1,0,0,0,0,0,0,0,0,0,0,0,0,1]) (jb) (by kernel_rfl) rfl (by simp[AR,d1,h2,d3];try rfl) ?_;simp;refine xA 1 ?_;simp;refine xM (hK _ _ ?_);(try simp only[xQ,reduceIte]);clear jb ph j2 hold;obtain⟨P2,hP2⟩:∃P2,P2=g.AD++[{F1 with name:=x.name,left:=g.BC.length,right:=(o.right.take t).drop a,cond:=o.cond}]:=⟨_,rfl⟩;have lz:List.map (fun x=>V.d (AH x)) g.AD++[V.d (AH {F1 with name:=x.name,left:=g.BC.length,right:=(o.right.take t).drop a,cond:=o.cond})]=List.map (fun x=>V.d (AH x)) P2:=by rw[hP2];simp
 rw[lz];have jT:P2.length=g.AD.length+1:=by rw[hP2];simp
 have og:j<P2.length:=by omega
 have sU:j<g.AD.length+1:=by omega
 have oP:P2[j]=o:=by
  have:CL g x=g.AD[j]:=by simp[CL,hj,ij]
  rw[g7]at this;simp[hP2,ij,this]
 rw[ht,ha,hj];simp only[Int.toNat_natCast];rw[←hP2];clear hP2 lz;have lA:=JF [o.right.take a,[⟨false,(g.BC.length:Nat)⟩],o.right.drop t] (by simp;omega);obtain⟨R,hR⟩:∃R,R=o.right.take a++⟨false,(g.BC.length:Nat)⟩::o.right.drop t:=⟨_,rfl⟩;have jh:[o.right.take a,[(⟨false,(g.BC.length:Nat)⟩:Symbol)],o.right.drop t].flatten=R:=by rw[hR];simp
 rw[jh]at lA;have d4:a≤o.right.length:=by omega
 have sV:(j:Int)<g.AD.length+1:=by omega
 have g9:List.take o.right.length (List.map AL o.right)=List.map AL o.right:=List.take_of_length_le (by simp);refine AW.Ew (R:=fun tm S=>tm 0=.ptr 4 1 0 0∧tm 3=.ptr 5 1 0 0∧tm 4=.d (.int .i64 a)∧tm 5=.d (.int .i64 t)∧tm 7=.d (.int .i64 g.AD.length)∧S=CG g x {g with BC:=g.BC++[x.name],AD:=P2.set j {o with right:=R}} (.full []) false (!g.conds.isEmpty) (!g.Ak.isEmpty) true true++[O.row true 13 [.d (AH o)],O.row true 2 [.d (AL ⟨false,g.BC.length⟩)]]) ?_ ?_
 ·by_cases d5:t<o.right.length
  ·skip;refine xE [0,2,4,6,8,10,12,14,16,18,20,22,24,26,28,30,32,34,36,38,40,42,44,46,49] (by kernel_rfl) fun K hK=>?_;simp;refine xA 1 ?_;simp[d4,h2,maxLen,d5];refine Ae.CA (lA) rfl (by simp[List.map_take,List.map_drop,g9,xN]) ?_;simp[g9];refine xA 1 ?_;simp[sU,sV,jT];refine xX 16777213 (by kernel_rfl) ?_;simp[AR,cy,d4,h2,sU,sV,jT,oP,maxLen,d5];refine xM (hK _ _ ?_);refine⟨_,_,(AJ.A2 3 (xs:=(P2.set j {o with right:=R}).map AH) rfl ?_).trans (AJ.JK (S':=CG g x {g with BC:=g.BC++[x.name],AD:=P2.set j {o with right:=R}} (.full []) false (!g.conds.isEmpty) (!g.Ak.isEmpty) true true++[O.row true 13 [.d (AH o)],O.row true 2 [.d (AL ⟨false,g.BC.length⟩)]]) ?_),?_⟩
   ·rw[Bc,List.map_set,List.map_map,List.map_set,List.map_set,List.map_map];congr 1
   ·simp[CG,bV,hj,ha,ht,jT,List.map_set,Function.comp_def,cy]
   ·simp
  ·have d6:t=o.right.length:=by omega
   have d7:o.right.length≤t:=by omega
   refine xE [0,2,4,6,8,10,12,14,16,18,20,22,24,26,28,30,32,34,36,38,40,42,44,46,49] (by kernel_rfl) fun K hK=>?_;simp;refine xA 1 ?_;simp[d4,maxLen,d6];refine Ae.CA (lA) rfl (by simp[List.map_take,List.map_drop,g9,d7,xN]) ?_;simp[g9];refine xA 1 ?_;simp[sU,sV,jT];refine xX 16777213 (by kernel_rfl) ?_;simp[AR,cy,d4,sU,sV,jT,oP,maxLen];refine xM (hK _ _ ?_);refine⟨_,_,(AJ.A2 3 (xs:=(P2.set j {o with right:=R}).map AH) rfl ?_).trans (AJ.JK (S':=CG g x {g with BC:=g.BC++[x.name],AD:=P2.set j {o with right:=R}} (.full []) false (!g.conds.isEmpty) (!g.Ak.isEmpty) true true++[O.row true 13 [.d (AH o)],O.row true 2 [.d (AL ⟨false,g.BC.length⟩)]]) ?_),?_⟩
   ·rw[Bc,List.map_set,List.map_map,List.map_set,List.map_set,List.map_map];congr 1
   ·simp[CG,bV,hj,ha,ht,jT,List.map_set,Function.comp_def,cy];omega
   ·simp;omega
 rintro tm S ⟨t0,t3,t4,t5,t7,rfl⟩;clear lA jh;have ym:(P2.set j {o with right:=R}).length=g.AD.length+1:=by simp[jT]
 generalize hP3:P2.set j {o with right:=R}=P3 at *;have qo:=H6 (j:Int);have qp:=H6 (g.AD.length:Int);have ux:=Gv [Bh j] false 0 a (by simp;omega) (by omega);have oh:=Gv (([Bh j]++Cg 0 a)++[Bh g.AD.length]) true a (o.right.length - a) (by simp[C2];omega) (by omega);have iH:a+(o.right.length - a)=o.right.length:=by omega
 rw[iH]at oh;unfold CG bV;(repeat refine xS ?_);refine BX fun K hK=>?_;refine xJ ?_;simp[t0,hj];refine Bp (qo) rfl (by simp[xN]) ?_;simp;refine xJ ?_;simp[maxLen,t4];refine AS.ghost (AJ.BB 78 4 (xs:=[A1 (Bh j)]) (by simp)) ?_;refine xF (ux) [7] rfl ?_;simp;refine xJ ?_;simp;refine Aj (hK _ _ ?_);(try simp only[xQ,reduceIte]);have e5:a+1=1+a:=by omega
 have e6:1+a≤1073741823:=by omega
 simp[C2,e5]at oh;(repeat refine xS ?_);refine xE [0,2,4,6,10,12,14,16,9,19,20] (by kernel_rfl) fun K hK=>?_;simp;refine xA 1 ?_;simp[t7];refine Bj (qp) rfl (by simp[xN]) ?_;simp;refine xA 1 ?_;simp[t3,t4,cy,maxLen];refine xX 176 (by kernel_rfl) ?_;simp[AR,Al,C2,Af,or_imp,forall_and,t3,t4,t7,maxLen,e5,e6];refine Ae.Ds (xT [1,0,0,1,0]) (oh) [7] (by kernel_rfl) rfl (by simp[AR,t3,t4,t7,maxLen];try rfl) ?_;simp;refine xA 1 ?_;simp;refine xM (hK _ _ ?_);(try simp only[xQ,reduceIte]);obtain⟨TT,hTT⟩:∃TT,TT=Bh j::(Cg 0 a++Bh (g.AD.length:Int)::Cg a (o.right.length - a)):=⟨_,rfl⟩;have hTl:TT.length=1+a+1+(o.right.length - a):=by rw[hTT];simp[C2];omega
 rw[←hTl];refine AW.ghost (AJ.B6 7 (wr:=true) (sz:=4) (els:=(TT.map A1).map V.d) (xs:=TT.map A1) (by rw[hTT];simp[Function.comp_def]) (BT _ _)) ?_;simp;refine xW fun K hK=>?_;simp[t0,maxLen];apply hK;refine xW fun K hK=>?_;simp;apply hK;refine Ag ?_;(try simp only[xQ,reduceIte]);rw[←hTT,←hR,hP3];refine⟨_,(AJ.AY 5 (S':=CG g x {g with BC:=g.BC++[x.name],AD:=P3} (.full [Ab ⟨j,-1,-1,TT⟩]) false (!g.conds.isEmpty) (!g.Ak.isEmpty) true true) ?_ (by simp) (by simp) ?_).trans (Jo g x _ _ [⟨j,-1,-1,TT⟩] false _ _ _ _ rfl),?_⟩
 ·simp[CG,bV,hj,Ab]
 ·simp
 ·simp[Am,clean,EJ,AAB]
section
variable {P:Program} {n b:Nat} {tm:Tm} {S:Sg}
theorem St.setRow{G:Gh}{w:World}{a:Act}(st:St P n G S w a tm){r sz:Nat}{els els':List V}(hr:S[r]?=some (.row true sz els))(hl:els'.length=els.length)
  (mo:∀c T,w.heap[G.BZ r]?=some (.cells c T (0,0))→KO G S w sz els c (G.cap r).2→KO G S w sz els' c (G.cap r).2):
  St P n G (S.set r (.row true sz els')) w a tm∧Tr G S w G (S.set r (.row true sz els')) w∧A9 G S w G (S.set r (.row true sz els')) w:=by
 have R:=st.rel;have iH:=AZ hr;have gz:(S.set r (.row true sz els'))[r]?=some (.row true sz els'):=by simp[iH]
 have dI:∀r',r'≠r→(S.set r (.row true sz els'))[r']?=S[r']?:=fun r' h=>by simp[List.getElem?_set_ne (Ne.symm h)]
 have el:∀r',lenOf (S.set r (.row true sz els')) r'=lenOf S r':=fun r'=>by
  by_cases e:r'=r
  ·subst e;simp[lenOf,gz,hr,hl]
  ·simp only[lenOf,dI r' e]
 have es:∀r',AAf (S.set r (.row true sz els')) r'=AAf S r':=fun r'=>by
  by_cases e:r'=r
  ·subst e;simp[AAf,gz,hr]
  ·simp only[AAf,dI r' e]
 have em:∀r',AAN (S.set r (.row true sz els')) r'=AAN S r':=fun r'=>by
  by_cases e:r'=r
  ·subst e;simp[AAN,gz,hr]
  ·simp only[AAN,dI r' e]
 have L:A9 G S w G (S.set r (.row true sz els')) w:=
  ⟨fun _ h=>h,fun _ _=>rfl,by simp,fun r' _ n' iz=>⟨n',by rw[←el];exact iz,Nat.le_refl _,fun _=>⟨rfl,rfl,rfl,.inl (es r')⟩⟩,fun r' _ hm=>⟨by rw[←em];exact hm,rfl⟩⟩
 have own:∀r' x,(S.set r (.row true sz els'))[r']?=some x→∃x',S[r']?=some x'∧AAJ G r' x'=AAJ G r' x:=fun r' x hx=>by
  by_cases e:r'=r
  ·subst e;rw[gz]at hx;cases hx;exact⟨_,hr,rfl⟩
  ·rw[dI r' e]at hx;exact⟨x,hx,rfl⟩
 have ownS:∀k,Eo G (S.set r (.row true sz els')) k→Eo G S k:=by
  rintro k ⟨r',x,h1,h2,h3⟩;obtain⟨x',g1,g2⟩:=own r' x h1;exact⟨r',x',g1,by rw[g2];exact h2,h3⟩
 refine⟨⟨st.size,st.tm.later L,⟨R.Es.later L,fun r' x jD=>?_,fun r1 r2 x1 x2 h1 h2 o1 o2 he=>?_,fun k hk=>R.nI k (ownS k hk),R.G5,fun k hk=>R.FW k (ownS k hk)⟩⟩,⟨Nat.le_refl _,fun _ h=>h,fun _ _ _=>rfl,fun k hk=>.inl (ownS k hk),fun k hk=>.inl hk,rfl,rfl⟩,L⟩
 ·by_cases e:r'=r
  ·subst e;rw[gz]at jD;cases jD;have gw:=R.CT r' _ hr;simp only[OK]at gw⊢;cases hv:G.BB r' with
   |none=>
    simp only[hv]at gw⊢;obtain⟨c,T,g1,g2,g3,g4,g5⟩:=gw;exact⟨c,T,g1,g2,by omega,by omega,(mo c T g1 g5).later L⟩
   |some q=>simp only[hv]at gw;exact absurd gw.1 (by simp)
  ·rw[dI r' e]at jD;exact(R.CT r' x jD).later L (fun _=>rfl) rfl rfl rfl
 ·obtain⟨y1,g1,p1⟩:=own r1 x1 h1;obtain⟨y2,g2,p2⟩:=own r2 x2 h2;exact R.inj r1 r2 y1 y2 g1 g2 (by rw[p1];exact o1) (by rw[p2];exact o2) he
theorem AJ.Lb(r i c sz':Nat){sz:Nat}{els cs:List V}{xs:List D}(hr:S[r]?=some (.row true sz els))(hi:els[i]?=some (.agg cs))(hc:cs[c]?=some (.full xs)):
  AJ P n b tm S tm ((S++[O.row false sz' (xs.map .d)]).set r (.row true sz (els.set i (.agg (cs.set c (V.row S.length xs.length)))))):=fun G w a st hb=>by
 have iH:=AZ hr;have gw:=st.rel.CT r _ hr;simp only[OK]at gw;cases hv:G.BB r with
 |some q=>simp only[hv]at gw;exact absurd gw.1 (by simp)
 |none=>
  simp only[hv]at gw;obtain⟨d,T,g1,g2,g3,g4,g5⟩:=gw;obtain⟨iD,m0⟩:=List.getElem?_eq_some_iff.1 hi;obtain⟨jQ,lR⟩:=List.getElem?_eq_some_iff.1 hc;obtain⟨v,f1,f2,f3,f4⟩:=g5 i iD;rw[m0]at f1;cases f1 with
  |agg _ vs hs hh ho=>
   have h2:=hh c jQ;rw[lR]at h2;generalize hY:vs[c]'(by omega)=Y at h2;cases h2 with
   |full _ base jo=>
    obtain⟨r1,r2,r3⟩:=st.rel.Js sz' xs base jo.len jo;have st1:St P n (G.at S.length 0 0 (some base)) (S++[.row false sz' (xs.map .d)]) w a tm:=⟨st.size,st.tm.later r3,r1⟩;have dI:r≠S.length:=by omega
    have eb:(G.at S.length 0 0 (some base)).BZ r=G.BZ r:=by simp[Gh.at,dI]
    have ec:(G.at S.length 0 0 (some base)).cap r=G.cap r:=by simp[Gh.at,dI]
    obtain⟨s1,s2,s3⟩:=st1.setRow (r:=r) (els':=els.set i (.agg (cs.set c (V.row S.length xs.length)))) (by rw[List.getElem?_append_left iH];exact hr) (by simp) fun c2 T2 oh sI=>by
     rw[eb,g1]at oh;cases oh;rw[ec]at sI⊢;intro j hj;have jL:j<els.length:=by simpa using hj
     by_cases e:j=i
     ·subst e;refine⟨.agg vs,?_,f2,f3,f4⟩;simp only[List.getElem_set_self];refine .agg _ _ (by simp[hs]) (fun k hk=>?_) ho;by_cases ek:k=c
      ·subst ek;simp only[List.getElem_set_self,hY];refine .row _ _ _ rfl (by simp) fun m' iS=>?_;have:m'=xs.length:=by simpa[lenOf]using iS.symm
       subst this;exact⟨Nat.le_refl _,fun _=>by simp[Gh.AAP,Gh.at]⟩
      ·rw[List.getElem_set_ne (fun h=>ek h.symm)];exact(hh k (by simpa using hk)).later r3
     ·rw[List.getElem_set_ne (fun h=>e h.symm)];exact sI j jL
    exact⟨_,s1,r2.trans s2,(r3.trans s3).late hb⟩
end
open Go.Proofs Tryz
def LW:Ah:=⟨0,0,0⟩
def V5(d:AN)(n:Int):Ah:=d.nodes.getD (n - 2).toNat LW
def EE(d:AN)(n v:Int):Int×Int:=if d.level n=v then((V5 d n).low,(V5 d n).high)else(n,n)
def Iw(d:AN)(n v:Int):Bool:=decide (0≤n)&&decide (n<2+d.nodes.length)&&(decide (2≤n)||decide (d.level n≠v))
def Fc(l:List Ah)(b:Ah):List Ah×Int:=
 if b.low=b.high then(l,b.low)else if firstIdx (fun x=>decide (x=b)) l<0 then(l++[b],(l.length:Int)+2)else(l,firstIdx (fun x=>decide (x=b)) l+2)
def KU(op x y:Int):Int:=if op=0 then x * y else if op=1 then max x y else(x+y).tmod 2
structure Seen where
 x:Int
 y:Int
 r:Int
 deriving DecidableEq
def Ff(x:Seen):D:=.agg [AG x.x,AG x.y,AG x.r]
@[simp] theorem U6(x:Seen):AAF (.d (Ff x))=[.d (AG x.x),.d (AG x.y),.d (AG x.r)]:=rfl
@[simp] theorem UZ(x:Seen):Ar (.d (Ff x))=true:=rfl
@[simp] theorem XM(x:Seen):AAW (.d (Ff x))=false:=rfl
@[simp] theorem Ve(x:Seen):AAL (Ff x)=[AG x.x,AG x.y,AG x.r]:=rfl
@[simp] theorem W8(x:Seen):AAe.oneD (Ff x)=true:=rfl
@[simp] theorem AEj(x:Seen):WFD (Ff x)=AAY [AG x.x,AG x.y,AG x.r]:=rfl
@[simp] theorem XT(x y:Seen):AAT [D.int .i64 x.x,D.int .i64 x.y,D.int .i64 x.r] [D.int .i64 y.x,D.int .i64 y.y,D.int .i64 y.r]=decide (x=y):=by
 cases x;cases y;rw[Bool.eq_iff_iff];simp[AAT,deq]
@[simp] theorem Wk(S:Sg)(x:Seen):AAr S (.d (Ff x))=some [AG x.x,AG x.y,AG x.r]:=rfl
def seenAt(sn:List Seen)(x y:Int):Int:=firstIdx (fun t=>decide (t.x=x)&&decide (t.y=y)) sn
def atR(a b:AN)(op:Int):Nat→List Ah→List Seen→Int→Int→Option (List Ah×List Seen×Int)
 |0,_,_,_,_=>none
 |f+1,ns,sn,x,y=>
  if x<2∧y<2 then(if 0≤x∧0≤y then some (ns,sn,KU op x y)else none)else
  if 0≤seenAt sn x y then some (ns,sn,(sn.getD (seenAt sn x y).toNat ⟨0,0,0⟩).r)else
   if Iw a x (min (a.level x) (b.level y))&&Iw b y (min (a.level x) (b.level y))then
    match atR a b op f ns sn (EE a x (min (a.level x) (b.level y))).1 (EE b y (min (a.level x) (b.level y))).1 with
    |none=>none
    |some (ns1,sn1,low)=>
     match atR a b op f ns1 sn1 (EE a x (min (a.level x) (b.level y))).2 (EE b y (min (a.level x) (b.level y))).2 with
     |none=>none
     |some (ns2,sn2,high)=>
      if 1048576≤ns2.length∨1048576≤sn2.length then none else
      some ((Fc ns2 ⟨min (a.level x) (b.level y),low,high⟩).1,sn2++[⟨x,y,(Fc ns2 ⟨min (a.level x) (b.level y),low,high⟩).2⟩],(Fc ns2 ⟨min (a.level x) (b.level y),low,high⟩).2)
   else none
def Mu(nodes:List Ah):Nat→List Int→List Ah→Int→Option (List Int×List Ah×Int)
 |0,_,_,_=>none
 |f+1,nu,out,n=>
  if n<2 then some (nu,out,n)else
  match nu[(n - 2).toNat]? with
  |none=>none
  |some k=>
   if 0<k then some (nu,out,k)else
   match Mu nodes f nu out (nodes.getD (n - 2).toNat LW).low with
   |none=>none
   |some (nu1,out1,low)=>
    match Mu nodes f nu1 out1 (nodes.getD (n - 2).toNat LW).high with
    |none=>none
    |some (nu2,out2,high)=>
     if 1048576≤out2.length then none else
     some (nu2.set (n - 2).toNat ((out2.length:Int)+2),out2++[⟨(nodes.getD (n - 2).toNat LW).var,low,high⟩],(out2.length:Int)+2)
def QD(nodes:List Ah)(root:Int):Option AN:=
 if 1048576<nodes.length then none else
 match Mu nodes 64 (List.replicate nodes.length 0) [] root with
 |none=>none
 |some (_,out,r)=>some ⟨out,r⟩
def IE(a b:AN)(op:Int):Option AN:=
 match atR a b op 64 [] [] a.root b.root with
 |none=>none
 |some (ns,_,r)=>QD ns r
def J1(a:AN):Option AN:=IE a ⟨[],1⟩ 2
def M4(a b:AN):Option AN:=match J1 b with|none=>none|some c=>IE a c 0
def P6(l:List Int)(k:Nat):Bool:=decide (k / 8<l.length)&&(IntKind.u8.wrap (max ((l.getD (k / 8) 0).fdiv (2 ^ (k % 8)) % 256) 0 % 2)==1)
def Hy(l:List Int)(n:Nat):Nat→Nat→Nat→Option AN
 |0,_,_=>none
 |f+1,v,k=>
  if 1048576≤k∨7≤v then none else
  if v=n then some ⟨[],if P6 l k then 1 else 0⟩else
  match Hy l n f (v+1) (k+2 ^ v)with
  |none=>none
  |some d1=>
   match Hy l n f (v+1) k with
   |none=>none
   |some d0=>
    match IE (Ap v) d1 0 with
    |none=>none
    |some e1=>
     match M4 d0 (Ap v)with
     |none=>none
     |some e0=>IE e1 e0 1
theorem MB(d:AN)(n v:Int)(h:Iw d n v=true):Pure prog 204 [AA d,AG n,AG v] (.Bd [AG (EE d n v).1,AG (EE d n v).2]):=by
 simp only[Iw,Bool.and_eq_true,Bool.or_eq_true,decide_eq_true_eq]at h;obtain⟨⟨h1,h2⟩,h3⟩:=h;refine Pure.AI func204 (by kernel_rfl) rfl (by simp) fun wf=>?_;simp[AAY,DM,WFD]at wf;rw[ntmps204];refine xW fun K hK=>?_;simp;apply hK;refine xS (Az fun K hK=>?_);refine xJ ?_;simp;refine Bp (F5 d n h2) rfl (by simp[xN]) ?_;simp;refine xJ ?_;simp;refine Aj (hK _ _ ?_);(try simp only[xQ,reduceIte]);refine AU ?_;simp;refine⟨fun hx=>?_,fun hx=>?_⟩
 ·refine xW fun K hK=>?_;simp;apply hK;refine Ag ⟨_,_,AJ.refl,?_⟩;(try simp);simp[EE,hx]
 ·have h4:2≤n:=by rcases h3 with h3|h3;exact h3;exact absurd hx h3
  have h5:IntKind.i64.wrap (n - 2)=n - 2:=wrap_i64 (by omega) (by omega);have h6:(n - 2).toNat<d.nodes.length:=by omega
  have h7:n - 2<(d.nodes.length:Int):=by omega
  refine xK ?_;(repeat refine xS ?_);refine xE [0,2,4,6,8,10,12,14,16,18,20,22,24,26,28,30] (by kernel_rfl) fun K hK=>?_;simp;refine xA 0 ?_;simp[h5,h6,h7,h4];refine xM (hK _ _ ?_);(try simp only[xQ,reduceIte]);refine Ag ⟨_,_,AJ.refl,?_⟩;(try simp);simp[EE,hx,V5,h6]
theorem Uk(l:List Ah)(b:Ah)(w:Bool)(hl:l.length≤2 ^ 20):AE prog 205 [.row 0 l.length,.d (AX b)] [.row w 3 (l.map fun x=>.d (AX x))] (.Bd [.row 0 (Fc l b).1.length,.d (AG (Fc l b).2)]) [.row (w||decide (l.length<(Fc l b).1.length)) 3 ((Fc l b).1.map fun x=>.d (AX x))]:=by
 have a1:l.length≤maxLen:=by unfold maxLen;omega
 refine AE.AI func205 (by kernel_rfl) rfl (by simp) fun wf _=>?_;rw[ntmps205];refine xW fun K hK=>?_;simp;apply hK;refine xS (xW fun K hK=>?_);simp;apply hK;refine AU ?_;simp;refine⟨fun hx=>?_,fun hx=>?_⟩
 ·have hu:Fc l b=(l,b.low):=by simp[Fc,hx]
  rw[hu];simp only[Nat.lt_irrefl,decide_false,Bool.or_false];(repeat refine xS ?_);refine xE [0,2,4,6,8] (by kernel_rfl) fun K hK=>?_;simp;refine xA 0 ?_;simp;refine xM (hK _ _ ?_);(try simp only[xQ,reduceIte]);refine Ag ?_;(try simp only[xQ,reduceIte]);refine⟨_,AJ.Cy [0] (S0:=[.row w 3 (l.map fun x=>.d (AX x))]) (by simp) (by simp) (by simp),?_⟩;simp[Am,pick]
 ·have vK:¬b.low=b.high:=hx;refine xK ?_;refine xS (xW fun K hK=>?_);simp;apply hK;refine Bw ?_;refine DC l.length (fun i tm S=>tm 0=.row 0 l.length∧tm 3=.ptr 1 1 0 0∧tm 6=.d (.int .i64 i)∧S=[.row w 3 (l.map fun x=>.d (AX x)),.row true 3 [.d (AX b)]]∧∀j (_:j<i) (h:j<l.length),l[j]≠b) (Nat.zero_le _) (by simp) ?_;rintro i tm S hi ⟨t0,t3,t6,rfl,hq⟩;refine xS (xW fun K hK=>?_);simp[t0,t6];apply hK;refine AU ?_;simp;refine⟨fun cx=>?_,fun hO=>?_⟩
  ·refine xK ?_;refine xB ?_;refine xD [0,2,4,6,8,10] (by kernel_rfl) fun K hK=>?_;simp;refine xA 0 ?_;simp[t0,t6,t3,cx,-AAr];refine xM (hK _ _ ?_);refine AU ?_;simp;refine⟨fun hx=>?_,fun hx=>?_⟩
   ·have j1:firstIdx (fun x=>decide (x=b)) l=i:=B8 cx (by simpa using hx) fun j hj=>by simpa using hq j hj (by omega)
    have hw:IntKind.i64.wrap ((i:Int)+2)=i+2:=by rw[IntKind.wrap_i64];omega
    have h0:¬((i:Int)<0):=by omega
    have hu:Fc l b=(l,(i:Int)+2):=by simp[Fc,vK,j1,h0]
    rw[hu];simp only[Nat.lt_irrefl,decide_false,Bool.or_false];refine xW fun K hK=>?_;simp[t0,t6,hw];apply hK;refine Ag ?_;(try simp only[xQ,reduceIte]);refine⟨_,AJ.Cy [0] (S0:=[.row w 3 (l.map fun x=>.d (AX x))]) (by simp) (by simp) (by simp),?_⟩;simp[Am,pick]
   ·refine CC ?_;refine xV fun K hK=>?_;simp[t6];apply hK;refine⟨cx,_,_,AJ.refl,?_⟩;simp[t0,t3,AQ cx a1];intro j hj iV;by_cases e:j=i
    ·subst e;simpa using hx
    ·exact hq j (by omega) iV
  ·have e:i=l.length:=by omega
   subst e;have j1:firstIdx (fun x=>decide (x=b)) l= -1:=firstIdx_none fun j hj=>by simpa using hq j hj hj
   have gm:1≤maxLen:=by unfold maxLen;omega
   have jc:l.length+1≤1073741824:=by omega
   have hw:IntKind.i64.wrap ((l.length:Int)+1+1)=l.length+2:=by rw[IntKind.wrap_i64];omega
   have hu:Fc l b=(l++[b],(l.length:Int)+2):=by simp[Fc,vK,j1]
   rw[hu];simp only[List.length_append,List.length_cons,List.length_nil,Nat.zero_add,Nat.lt_add_one,decide_true,Bool.or_true];refine Cu ?_;refine Az fun K hK=>?_;refine xJ ?_;simp[t0,t3,gm,jc,Af,forall_and];refine Aj (hK _ _ ?_);refine xW fun K hK=>?_;simp[hw];apply hK;refine Ag ?_;(try simp only[xQ,reduceIte]);refine⟨_,AJ.Cy [0] (S0:=[.row true 3 ((l++[b]).map fun x=>.d (AX x))]) (by simp) (by simp) (by simp),?_⟩;simp[Am,pick]
def Ri(a b:AN)(op:Int)(ns:List Ah)(sn:List Seen)(w1 w2:Bool):Sg:=
 [.row true 7 [.agg [.d (AV a.nodes),.d (AG a.root),.d (AV b.nodes),.d (AG b.root),.d (AG op),.row 1 ns.length,.row 2 sn.length]],.row w1 3 (ns.map fun x=>.d (AX x)),.row w2 3 (sn.map fun x=>.d (Ff x))]
theorem Ry(a b:AN)(op:Int)(ns:List Ah)(sn:List Seen)(w1 w2:Bool)(x y:Int)(hx:0≤x∧x<2)(hy:0≤y∧y<2):AE prog 202 [.ptr 0 1 0 0,.d (AG x),.d (AG y)] (Ri a b op ns sn w1 w2) (.d (AG (KU op x y))) (Ri a b op ns sn w1 w2):=by
 have h1:IntKind.i64.wrap (x * y)=x * y:=by
  have:x=0∨x=1:=by omega
  rcases this with rfl|rfl<;>simp[IntKind.wrap_i64]<;>omega
 have h2:IntKind.i64.wrap (x+y)=x+y:=by rw[IntKind.wrap_i64];omega
 have h3:IntKind.i64.wrap ((x+y).tmod 2)=(x+y).tmod 2:=by
  have:x=0∨x=1:=by omega
  have:y=0∨y=1:=by omega
  rcases ‹x=0∨x=1› with e|e<;>rcases this with e'|e'<;>rw[e,e']<;>decide
 refine AE.AI func202 (by kernel_rfl) rfl (by simp) fun wf _=>?_;rw[ntmps202];unfold Ri;refine xW fun K hK=>?_;simp;apply hK;refine xS (xW fun K hK=>?_);simp;apply hK;refine Bw ?_;refine xW fun K hK=>?_;simp;apply hK;refine AU ?_;simp;refine⟨fun hx=>?_,fun hx=>?_⟩
 ·refine xW fun K hK=>?_;simp[h1];apply hK;refine Ag ?_;(try simp only[xQ,reduceIte]);refine⟨_,AJ.refl,?_⟩;simp[Am,KU,hx]
 ·refine xW fun K hK=>?_;simp;apply hK;refine AU ?_;simp;refine⟨fun mU=>?_,fun mU=>?_⟩
  ·refine xW fun K hK=>?_;simp;apply hK;refine Ag ?_;(try simp only[xQ,reduceIte]);refine⟨_,AJ.refl,?_⟩;simp[Am,KU,mU];split<;>omega
  ·refine CC ?_;refine xW fun K hK=>?_;simp[h2];apply hK;refine Ag ?_;(try simp only[xQ,reduceIte]);refine⟨_,AJ.refl,?_⟩;simp[Am,KU,hx,mU]
open Go.Proofs Tryz
theorem ag(a b:AN)(op:Int):∀(f:Nat) (ns:List Ah) (sn:List Seen) (x y:Int) (w1 w2:Bool) (res:List Ah×List Seen×Int),atR a b op f ns sn x y=some res→∃w1' w2',AE prog 168 [.ptr 0 1 0 0,.d (AG x),.d (AG y)] (Ri a b op ns sn w1 w2) (.d (AG res.2.2)) (Ri a b op res.1 res.2.1 w1' w2'):=by
 intro f;induction f with
 |zero=>intro ns sn x y w1 w2 res h;simp[atR]at h
 |succ f ih=>
  intro ns sn x y w1 w2 res h;unfold atR at h;by_cases hc:x<2∧y<2
  ·rw[if_pos hc]at h;split at h
   ·rename_i h0;cases h;refine⟨w1,w2,?_⟩;have hk:=Ry a b op ns sn w1 w2 x y ⟨h0.1,hc.1⟩ ⟨h0.2,hc.2⟩;refine AE.AI func168 (by kernel_rfl) rfl (by simp) fun wf _=>?_;rw[ntmps168];refine xW fun K hK=>?_;simp;apply hK;refine xS (xW fun K hK=>?_);simp[hc];apply hK;refine AU ?_;simp;(repeat refine xS ?_);refine BX fun K hK=>?_;refine xJ ?_;simp;refine AS.call rfl rfl (by simp) (f:=202) (args:=[.ptr 0 1 0 0,.d (AG x),.d (AG y)]) (by simp[callee];try rfl) (by simp) hk ?_;simp;refine xJ ?_;simp;refine Aj (hK _ _ ?_);(try simp only[xQ,reduceIte]);refine Ag ?_;(try simp only[xQ,reduceIte]);refine⟨_,AJ.refl,?_⟩;simp[Am]
   ·cases h
  ·rw[if_neg hc]at h;have my:(decide (x<2)&&decide (y<2))=false:=by simpa using hc
   by_cases hs:0≤seenAt sn x y
   ·rw[if_pos hs]at h;cases h;refine⟨w1,w2,?_⟩;refine AE.AI func168 (by kernel_rfl) rfl (by simp) fun wf wb=>?_;have a1:sn.length≤maxLen:=by have:=wb.2.2.1.1;simpa using this
    rw[ntmps168];refine xW fun K hK=>?_;simp;apply hK;refine xS (xW fun K hK=>?_);simp;apply hK;(repeat refine xS ?_);refine AW.BD (t:=decide (x<2)&&decide (y<2)) ?_ (fun hb=>?_) (fun hb=>?_)
    ·simp
    ·rw[my]at hb;cases hb
    refine xK ?_;refine xS (xW fun K hK=>?_);simp;apply hK;refine Bw ?_;refine DC sn.length (fun i tm S=>tm 0=.ptr 0 1 0 0∧tm 1=.d (AG x)∧tm 2=.d (AG y)∧tm 7=.d (.int .i64 i)∧S=Ri a b op ns sn w1 w2∧∀j (_:j<i) (h:j<sn.length),¬(sn[j].x=x∧sn[j].y=y)) (Nat.zero_le _) (by simp) ?_;rintro i tm S hi ⟨t0,t1,t2,t7,rfl,hq⟩;unfold Ri;refine xS (xW fun K hK=>?_);simp[t0,t7];apply hK;refine AU ?_;simp;refine⟨fun cx=>?_,fun hO=>?_⟩
    ·refine xK ?_;refine xB ?_;refine xW fun K hK=>?_;simp[t0,t1,t2,t7,cx];apply hK;(repeat refine xS ?_);refine AW.BD (t:=decide (sn[i].x=x)&&decide (sn[i].y=y)) ?_ (fun hb=>?_) (fun hb=>?_)
     ·simp;rw[Bool.eq_iff_iff];simp
     ·(repeat refine xS ?_);refine xV fun K hK=>?_;simp[t0,t7,cx];refine hK _ _ ?_;(try simp only[xQ,reduceIte]);have j1:seenAt sn x y=i:=B8 cx hb fun j hj=>by simpa using hq j hj (by omega)
      refine Ag ?_;(try simp only[xQ,reduceIte]);refine⟨_,AJ.refl,?_⟩;simp[Am,j1,cx]
     ·refine CC ?_;refine xV fun K hK=>?_;simp[t7];apply hK;refine⟨cx,_,_,AJ.refl,?_⟩;simp[t0,t1,t2,AQ cx a1];intro j hj iV;by_cases e:j=i
      ·subst e;simpa using hb
      ·simpa using hq j (by omega) iV
    ·have j1:seenAt sn x y= -1:=firstIdx_none fun j hj=>by simpa using hq j (by omega) hj
     omega
   ·rw[if_neg hs]at h;split at h
    ·rename_i rn;simp only[Bool.and_eq_true]at rn;obtain⟨pj,pz⟩:=rn;have mX:(if b.level y<a.level x then b.level y else a.level x)=min (a.level x) (b.level y):=by split<;>omega
     generalize hv:min (a.level x) (b.level y)=v at *;cases e1:atR a b op f ns sn (EE a x v).1 (EE b y v).1 with
     |none=>simp[e1]at h
     |some r1=>
      obtain⟨ns1,sn1,low⟩:=r1;simp only[e1]at h;cases e2:atR a b op f ns1 sn1 (EE a x v).2 (EE b y v).2 with
      |none=>simp[e2]at h
      |some r2=>
       obtain⟨ns2,sn2,high⟩:=r2;simp only[e2]at h;split at h
       ·cases h
       ·rename_i gp;cases h;obtain⟨u1,u2,k1⟩:=ih _ _ _ _ w1 w2 _ e1;obtain⟨v1,v2,k2⟩:=ih _ _ _ _ u1 u2 _ e2;have rS:x<2+a.nodes.length:=by simp only[Iw,Bool.and_eq_true,decide_eq_true_eq]at pj;exact pj.1.2
        have xc:y<2+b.nodes.length:=by simp only[Iw,Bool.and_eq_true,decide_eq_true_eq]at pz;exact pz.1.2
        have l1:=F5 a x rS;have l2:=F5 b y xc;have s1:=MB a x v pj;have s2:=MB b y v pz;have q1:=Uk ns2 ⟨v,low,high⟩ v1 (by omega);have n2:sn2.length+1≤1073741824:=by omega
        have gm:1≤maxLen:=by unfold maxLen;omega
        generalize hU:Fc ns2 ⟨v,low,high⟩=U at *;obtain⟨ns3,r⟩:=U;simp only[]at q1⊢;generalize EE a x v=sa at *;generalize EE b y v=sb at *;obtain⟨sa1,sa2⟩:=sa;obtain⟨sb1,sb2⟩:=sb;have q2:=q1.Ei (args':=[.row 0 ns2.length,.agg [.d (AG v),.d (AG low),.d (AG high)]]) rfl fun i h h'=>by
         match i,h with
         |0,_=>exact .inl rfl
         |1,_=>exact .inr ⟨AX ⟨v,low,high⟩,by simp[asD,AX],rfl⟩
        refine⟨v1||decide (ns2.length<ns3.length),true,?_⟩;refine AE.AI func168 (by kernel_rfl) rfl (by simp) fun wf wb=>?_;have a1:sn.length≤maxLen:=by have:=wb.2.2.1.1;simpa using this
        rw[ntmps168];refine xW fun K hK=>?_;simp;apply hK;refine xS (xW fun K hK=>?_);simp;apply hK;(repeat refine xS ?_);refine AW.BD (t:=decide (x<2)&&decide (y<2)) ?_ (fun hb=>?_) (fun hb=>?_)
        ·simp
        ·rw[my]at hb;cases hb
        refine xK ?_;refine xS (xW fun K hK=>?_);simp;apply hK;refine Bw ?_;refine DC sn.length (fun i tm S=>tm 0=.ptr 0 1 0 0∧tm 1=.d (AG x)∧tm 2=.d (AG y)∧tm 7=.d (.int .i64 i)∧S=Ri a b op ns sn w1 w2) (Nat.zero_le _) (by simp) ?_;rintro i tm S hi ⟨t0,t1,t2,t7,rfl⟩;unfold Ri;refine xS (xW fun K hK=>?_);simp[t0,t7];apply hK;refine AU ?_;simp;refine⟨fun cx=>?_,fun hO=>?_⟩
        ·refine xK ?_;refine xB ?_;refine xW fun K hK=>?_;simp[t0,t1,t2,t7,cx];apply hK;(repeat refine xS ?_);refine AW.BD (t:=decide (sn[i].x=x)&&decide (sn[i].y=y)) ?_ (fun hb=>?_) (fun hb=>?_)
         ·simp;rw[Bool.eq_iff_iff];simp
         ·have:sn.any (fun t=>decide (t.x=x)&&decide (t.y=y))=true:=List.any_eq_true.2 ⟨_,List.getElem_mem cx,hb⟩;rw[←CR]at this;exact absurd (show 0≤seenAt sn x y from of_decide_eq_true this) hs
         ·refine CC ?_;refine xV fun K hK=>?_;simp[t7];apply hK;refine⟨cx,_,_,AJ.refl,?_⟩;simp[t0,t1,t2,AQ cx a1]
        ·refine Cu ?_;refine xD [0,2,4,6,8,10,12,14,16,18,20,22,24,26] (by kernel_rfl) fun K hK=>?_;simp;refine xA 0 ?_;simp[t0,t1];refine Ae.CA (l1) rfl (by simp[xN]) ?_;simp;refine xA 0 ?_;simp[t0,t2];refine Ae.CA (l2) rfl (by simp[xN]) ?_;simp;refine xA 0 ?_;simp[mX];refine xM (hK _ _ ?_);refine Az fun K hK=>?_;refine xJ ?_;simp[t0,t1];refine Bp (s1) rfl (by simp[xN]) ?_;simp;refine xJ ?_;simp;refine Aj (hK _ _ ?_);(repeat refine xS ?_);refine BX fun K hK=>?_;refine xJ ?_;simp[t0,t2];refine Bp (s2) rfl (by simp[xN]) ?_;simp;refine xJ ?_;simp;refine Aj (hK _ _ ?_);(try simp only[xQ,reduceIte]);unfold Ri at k1 k2;refine Az fun K hK=>?_;refine xJ ?_;simp[t0];refine AS.call rfl rfl (by simp) (f:=168) (args:=[.ptr 0 1 0 0,.d (AG sa1),.d (AG sb1)]) (by simp[callee];try rfl) (by simp) k1 ?_;simp;refine xJ ?_;simp;refine Aj (hK _ _ ?_);refine Az fun K hK=>?_;refine xJ ?_;simp[t0];refine AS.call rfl rfl (by simp) (f:=168) (args:=[.ptr 0 1 0 0,.d (AG sa2),.d (AG sb2)]) (by simp[callee];try rfl) (by simp) k2 ?_;simp;refine xJ ?_;simp;refine Aj (hK _ _ ?_);refine Az fun K hK=>?_;refine xJ ?_;simp[t0];refine xF (q2) [1] rfl ?_;simp;refine xJ ?_;simp;refine Aj (hK _ _ ?_);refine xW fun K hK=>?_;simp[t0];apply hK;refine Az fun K hK=>?_;refine xJ ?_;simp[t0,t1,t2,gm,n2,Af,forall_and];refine Aj (hK _ _ ?_);refine xW fun K hK=>?_;simp;apply hK;refine Ag ?_;(try simp only[xQ,reduceIte]);refine⟨_,AJ.refl,?_⟩;simp[Am]
    ·cases h
open Go.Proofs Tryz
def Q4(nodes:List Ah)(nu:List Int)(out:List Ah)(w:Bool):Sg:=
 [.row true 3 [.agg [.d (AV nodes),.row 1 nu.length,.row 2 out.length]],.row true 1 (nu.map fun x=>.d (AG x)),.row w 3 (out.map fun x=>.d (AX x))]
theorem Yh(nodes:List Ah):∀(f:Nat) (nu:List Int) (out:List Ah) (n:Int) (w:Bool) (res:List Int×List Ah×Int),Mu nodes f nu out n=some res→nu.length=nodes.length→(∃w',AE prog 206 [.ptr 0 1 0 0,.d (AG n)] (Q4 nodes nu out w) (.d (AG res.2.2)) (Q4 nodes res.1 res.2.1 w'))∧res.1.length=nodes.length:=by
 intro f;induction f with
 |zero=>intro nu out n w res h;simp[Mu]at h
 |succ f ih=>
  intro nu out n w res h mf;unfold Mu at h;by_cases hc:n<2
  ·rw[if_pos hc]at h;cases h;refine⟨⟨w,?_⟩,mf⟩;refine AE.AI func206 (by kernel_rfl) rfl (by simp) fun wf _=>?_;rw[ntmps206];refine xW fun K hK=>?_;simp;apply hK;refine xS (xW fun K hK=>?_);simp[hc];apply hK;refine AU ?_;simp;refine xW fun K hK=>?_;simp;apply hK;refine Ag ?_;(try simp only[xQ,reduceIte]);refine⟨_,AJ.refl,?_⟩;simp[Am]
  ·rw[if_neg hc]at h;have kO:2≤n:=by omega
   cases hk:nu[(n - 2).toNat]? with
   |none=>simp[hk]at h
   |some k=>
    simp only[hk]at h;obtain⟨iX,pa⟩:=List.getElem?_eq_some_iff.1 hk;obtain⟨m,rfl⟩:∃m:Nat,n=m+2:=⟨(n - 2).toNat,by omega⟩;have e2:((m:Int)+2 - 2).toNat=m:=by omega
    have e3:(m:Int)+2 - 2=m:=by omega
    rw[e2]at iX;simp only[e2]at h pa;have kI:m<nodes.length:=by omega
    have my:¬(m:Int)+2<2:=by omega
    by_cases hs:0<k
    ·rw[if_pos hs]at h;cases h;refine⟨⟨w,?_⟩,mf⟩;refine AE.AI func206 (by kernel_rfl) rfl (by simp) fun wf _=>?_;have hw:IntKind.i64.wrap (m:Int)=m:=by
      have:=wf.2.1;simp[WFV,WFD,rng]at this;rw[IntKind.wrap_i64];omega
     rw[ntmps206];unfold Q4;refine xW fun K hK=>?_;simp;apply hK;refine xS (xW fun K hK=>?_);simp;apply hK;refine AU ?_;simp[my];refine xK ?_;refine xS (xW fun K hK=>?_);simp[hw,iX,pa];apply hK;refine AU ?_;simp[hs];refine xW fun K hK=>?_;simp[hw,iX,pa];apply hK;refine Ag ?_;(try simp only[xQ,reduceIte]);refine⟨_,AJ.refl,?_⟩;simp[Am]
    ·rw[if_neg hs]at h;have jn:nodes.getD m LW=nodes[m]:=by simp[kI]
     rw[jn]at h;cases e1:Mu nodes f nu out nodes[m].low with
     |none=>simp[e1]at h
     |some r1=>
      obtain⟨nu1,out1,low⟩:=r1;simp only[e1]at h;cases e4:Mu nodes f nu1 out1 nodes[m].high with
      |none=>simp[e4]at h
      |some r2=>
       obtain⟨nu2,out2,high⟩:=r2;simp only[e4]at h;split at h
       ·cases h
       ·rename_i gp;cases h;obtain⟨⟨u1,k1⟩,jc⟩:=ih _ _ _ w _ e1 mf;obtain⟨⟨u2,k2⟩,jT⟩:=ih _ _ _ u1 _ e4 jc;simp only[]at jc jT k1 k2;refine⟨⟨true,?_⟩,by simpa using jT⟩;have n2:out2.length+1≤1073741824:=by omega
        have gm:1≤maxLen:=by unfold maxLen;omega
        have lz:m<nu2.length:=by omega
        have jm:IntKind.i64.wrap ((out2.length:Int)+1+1)=out2.length+2:=by rw[IntKind.wrap_i64];omega
        generalize hb:nodes[m]=b at *;unfold Q4 at k1 k2;refine AE.AI func206 (by kernel_rfl) rfl (by simp) fun wf _=>?_;have hw:IntKind.i64.wrap (m:Int)=m:=by
         have:=wf.2.1;simp[WFV,WFD,rng]at this;rw[IntKind.wrap_i64];omega
        rw[ntmps206];unfold Q4;refine xW fun K hK=>?_;simp;apply hK;refine xS (xW fun K hK=>?_);simp;apply hK;refine AU ?_;simp[my];refine xK ?_;refine xS (xW fun K hK=>?_);simp[hw,iX,pa];apply hK;refine AU ?_;simp[hs];refine xK ?_;refine xW fun K hK=>?_;simp[hw,kI,hb];apply hK;refine Az fun K hK=>?_;refine xJ ?_;simp;refine xF (k1) [0,1,2] rfl ?_;simp;refine xJ ?_;simp;refine Aj (hK _ _ ?_);refine Az fun K hK=>?_;refine xJ ?_;simp;refine xF (k2) [0,1,2] rfl ?_;simp;refine xJ ?_;simp;refine Aj (hK _ _ ?_);refine xD [0,2,4,6,8,10,12,14,16,18,20,23,24,26,29] (by kernel_rfl) fun K hK=>?_;simp;refine xA 1 ?_;simp[gm];refine xX 65 (by kernel_rfl) ?_;simp[AR,n2,gm,Af,forall_and];refine xA 1 ?_;simp;refine xX 2045 (by kernel_rfl) ?_;simp[AR];refine xM (hK _ _ ?_);refine xD [0,2,4,6,8,10,12,14,16,18,20,22,24,27] (by kernel_rfl) fun K hK=>?_;simp;refine xA 1 ?_;simp[hw,lz,jm];refine xX 8191 (by kernel_rfl) ?_;simp[AR,hw,lz,jm];refine xM (hK _ _ ?_);refine xW fun K hK=>?_;simp[jm];apply hK;refine Ag ?_;(try simp only[xQ,reduceIte]);have qQ:(List.map (fun x=>V.d (D.int .i64 x)) nu2).set m (V.d (D.int .i64 ((out2.length:Int)+2)))=List.map (fun x=>V.d (D.int .i64 x)) (nu2.set m ((out2.length:Int)+2)):=by simp[List.map_set]
        rw[qQ];generalize nu2.set m _=nu3;refine⟨_,AJ.Cy [0,1,2] (by simp[AX]) (by simp) rfl,?_⟩;simp[Am,pick]
open Go.Proofs Tryz
@[simp] theorem bh(f:Nat→Nat)(n:Nat)(d:D):AAa f (List.replicate n (V.d d))=List.replicate n (V.d d):=by
 induction n with
 |zero=>rfl
 |succ n ih=>simp[List.replicate_succ,AAa,AAO,ih]
@[simp] theorem Yl(k n:Nat)(d:D):AAI k (List.replicate n (V.d d))=true:=by
 induction n with
 |zero=>rfl
 |succ n ih=>simp[List.replicate_succ,AAI,AAB,ih]
theorem Nz(nodes:List Ah)(root:Int)(d:AN)(h:QD nodes root=some d):Pure prog 169 [AV nodes,AG root] (AA d):=by
 unfold QD at h;split at h
 ·cases h
 rename_i mf;have kO:(nodes.length:Int)≤1073741824:=by omega
 cases e1:Mu nodes 64 (List.replicate nodes.length 0) [] root with
 |none=>simp[e1]at h
 |some r1=>
  obtain⟨nu1,out1,r⟩:=r1;simp only[e1]at h;cases h;obtain⟨⟨w',k1⟩,_⟩:=Yh nodes 64 (List.replicate nodes.length 0) [] root false _ e1 (by simp);simp only[]at k1;unfold Q4 at k1;simp at k1;refine Pure.AI func169 (by kernel_rfl) rfl (by simp) fun wf=>?_;rw[ntmps169];refine xW fun K hK=>?_;simp;apply hK;refine xW fun K hK=>?_;simp[kO];apply hK;refine AW.ghost (AJ.Lb 2 0 2 3 (xs:=[]) rfl rfl rfl) ?_;simp;refine Az fun K hK=>?_;refine xJ ?_;simp;refine xF (k1) [2,1,3] rfl ?_;simp;refine xJ ?_;simp;refine Aj (hK _ _ ?_);refine xW fun K hK=>?_;simp;apply hK;refine Ag ?_;(try simp only[xQ,reduceIte]);refine⟨_,_,AJ.B6 3 (xs:=out1.map AX) rfl (by simp),?_⟩;simp[asD,AA]
theorem Kv(a b:AN)(op:Int)(d:AN)(h:IE a b op=some d):Pure prog 137 [AA a,AA b,AG op] (AA d):=by
 unfold IE at h;cases e1:atR a b op 64 [] [] a.root b.root with
 |none=>simp[e1]at h
 |some r1=>
  obtain⟨ns,sn,r⟩:=r1;simp only[e1]at h;obtain⟨w1,w2,k1⟩:=ag a b op 64 [] [] a.root b.root false false _ e1;simp only[]at k1;unfold Ri at k1;simp at k1;have uy:=Nz ns r d h;refine Pure.AI func137 (by kernel_rfl) rfl (by simp) fun wf=>?_;rw[ntmps137];refine xW fun K hK=>?_;simp;apply hK;refine xW fun K hK=>?_;simp[AA];apply hK;refine AW.ghost (AJ.Lb 3 0 5 3 (xs:=[]) rfl rfl rfl) ?_;simp;refine AW.ghost (AJ.Lb 3 0 6 3 (xs:=[]) rfl rfl rfl) ?_;simp;refine Az fun K hK=>?_;refine xJ ?_;simp;refine xF (k1) [3,4,5] rfl ?_;simp;refine xJ ?_;simp;refine Aj (hK _ _ ?_);refine AW.ghost (AJ.B6 4 (xs:=ns.map AX) rfl (by simp)) ?_;simp;(repeat refine xS ?_);refine BX fun K hK=>?_;refine xJ ?_;simp;refine Bp (uy) rfl (by simp) ?_;simp;refine xJ ?_;simp;refine Aj (hK _ _ ?_);(try simp only[xQ,reduceIte]);refine Ag ⟨_,_,AJ.refl,?_⟩;try simp
end Go.Koi
