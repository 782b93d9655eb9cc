/-
  Part 29 of the proof that the law ChangeRenames of the package koinelaw31 returns true for every input.
-/
import Derived.Test.YtknmpedpidhhbaaGreatDoorK27
set_option maxHeartbeats 64000000
set_option maxRecDepth 100000
namespace Go.Koi
open Go.Proofs Tryz DT
def Bh(p:Int):Cw:=⟨-1,p,-1,ByteArray.empty⟩
def Dk(i:Int):Cw:=⟨i,-1,-1,ByteArray.empty⟩
theorem H6(p:Int):Pure prog 142 [AG p] (A1 (Bh p)):=by
 refine Pure.AI func142 (by kernel_rfl) rfl (by simp) fun wf=>?_;rw[ntmps142];refine xW fun K hK=>?_;simp;apply hK;refine xW fun K hK=>?_;simp;apply hK;refine Ag ?_;(try simp only[xQ,reduceIte]);refine⟨_,_,AJ.refl,?_⟩;simp[Bh,A1]
def Cg(a:Nat):Nat→List Cw
 |0=>[]
 |k+1=>Cg a k++[Dk ((a+k:Nat):Int)]
theorem C2(a k:Nat):(Cg a k).length=k:=by
 induction k with
 |zero=>rfl
 |succ k ih=>simp[Cg,ih]
theorem Gv(xs:List Cw)(w:Bool)(a k:Nat)(h:xs.length+k≤2 ^ 30)(ha:a+k≤2 ^ 31):
  AE prog 141 [.row 0 xs.length,.d (AG a),.d (AG (a+k:Nat))] [.row w 4 (xs.map fun t=>.d (A1 t))] (.row 0 (xs.length+k)) [.row (w||decide (0<k)) 4 ((xs++Cg a k).map fun t=>.d (A1 t))]:=by
 refine AE.AI func141 (by kernel_rfl) rfl (by simp) fun wf _=>?_;rw[ntmps141];refine xW fun K hK=>?_;simp;apply hK;refine xS (xW fun K hK=>?_);simp;apply hK;refine Bw ?_;refine DC k (fun i tm S=>tm 0=.row 0 (xs.length+i)∧tm 2=.d (AG (a+k:Nat))∧tm 7=.d (AG (a+i:Nat))∧S=[.row (w||decide (0<i)) 4 ((xs++Cg a i).map fun t=>.d (A1 t))]) (Nat.zero_le _) (by simp[Cg]) ?_;rintro i tm S hi ⟨t0,t2,t7,rfl⟩;refine xS (xW fun K hK=>?_);simp[t2,t7];apply hK;refine AU ?_;simp;refine⟨fun hlt=>?_,fun hge=>?_⟩
 ·have hlt:i<k:=by omega
  have hw:IntKind.i64.wrap ((a:Int)+i+1)=(a:Int)+(i+1):=by rw[IntKind.wrap_i64];omega
  have hl1:xs.length+i+1≤1073741824:=by omega
  have h1m:1≤maxLen:=by unfold maxLen;omega
  have hhl:=C2 a i;refine xK ?_;refine xB ?_;refine BX fun K hK=>?_;refine xJ ?_;simp[t0,t7,h1m,hl1,Af,hhl,or_imp,forall_and];refine Aj (hK _ _ ?_);refine xV fun K hK=>?_;simp[t7,hw];apply hK;refine⟨hlt,_,_,AJ.refl,?_⟩;simp[t2,Cg,Nat.add_assoc,A1,Dk]
 ·have e:i=k:=by omega
  subst e;refine Cu ?_;refine xW fun K hK=>?_;simp[t0];apply hK;refine Ag ?_;(try simp only[xQ,reduceIte]);refine⟨_,AJ.refl,?_⟩;simp[Am]
theorem MQ{S:Sg}{r q k:Nat}{g:AF}{x:AAC}{h0 h1 h2 h3 h4 h6 h7 h8 m:V}{lg w:Bool}{els:List V}(hb:S[r]?=some (.row true 51 [bV g x h0 h1 h2 h3 h4 (.row q k) h6 h7 h8 m lg]))(hq:S[q]?=some (.row w 13 els))(hl:els.length=k)(hk:k+1≤2 ^ 30)(hz:Af 13 els)(p:AT)
  (hs:((S.set q (.row true 13 (els++[.d (AH p)]))).set r (.row true 51 [bV g x h0 h1 h2 h3 h4 (.row q (k+1)) h6 h7 h8 m lg])).all (AAE S.length)=true):
  AE prog 140 [.ptr r 1 0 0,.d (AH p)] S (.d (AG k)) ((S.set q (.row true 13 (els++[.d (AH p)]))).set r (.row true 51 [bV g x h0 h1 h2 h3 h4 (.row q (k+1)) h6 h7 h8 m lg])):=by
 unfold bV at hb hs⊢;have hr:=AZ hb;have hql:=AZ hq;have hqr:q≠r:=fun e=>by subst e;rw[hb]at hq;cases hq
 have hb':∀T,(S++T)[r]?=_:=fun T=>(List.getElem?_append_left hr).trans hb;have hq':∀T,(S++T)[q]?=_:=fun T=>(List.getElem?_append_left hql).trans hq;have hst:∀T o,(S++T).set r o=S.set r o++T:=fun T o=>List.set_append_left _ _ hr;have hsq:∀T o,(S++T).set q o=S.set q o++T:=fun T o=>List.set_append_left _ _ hql;have hlen:∀o,(S.set q o).length=S.length:=fun o=>List.length_set;have hst2:∀T o o',(S.set q o++T).set r o'=(S.set q o).set r o'++T:=fun T o o'=>List.set_append_left _ _ (by rw[hlen];exact hr);have hb2:∀T o,(S.set q o++T)[r]?=_:=fun T o=>((List.getElem?_append_left (by rw[hlen];exact hr)).trans (List.getElem?_set_ne hqr)).trans hb;have hb3:∀T o o',((S.set q o).set r o'++T)[r]?=some o':=fun T o o'=>(List.getElem?_append_left (by rw[List.length_set,hlen];exact hr)).trans (List.getElem?_set_self (by rw[hlen];exact hr));have hq3:∀T o o',((S.set q o).set r o'++T)[q]?=some o:=fun T o o'=>(List.getElem?_append_left (by rw[List.length_set,hlen];exact hql)).trans ((List.getElem?_set_ne (Ne.symm hqr)).trans (List.getElem?_set_self hql));have henc:=AH.eq_1 p;have h1m:1≤maxLen:=by unfold maxLen;omega
 have hk':k+1≤1073741824:=by omega
 have hw:IntKind.i64.wrap (k:Int)=k:=by rw[IntKind.wrap_i64];omega
 have hz':(∀y,y∈els→(AAD y).length=13∧(Ar y=true∨AAV y=true))↔True:=iff_true_intro (by simpa[Af]using hz);subst hl;refine AE.B9 func140 (by kernel_rfl) rfl (by simp) fun wf _=>?_;rw[ntmps140];refine xW fun K hK=>?_;simp[henc];apply hK;refine xD [0,2,4,6,8,10,12,14,17,18,20,22,25] (by kernel_rfl) fun K hK=>?_;simp;refine xA 1 ?_;simp[hb',h1m];refine xX 5 (by kernel_rfl) ?_;simp[hb',hq',hb2,AR,hsq,hk',hz',Af,h1m];refine xA 1 ?_;simp[hb2];refine xX 505 (by kernel_rfl) ?_;simp[hb2,hb3,AR,hst2];refine xM (hK _ _ ?_);(repeat refine xS ?_);refine BX fun K hK=>?_;refine xJ ?_;simp[hb3,hq3,hw];refine Aj (hK _ _ ?_);(try simp only[]);refine Ag ?_;(try simp only[xQ,reduceIte]);refine⟨_,_,_,AJ.refl,?_,?_,AJ.AY S.length (by simp[hlen,henc]) (Nat.le_refl _) (by simp[hlen]) (by simpa[hlen,henc]using hs)⟩
 ·simp
 ·simp
theorem NI{S:Sg}{r q k:Nat}{g:AF}{x:AAC}{h0 h1 h2 h3 h5 h6 h7 h8 m:V}{lg w:Bool}{els:List V}(hb:S[r]?=some (.row true 51 [bV g x h0 h1 h2 h3 (.row q k) h5 h6 h7 h8 m lg]))(hq:S[q]?=some (.row w 1 els))(hl:els.length=k)(hk:k+1≤2 ^ 30)(hz:Af 1 els)
  (hs:((S.set q (.row true 1 (els++[.d (Ba x.name)]))).set r (.row true 51 [bV g x h0 h1 h2 h3 (.row q (k+1)) h5 h6 h7 h8 m lg])).all (AAE S.length)=true):
  AE prog 143 [.ptr r 1 0 0] S (.d (AL ⟨false,k⟩)) ((S.set q (.row true 1 (els++[.d (Ba x.name)]))).set r (.row true 51 [bV g x h0 h1 h2 h3 (.row q (k+1)) h5 h6 h7 h8 m lg])):=by
 unfold bV at hb hs⊢;have hr:=AZ hb;have hql:=AZ hq;have hqr:q≠r:=fun e=>by subst e;rw[hb]at hq;cases hq
 have hb':∀T,(S++T)[r]?=_:=fun T=>(List.getElem?_append_left hr).trans hb;have hq':∀T,(S++T)[q]?=_:=fun T=>(List.getElem?_append_left hql).trans hq;have hst:∀T o,(S++T).set r o=S.set r o++T:=fun T o=>List.set_append_left _ _ hr;have hsq:∀T o,(S++T).set q o=S.set q o++T:=fun T o=>List.set_append_left _ _ hql;have hlen:∀o,(S.set q o).length=S.length:=fun o=>List.length_set;have hst2:∀T o o',(S.set q o++T).set r o'=(S.set q o).set r o'++T:=fun T o o'=>List.set_append_left _ _ (by rw[hlen];exact hr);have hb2:∀T o,(S.set q o++T)[r]?=_:=fun T o=>((List.getElem?_append_left (by rw[hlen];exact hr)).trans (List.getElem?_set_ne hqr)).trans hb;have hb3:∀T o o',((S.set q o).set r o'++T)[r]?=some o':=fun T o o'=>(List.getElem?_append_left (by rw[List.length_set,hlen];exact hr)).trans (List.getElem?_set_self (by rw[hlen];exact hr));have hq3:∀T o o',((S.set q o).set r o'++T)[q]?=some o:=fun T o o'=>(List.getElem?_append_left (by rw[List.length_set,hlen];exact hql)).trans ((List.getElem?_set_ne (Ne.symm hqr)).trans (List.getElem?_set_self hql));have h1m:1≤maxLen:=by unfold maxLen;omega
 have hk':k+1≤1073741824:=by omega
 have hw:IntKind.i64.wrap (k:Int)=k:=by rw[IntKind.wrap_i64];omega
 have hz':(∀y,y∈els→(AAD y).length=1∧(Ar y=true∨AAV y=true))↔True:=iff_true_intro (by simpa[Af]using hz);subst hl;refine AE.B9 func143 (by kernel_rfl) rfl (by simp) fun wf _=>?_;rw[ntmps143];refine xW fun K hK=>?_;simp;apply hK;refine xD [0,2,4,6,8,10,12,14,16,18,20,22,25,26,28,30,33] (by kernel_rfl) fun K hK=>?_;simp;refine xA 1 ?_;simp[hb',h1m];refine xX 65 (by kernel_rfl) ?_;simp[hb',hq',hb2,AR,hsq,hk',hz',Af,h1m];refine xA 1 ?_;simp[hb2];refine xX 8185 (by kernel_rfl) ?_;simp[hb2,hb3,AR,hst2];refine xM (hK _ _ ?_);(repeat refine xS ?_);refine BX fun K hK=>?_;refine xJ ?_;simp[hb3,hq3,hw];refine Aj (hK _ _ ?_);(try simp only[]);refine Ag ?_;(try simp only[xQ,reduceIte]);refine⟨_,_,_,AJ.refl,?_,?_,AJ.AY S.length (by simp[hlen]) (Nat.le_refl _) (by simp[hlen]) (by simpa[hlen]using hs)⟩
 ·simp
 ·simp[AL]
open Go.Proofs Tryz DT
section
variable {P:Program} {n b:Nat} {ops:Array Oper} {o:Oper} {tm:Tm} {S S':Sg} {K:Tm→Sg→Prop} {v:V}
theorem Ae.Yq{B:List (Nat×(Sg→Prop))}{i:Nat}{rest:List (Nat×Bool×Oper)}{c:Call}{f:FuncId}{args:List V}(ws:List Bool)(h:AE P f args S v S')(hws:B.map (fun p=>waits ops i p.1)=ws)(ho:o.op=.call c)
  (hp:o.guard=none∧A6 n o.dst∧A5 tm c∧callee tm c=some (f,args)∧okB ws B S S') (h2:Ae P n b ops (AA1 ws B) rest (put tm o.dst v) S' K):Ae P n b ops B ((i,false,o)::rest) tm S K:=by
 obtain⟨h3,h4,h5,h6,h7⟩:=hp;exact Ae.Z5 ws hws (fun hi=>A7.call hi ho h3 h4 h6 h5 h) h7 h2
end
def Yo(g:AF)(x:AAC):AT:={F1 with name:=x.name,left:=g.BC.length,right:=((CL g x).right.take x.to.toNat).drop x.at_.toNat,cond:=(CL g x).cond}
def Yz(g:AF)(x:AAC):List Symbol:=(CL g x).right.take x.at_.toNat++[⟨false,g.BC.length⟩]++(CL g x).right.drop x.to.toNat
def Yt(g:AF)(x:AAC):List Cw:=([Bh x.number]++Cg 0 x.at_.toNat)++[Bh g.AD.length]++Cg x.at_.toNat ((CL g x).right.length - x.at_.toNat)
def Vu(g:AF)(x:AAC):AF:={g with BC:=g.BC++[x.name],AD:=(g.AD++[Yo g x]).set x.number.toNat {CL g x with right:=Yz g x}}
def foldM(g:AF)(x:AAC):List Rewrite:=[⟨x.number,-1,-1,Yt g x⟩]
theorem LZ{g:AF}{x:AAC}(h:FE g x=true):Ck g x=true∧∃j a t:Nat,x.number=j∧x.at_=a∧x.to=t∧j<g.AD.length∧a<t∧t≤(CL g x).right.length:=by
 simp only[FE,Bool.and_eq_true,decide_eq_true_eq]at h;obtain⟨⟨⟨h1,h2⟩,h3⟩,h4⟩:=h;have h5:=h1;simp only[Ck,Bool.and_eq_true,decide_eq_true_eq]at h5;exact⟨h1,x.number.toNat,x.at_.toNat,x.to.toNat,by omega,by omega,by omega,by omega,by omega,by omega⟩
theorem eK(g:AF)(x:AAC):Oj (bS g x) 4 g x:=⟨_,_,_,_,_,_,_,_,_,_,_,rfl⟩
theorem YI(g:AF)(x:AAC)(hf:FE g x=true)(hb:GO g x.number=false)(hl:g.AD.length≤2 ^ 20)(hn:g.BC.length≤2 ^ 20)(hr:(CL g x).right.length≤2 ^ 20):
  AE prog 79 [.ptr 4 1 0 0] (bS g x) (.d (AG 0)) (D5 g x (Vu g x) (foldM g x) false):=by
 obtain⟨hp,j,a,t,hj,ha,ht,hj1,h1,h2⟩:=LZ hf;have hbd:=Gd (eK g x) (by simp[bS,CG,bV]) (i:=x.number) (by omega);rw[hb]at hbd;have hold:=Hv (eK g x) (by simp[bS,CG,bV]) hp;unfold Vu foldM Yo Yt Yz;generalize hop:CL g x=o at *;have henc:=AH.eq_1 o;have hfr:=NI (S:=bS g x++[O.row true 13 [.d (AH o)]]) (r:=4) (q:=2) (k:=g.BC.length) (g:=g) (x:=x) rfl rfl (by simp) (by omega) (by simp[Af]) (by simp[bS,CG,bV]);have hcl:=(GG ((o.right.take t).drop a) (by simp;omega)).Hi;have had0:=MQ (S:=CG g x {g with BC:=g.BC++[x.name]} (.full []) false (!g.conds.isEmpty) (!g.Ak.isEmpty) true (!g.AD.isEmpty)++[O.row true 13 [.d (AH o)],O.row true 2 [.d (AL ⟨false,g.BC.length⟩)]]) (r:=4) (q:=3) (k:=g.AD.length) (g:=g) (x:=x) rfl rfl (by simp) (by omega) (by simp[Af]) {F1 with name:=x.name,left:=g.BC.length,right:=(o.right.take t).drop a,cond:=o.cond} (by simp[CG,bV]);have hadd:=had0.Ei (args':=[.ptr 4 1 0 0,.agg [.d (.str x.name),.d (.int .i64 g.BC.length),.d (.sl (((o.right.map AL).take t).drop a)),.d (.sl (o.cond.nodes.map AX)),.d (.int .i64 o.cond.root),.d (.bool false),.d (.int .i64 0),.full [],.d (.bool false),.d (.int .i64 0),.d (.int .i64 0),.d (.int .i64 0),.d (.int .i64 0)]]) rfl fun i h h'=>by
  match i,h with
  |0,_=>exact .inl rfl
  |1,_=>exact .inr ⟨_,by simp[asD,AH,F1,List.map_take,List.map_drop],rfl⟩
 clear had0;refine AE.AI func79 (by kernel_rfl) rfl (by simp) fun wf _=>?_;rw[ntmps79];unfold bS CG bV at hbd hold hfr⊢;unfold CG bV at hadd;simp[henc,hj,ha,ht]at hadd;simp[henc]at hfr;refine xW fun K hK=>?_;simp;apply hK;refine xS (Az fun K hK=>?_);refine xJ ?_;simp;refine AS.call rfl rfl (by simp) (f:=136) (args:=[.ptr 4 1 0 0,.d (AG x.number)]) (by simp[callee];try rfl) (by simp) hbd ?_;simp;refine xJ ?_;simp;refine Aj (hK _ _ ?_);(try simp only[]);refine AU ?_;simp;refine xK ?_;refine Az fun K hK=>?_;refine xJ ?_;simp;refine AS.call rfl rfl (by simp) (f:=78) (args:=[.ptr 4 1 0 0]) (by simp[callee];try rfl) (by simp) hold ?_;simp;refine xJ ?_;simp[henc];refine Aj (hK _ _ ?_);refine xD [0,2,4,6,8,10,12,14,16,18,20,22] (by kernel_rfl) fun K hK=>?_;simp;refine xA 0 ?_;simp;refine xM (hK _ _ ?_);(repeat refine xS ?_);refine BX fun K hK=>?_;refine xJ ?_;simp;refine AS.call rfl rfl (by simp) (f:=143) (args:=[.ptr 4 1 0 0]) (by simp[callee];try rfl) (by simp) hfr ?_;simp;refine xJ ?_;simp;refine Aj (hK _ _ ?_);(try simp only[xQ,reduceIte]);have hX:∃X5 X6,X5=O.row true 13 [.d (AH o)]∧X6=O.row true 2 [.d (AL ⟨false,g.BC.length⟩)]:=⟨_,_,rfl,rfl⟩;have d1:a≤t:=by omega
 have d3:a<o.right.length:=by omega
 (repeat refine xS ?_);refine xE [0,2,4,6,8,10,12,14,16,18,20,22,24,26,28,30,32,35,36] (by kernel_rfl) fun K hK=>?_;simp;refine xA 1 ?_;simp[hj,ha,ht,d1,h2,d3];refine Ae.CA (hcl) rfl (by simp[xN]) ?_;simp;refine xA 1 ?_;simp;refine Ae.Yq (xT [1,0,0,1,0,0,0,0,0,0,0,0,0,0,0,0,1]) (hadd) (by kernel_rfl) rfl (by simp[AR,d1,h2,d3];try rfl) ?_;simp;refine xA 1 ?_;simp;refine xM (hK _ _ ?_);(try simp only[xQ,reduceIte]);clear hadd hfr hbd hold;obtain⟨P2,hP2⟩:∃P2,P2=g.AD++[{F1 with name:=x.name,left:=g.BC.length,right:=(o.right.take t).drop a,cond:=o.cond}]:=⟨_,rfl⟩;have hm2:List.map (fun x=>V.d (AH x)) g.AD++[V.d (AH {F1 with name:=x.name,left:=g.BC.length,right:=(o.right.take t).drop a,cond:=o.cond})]=List.map (fun x=>V.d (AH x)) P2:=by rw[hP2];simp
 rw[hm2];have hl2:P2.length=g.AD.length+1:=by rw[hP2];simp
 have hj2:j<P2.length:=by omega
 have hj3:j<g.AD.length+1:=by omega
 have hop2:P2[j]=o:=by
  have:CL g x=g.AD[j]:=by simp[CL,hj,hj1]
  rw[hop]at this;simp[hP2,hj1,this]
 rw[ht,ha,hj];simp only[Int.toNat_natCast];rw[←hP2];clear hP2 hm2;have hcc:=JF [o.right.take a,[⟨false,(g.BC.length:Nat)⟩],o.right.drop t] (by simp;omega);obtain⟨R,hR⟩:∃R,R=o.right.take a++⟨false,(g.BC.length:Nat)⟩::o.right.drop t:=⟨_,rfl⟩;have hfl:[o.right.take a,[(⟨false,(g.BC.length:Nat)⟩:Symbol)],o.right.drop t].flatten=R:=by rw[hR];simp
 rw[hfl]at hcc;have d4:a≤o.right.length:=by omega
 have hj4:(j:Int)<g.AD.length+1:=by omega
 have htk:List.take o.right.length (List.map AL o.right)=List.map AL o.right:=List.take_of_length_le (by simp);refine AW.Ew (R:=fun tm S=>tm 0=.ptr 4 1 0 0∧tm 3=.ptr 5 1 0 0∧tm 4=.d (.int .i64 a)∧tm 5=.d (.int .i64 t)∧tm 7=.d (.int .i64 g.AD.length)∧S=CG g x {g with BC:=g.BC++[x.name],AD:=P2.set j {o with right:=R}} (.full []) false (!g.conds.isEmpty) (!g.Ak.isEmpty) true true++[O.row true 13 [.d (AH o)],O.row true 2 [.d (AL ⟨false,g.BC.length⟩)]]) ?_ ?_
 ·by_cases d5:t<o.right.length
  ·skip;refine xE [0,2,4,6,8,10,12,14,16,18,20,22,24,26,28,30,32,34,36,38,40,42,44,46,49] (by kernel_rfl) fun K hK=>?_;simp;refine xA 1 ?_;simp[d4,h2,maxLen,d5];refine Ae.CA (hcc) rfl (by simp[List.map_take,List.map_drop,htk,xN]) ?_;simp[htk];refine xA 1 ?_;simp[hj3,hj4,hl2];refine xX 16777213 (by kernel_rfl) ?_;simp[AR,henc,d4,h2,hj3,hj4,hl2,hop2,maxLen,d5];refine xM (hK _ _ ?_);refine⟨_,_,(AJ.A2 3 (xs:=(P2.set j {o with right:=R}).map AH) rfl ?_).trans (AJ.JK (S':=CG g x {g with BC:=g.BC++[x.name],AD:=P2.set j {o with right:=R}} (.full []) false (!g.conds.isEmpty) (!g.Ak.isEmpty) true true++[O.row true 13 [.d (AH o)],O.row true 2 [.d (AL ⟨false,g.BC.length⟩)]]) ?_),?_⟩
   ·rw[Bc,List.map_set,List.map_map,List.map_set,List.map_set,List.map_map];congr 1
   ·simp[CG,bV,hj,ha,ht,hl2,List.map_set,Function.comp_def,henc]
   ·simp
  ·have d6:t=o.right.length:=by omega
   have d7:o.right.length≤t:=by omega
   refine xE [0,2,4,6,8,10,12,14,16,18,20,22,24,26,28,30,32,34,36,38,40,42,44,46,49] (by kernel_rfl) fun K hK=>?_;simp;refine xA 1 ?_;simp[d4,maxLen,d6];refine Ae.CA (hcc) rfl (by simp[List.map_take,List.map_drop,htk,d7,xN]) ?_;simp[htk];refine xA 1 ?_;simp[hj3,hj4,hl2];refine xX 16777213 (by kernel_rfl) ?_;simp[AR,henc,d4,hj3,hj4,hl2,hop2,maxLen];refine xM (hK _ _ ?_);refine⟨_,_,(AJ.A2 3 (xs:=(P2.set j {o with right:=R}).map AH) rfl ?_).trans (AJ.JK (S':=CG g x {g with BC:=g.BC++[x.name],AD:=P2.set j {o with right:=R}} (.full []) false (!g.conds.isEmpty) (!g.Ak.isEmpty) true true++[O.row true 13 [.d (AH o)],O.row true 2 [.d (AL ⟨false,g.BC.length⟩)]]) ?_),?_⟩
   ·rw[Bc,List.map_set,List.map_map,List.map_set,List.map_set,List.map_map];congr 1
   ·simp[CG,bV,hj,ha,ht,hl2,List.map_set,Function.comp_def,henc];omega
   ·simp;omega
 rintro tm S ⟨t0,t3,t4,t5,t7,rfl⟩;clear hcc hfl;have hl3:(P2.set j {o with right:=R}).length=g.AD.length+1:=by simp[hl2]
 generalize hP3:P2.set j {o with right:=R}=P3 at *;have hno1:=H6 (j:Int);have hno2:=H6 (g.AD.length:Int);have hh1:=Gv [Bh j] false 0 a (by simp;omega) (by omega);have hh2:=Gv (([Bh j]++Cg 0 a)++[Bh g.AD.length]) true a (o.right.length - a) (by simp[C2];omega) (by omega);have hrl:a+(o.right.length - a)=o.right.length:=by omega
 rw[hrl]at hh2;unfold CG bV;(repeat refine xS ?_);refine BX fun K hK=>?_;refine xJ ?_;simp[t0,hj];refine Bp (hno1) rfl (by simp[xN]) ?_;simp;refine xJ ?_;simp[maxLen,t4];refine AS.ghost (AJ.BB 78 4 (xs:=[A1 (Bh j)]) (by simp)) ?_;refine xF (hh1) [7] rfl ?_;simp;refine xJ ?_;simp;refine Aj (hK _ _ ?_);(try simp only[xQ,reduceIte]);have e5:a+1=1+a:=by omega
 have e6:1+a≤1073741823:=by omega
 simp[C2,e5]at hh2;(repeat refine xS ?_);refine xE [0,2,4,6,10,12,14,16,9,19,20] (by kernel_rfl) fun K hK=>?_;simp;refine xA 1 ?_;simp[t7];refine Bj (hno2) rfl (by simp[xN]) ?_;simp;refine xA 1 ?_;simp[t3,t4,henc,maxLen];refine xX 176 (by kernel_rfl) ?_;simp[AR,Al,C2,Af,or_imp,forall_and,t3,t4,t7,maxLen,e5,e6];refine Ae.Ds (xT [1,0,0,1,0]) (hh2) [7] (by kernel_rfl) rfl (by simp[AR,t3,t4,t7,maxLen];try rfl) ?_;simp;refine xA 1 ?_;simp;refine xM (hK _ _ ?_);(try simp only[xQ,reduceIte]);obtain⟨TT,hTT⟩:∃TT,TT=Bh j::(Cg 0 a++Bh (g.AD.length:Int)::Cg a (o.right.length - a)):=⟨_,rfl⟩;have hTl:TT.length=1+a+1+(o.right.length - a):=by rw[hTT];simp[C2];omega
 rw[←hTl];refine AW.ghost (AJ.B6 7 (wr:=true) (sz:=4) (els:=(TT.map A1).map V.d) (xs:=TT.map A1) (by rw[hTT];simp[Function.comp_def]) (BT _ _)) ?_;simp;refine xW fun K hK=>?_;simp[t0,maxLen];apply hK;refine xW fun K hK=>?_;simp;apply hK;refine Ag ?_;(try simp only[xQ,reduceIte]);rw[←hTT,←hR,hP3];refine⟨_,(AJ.AY 5 (S':=CG g x {g with BC:=g.BC++[x.name],AD:=P3} (.full [Ab ⟨j,-1,-1,TT⟩]) false (!g.conds.isEmpty) (!g.Ak.isEmpty) true true) ?_ (by simp) (by simp) ?_).trans (Jo g x _ _ [⟨j,-1,-1,TT⟩] false _ _ _ _ rfl),?_⟩
 ·simp[CG,bV,hj,Ab]
 ·simp
 ·simp[Am,clean,EJ,AAB]
section
variable {P:Program} {n b:Nat} {tm:Tm} {S:Sg}
theorem St.setRow{G:Gh}{w:World}{a:Act}(st:St P n G S w a tm){r sz:Nat}{els els':List V}(hr:S[r]?=some (.row true sz els))(hl:els'.length=els.length)
  (hrow:∀c T,w.heap[G.BZ r]?=some (.cells c T (0,0))→KO G S w sz els c (G.cap r).2→KO G S w sz els' c (G.cap r).2):
  St P n G (S.set r (.row true sz els')) w a tm∧Tr G S w G (S.set r (.row true sz els')) w∧A9 G S w G (S.set r (.row true sz els')) w:=by
 have R:=st.rel;have hrl:=AZ hr;have hat:(S.set r (.row true sz els'))[r]?=some (.row true sz els'):=by simp[hrl]
 have hne:∀r',r'≠r→(S.set r (.row true sz els'))[r']?=S[r']?:=fun r' h=>by simp[List.getElem?_set_ne (Ne.symm h)]
 have el:∀r',lenOf (S.set r (.row true sz els')) r'=lenOf S r':=fun r'=>by
  by_cases e:r'=r
  ·subst e;simp[lenOf,hat,hr,hl]
  ·simp only[lenOf,hne r' e]
 have es:∀r',AAf (S.set r (.row true sz els')) r'=AAf S r':=fun r'=>by
  by_cases e:r'=r
  ·subst e;simp[AAf,hat,hr]
  ·simp only[AAf,hne r' e]
 have em:∀r',AAM (S.set r (.row true sz els')) r'=AAM S r':=fun r'=>by
  by_cases e:r'=r
  ·subst e;simp[AAM,hat,hr]
  ·simp only[AAM,hne r' e]
 have L:A9 G S w G (S.set r (.row true sz els')) w:=
  ⟨fun _ h=>h,fun _ _=>rfl,by simp,fun r' _ n' hn'=>⟨n',by rw[←el];exact hn',Nat.le_refl _,fun _=>⟨rfl,rfl,rfl,.inl (es r')⟩⟩,fun r' _ hm=>⟨by rw[←em];exact hm,rfl⟩⟩
 have own:∀r' x,(S.set r (.row true sz els'))[r']?=some x→∃x',S[r']?=some x'∧AAJ G r' x'=AAJ G r' x:=fun r' x hx=>by
  by_cases e:r'=r
  ·subst e;rw[hat]at hx;cases hx;exact⟨_,hr,rfl⟩
  ·rw[hne r' e]at hx;exact⟨x,hx,rfl⟩
 have ownS:∀k,Eo G (S.set r (.row true sz els')) k→Eo G S k:=by
  rintro k ⟨r',x,h1,h2,h3⟩;obtain⟨x',g1,g2⟩:=own r' x h1;exact⟨r',x',g1,by rw[g2];exact h2,h3⟩
 refine⟨⟨st.size,st.tm.later L,⟨R.Es.later L,fun r' x hx'=>?_,fun r1 r2 x1 x2 h1 h2 o1 o2 he=>?_,fun k hk=>R.nI k (ownS k hk),R.G5,fun k hk=>R.FW k (ownS k hk)⟩⟩,⟨Nat.le_refl _,fun _ h=>h,fun _ _ _=>rfl,fun k hk=>.inl (ownS k hk),fun k hk=>.inl hk,rfl,rfl⟩,L⟩
 ·by_cases e:r'=r
  ·subst e;rw[hat]at hx';cases hx';have hob:=R.CT r' _ hr;simp only[OK]at hob⊢;cases hv:G.BB r' with
   |none=>
    simp only[hv]at hob⊢;obtain⟨c,T,g1,g2,g3,g4,g5⟩:=hob;exact⟨c,T,g1,g2,by omega,by omega,(hrow c T g1 g5).later L⟩
   |some q=>simp only[hv]at hob;exact absurd hob.1 (by simp)
  ·rw[hne r' e]at hx';exact(R.CT r' x hx').later L (fun _=>rfl) rfl rfl rfl
 ·obtain⟨y1,g1,p1⟩:=own r1 x1 h1;obtain⟨y2,g2,p2⟩:=own r2 x2 h2;exact R.inj r1 r2 y1 y2 g1 g2 (by rw[p1];exact o1) (by rw[p2];exact o2) he
theorem AJ.Lb(r i c sz':Nat){sz:Nat}{els cs:List V}{xs:List D}(hr:S[r]?=some (.row true sz els))(hi:els[i]?=some (.agg cs))(hc:cs[c]?=some (.full xs)):
  AJ P n b tm S tm ((S++[O.row false sz' (xs.map .d)]).set r (.row true sz (els.set i (.agg (cs.set c (V.row S.length xs.length)))))):=fun G w a st hb=>by
 have hrl:=AZ hr;have hob:=st.rel.CT r _ hr;simp only[OK]at hob;cases hv:G.BB r with
 |some q=>simp only[hv]at hob;exact absurd hob.1 (by simp)
 |none=>
  simp only[hv]at hob;obtain⟨d,T,g1,g2,g3,g4,g5⟩:=hob;obtain⟨hil,hie⟩:=List.getElem?_eq_some_iff.1 hi;obtain⟨hcl,hce⟩:=List.getElem?_eq_some_iff.1 hc;obtain⟨v,f1,f2,f3,f4⟩:=g5 i hil;rw[hie]at f1;cases f1 with
  |agg _ vs hs hh ho=>
   have h2:=hh c hcl;rw[hce]at h2;generalize hY:vs[c]'(by omega)=Y at h2;cases h2 with
   |full _ base hcd=>
    obtain⟨r1,r2,r3⟩:=st.rel.Js sz' xs base hcd.len hcd;have st1:St P n (G.at S.length 0 0 (some base)) (S++[.row false sz' (xs.map .d)]) w a tm:=⟨st.size,st.tm.later r3,r1⟩;have hne:r≠S.length:=by omega
    have eb:(G.at S.length 0 0 (some base)).BZ r=G.BZ r:=by simp[Gh.at,hne]
    have ec:(G.at S.length 0 0 (some base)).cap r=G.cap r:=by simp[Gh.at,hne]
    obtain⟨s1,s2,s3⟩:=st1.setRow (r:=r) (els':=els.set i (.agg (cs.set c (V.row S.length xs.length)))) (by rw[List.getElem?_append_left hrl];exact hr) (by simp) fun c2 T2 hh2 hr2=>by
     rw[eb,g1]at hh2;cases hh2;rw[ec]at hr2⊢;intro j hj;have hj':j<els.length:=by simpa using hj
     by_cases e:j=i
     ·subst e;refine⟨.agg vs,?_,f2,f3,f4⟩;simp only[List.getElem_set_self];refine .agg _ _ (by simp[hs]) (fun k hk=>?_) ho;by_cases ek:k=c
      ·subst ek;simp only[List.getElem_set_self,hY];refine .row _ _ _ rfl (by simp) fun m' hm'=>?_;have:m'=xs.length:=by simpa[lenOf]using hm'.symm
       subst this;exact⟨Nat.le_refl _,fun _=>by simp[Gh.AAO,Gh.at]⟩
      ·rw[List.getElem_set_ne (fun h=>ek h.symm)];exact(hh k (by simpa using hk)).later r3
     ·rw[List.getElem_set_ne (fun h=>e h.symm)];exact hr2 j hj'
    exact⟨_,s1,r2.trans s2,(r3.trans s3).late hb⟩
end
open Go.Proofs Tryz
def LW:Ah:=⟨0,0,0⟩
def V5(d:AN)(n:Int):Ah:=d.nodes.getD (n - 2).toNat LW
def EE(d:AN)(n v:Int):Int×Int:=if d.level n=v then((V5 d n).low,(V5 d n).high)else(n,n)
def Iw(d:AN)(n v:Int):Bool:=decide (0≤n)&&decide (n<2+d.nodes.length)&&(decide (2≤n)||decide (d.level n≠v))
def Fc(l:List Ah)(b:Ah):List Ah×Int:=
 if b.low=b.high then(l,b.low)else if firstIdx (fun x=>decide (x=b)) l<0 then(l++[b],(l.length:Int)+2)else(l,firstIdx (fun x=>decide (x=b)) l+2)
def KU(op x y:Int):Int:=if op=0 then x * y else if op=1 then max x y else(x+y).tmod 2
structure Seen where
 x:Int
 y:Int
 r:Int
 deriving DecidableEq
def Ff(x:Seen):D:=.agg [AG x.x,AG x.y,AG x.r]
@[simp] theorem U6(x:Seen):AAD (.d (Ff x))=[.d (AG x.x),.d (AG x.y),.d (AG x.r)]:=rfl
@[simp] theorem UZ(x:Seen):Ar (.d (Ff x))=true:=rfl
@[simp] theorem XM(x:Seen):AAV (.d (Ff x))=false:=rfl
@[simp] theorem Ve(x:Seen):AAL (Ff x)=[AG x.x,AG x.y,AG x.r]:=rfl
@[simp] theorem W8(x:Seen):AAe.oneD (Ff x)=true:=rfl
@[simp] theorem ae(x:Seen):WFD (Ff x)=AAY [AG x.x,AG x.y,AG x.r]:=rfl
@[simp] theorem XT(x y:Seen):AAk [D.int .i64 x.x,D.int .i64 x.y,D.int .i64 x.r] [D.int .i64 y.x,D.int .i64 y.y,D.int .i64 y.r]=decide (x=y):=by
 cases x;cases y;rw[Bool.eq_iff_iff];simp[AAk,deq]
@[simp] theorem Wk(S:Sg)(x:Seen):AAs S (.d (Ff x))=some [AG x.x,AG x.y,AG x.r]:=rfl
def seenAt(sn:List Seen)(x y:Int):Int:=firstIdx (fun t=>decide (t.x=x)&&decide (t.y=y)) sn
def atR(a b:AN)(op:Int):Nat→List Ah→List Seen→Int→Int→Option (List Ah×List Seen×Int)
 |0,_,_,_,_=>none
 |f+1,ns,sn,x,y=>
  if x<2∧y<2 then(if 0≤x∧0≤y then some (ns,sn,KU op x y)else none)else
  if 0≤seenAt sn x y then some (ns,sn,(sn.getD (seenAt sn x y).toNat ⟨0,0,0⟩).r)else
   if Iw a x (min (a.level x) (b.level y))&&Iw b y (min (a.level x) (b.level y))then
    match atR a b op f ns sn (EE a x (min (a.level x) (b.level y))).1 (EE b y (min (a.level x) (b.level y))).1 with
    |none=>none
    |some (ns1,sn1,low)=>
     match atR a b op f ns1 sn1 (EE a x (min (a.level x) (b.level y))).2 (EE b y (min (a.level x) (b.level y))).2 with
     |none=>none
     |some (ns2,sn2,high)=>
      if 1048576≤ns2.length∨1048576≤sn2.length then none else
      some ((Fc ns2 ⟨min (a.level x) (b.level y),low,high⟩).1,sn2++[⟨x,y,(Fc ns2 ⟨min (a.level x) (b.level y),low,high⟩).2⟩],(Fc ns2 ⟨min (a.level x) (b.level y),low,high⟩).2)
   else none
def Mu(nodes:List Ah):Nat→List Int→List Ah→Int→Option (List Int×List Ah×Int)
 |0,_,_,_=>none
 |f+1,nu,out,n=>
  if n<2 then some (nu,out,n)else
  match nu[(n - 2).toNat]? with
  |none=>none
  |some k=>
   if 0<k then some (nu,out,k)else
   match Mu nodes f nu out (nodes.getD (n - 2).toNat LW).low with
   |none=>none
   |some (nu1,out1,low)=>
    match Mu nodes f nu1 out1 (nodes.getD (n - 2).toNat LW).high with
    |none=>none
    |some (nu2,out2,high)=>
     if 1048576≤out2.length then none else
     some (nu2.set (n - 2).toNat ((out2.length:Int)+2),out2++[⟨(nodes.getD (n - 2).toNat LW).var,low,high⟩],(out2.length:Int)+2)
def QD(nodes:List Ah)(root:Int):Option AN:=
 if 1048576<nodes.length then none else
 match Mu nodes 64 (List.replicate nodes.length 0) [] root with
 |none=>none
 |some (_,out,r)=>some ⟨out,r⟩
def IE(a b:AN)(op:Int):Option AN:=
 match atR a b op 64 [] [] a.root b.root with
 |none=>none
 |some (ns,_,r)=>QD ns r
def J1(a:AN):Option AN:=IE a ⟨[],1⟩ 2
def M4(a b:AN):Option AN:=match J1 b with|none=>none|some c=>IE a c 0
def P6(l:List Int)(k:Nat):Bool:=decide (k / 8<l.length)&&(IntKind.u8.wrap (max ((l.getD (k / 8) 0).fdiv (2 ^ (k % 8)) % 256) 0 % 2)==1)
def Hy(l:List Int)(n:Nat):Nat→Nat→Nat→Option AN
 |0,_,_=>none
 |f+1,v,k=>
  if 1048576≤k∨7≤v then none else
  if v=n then some ⟨[],if P6 l k then 1 else 0⟩else
  match Hy l n f (v+1) (k+2 ^ v)with
  |none=>none
  |some d1=>
   match Hy l n f (v+1) k with
   |none=>none
   |some d0=>
    match IE (Ap v) d1 0 with
    |none=>none
    |some e1=>
     match M4 d0 (Ap v)with
     |none=>none
     |some e0=>IE e1 e0 1
theorem MB(d:AN)(n v:Int)(h:Iw d n v=true):Pure prog 207 [AA d,AG n,AG v] (.Bd [AG (EE d n v).1,AG (EE d n v).2]):=by
 simp only[Iw,Bool.and_eq_true,Bool.or_eq_true,decide_eq_true_eq]at h;obtain⟨⟨h1,h2⟩,h3⟩:=h;refine Pure.AI func207 (by kernel_rfl) rfl (by simp) fun wf=>?_;simp[AAY,DM,WFD]at wf;rw[ntmps207];refine xW fun K hK=>?_;simp;apply hK;refine xS (Az fun K hK=>?_);refine xJ ?_;simp;refine Bp (F5 d n h2) rfl (by simp[xN]) ?_;simp;refine xJ ?_;simp;refine Aj (hK _ _ ?_);(try simp only[xQ,reduceIte]);refine AU ?_;simp;refine⟨fun hx=>?_,fun hx=>?_⟩
 ·refine xW fun K hK=>?_;simp;apply hK;refine Ag ⟨_,_,AJ.refl,?_⟩;(try simp);simp[EE,hx]
 ·have h4:2≤n:=by rcases h3 with h3|h3;exact h3;exact absurd hx h3
  have h5:IntKind.i64.wrap (n - 2)=n - 2:=wrap_i64 (by omega) (by omega);have h6:(n - 2).toNat<d.nodes.length:=by omega
  have h7:n - 2<(d.nodes.length:Int):=by omega
  refine xK ?_;(repeat refine xS ?_);refine xE [0,2,4,6,8,10,12,14,16,18,20,22,24,26,28,30] (by kernel_rfl) fun K hK=>?_;simp;refine xA 0 ?_;simp[h5,h6,h7,h4];refine xM (hK _ _ ?_);(try simp only[xQ,reduceIte]);refine Ag ⟨_,_,AJ.refl,?_⟩;(try simp);simp[EE,hx,V5,h6]
theorem Uk(l:List Ah)(b:Ah)(w:Bool)(hl:l.length≤2 ^ 20):AE prog 208 [.row 0 l.length,.d (AX b)] [.row w 3 (l.map fun x=>.d (AX x))] (.Bd [.row 0 (Fc l b).1.length,.d (AG (Fc l b).2)]) [.row (w||decide (l.length<(Fc l b).1.length)) 3 ((Fc l b).1.map fun x=>.d (AX x))]:=by
 have a1:l.length≤maxLen:=by unfold maxLen;omega
 refine AE.AI func208 (by kernel_rfl) rfl (by simp) fun wf _=>?_;rw[ntmps208];refine xW fun K hK=>?_;simp;apply hK;refine xS (xW fun K hK=>?_);simp;apply hK;refine AU ?_;simp;refine⟨fun hx=>?_,fun hx=>?_⟩
 ·have hu:Fc l b=(l,b.low):=by simp[Fc,hx]
  rw[hu];simp only[Nat.lt_irrefl,decide_false,Bool.or_false];(repeat refine xS ?_);refine xE [0,2,4,6,8] (by kernel_rfl) fun K hK=>?_;simp;refine xA 0 ?_;simp;refine xM (hK _ _ ?_);(try simp only[xQ,reduceIte]);refine Ag ?_;(try simp only[xQ,reduceIte]);refine⟨_,AJ.Cy [0] (S0:=[.row w 3 (l.map fun x=>.d (AX x))]) (by simp) (by simp) (by simp),?_⟩;simp[Am,pick]
 ·have hx0:¬b.low=b.high:=hx;refine xK ?_;refine xS (xW fun K hK=>?_);simp;apply hK;refine Bw ?_;refine DC l.length (fun i tm S=>tm 0=.row 0 l.length∧tm 3=.ptr 1 1 0 0∧tm 6=.d (.int .i64 i)∧S=[.row w 3 (l.map fun x=>.d (AX x)),.row true 3 [.d (AX b)]]∧∀j (_:j<i) (h:j<l.length),l[j]≠b) (Nat.zero_le _) (by simp) ?_;rintro i tm S hi ⟨t0,t3,t6,rfl,hq⟩;refine xS (xW fun K hK=>?_);simp[t0,t6];apply hK;refine AU ?_;simp;refine⟨fun hlt=>?_,fun hge=>?_⟩
  ·refine xK ?_;refine xB ?_;refine xD [0,2,4,6,8,10] (by kernel_rfl) fun K hK=>?_;simp;refine xA 0 ?_;simp[t0,t6,t3,hlt,-AAs];refine xM (hK _ _ ?_);refine AU ?_;simp;refine⟨fun hx=>?_,fun hx=>?_⟩
   ·have hfi:firstIdx (fun x=>decide (x=b)) l=i:=B8 hlt (by simpa using hx) fun j hj=>by simpa using hq j hj (by omega)
    have hw:IntKind.i64.wrap ((i:Int)+2)=i+2:=by rw[IntKind.wrap_i64];omega
    have h0:¬((i:Int)<0):=by omega
    have hu:Fc l b=(l,(i:Int)+2):=by simp[Fc,hx0,hfi,h0]
    rw[hu];simp only[Nat.lt_irrefl,decide_false,Bool.or_false];refine xW fun K hK=>?_;simp[t0,t6,hw];apply hK;refine Ag ?_;(try simp only[xQ,reduceIte]);refine⟨_,AJ.Cy [0] (S0:=[.row w 3 (l.map fun x=>.d (AX x))]) (by simp) (by simp) (by simp),?_⟩;simp[Am,pick]
   ·refine CC ?_;refine xV fun K hK=>?_;simp[t6];apply hK;refine⟨hlt,_,_,AJ.refl,?_⟩;simp[t0,t3,AQ hlt a1];intro j hj hjl;by_cases e:j=i
    ·subst e;simpa using hx
    ·exact hq j (by omega) hjl
  ·have e:i=l.length:=by omega
   subst e;have hfi:firstIdx (fun x=>decide (x=b)) l= -1:=firstIdx_none fun j hj=>by simpa using hq j hj hj
   have h1m:1≤maxLen:=by unfold maxLen;omega
   have hl1:l.length+1≤1073741824:=by omega
   have hw:IntKind.i64.wrap ((l.length:Int)+1+1)=l.length+2:=by rw[IntKind.wrap_i64];omega
   have hu:Fc l b=(l++[b],(l.length:Int)+2):=by simp[Fc,hx0,hfi]
   rw[hu];simp only[List.length_append,List.length_cons,List.length_nil,Nat.zero_add,Nat.lt_add_one,decide_true,Bool.or_true];refine Cu ?_;refine Az fun K hK=>?_;refine xJ ?_;simp[t0,t3,h1m,hl1,Af,forall_and];refine Aj (hK _ _ ?_);refine xW fun K hK=>?_;simp[hw];apply hK;refine Ag ?_;(try simp only[xQ,reduceIte]);refine⟨_,AJ.Cy [0] (S0:=[.row true 3 ((l++[b]).map fun x=>.d (AX x))]) (by simp) (by simp) (by simp),?_⟩;simp[Am,pick]
def Ri(a b:AN)(op:Int)(ns:List Ah)(sn:List Seen)(w1 w2:Bool):Sg:=
 [.row true 7 [.agg [.d (AV a.nodes),.d (AG a.root),.d (AV b.nodes),.d (AG b.root),.d (AG op),.row 1 ns.length,.row 2 sn.length]],.row w1 3 (ns.map fun x=>.d (AX x)),.row w2 3 (sn.map fun x=>.d (Ff x))]
theorem Ry(a b:AN)(op:Int)(ns:List Ah)(sn:List Seen)(w1 w2:Bool)(x y:Int)(hx:0≤x∧x<2)(hy:0≤y∧y<2):AE prog 205 [.ptr 0 1 0 0,.d (AG x),.d (AG y)] (Ri a b op ns sn w1 w2) (.d (AG (KU op x y))) (Ri a b op ns sn w1 w2):=by
 have h1:IntKind.i64.wrap (x * y)=x * y:=by
  have:x=0∨x=1:=by omega
  rcases this with rfl|rfl<;>simp[IntKind.wrap_i64]<;>omega
 have h2:IntKind.i64.wrap (x+y)=x+y:=by rw[IntKind.wrap_i64];omega
 have h3:IntKind.i64.wrap ((x+y).tmod 2)=(x+y).tmod 2:=by
  have:x=0∨x=1:=by omega
  have:y=0∨y=1:=by omega
  rcases ‹x=0∨x=1› with e|e<;>rcases this with e'|e'<;>rw[e,e']<;>decide
 refine AE.AI func205 (by kernel_rfl) rfl (by simp) fun wf _=>?_;rw[ntmps205];unfold Ri;refine xW fun K hK=>?_;simp;apply hK;refine xS (xW fun K hK=>?_);simp;apply hK;refine Bw ?_;refine xW fun K hK=>?_;simp;apply hK;refine AU ?_;simp;refine⟨fun hx=>?_,fun hx=>?_⟩
 ·refine xW fun K hK=>?_;simp[h1];apply hK;refine Ag ?_;(try simp only[xQ,reduceIte]);refine⟨_,AJ.refl,?_⟩;simp[Am,KU,hx]
 ·refine xW fun K hK=>?_;simp;apply hK;refine AU ?_;simp;refine⟨fun hx1=>?_,fun hx1=>?_⟩
  ·refine xW fun K hK=>?_;simp;apply hK;refine Ag ?_;(try simp only[xQ,reduceIte]);refine⟨_,AJ.refl,?_⟩;simp[Am,KU,hx1];split<;>omega
  ·refine CC ?_;refine xW fun K hK=>?_;simp[h2];apply hK;refine Ag ?_;(try simp only[xQ,reduceIte]);refine⟨_,AJ.refl,?_⟩;simp[Am,KU,hx,hx1]
open Go.Proofs Tryz
theorem ag(a b:AN)(op:Int):∀(f:Nat) (ns:List Ah) (sn:List Seen) (x y:Int) (w1 w2:Bool) (res:List Ah×List Seen×Int),atR a b op f ns sn x y=some res→∃w1' w2',AE prog 177 [.ptr 0 1 0 0,.d (AG x),.d (AG y)] (Ri a b op ns sn w1 w2) (.d (AG res.2.2)) (Ri a b op res.1 res.2.1 w1' w2'):=by
 intro f;induction f with
 |zero=>intro ns sn x y w1 w2 res h;simp[atR]at h
 |succ f ih=>
  intro ns sn x y w1 w2 res h;unfold atR at h;by_cases hc:x<2∧y<2
  ·rw[if_pos hc]at h;split at h
   ·rename_i h0;cases h;refine⟨w1,w2,?_⟩;have hk:=Ry a b op ns sn w1 w2 x y ⟨h0.1,hc.1⟩ ⟨h0.2,hc.2⟩;refine AE.AI func177 (by kernel_rfl) rfl (by simp) fun wf _=>?_;rw[ntmps177];refine xW fun K hK=>?_;simp;apply hK;refine xS (xW fun K hK=>?_);simp[hc];apply hK;refine AU ?_;simp;(repeat refine xS ?_);refine BX fun K hK=>?_;refine xJ ?_;simp;refine AS.call rfl rfl (by simp) (f:=205) (args:=[.ptr 0 1 0 0,.d (AG x),.d (AG y)]) (by simp[callee];try rfl) (by simp) hk ?_;simp;refine xJ ?_;simp;refine Aj (hK _ _ ?_);(try simp only[xQ,reduceIte]);refine Ag ?_;(try simp only[xQ,reduceIte]);refine⟨_,AJ.refl,?_⟩;simp[Am]
   ·cases h
  ·rw[if_neg hc]at h;have hcb:(decide (x<2)&&decide (y<2))=false:=by simpa using hc
   by_cases hs:0≤seenAt sn x y
   ·rw[if_pos hs]at h;cases h;refine⟨w1,w2,?_⟩;refine AE.AI func177 (by kernel_rfl) rfl (by simp) fun wf wb=>?_;have a1:sn.length≤maxLen:=by have:=wb.2.2.1.1;simpa using this
    rw[ntmps177];refine xW fun K hK=>?_;simp;apply hK;refine xS (xW fun K hK=>?_);simp;apply hK;(repeat refine xS ?_);refine AW.BD (t:=decide (x<2)&&decide (y<2)) ?_ (fun hb=>?_) (fun hb=>?_)
    ·simp
    ·rw[hcb]at hb;cases hb
    refine xK ?_;refine xS (xW fun K hK=>?_);simp;apply hK;refine Bw ?_;refine DC sn.length (fun i tm S=>tm 0=.ptr 0 1 0 0∧tm 1=.d (AG x)∧tm 2=.d (AG y)∧tm 7=.d (.int .i64 i)∧S=Ri a b op ns sn w1 w2∧∀j (_:j<i) (h:j<sn.length),¬(sn[j].x=x∧sn[j].y=y)) (Nat.zero_le _) (by simp) ?_;rintro i tm S hi ⟨t0,t1,t2,t7,rfl,hq⟩;unfold Ri;refine xS (xW fun K hK=>?_);simp[t0,t7];apply hK;refine AU ?_;simp;refine⟨fun hlt=>?_,fun hge=>?_⟩
    ·refine xK ?_;refine xB ?_;refine xW fun K hK=>?_;simp[t0,t1,t2,t7,hlt];apply hK;(repeat refine xS ?_);refine AW.BD (t:=decide (sn[i].x=x)&&decide (sn[i].y=y)) ?_ (fun hb=>?_) (fun hb=>?_)
     ·simp;rw[Bool.eq_iff_iff];simp
     ·(repeat refine xS ?_);refine xV fun K hK=>?_;simp[t0,t7,hlt];refine hK _ _ ?_;(try simp only[xQ,reduceIte]);have hfi:seenAt sn x y=i:=B8 hlt hb fun j hj=>by simpa using hq j hj (by omega)
      refine Ag ?_;(try simp only[xQ,reduceIte]);refine⟨_,AJ.refl,?_⟩;simp[Am,hfi,hlt]
     ·refine CC ?_;refine xV fun K hK=>?_;simp[t7];apply hK;refine⟨hlt,_,_,AJ.refl,?_⟩;simp[t0,t1,t2,AQ hlt a1];intro j hj hjl;by_cases e:j=i
      ·subst e;simpa using hb
      ·simpa using hq j (by omega) hjl
    ·have hfi:seenAt sn x y= -1:=firstIdx_none fun j hj=>by simpa using hq j (by omega) hj
     omega
   ·rw[if_neg hs]at h;split at h
    ·rename_i hso;simp only[Bool.and_eq_true]at hso;obtain⟨ho1,ho2⟩:=hso;have hv':(if b.level y<a.level x then b.level y else a.level x)=min (a.level x) (b.level y):=by split<;>omega
     generalize hv:min (a.level x) (b.level y)=v at *;cases e1:atR a b op f ns sn (EE a x v).1 (EE b y v).1 with
     |none=>simp[e1]at h
     |some r1=>
      obtain⟨ns1,sn1,low⟩:=r1;simp only[e1]at h;cases e2:atR a b op f ns1 sn1 (EE a x v).2 (EE b y v).2 with
      |none=>simp[e2]at h
      |some r2=>
       obtain⟨ns2,sn2,high⟩:=r2;simp only[e2]at h;split at h
       ·cases h
       ·rename_i hsz;cases h;obtain⟨u1,u2,k1⟩:=ih _ _ _ _ w1 w2 _ e1;obtain⟨v1,v2,k2⟩:=ih _ _ _ _ u1 u2 _ e2;have hx2:x<2+a.nodes.length:=by simp only[Iw,Bool.and_eq_true,decide_eq_true_eq]at ho1;exact ho1.1.2
        have hy2:y<2+b.nodes.length:=by simp only[Iw,Bool.and_eq_true,decide_eq_true_eq]at ho2;exact ho2.1.2
        have l1:=F5 a x hx2;have l2:=F5 b y hy2;have s1:=MB a x v ho1;have s2:=MB b y v ho2;have q1:=Uk ns2 ⟨v,low,high⟩ v1 (by omega);have n2:sn2.length+1≤1073741824:=by omega
        have h1m:1≤maxLen:=by unfold maxLen;omega
        generalize hU:Fc ns2 ⟨v,low,high⟩=U at *;obtain⟨ns3,r⟩:=U;simp only[]at q1⊢;generalize EE a x v=sa at *;generalize EE b y v=sb at *;obtain⟨sa1,sa2⟩:=sa;obtain⟨sb1,sb2⟩:=sb;have q2:=q1.Ei (args':=[.row 0 ns2.length,.agg [.d (AG v),.d (AG low),.d (AG high)]]) rfl fun i h h'=>by
         match i,h with
         |0,_=>exact .inl rfl
         |1,_=>exact .inr ⟨AX ⟨v,low,high⟩,by simp[asD,AX],rfl⟩
        refine⟨v1||decide (ns2.length<ns3.length),true,?_⟩;refine AE.AI func177 (by kernel_rfl) rfl (by simp) fun wf wb=>?_;have a1:sn.length≤maxLen:=by have:=wb.2.2.1.1;simpa using this
        rw[ntmps177];refine xW fun K hK=>?_;simp;apply hK;refine xS (xW fun K hK=>?_);simp;apply hK;(repeat refine xS ?_);refine AW.BD (t:=decide (x<2)&&decide (y<2)) ?_ (fun hb=>?_) (fun hb=>?_)
        ·simp
        ·rw[hcb]at hb;cases hb
        refine xK ?_;refine xS (xW fun K hK=>?_);simp;apply hK;refine Bw ?_;refine DC sn.length (fun i tm S=>tm 0=.ptr 0 1 0 0∧tm 1=.d (AG x)∧tm 2=.d (AG y)∧tm 7=.d (.int .i64 i)∧S=Ri a b op ns sn w1 w2) (Nat.zero_le _) (by simp) ?_;rintro i tm S hi ⟨t0,t1,t2,t7,rfl⟩;unfold Ri;refine xS (xW fun K hK=>?_);simp[t0,t7];apply hK;refine AU ?_;simp;refine⟨fun hlt=>?_,fun hge=>?_⟩
        ·refine xK ?_;refine xB ?_;refine xW fun K hK=>?_;simp[t0,t1,t2,t7,hlt];apply hK;(repeat refine xS ?_);refine AW.BD (t:=decide (sn[i].x=x)&&decide (sn[i].y=y)) ?_ (fun hb=>?_) (fun hb=>?_)
         ·simp;rw[Bool.eq_iff_iff];simp
         ·have:sn.any (fun t=>decide (t.x=x)&&decide (t.y=y))=true:=List.any_eq_true.2 ⟨_,List.getElem_mem hlt,hb⟩;rw[←CR]at this;exact absurd (show 0≤seenAt sn x y from of_decide_eq_true this) hs
         ·refine CC ?_;refine xV fun K hK=>?_;simp[t7];apply hK;refine⟨hlt,_,_,AJ.refl,?_⟩;simp[t0,t1,t2,AQ hlt a1]
        ·refine Cu ?_;refine xD [0,2,4,6,8,10,12,14,16,18,20,22,24,26] (by kernel_rfl) fun K hK=>?_;simp;refine xA 0 ?_;simp[t0,t1];refine Ae.CA (l1) rfl (by simp[xN]) ?_;simp;refine xA 0 ?_;simp[t0,t2];refine Ae.CA (l2) rfl (by simp[xN]) ?_;simp;refine xA 0 ?_;simp[hv'];refine xM (hK _ _ ?_);refine Az fun K hK=>?_;refine xJ ?_;simp[t0,t1];refine Bp (s1) rfl (by simp[xN]) ?_;simp;refine xJ ?_;simp;refine Aj (hK _ _ ?_);(repeat refine xS ?_);refine BX fun K hK=>?_;refine xJ ?_;simp[t0,t2];refine Bp (s2) rfl (by simp[xN]) ?_;simp;refine xJ ?_;simp;refine Aj (hK _ _ ?_);(try simp only[xQ,reduceIte]);unfold Ri at k1 k2;refine Az fun K hK=>?_;refine xJ ?_;simp[t0];refine AS.call rfl rfl (by simp) (f:=177) (args:=[.ptr 0 1 0 0,.d (AG sa1),.d (AG sb1)]) (by simp[callee];try rfl) (by simp) k1 ?_;simp;refine xJ ?_;simp;refine Aj (hK _ _ ?_);refine Az fun K hK=>?_;refine xJ ?_;simp[t0];refine AS.call rfl rfl (by simp) (f:=177) (args:=[.ptr 0 1 0 0,.d (AG sa2),.d (AG sb2)]) (by simp[callee];try rfl) (by simp) k2 ?_;simp;refine xJ ?_;simp;refine Aj (hK _ _ ?_);refine Az fun K hK=>?_;refine xJ ?_;simp[t0];refine xF (q2) [1] rfl ?_;simp;refine xJ ?_;simp;refine Aj (hK _ _ ?_);refine xW fun K hK=>?_;simp[t0];apply hK;refine Az fun K hK=>?_;refine xJ ?_;simp[t0,t1,t2,h1m,n2,Af,forall_and];refine Aj (hK _ _ ?_);refine xW fun K hK=>?_;simp;apply hK;refine Ag ?_;(try simp only[xQ,reduceIte]);refine⟨_,AJ.refl,?_⟩;simp[Am]
    ·cases h
end Go.Koi
