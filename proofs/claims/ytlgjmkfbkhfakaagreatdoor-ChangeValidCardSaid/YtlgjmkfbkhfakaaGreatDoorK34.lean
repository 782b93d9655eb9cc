/- Part 35 of the proof that the law ChangeValid returns true for every input. -/
import Derived.Test.YtlgjmkfbkhfakaaGreatDoorK33
set_option maxHeartbeats 64000000
set_option maxRecDepth 100000
namespace Go.Koi
open Go.Proofs Tryz DT
def CO(g:AF)(i:Int):AT:=g.AD.getD i.toNat F1
def FG(g:AF)(r:Rewrite):List Symbol:=
 if r.at_<0 then(CO g r.prod).right else(CO g r.prod).right.take r.at_.toNat++((CO g r.child).right++(CO g r.prod).right.drop (r.at_.toNat+1))
def ABe(g:AF)(r:Rewrite):Bool:=
 if r.at_= -1 then decide (r.child= -1)else decide (0≤r.at_)&&(decide (r.at_<(CO g r.prod).right.length)&&(decide (0≤r.child)&&(decide (r.child<g.AD.length)&&
  decide ((CO g r.prod).right[r.at_.toNat]?=some ⟨false,(CO g r.child).left⟩))))
def ADD(g:AF)(r:Rewrite):Bool:=decide (0≤r.prod)&&(decide (r.prod<g.AD.length)&&(decide (r.BL.length≤512)&&ABe g r))
theorem ADK{g:AF}{r:Rewrite}(hg:∀p∈g.AD,p.right.length≤65536)(h:ADD g r=true):∃j:Nat,∃hj:j<g.AD.length,r.prod=j∧CO g r.prod=g.AD[j]∧r.BL.length≤512∧g.AD[j].right.length≤65536∧((r.at_= -1∧r.child= -1∧FG g r=g.AD[j].right)∨∃a c:Nat,∃hc:c<g.AD.length,∃ha:a<g.AD[j].right.length,r.at_=a∧r.child=c∧g.AD[j].right[a]=⟨false,g.AD[c].left⟩∧g.AD[c].right.length≤65536∧FG g r=g.AD[j].right.take a++(g.AD[c].right++g.AD[j].right.drop (a+1))):=by
 simp only[ADD,Bool.and_eq_true,decide_eq_true_eq]at h;obtain⟨h1,h2,h3,h5⟩:=h;obtain⟨j,hj⟩:∃j:Nat,r.prod=j:=⟨r.prod.toNat,by omega⟩;have ij:j<g.AD.length:=by omega
 have e1:CO g r.prod=g.AD[j]:=by simp[CO,hj,ij]
 unfold ABe at h5;rw[e1]at h5;refine⟨j,ij,hj,e1,h3,hg _ (List.getElem_mem ij),?_⟩;split at h5
 ·rename_i ha;exact .inl ⟨ha,by simpa using h5,by simp[FG,ha,e1]⟩
 ·simp only[Bool.and_eq_true,decide_eq_true_eq]at h5;obtain⟨k1,_,k2,k3,k5⟩:=h5;obtain⟨a,ha⟩:∃a:Nat,r.at_=a:=⟨r.at_.toNat,by omega⟩;obtain⟨c,hc⟩:∃c:Nat,r.child=c:=⟨r.child.toNat,by omega⟩;have iW:c<g.AD.length:=by omega
  have e2:CO g r.child=g.AD[c]:=by simp[CO,hc,iW]
  rw[ha,e2]at k5;obtain⟨k6,k7⟩:=List.getElem?_eq_some_iff.1 k5;simp only[Int.toNat_natCast]at k6 k7;exact .inr ⟨a,c,iW,k6,ha,hc,k7,hg _ (List.getElem_mem iW),by simp[FG,ha,e1,e2];omega⟩
theorem Rt(g:AF)(r:Rewrite)(hg:∀p∈g.AD,p.right.length≤65536)(h:ADD g r=true):Pure prog 118 [AB g,Ab r] (As (FG g r)):=by
 obtain⟨j,hj,nV,-,-,jc,jO⟩:=ADK hg h;have iu:=Ab.eq_1 r;refine Pure.AI func118 (by kernel_rfl) rfl (by simp) fun wf=>?_;rw[ntmps118];generalize qx:g.AD[j]=o at *;have jj:=AH.eq_1 o;refine xW fun K hK=>?_;simp;apply hK;(repeat refine xS ?_);refine xV fun K hK=>?_;simp[hj,nV,qx,jj,iu];refine hK _ _ ?_;(try simp only[xQ,reduceIte]);rcases jO with⟨ha,-,hh⟩|⟨a,c,hc,od,ha,lj,-,jT,hh⟩
 ·refine xS (xW fun K hK=>?_);simp[ha];apply hK;refine AU ?_;simp;(repeat refine xS ?_);refine xV fun K hK=>?_;simp;refine hK _ _ ?_;(try simp only[xQ,reduceIte]);rw[hh];refine Ag ⟨_,_,AJ.refl,?_⟩;try simp
 ·rw[hh];generalize rY:g.AD[c]=q at *;have heq:=AH.eq_1 q;have lA:=JF [o.right.take a,q.right,o.right.drop (a+1)] (by simp;omega);have jh:[o.right.take a,q.right,o.right.drop (a+1)].flatten=o.right.take a++(q.right++o.right.drop (a+1)):=by simp
  rw[jh]at lA;have um:¬(a:Int)<0:=by omega
  refine xS (xW fun K hK=>?_);simp[ha];apply hK;refine AU ?_;simp[um];refine CC ?_;have hw:IntKind.i64.wrap ((a:Int)+1)=(a+1:Nat):=by rw[IntKind.wrap_i64];omega
  have d1:a≤o.right.length:=by omega
  have g9:List.take o.right.length (List.map AL o.right)=List.map AL o.right:=List.take_of_length_le (by simp);have ui:∀k,List.take k (List.map AL o.right)=List.map AL (o.right.take k):=fun k=>by rw[List.map_take]
  have d7:(a:Int)+1≤o.right.length:=by omega
  have d9:(0:Int)≤a+1:=by omega
  have d8:a+1≤o.right.length:=by omega
  by_cases d5:a+1<o.right.length
  ·skip;(repeat refine xS ?_);refine xE [0,2,4,6,8,10,12,14,16,18,20,22,24,26,28,30,32,34,36] (by kernel_rfl) fun K hK=>?_;simp;refine xA 1 ?_;simp[lj,rY,hc,heq,hw,maxLen,d1,d5,d7,d9];refine Ae.CA (lA) rfl (by simp[g9,List.map_take,List.map_drop,xN]) ?_;simp[g9,List.map_take,List.map_drop];refine xA 1 ?_;simp;refine xM (hK _ _ ?_);(try simp only[xQ,reduceIte]);refine Ag ?_;(try simp only[xQ,reduceIte]);refine⟨_,_,AJ.refl,?_⟩;simp[asD]
  ·have d6:a+1=o.right.length:=by omega
   (repeat refine xS ?_);refine xE [0,2,4,6,8,10,12,14,16,18,20,22,24,26,28,30,32,34,36] (by kernel_rfl) fun K hK=>?_;simp;refine xA 1 ?_;simp[lj,rY,hc,heq,hw,maxLen,d1,d6];refine Ae.CA (lA) rfl (by simp[d6,List.map_take,xN]) ?_;simp[d6,List.map_take];refine xA 1 ?_;simp;refine xM (hK _ _ ?_);(try simp only[xQ,reduceIte]);refine Ag ?_;(try simp only[xQ,reduceIte]);refine⟨_,_,AJ.refl,?_⟩;simp[asD];omega
def AC8(g h:AF)(r:Rewrite):Bool×List Cw×List Bool:=ABc h (FG g r) (r.BL.length+1) ⟨false,(CO g r.prod).left⟩ r.BL (List.replicate (FG g r).length false)
def ABs(g h:AF)(r:Rewrite):Bool:=ADD g r&&((AC8 g h r).1&&decide ((AC8 g h r).2.1.length=0))
theorem ADd(g h:AF)(hg:∀p∈g.AD,p.right.length≤65536)(hr:AEv h)(r:Rewrite):Pure prog 33 [AB g,AB h,Ab r] (.bool (ABs g h r)):=by
 have iu:=Ab.eq_1 r;refine Pure.AI func33 (by kernel_rfl) rfl (by simp) fun wf=>?_;have iY:∀p∈h.AD,p.right.length≤maxLen:=by
  have:=wf.2.1;simp[WFD,AAY,DM]at this;intro p hp;exact(this.2.2.2.2.2.1.2 p hp).2.2.1.1
 rw[ntmps33];unfold ABs ADD;by_cases p1:0≤r.prod;case neg=>
  have p1':r.prod<0:=by omega
  refine xW fun K hK=>?_;simp;apply hK;refine xS (Az fun K hK=>?_);refine xH ?_;simp[iu,p1'];refine Aj (hK _ _ ?_);(try simp only[xQ,reduceIte]);refine AU ?_;simp;refine xW fun K hK=>?_;simp;apply hK;refine Ag ⟨_,_,AJ.refl,?_⟩;(try simp);simp[p1]
 by_cases p2:r.prod<g.AD.length;case neg=>
  have p1':¬r.prod<0:=by omega
  have p2':(g.AD.length:Int)≤r.prod:=by omega
  refine xW fun K hK=>?_;simp;apply hK;refine xS (Az fun K hK=>?_);refine xH ?_;simp[iu,p1',p2'];refine Aj (hK _ _ ?_);(try simp only[xQ,reduceIte]);refine AU ?_;simp;refine xW fun K hK=>?_;simp;apply hK;refine Ag ⟨_,_,AJ.refl,?_⟩;(try simp);simp[p2]
 obtain⟨j,nV⟩:∃j:Nat,r.prod=j:=⟨r.prod.toNat,by omega⟩;have hj:j<g.AD.length:=by omega
 have jC:¬g.AD.length≤j:=by omega
 have sX:¬(j:Int)<0:=by omega
 by_cases p3:r.BL.length≤512;case neg=>
  have p3':(512:Int)<r.BL.length:=by omega
  refine xW fun K hK=>?_;simp;apply hK;refine xS (Az fun K hK=>?_);refine xH ?_;simp[iu,nV,jC,sX,p3'];refine Aj (hK _ _ ?_);(try simp only[xQ,reduceIte]);refine AU ?_;simp[nV];refine xW fun K hK=>?_;simp;apply hK;refine Ag ⟨_,_,AJ.refl,?_⟩;(try simp);simp[p3]
 have kO:¬(512:Int)<r.BL.length:=by omega
 have ud:CO g r.prod=g.AD[j]:=by simp[CO,nV,hj]
 have mA:(decide (0≤r.prod)&&(decide (r.prod<g.AD.length)&&(decide (r.BL.length≤512)&&ABe g r)))=ABe g r:=by simp[p1,p2,p3]
 rw[mA];have sY:ABe g r=true→_:=fun h=>Rt g r hg (by rw[ADD,mA];exact h);have hHl:ABe g r=true→(FG g r).length≤1073741823:=fun h=>by
  obtain⟨j',jL,_,_,_,_,h6⟩:=ADK hg (r:=r) (by rw[ADD,mA];exact h);rcases h6 with⟨_,_,hh⟩|⟨a,c,hc,ha,_,_,_,jT,hh⟩
  ·rw[hh];have:=hg _ (List.getElem_mem jL);omega
  ·rw[hh];have:=hg _ (List.getElem_mem jL);simp;omega
 have qS:=AEX h (FG g r) hr iY (r.BL.length+1) ⟨false,(CO g r.prod).left⟩ r.BL (List.replicate (FG g r).length false) (by omega) (by simp) (by simp[AEx]);have mO:=AB1 h (FG g r) (r.BL.length+1) ⟨false,(CO g r.prod).left⟩ r.BL (List.replicate (FG g r).length false);change AE _ _ _ _ (.d (.bool (AC8 g h r).1)) (UH h (FG g r) (AC8 g h r).2.1 (AC8 g h r).2.2)at qS;change (AC8 g h r).2.1.length≤_∧(AC8 g h r).2.2.length=_ at mO;generalize AC8 g h r=Q at *;obtain⟨qb,qt,qu⟩:=Q;simp only at qS mO⊢;rw[ud]at qS;obtain⟨cb,my⟩:∃cb,ABe g r=cb:=⟨_,rfl⟩;have kc:=my;unfold ABe at kc;rw[ud]at kc;rw[my];rw[my]at sY hHl;clear mA;generalize FG g r=H at *;generalize qx:g.AD[j]=o at *;have jj:=AH.eq_1 o;unfold UH Wt at qS;have uH:=qS.Ei (args':=[.agg [.d (.bool false),.d (.int .i64 o.left)],.ptr 0 1 0 0,.ptr 1 1 0 0,.ptr 2 1 0 0,.ptr 3 1 0 0,.ptr 4 1 0 0]) rfl fun i h h'=>by
  match i,h with
  |0,_=>exact .inr ⟨AL ⟨false,o.left⟩,by simp[asD,AL],rfl⟩
  |1,_=>exact .inl rfl
  |2,_=>exact .inl rfl
  |3,_=>exact .inl rfl
  |4,_=>exact .inl rfl
  |5,_=>exact .inl rfl
 clear qS;refine xW fun K hK=>?_;simp;apply hK;refine xS (Az fun K hK=>?_);refine xH ?_;simp[iu,nV,jC,kO,sX];refine Aj (hK _ _ ?_);(try simp only[xQ,reduceIte]);refine AU ?_;simp;refine xK ?_;refine xW fun K hK=>?_;simp[hj,qx,jj];apply hK;refine AW.Ew (R:=fun tm S=>cb=true∧tm 3=.ptr 0 1 0 0∧tm 4=.ptr 1 1 0 0∧tm 5=.ptr 2 1 0 0∧tm 7=.ptr 3 1 0 0∧S=[.row true 9 [.d (AB g)],.row true 9 [.d (AB h)],.row true 4 [.d (Ab r)],.row true 13 [.d (AH o)]]) ?_ ?_
 ·by_cases a1:r.at_= -1
  ·rw[if_pos a1]at kc;by_cases a2:r.child= -1;case neg=>
    rw[decide_eq_false a2]at kc;subst kc;refine Bw ?_;refine xW fun K hK=>?_;simp[a1];apply hK;refine AU ?_;simp[iu,a1];refine xW fun K hK=>?_;simp;apply hK;refine AU ?_;simp[a2];refine xW fun K hK=>?_;simp;apply hK;refine Ag ⟨_,_,AJ.refl,?_⟩;try simp
   rw[decide_eq_true a2]at kc;subst kc;refine Bw ?_;refine xW fun K hK=>?_;simp[a1,a2];apply hK;refine AU ?_;simp[iu,a1,a2];refine xW fun K hK=>?_;simp;apply hK;refine AU ?_;simp;refine CC ?_;exact⟨_,_,AJ.refl,by simp,by simp,by simp,by simp,by simp[jj,nV]⟩
  rw[if_neg a1]at kc;by_cases b1:0≤r.at_;case neg=>
   have b1':r.at_<0:=by omega
   rw[decide_eq_false b1,Bool.false_and]at kc;subst kc;refine Bw ?_;refine xW fun K hK=>?_;simp;apply hK;refine AU ?_;simp[iu,a1];refine Az fun K hK=>?_;refine xH ?_;simp[b1'];refine Aj (hK _ _ ?_);refine AU ?_;simp;refine xW fun K hK=>?_;simp;apply hK;refine Ag ⟨_,_,AJ.refl,?_⟩;try simp
  by_cases b2:r.at_<o.right.length;case neg=>
   have b1':¬r.at_<0:=by omega
   have b2':(o.right.length:Int)≤r.at_:=by omega
   rw[decide_eq_false b2,Bool.false_and,Bool.and_false]at kc;subst kc;refine Bw ?_;refine xW fun K hK=>?_;simp;apply hK;refine AU ?_;simp[iu,a1];refine Az fun K hK=>?_;refine xH ?_;simp[b1',b2'];refine Aj (hK _ _ ?_);refine AU ?_;simp;refine xW fun K hK=>?_;simp;apply hK;refine Ag ⟨_,_,AJ.refl,?_⟩;try simp
  obtain⟨a,ha⟩:∃a:Nat,r.at_=a:=⟨r.at_.toNat,by omega⟩;have m1:¬(a:Int)= -1:=by omega
  have m2:¬(a:Int)<0:=by omega
  have m3:¬o.right.length≤a:=by omega
  have od:a<o.right.length:=by omega
  by_cases b3:0≤r.child;case neg=>
   have b3':r.child<0:=by omega
   rw[decide_eq_false b3,Bool.false_and,Bool.and_false,Bool.and_false]at kc;subst kc;refine Bw ?_;refine xW fun K hK=>?_;simp[ha];apply hK;refine AU ?_;simp[iu,ha,m1];refine Az fun K hK=>?_;refine xH ?_;simp[m2,m3,b3'];refine Aj (hK _ _ ?_);refine AU ?_;simp;refine xW fun K hK=>?_;simp;apply hK;refine Ag ⟨_,_,AJ.refl,?_⟩;try simp
  by_cases b4:r.child<g.AD.length;case neg=>
   have b3':¬r.child<0:=by omega
   have b4':(g.AD.length:Int)≤r.child:=by omega
   rw[decide_eq_false b4,Bool.false_and,Bool.and_false,Bool.and_false,Bool.and_false]at kc;subst kc;refine Bw ?_;refine xW fun K hK=>?_;simp[ha];apply hK;refine AU ?_;simp[iu,ha,m1];refine Az fun K hK=>?_;refine xH ?_;simp[m2,m3,b3',b4'];refine Aj (hK _ _ ?_);refine AU ?_;simp;refine xW fun K hK=>?_;simp;apply hK;refine Ag ⟨_,_,AJ.refl,?_⟩;try simp
  obtain⟨c,hc⟩:∃c:Nat,r.child=c:=⟨r.child.toNat,by omega⟩;have m4:¬(c:Int)<0:=by omega
  have m5:¬g.AD.length≤c:=by omega
  have jQ:c<g.AD.length:=by omega
  rw[decide_eq_true b1,decide_eq_true b2,decide_eq_true b3,decide_eq_true b4,Bool.true_and,Bool.true_and,Bool.true_and,Bool.true_and,ha,hc]at kc;have uI:CO g (c:Int)=g.AD[c]:=by simp[CO,jQ]
  rw[uI]at kc;generalize rY:g.AD[c]=q at *;have heq:=AH.eq_1 q;have oQ:decide (o.right[a]=⟨false,q.left⟩)=cb:=by
   rw[←kc];simp[od]
  generalize kK:o.right[a]=y at *;have vQ:=AL.eq_1 y;by_cases b5:y=⟨false,q.left⟩;case neg=>
   rw[decide_eq_false b5]at oQ;subst oQ;have b5':¬(y.token=false∧y.index=q.left):=fun⟨z1,z2⟩=>b5 (by cases y;simp only at z1 z2;subst z1;subst z2;rfl);refine Bw ?_;refine xW fun K hK=>?_;simp[ha,hc];apply hK;refine AU ?_;simp[iu,ha,hc,m1];refine Az fun K hK=>?_;refine xH ?_;simp[m2,m3,m4,m5];refine Aj (hK _ _ ?_);refine AU ?_;simp;refine xD [0,2,4,6,8,10,12,14,16,18,20,22,24,26,28,30] (by kernel_rfl) fun K hK=>?_;simp;refine xZ ?_;simp[od,kK,jQ,rY,heq,vQ,AAT,deq];refine xM (hK _ _ ?_);refine AU ?_;simp[b5'];refine fun _=>?_;refine xW fun K hK=>?_;simp;apply hK;refine Ag ⟨_,_,AJ.refl,?_⟩;try simp
  rw[decide_eq_true b5]at oQ;subst oQ;subst b5;refine Bw ?_;refine xW fun K hK=>?_;simp[ha,hc];apply hK;refine AU ?_;simp[iu,ha,hc,m1];refine Az fun K hK=>?_;refine xH ?_;simp[m2,m3,m4,m5];refine Aj (hK _ _ ?_);refine AU ?_;simp;refine xD [0,2,4,6,8,10,12,14,16,18,20,22,24,26,28,30] (by kernel_rfl) fun K hK=>?_;simp;refine xZ ?_;simp[od,kK,jQ,rY,heq,AL,AAT,deq];refine xM (hK _ _ ?_);refine AU ?_;simp;refine CC ?_;exact⟨_,_,AJ.refl,by simp,by simp,by simp,by simp,by simp[jj,nV]⟩
 rintro tm S ⟨sP,t3,t4,t5,t7,rfl⟩;subst sP;have hHl:=hHl rfl;have sY:=sY rfl;(repeat refine xS ?_);refine BX fun K hK=>?_;refine xJ ?_;simp[t3,t5];refine Bp (sY) rfl (by simp[xN]) ?_;simp;refine xJ ?_;simp;refine Aj (hK _ _ ?_);(try simp only[xQ,reduceIte]);have hH2:(H.length:Int)≤1073741824:=by omega
 refine xW fun K hK=>?_;simp[hH2];apply hK;refine xW fun K hK=>?_;simp[t5,iu];apply hK;refine xW fun K hK=>?_;simp;apply hK;refine xW fun K hK=>?_;simp[t4];apply hK;(repeat refine xS ?_);refine BX fun K hK=>?_;refine xJ ?_;simp[t7,jj];refine xF (uH) [7,4,6,1,8,5] rfl ?_;simp;cases qb with
 |false=>
  refine xH ?_;simp;refine Aj (hK _ _ ?_);(try simp only[xQ,reduceIte]);refine Ag ⟨_,_,AJ.refl,?_⟩;try simp
 |true=>
  refine xH ?_;simp;refine Aj (hK _ _ ?_);refine Ag ⟨_,_,AJ.refl,?_⟩;(try simp);cases qt<;>simp<;>omega
open Go.Proofs Tryz
def Nk(p i q:Int)(x:Rewrite):Bool:=x.prod==p&&(x.at_==i&&(decide (i<0)||x.child==q))
def PR(m:List Rewrite)(p:Int):Sg:=[.row true 1 [.d (An m)],.row true 1 [.d (AG p)]]
def Vh(m:List Rewrite)(p i q:Int):Sg:=PR m p++[.row true 1 [.d (AG i)],.row true 1 [.d (AG q)]]
theorem Zz(m:List Rewrite)(p i q:Int)(x:Rewrite):AE prog 123 [.d (Ab x),.ptr 1 1 0 0,.ptr 2 1 0 0,.ptr 3 1 0 0] (Vh m p i q) (.d (.bool (Nk p i q x))) (Vh m p i q):=by
 have iu:=Ab.eq_1 x;unfold Vh PR Nk;refine AE.B9 func123 (by kernel_rfl) rfl (by simp) fun wf _=>?_;rw[ntmps123];by_cases e1:x.prod=p
 ·by_cases e2:x.at_=i
  ·by_cases e3:i<0
   ·skip;refine xW fun K hK=>?_;simp[iu,e1,e2];apply hK;(repeat refine xS ?_);refine xV fun K hK=>?_;simp[e3];refine hK _ _ ?_;(try simp only[xQ,reduceIte]);(refine Ag ?_;(try simp only[xQ,reduceIte]);refine⟨_,_,_,AJ.refl,?_,?_,AJ.AY 4 (by simp) (by simp) (by simp) (by simp)⟩<;>simp[asD,e1,e2,e3])
   ·skip;refine xW fun K hK=>?_;simp[iu,e1,e2];apply hK;(repeat refine xS ?_);refine xV fun K hK=>?_;simp[e3];refine hK _ _ ?_;(try simp only[xQ,reduceIte]);(refine Ag ?_;(try simp only[xQ,reduceIte]);refine⟨_,_,_,AJ.refl,?_,?_,AJ.AY 4 (by simp) (by simp) (by simp) (by simp)⟩<;>simp[asD,e1,e2,e3])
  ·skip;refine xW fun K hK=>?_;simp[iu,e1];apply hK;(repeat refine xS ?_);refine xV fun K hK=>?_;simp[e2];refine hK _ _ ?_;(try simp only[xQ,reduceIte]);(refine Ag ?_;(try simp only[xQ,reduceIte]);refine⟨_,_,_,AJ.refl,?_,?_,AJ.AY 4 (by simp) (by simp) (by simp) (by simp)⟩<;>simp[asD,e1])
 ·skip;refine xW fun K hK=>?_;simp[iu];apply hK;(repeat refine xS ?_);refine xV fun K hK=>?_;simp[e1];refine hK _ _ ?_;(try simp only[xQ,reduceIte]);(refine Ag ?_;(try simp only[xQ,reduceIte]);refine⟨_,_,_,AJ.refl,?_,?_,AJ.AY 4 (by simp) (by simp) (by simp) (by simp)⟩<;>simp[asD,Bool.and_assoc])
theorem Vi(m:List Rewrite)(p i q:Int):AE prog 121 [.d (AG i),.d (AG q),.ptr 0 1 0 0,.ptr 1 1 0 0] (PR m p) (.d (.bool (m.any (Nk p i q)))) (PR m p):=by
 have sQ:=Gs m (Nk p i q) 123 [.ptr 1 1 0 0,.ptr 2 1 0 0,.ptr 3 1 0 0] (Vh m p i q) (fun x _=>Zz m p i q x);unfold Vh PR at sQ;unfold PR;refine AE.B9 func121 (by kernel_rfl) rfl (by simp) fun wf _=>?_;rw[ntmps121];refine xW fun K hK=>?_;simp;apply hK;(repeat refine xS ?_);refine BX fun K hK=>?_;refine xJ ?_;simp;refine AS.call rfl rfl (by simp) (f:=122) (args:=[.d (.sl (m.map Ab)),.fn (.func 123) [] [.ptr 1 1 0 0,.ptr 2 1 0 0,.ptr 3 1 0 0]]) (by simp[callee];try rfl) (by simp) sQ ?_;simp;refine xJ ?_;simp;refine Aj (hK _ _ ?_);(try simp only[xQ,reduceIte]);(refine Ag ?_;(try simp only[xQ,reduceIte]);refine⟨_,_,_,AJ.refl,?_,?_,AJ.AY 2 (by simp) (by simp) (by simp) (by simp)⟩<;>simp[asD])
def K6(g:AF)(m:List Rewrite)(p i:Int)(s:Symbol)(k:Nat):Bool:=(List.range k).all fun q=>!decide ((g.AD.getD q F1).left=s.index)||m.any (Nk p i q)
theorem Sd(g:AF)(m:List Rewrite)(p i:Int)(s:Symbol)(k:Nat):K6 g m p i s (k+1)=(K6 g m p i s k&&(!decide ((g.AD.getD k F1).left=s.index)||m.any (Nk p i k))):=by
 simp[K6,List.range_succ]
def aF(g:AF)(m:List Rewrite)(j i:Nat):Bool:=!((g.AD.getD j F1).right.getD i ⟨true,0⟩).token&&K6 g m j i ((g.AD.getD j F1).right.getD i ⟨true,0⟩) g.AD.length
def ACR(g:AF)(m:List Rewrite)(j:Nat):Bool:=m.any (Nk j (-1) 0)||(List.range (g.AD.getD j F1).right.length).any fun i=>aF g m j i
theorem ADf(g:AF)(m:List Rewrite)(j:Nat)(hj:j<g.AD.length)(hr:(g.AD.getD j F1).right.length≤2 ^ 20):Pure prog 35 [AB g,An m,AG j] (.bool (ACR g m j)):=by
 have h0:=Vi m j (-1) 0;have hq:=fun(i q:Nat)=>Vi m j i q;unfold PR at h0 hq;have ti:∀i,aF g m j i=(!((g.AD.getD j F1).right.getD i ⟨true,0⟩).token&&K6 g m j i ((g.AD.getD j F1).right.getD i ⟨true,0⟩) g.AD.length):=fun i=>rfl;have eo:g.AD.getD j F1=g.AD[j]:=by simp[hj]
 obtain⟨tb,hb⟩:∃tb,ACR g m j=tb:=⟨_,rfl⟩;rw[hb];unfold ACR at hb;rw[eo]at hb ti hr;refine Pure.AI func35 (by kernel_rfl) rfl (by simp) fun wf=>?_;have a1:g.AD.length≤maxLen:=by have:=wf.1;simp[WFD,AAY]at this;exact this.2.2.2.2.2.1.1
 have a2:g.AD[j].right.length≤maxLen:=by unfold maxLen;omega
 clear wf;generalize qx:g.AD[j]=o at *;have jj:=AH.eq_1 o;rw[ntmps35];refine xW fun K hK=>?_;simp;apply hK;refine xW fun K hK=>?_;simp;apply hK;refine xS (Az fun K hK=>?_);refine xJ ?_;simp;refine xF (h0) [1,2] rfl ?_;simp;refine xJ ?_;simp;refine Aj (hK _ _ ?_);(try simp only[xQ,reduceIte]);cases hm:m.any (Nk j (-1) 0)with
 |true=>
  rw[hm,Bool.true_or]at hb;subst hb;refine AU ?_;simp;refine xW fun K hK=>?_;simp;apply hK;refine Ag ⟨_,_,AJ.refl,?_⟩;try simp
 |false=>
  rw[hm,Bool.false_or]at hb;refine AU ?_;simp;refine xK ?_;refine xS (xW fun K hK=>?_);simp[hj,qx,jj];apply hK;refine Bw ?_;refine DC o.right.length (fun i tm S=>tm 3=.ptr 0 1 0 0∧tm 7=.fn (.func 121) [] [.ptr 1 1 0 0,.ptr 2 1 0 0]∧tm 20=.d (As o.right)∧tm 21=.d (.int .i64 o.right.length)∧tm 22=.d (.int .i64 i)∧(∀k,k<i→aF g m j k=false)∧S=[.row true 9 [.d (AB g)],.row true 1 [.d (An m)],.row true 1 [.d (AG j)]]) (Nat.zero_le _) (by simp) ?_;rintro i tm S hi ⟨t3,t7,t20,t21,t22,gy,rfl⟩;refine xW fun K hK=>?_;simp[t21,t22];apply hK;refine xC ?_;simp;refine⟨fun cx=>?_,fun hO=>?_⟩
  ·have nW:=ti i;have eg:o.right.getD i ⟨true,0⟩=o.right[i]:=by simp[cx]
   rw[eg]at nW;generalize hs:o.right[i]=s at *;have iB:=AL.eq_1 s;refine xK ?_;refine xB ?_;refine xW fun K hK=>?_;simp[t20,t22,cx,hs,iB];apply hK;refine xS (xW fun K hK=>?_);simp;apply hK;cases gn:s.token with
   |true=>
    rw[gn]at nW;refine AU ?_;simp;refine Cu ?_;refine xV fun K hK=>?_;simp[t22];apply hK;refine⟨cx,_,_,AJ.EL 3 (S':=[.row true 9 [.d (AB g)],.row true 1 [.d (An m)],.row true 1 [.d (AG j)]]) rfl (by simp) (by simp) (by simp),?_⟩;simp[clean,AAB,AAI,t3,t7,t20,t21,AQ cx a2];intro k hk;by_cases e:k=i
    ·subst e;simpa using nW
    ·exact gy k (by omega)
   |false=>
    rw[gn]at nW;refine AU ?_;simp;refine xK ?_;refine xW fun K hK=>?_;simp;apply hK;refine AW.El (R:=fun tm S=>tm 3=.ptr 0 1 0 0∧tm 7=.fn (.func 121) [] [.ptr 1 1 0 0,.ptr 2 1 0 0]∧tm 10=.d (.bool (K6 g m j i s g.AD.length))∧tm 20=.d (As o.right)∧tm 21=.d (.int .i64 o.right.length)∧tm 22=.d (.int .i64 i)∧S=[.row true 9 [.d (AB g)],.row true 1 [.d (An m)],.row true 1 [.d (AG j)],.row true 2 [.d (AL s)]]) ?_ ?_
    ·refine xW fun K hK=>?_;simp[t3];apply hK;refine Bw ?_;refine DC g.AD.length (fun q tm S=>tm 3=.ptr 0 1 0 0∧tm 7=.fn (.func 121) [] [.ptr 1 1 0 0,.ptr 2 1 0 0]∧tm 8=.d (.int .i64 i)∧tm 9=.ptr 3 1 0 0∧tm 10=.d (.bool (K6 g m j i s q))∧tm 20=.d (As o.right)∧tm 21=.d (.int .i64 o.right.length)∧tm 22=.d (.int .i64 i)∧tm 31=.d (.int .i64 g.AD.length)∧tm 32=.d (.int .i64 q)∧S=[.row true 9 [.d (AB g)],.row true 1 [.d (An m)],.row true 1 [.d (AG j)],.row true 2 [.d (AL s)]]) (Nat.zero_le _) (by simp[t3,t7,t20,t21,t22,iB,gn,K6]) ?_;rintro q tm S hqi ⟨t3,t7,t8,t9,t10,t20,t21,t22,t31,t32,rfl⟩;refine xW fun K hK=>?_;simp[t31,t32];apply hK;refine xC ?_;simp;refine⟨fun lB=>?_,fun yt=>?_⟩
     ·have ka:=Sd g m j i s q;have eq:g.AD.getD q F1=g.AD[q]:=by simp[lB]
      rw[eq]at ka;generalize qy:g.AD[q]=u at *;have qz:=AH.eq_1 u;have kL:=hq i q;refine xK ?_;refine xB ?_;(repeat refine xS ?_);refine xV fun K hK=>?_;simp[t32];refine hK _ _ ?_;(try simp only[xQ,reduceIte]);cases ha:K6 g m j i s q with
      |false=>
       rw[ha]at t10 ka;refine xE [0,2,4,6,8,10,12,14,16,18,20,22,24,26,28,30,32,34,36] (by kernel_rfl) fun K hK=>?_;simp;refine xZ ?_;simp[t10];refine xM (hK _ _ ?_);refine xV fun K hK=>?_;simp[t32];apply hK;refine⟨lB,_,_,AJ.refl,?_⟩;simp[t3,t7,t8,t9,t20,t21,t22,t31,ka,AQ lB a1]
      |true=>
       rw[ha]at t10 ka;by_cases e:u.left=s.index
       ·refine xE [0,2,4,6,8,10,12,14,16,18,20,22,24,26,28,30,32,34,36] (by kernel_rfl) fun K hK=>?_;simp;refine xZ ?_;simp[t3,t9,t10,lB,qy,qz,iB,e,t7,t8];refine Ae.Qp kL [1,2] rfl rfl (by simp;try rfl) ?_;simp;refine xZ ?_;simp;refine xM (hK _ _ ?_);refine xV fun K hK=>?_;simp[t32];apply hK;refine⟨lB,_,_,AJ.refl,?_⟩;simp[t3,t7,t8,t9,t20,t21,t22,t31,ka,e,iB,AQ lB a1]
       ·(repeat refine xS ?_);refine xE [0,2,4,6,8,10,12,14,16,18,20,22,24,26,28,30,32,34,36] (by kernel_rfl) fun K hK=>?_;simp;(repeat((first|refine Oi rfl rfl ?_ ?_;(·simp[e])|refine dR rfl rfl ?_ ?_;(·simp[t3,t9,lB,qy,qz,e])|refine Ga ?_ ?_;(·simp[iB]));simp[t3,t9,t10,lB,qy,qz,iB]));refine xM (hK _ _ ?_);(try simp only[AAE,AAA]);refine xV fun K hK=>?_;simp[t32];apply hK;refine⟨lB,_,_,AJ.refl,?_⟩;simp[t3,t7,t8,t9,t20,t21,t22,t31,ka,e,iB,AQ lB a1]
     ·have e:q=g.AD.length:=by omega
      subst e;refine Cu ?_;simp[t3,t7,t10,t20,t21,t22]
    rintro tm S ⟨t3,t7,t10,t20,t21,t22,rfl⟩;(repeat refine xS ?_);refine xV fun K hK=>?_;simp[t10];refine hK _ _ ?_;(try simp only[xQ,reduceIte]);cases ha:K6 g m j i s g.AD.length with
    |true=>
     rw[ha]at nW;have uh:tb=true:=by
      rw[←hb,List.any_eq_true];exact⟨i,List.mem_range.2 cx,by simpa using nW⟩
     subst uh;refine AU ?_;simp;refine xW fun K hK=>?_;simp;apply hK;refine Ag ⟨_,_,AJ.refl,?_⟩;try simp
    |false=>
     rw[ha]at nW;refine AU ?_;simp;refine CC ?_;refine xV fun K hK=>?_;simp[t22];apply hK;refine⟨cx,_,_,AJ.EL 3 (S':=[.row true 9 [.d (AB g)],.row true 1 [.d (An m)],.row true 1 [.d (AG j)]]) rfl (by simp) (by simp) (by simp),?_⟩;simp[clean,AAB,AAI,t3,t7,t20,t21,AQ cx a2];intro k hk;by_cases e:k=i
     ·subst e;simpa using nW
     ·exact gy k (by omega)
  ·have e:i=o.right.length:=by omega
   subst e;have xk:tb=false:=by
    rw[←hb];cases hx:(List.range o.right.length).any fun i=>aF g m j i with
    |false=>rfl
    |true=>
     obtain⟨i0,h1,h2⟩:=List.any_eq_true.1 hx;rw[gy i0 (List.mem_range.1 h1)]at h2;cases h2
   subst xk;refine Cu ?_;refine xW fun K hK=>?_;simp;apply hK;refine Ag ⟨_,_,AJ.refl,?_⟩;try simp
open Go.Proofs Tryz DT
def okF(g:AF):Prop:=DX g=0∧¬ACv g
theorem AAt{g:AF}:fcG g=0↔okF g:=by
 unfold fcG fcE okF;by_cases h1:DX g=0
 ·rw[if_neg (by simpa using h1)];by_cases h2:ACv g
  ·rw[if_pos h2];simp[h1,h2]
  ·rw[if_neg h2];simp[h1,h2]
 ·rw[if_pos h1];simp[h1]
theorem ABO(g:AF)(hn:g.conds.length≤12):Pure prog 8 [AB g] (AG (fcG g)):=
 At.cZ ((ACq g hn).mono fun _ _ h=>⟨h.2,h.1⟩)
theorem AEM{g:AF}(h:DX g=0):AEv g:=fun p hp q hq ht=>by
 have h1:=AEY h p hp q hq;unfold ABM at h1;rw[if_pos ht]at h1;simp only[Bool.and_eq_true,decide_eq_true_eq]at h1;obtain⟨h1,h2⟩:=h1;split at h2
 ·rename_i t he;have:=(List.getElem?_eq_some_iff.1 he).1;exact⟨h1,by omega⟩
 ·cases h2
def ABo(g h:AF)(p:Nat):Bool:=decide (p<h.AD.length)&&(decide ((h.AD.getD p F1).left=(g.AD.getD p F1).left)&&decide ((h.AD.getD p F1).right=(g.AD.getD p F1).right))
noncomputable def mpE(g h:AF)(m:List Rewrite):Int:=
 if fcG g≠0 then fcG g else if fcG h≠0 then fcG h else if h.Ak.length<g.Ak.length∨h.BC.length<g.BC.length then 92
 else if m.all (ABs g h)=true∧((List.range g.AD.length).all fun p=>ABo g h p||ACR g m p)=true then 0 else 92
theorem ABz(g h:AF)(m:List Rewrite)(hg:g.conds.length≤12)(hh:h.conds.length≤12):Pure prog 9 [AB g,AB h,An m] (AG (mpE g h m)):=by
 have fg:=ABO g hg;have fh:=ABO h hh;have uJ:fcG g=0→DX g=0:=fun e=>(AAt.1 e).1;have uK:fcG h=0→DX h=0:=fun e=>(AAt.1 e).1;obtain⟨E,hE⟩:∃E,mpE g h m=E:=⟨_,rfl⟩;rw[hE];unfold mpE at hE;generalize fcG g=eg at *;generalize fcG h=eh at *;refine AE.B9 func9 (by kernel_rfl) rfl (by simp) fun wf _=>?_;have a1:g.AD.length≤maxLen:=by have:=wf.1;simp[WFV,WFD,AAY]at this;exact this.2.2.2.2.2.1.1
 have a2:m.length≤maxLen:=by have:=wf.2.2.1;simp[WFV,WFD]at this;exact this.1
 clear wf;have z1:IntKind.i64.wrap 1=1:=by decide
 have z2:IntKind.i64.wrap 2=2:=by decide
 rw[ntmps9];refine xW fun K hK=>?_;simp;apply hK;refine AW.El (R:=fun tm S=>tm 2=.d (An m)∧tm 3=.ptr 0 1 0 0∧tm 4=.ptr 1 1 0 0∧eg=0∧eh=0∧S=[.row true 9 [.d (AB g)],.row true 9 [.d (AB h)]]) ?_ ?_
 ·refine xW fun K hK=>?_;simp[maxLen];apply hK;refine Bw ?_;refine DC 2 (fun i tm S=>tm 2=.d (An m)∧tm 3=.ptr 0 1 0 0∧tm 4=.ptr 1 1 0 0∧tm 16=.full [AB g,AB h]∧tm 17=.d (.int .i64 2)∧tm 18=.d (.int .i64 i)∧(i≠0→eg=0)∧(i=2→eh=0)∧S=[.row true 9 [.d (AB g)],.row true 9 [.d (AB h)]]) (Nat.zero_le _) (by simp) ?_;rintro i tm S hi ⟨t2,t3,t4,t16,t17,t18,g1,g2,rfl⟩;have h3:i=0∨i=1∨i=2:=by omega
  rcases h3 with rfl|rfl|rfl
  ·refine xW fun K hK=>?_;simp[t17,t18];apply hK;refine xC ?_;simp;refine xK ?_;refine xB ?_;refine xW fun K hK=>?_;simp[t16,t18];apply hK;(repeat refine xS ?_);refine BX fun K hK=>?_;refine xJ ?_;simp;refine Bp (fg) rfl (by simp[xN]) ?_;simp;refine xJ ?_;simp;refine Aj (hK _ _ ?_);(try simp only[xQ,reduceIte]);by_cases hz:eg=0
   ·refine xW fun K hK=>?_;simp[hz];apply hK;refine AU ?_;simp[hz];refine CC ?_;refine xV fun K hK=>?_;simp[t18];apply hK;refine⟨_,_,AJ.EL 2 (S':=[.row true 9 [.d (AB g)],.row true 9 [.d (AB h)]]) rfl (by simp) (by simp) (by simp),?_⟩;simp[clean,AAB,t2,t3,t4,t16,t17,z1]
   ·refine xW fun K hK=>?_;simp;apply hK;refine AU ?_;simp[hz];rw[if_pos hz]at hE;subst hE;refine xW fun K hK=>?_;simp;apply hK;(refine Ag ?_;(try simp only[xQ,reduceIte]);refine⟨_,_,_,AJ.refl,?_,?_,AJ.AY 0 (S':=[]) rfl (by simp) (by simp) (by simp)⟩<;>simp[asD])
  ·refine xW fun K hK=>?_;simp[t17,t18];apply hK;refine xC ?_;simp;refine xK ?_;refine xB ?_;refine xW fun K hK=>?_;simp[t16,t18];apply hK;(repeat refine xS ?_);refine BX fun K hK=>?_;refine xJ ?_;simp;refine Bp (fh) rfl (by simp[xN]) ?_;simp;refine xJ ?_;simp;refine Aj (hK _ _ ?_);(try simp only[xQ,reduceIte]);by_cases hz:eh=0
   ·refine xW fun K hK=>?_;simp[hz];apply hK;refine AU ?_;simp[hz];refine CC ?_;refine xV fun K hK=>?_;simp[t18];apply hK;refine⟨_,_,AJ.EL 2 (S':=[.row true 9 [.d (AB g)],.row true 9 [.d (AB h)]]) rfl (by simp) (by simp) (by simp),?_⟩;simp[clean,AAB,t2,t3,t4,t16,t17,z2,g1 (by decide)]
   ·refine xW fun K hK=>?_;simp;apply hK;refine AU ?_;simp[hz];rw[if_neg (by simpa using g1 (by decide)),if_pos hz]at hE;subst hE;refine xW fun K hK=>?_;simp;apply hK;(refine Ag ?_;(try simp only[xQ,reduceIte]);refine⟨_,_,_,AJ.refl,?_,?_,AJ.AY 0 (S':=[]) rfl (by simp) (by simp) (by simp)⟩<;>simp[asD])
  ·refine xW fun K hK=>?_;simp[t17,t18];apply hK;refine xC ?_;simp;refine Cu ?_;simp[t2,t3,t4,g1 (by decide),g2 rfl]
 rintro tm S ⟨t2,t3,t4,rfl,rfl,rfl⟩;rw[if_neg (by simp),if_neg (by simp)]at hE;have po:=uJ rfl;have xl:=uK rfl;have sE:=AA3 po;have hs:=ADd g h (fun p hp=>by have:=sE p hp;omega) (AEM xl);have hp:∀p,p<g.AD.length→_:=fun p hp=>ADf g m p hp (by
  have:=sE _ (List.getElem_mem hp);simp[hp];omega)
 by_cases c1:h.Ak.length<g.Ak.length;case pos=>
  rw[if_pos (.inl c1)]at hE;subst hE;have c1':(h.Ak.length:Int)<g.Ak.length:=by omega
  refine xS (Az fun K hK=>?_);refine xH ?_;simp[t3,t4,c1'];refine Aj (hK _ _ ?_);(try simp only[xQ,reduceIte]);refine AU ?_;simp;(repeat refine xS ?_);refine xV fun K hK=>?_;simp;refine hK _ _ ?_;(try simp only[xQ,reduceIte]);(refine Ag ?_;(try simp only[xQ,reduceIte]);refine⟨_,_,_,AJ.refl,?_,?_,AJ.AY 0 (S':=[]) rfl (by simp) (by simp) (by simp)⟩<;>simp[asD])
 have c1':¬(h.Ak.length:Int)<g.Ak.length:=by omega
 by_cases c2:h.BC.length<g.BC.length;case pos=>
  rw[if_pos (.inr c2)]at hE;subst hE;have c2':(h.BC.length:Int)<g.BC.length:=by omega
  refine xS (Az fun K hK=>?_);refine xH ?_;simp[t3,t4,c1',c2'];refine Aj (hK _ _ ?_);(try simp only[xQ,reduceIte]);refine AU ?_;simp;(repeat refine xS ?_);refine xV fun K hK=>?_;simp;refine hK _ _ ?_;(try simp only[xQ,reduceIte]);(refine Ag ?_;(try simp only[xQ,reduceIte]);refine⟨_,_,_,AJ.refl,?_,?_,AJ.AY 0 (S':=[]) rfl (by simp) (by simp) (by simp)⟩<;>simp[asD])
 have c2':¬(h.BC.length:Int)<g.BC.length:=by omega
 rw[if_neg (by omega)]at hE;refine xS (Az fun K hK=>?_);refine xH ?_;simp[t3,t4,c1',c2'];refine Aj (hK _ _ ?_);(try simp only[xQ,reduceIte]);refine AU ?_;simp;refine xK ?_;refine AW.El (R:=fun tm S=>tm 2=.d (An m)∧tm 3=.ptr 0 1 0 0∧tm 4=.ptr 1 1 0 0∧(∀x∈m,ABs g h x=true)∧S=[.row true 9 [.d (AB g)],.row true 9 [.d (AB h)]]) ?_ ?_
 ·refine xW fun K hK=>?_;simp[t2];apply hK;refine Bw ?_;refine DC m.length (fun i tm S=>tm 2=.d (An m)∧tm 3=.ptr 0 1 0 0∧tm 4=.ptr 1 1 0 0∧tm 44=.d (An m)∧tm 45=.d (.int .i64 m.length)∧tm 46=.d (.int .i64 i)∧(∀x∈m.take i,ABs g h x=true)∧S=[.row true 9 [.d (AB g)],.row true 9 [.d (AB h)]]) (Nat.zero_le _) (by simp[t2,t3,t4]) ?_;rintro i tm S hi ⟨t2,t3,t4,t44,t45,t46,gg,rfl⟩;refine xW fun K hK=>?_;simp[t45,t46];apply hK;refine xC ?_;simp;refine⟨fun cx=>?_,fun hO=>?_⟩
  ·have xm:=hs m[i];have g9:=List.take_succ_eq_append_getElem cx;have jV:=List.getElem_mem cx;generalize hx:m[i]=x at *;have cy:=Ab.eq_1 x;refine xK ?_;refine xB ?_;refine xW fun K hK=>?_;simp[t44,t46,cx,hx,cy];apply hK;refine Az fun K hK=>?_;refine xJ ?_;simp[t3,t4];refine Bp (xm) rfl (by simp[xN]) ?_;simp;refine xJ ?_;simp;refine Aj (hK _ _ ?_);cases qT:ABs g h x with
   |false=>
    rw[if_neg (fun hc=>by have:=List.all_eq_true.1 hc.1 x jV;rw[qT]at this;cases this)]at hE;subst hE;refine AU ?_;simp;(repeat refine xS ?_);refine xV fun K hK=>?_;simp;refine hK _ _ ?_;(try simp only[xQ,reduceIte]);(refine Ag ?_;(try simp only[xQ,reduceIte]);refine⟨_,_,_,AJ.refl,?_,?_,AJ.AY 0 (S':=[]) rfl (by simp) (by simp) (by simp)⟩<;>simp[asD])
   |true=>
    refine AU ?_;simp;refine CC ?_;refine xV fun K hK=>?_;simp[t46];apply hK;refine⟨cx,_,_,AJ.EL 2 (S':=[.row true 9 [.d (AB g)],.row true 9 [.d (AB h)]]) rfl (by simp) (by simp) (by simp),?_⟩;refine⟨by simp[clean,AAB,t2],by simp[clean,AAB,t3],by simp[clean,AAB,t4],by simp[clean,AAB,t44],by simp[clean,AAB,t45],by simp[clean,AAB,AQ cx a2],?_,rfl⟩;intro y hy;rw[g9]at hy;rcases List.mem_append.1 hy with hy|hy
    ·exact gg y hy
    ·rw[List.mem_singleton.1 hy];exact qT
  ·have e:i=m.length:=by omega
   subst e;rw[List.take_length]at gg;refine Cu ?_;(try simp only[AAE,AAA,reduceIte]);exact⟨t2,t3,t4,gg,trivial⟩
 rintro tm S ⟨t2,t3,t4,qQ,rfl⟩;refine AW.El (R:=fun tm S=>∀p,p<g.AD.length→ABo g h p=true∨ACR g m p=true) ?_ ?_
 ·refine xW fun K hK=>?_;simp[t3];apply hK;refine Bw ?_;refine DC g.AD.length (fun i tm S=>tm 2=.d (An m)∧tm 3=.ptr 0 1 0 0∧tm 4=.ptr 1 1 0 0∧tm 57=.d (Bb g.AD)∧tm 58=.d (.int .i64 g.AD.length)∧tm 59=.d (.int .i64 i)∧(∀p,p<i→ABo g h p=true∨ACR g m p=true)∧S=[.row true 9 [.d (AB g)],.row true 9 [.d (AB h)]]) (Nat.zero_le _) (by simp[t2,t3,t4]) ?_;rintro i tm S hi ⟨t2,t3,t4,t57,t58,t59,gg,rfl⟩;refine xW fun K hK=>?_;simp[t58,t59];apply hK;refine xC ?_;simp;refine⟨fun cx=>?_,fun hO=>?_⟩
  ·have uL:=hp i cx;have jd:ABo g h i=_:=ABo.eq_1 g h i;have rk:g.AD.getD i F1=g.AD[i]:=by simp[cx]
   rw[rk]at jd;have mb:(ABo g h i=true∨ACR g m i=true)→∀p,p<i+1→ABo g h p=true∨ACR g m p=true:=fun hb p hp=>by
    by_cases e:p=i
    ·subst e;exact hb
    ·exact gg p (by omega)
   have iq:(ABo g h i||ACR g m i)=false→E=92:=fun hb=>by
    rw[if_neg (fun hc=>by have:=List.all_eq_true.1 hc.2 i (List.mem_range.2 cx);rw[hb]at this;cases this)]at hE;exact hE.symm
   refine xK ?_;refine xB ?_;generalize hx:g.AD[i]=x at *;have cy:=AH.eq_1 x;generalize ABo g h i=sb at *;generalize ACR g m i=tb at *;(repeat refine xS ?_);refine xV fun K hK=>?_;simp[t57,t59,cx,hx,cy];refine hK _ _ ?_;(try simp only[xQ,reduceIte]);by_cases e1:i<h.AD.length
   ·have e1':(i:Int)<h.AD.length:=by omega
    have kP:h.AD.getD i F1=h.AD[i]:=by simp[e1]
    rw[kP,decide_eq_true e1,Bool.true_and]at jd;generalize hy:h.AD[i]=y at *;have kH:=AH.eq_1 y;by_cases e2:y.left=x.left
    ·have heq:=ID y.right x.right;rw[decide_eq_true e2,Bool.true_and]at jd;refine xS ?_;refine xD [0,2,4,6,8,10,12,14,16,18,20,22,24,26,28,30,32,34,36,38,40,42,44,46,48,50,52] (by kernel_rfl) fun K hK=>?_;simp;refine xZ ?_;simp[t4,e1,e1',hy,kH,e2];refine Ae.CE (ds:=[As y.right,As x.right]) rfl rfl (by simp;rfl) (fun _=>heq) (by simp[xN]) ?_;simp;refine xZ ?_;simp;refine xM (hK _ _ ?_);(try simp only[xQ,reduceIte]);by_cases e3:y.right=x.right
     ·rw[decide_eq_true e3]at jd;subst jd;refine AU ?_;simp[e3];refine Cu ?_;refine xV fun K hK=>?_;simp[t59];apply hK;refine⟨cx,_,_,AJ.EL 2 (S':=[.row true 9 [.d (AB g)],.row true 9 [.d (AB h)]]) rfl (by simp) (by simp) (by simp),?_⟩;exact⟨by simp[clean,AAB,t2],by simp[clean,AAB,t3],by simp[clean,AAB,t4],by simp[clean,AAB,t57],by simp[clean,AAB,t58],by simp[clean,AAB,AQ cx a1],mb (by simp),rfl⟩
     ·rw[decide_eq_false e3]at jd;subst jd;refine AU ?_;simp[e3];refine xK ?_;refine Az fun K hK=>?_;refine xJ ?_;simp[t2,t3];refine Bp (uL) rfl (by simp[xN]) ?_;simp;refine xJ ?_;simp;refine Aj (hK _ _ ?_);cases tb with
      |true=>
       refine AU ?_;simp;refine CC ?_;refine xV fun K hK=>?_;simp[t59];apply hK;refine⟨cx,_,_,AJ.EL 2 (S':=[.row true 9 [.d (AB g)],.row true 9 [.d (AB h)]]) rfl (by simp) (by simp) (by simp),?_⟩;exact⟨by simp[clean,AAB,t2],by simp[clean,AAB,t3],by simp[clean,AAB,t4],by simp[clean,AAB,t57],by simp[clean,AAB,t58],by simp[clean,AAB,AQ cx a1],mb (by simp),rfl⟩
      |false=>
       have hE2:=iq rfl;subst hE2;refine AU ?_;simp;(repeat refine xS ?_);refine xV fun K hK=>?_;simp;refine hK _ _ ?_;(try simp only[xQ,reduceIte]);(refine Ag ?_;(try simp only[xQ,reduceIte]);refine⟨_,_,_,AJ.refl,?_,?_,AJ.AY 0 (S':=[]) rfl (by simp) (by simp) (by simp)⟩<;>simp[asD])
    ·rw[decide_eq_false e2,Bool.false_and]at jd;subst jd;refine xS ?_;refine xD [0,2,4,6,8,10,12,14,16,18,20,22,24,26,28,30,32,34,36,38,40,42,44,46,48,50,52] (by kernel_rfl) fun K hK=>?_;simp;(repeat((first|refine Oi rfl rfl ?_ ?_;(·simp[e2])|refine dR rfl rfl ?_ ?_;(·simp[t4,e1,e1',hy,kH])|refine Ga ?_ ?_;(·simp[t4,e2]));simp[t4,e1,e1',hy,kH]));refine xM (hK _ _ ?_);(try simp only[AAE,AAA,reduceIte]);refine AU ?_;simp;refine xK ?_;refine Az fun K hK=>?_;refine xJ ?_;simp[t2,t3];refine Bp (uL) rfl (by simp[xN]) ?_;simp;refine xJ ?_;simp;refine Aj (hK _ _ ?_);cases tb with
     |true=>
      refine AU ?_;simp;refine CC ?_;refine xV fun K hK=>?_;simp[t59];apply hK;refine⟨cx,_,_,AJ.EL 2 (S':=[.row true 9 [.d (AB g)],.row true 9 [.d (AB h)]]) rfl (by simp) (by simp) (by simp),?_⟩;exact⟨by simp[clean,AAB,t2],by simp[clean,AAB,t3],by simp[clean,AAB,t4],by simp[clean,AAB,t57],by simp[clean,AAB,t58],by simp[clean,AAB,AQ cx a1],mb (by simp),rfl⟩
     |false=>
      have hE2:=iq rfl;subst hE2;refine AU ?_;simp;(repeat refine xS ?_);refine xV fun K hK=>?_;simp;refine hK _ _ ?_;(try simp only[xQ,reduceIte]);(refine Ag ?_;(try simp only[xQ,reduceIte]);refine⟨_,_,_,AJ.refl,?_,?_,AJ.AY 0 (S':=[]) rfl (by simp) (by simp) (by simp)⟩<;>simp[asD])
   ·have e1':¬(i:Int)<h.AD.length:=by omega
    rw[decide_eq_false e1,Bool.false_and]at jd;subst jd;refine xS ?_;refine xD [0,2,4,6,8,10,12,14,16,18,20,22,24,26,28,30,32,34,36,38,40,42,44,46,48,50,52] (by kernel_rfl) fun K hK=>?_;simp;refine xZ ?_;simp[t4,e1'];refine xM (hK _ _ ?_);(try simp only[xQ,reduceIte]);refine AU ?_;simp;refine xK ?_;refine Az fun K hK=>?_;refine xJ ?_;simp[t2,t3];refine Bp (uL) rfl (by simp[xN]) ?_;simp;refine xJ ?_;simp;refine Aj (hK _ _ ?_);cases tb with
    |true=>
     refine AU ?_;simp;refine CC ?_;refine xV fun K hK=>?_;simp[t59];apply hK;refine⟨cx,_,_,AJ.EL 2 (S':=[.row true 9 [.d (AB g)],.row true 9 [.d (AB h)]]) rfl (by simp) (by simp) (by simp),?_⟩;exact⟨by simp[clean,AAB,t2],by simp[clean,AAB,t3],by simp[clean,AAB,t4],by simp[clean,AAB,t57],by simp[clean,AAB,t58],by simp[clean,AAB,AQ cx a1],mb (by simp),rfl⟩
    |false=>
     have hE2:=iq rfl;subst hE2;refine AU ?_;simp;refine xW fun K hK=>?_;simp;apply hK;(refine Ag ?_;(try simp only[xQ,reduceIte]);refine⟨_,_,_,AJ.refl,?_,?_,AJ.AY 0 (S':=[]) rfl (by simp) (by simp) (by simp)⟩<;>simp[asD])
  ·have e:i=g.AD.length:=by omega
   subst e;refine Cu ?_;exact gg
 rintro tm S tX;rw[if_pos ⟨List.all_eq_true.2 qQ,List.all_eq_true.2 fun p hp=>by simpa using tX p (List.mem_range.1 hp)⟩]at hE;subst hE;(repeat refine xS ?_);refine xV fun K hK=>?_;simp;refine hK _ _ ?_;(try simp only[xQ,reduceIte]);(refine Ag ?_;(try simp only[xQ,reduceIte]);refine⟨_,_,_,AJ.refl,?_,?_,AJ.AY 0 (S':=[]) rfl (by simp) (by simp) (by simp)⟩<;>simp[asD])
end Go.Koi
