/-
  Part 38 of the proof that the law ChangeRenames of the package koinelaw31 returns true for every input.
-/
import Derived.Test.YtknmpedpidhhbaaGreatDoorK36
set_option maxHeartbeats 64000000
set_option maxRecDepth 100000
namespace Go.Koi
open Go.Proofs Tryz DT
def chg(k i:Nat)(n:ByteArray):AAC:=⟨k,i,0,0,n,false,⟨[],0⟩,[],[],⟨ByteArray.empty,0,ByteArray.empty,[],ByteArray.empty,⟨[],0⟩⟩,⟨ByteArray.empty,0,[],⟨[],0⟩,false,0,[],⟨false,0,0,0,0⟩⟩,[]⟩
def lst(k:Nat)(g:AF):List ByteArray:=if k=1 then g.BC else if k=2 then g.AD.map (·.name)else g.conds
def rn(k:Nat)(g:AF)(i:Nat)(n:ByteArray):AF:=if k=1 then rnN g i n else if k=2 then rnP g i n else rnC g i n
def RnR(g F:AF)(v:V)(S':Sg):Prop:=
 S'=[]∧∃(h':AF) (m':List Rewrite) (e:Int),v=.d (.Bd [AB h',An m',AG e])∧h'.conds.length≤12∧(e=0→h'=F∧m'=[]∧DX F=0)∧(okF g→okF F→e=0)
theorem ACA(k i:Nat)(n:ByteArray):Fi ((fun x:AAC=>{x with number:=0,name:=⟨#[]⟩}) (chg k i n))=true:=rfl
theorem ADQ{k:Nat}(hk:k=1∨k=2∨k=3)(g:AF)(i:Nat)(n:ByteArray)(hi:i<(lst k g).length)(hc:g.conds.length≤12):
  At prog 6 [.d (AB g),.d (AO (chg k i n))] [] (RnR g (rn k g i n)):=by
 rcases hk with rfl|rfl|rfl
 ·have hl:Fz (chg 1 i n) g.BC.length=true:=by
   have:i<g.BC.length:=hi;simp[Fz,chg,this]
  exact(Rh DP g (chg 1 i n) rfl hc).mono fun v S' ⟨h1,h',m',e,h2,h3,h4,_,h6⟩=>⟨h1,h',m',e,h2,h3,h4,fun a b=>h6 a b (by rw[ACA,hl];rfl)⟩
 ·have hl:Ck g (chg 2 i n)=true:=by
   have:i<g.AD.length:=by simpa[lst]using hi
   simp[Ck,chg,this]
  exact(RO DP g (chg 2 i n) rfl hc).mono fun v S' ⟨h1,h',m',e,h2,h3,h4,_,h6⟩=>⟨h1,h',m',e,h2,h3,h4,fun a b=>h6 a b (by rw[ACA,hl];rfl)⟩
 ·have hl:Fz (chg 3 i n) g.conds.length=true:=by
   have:i<g.conds.length:=hi;simp[Fz,chg,this]
  exact(RD DP g (chg 3 i n) rfl hc).mono fun v S' ⟨h1,h',m',e,h2,h3,h4,_,h6⟩=>⟨h1,h',m',e,h2,h3,h4,fun a b=>h6 a b (by rw[ACA,hl];rfl)⟩
theorem AD7{k:Nat}(hk:k=1∨k=2∨k=3)(g:AF)(i _:Nat)(n:ByteArray):(lst k (rn k g i n)).length=(lst k g).length∧(rn k g i n).conds.length=g.conds.length:=by
 rcases hk with rfl|rfl|rfl<;>simp[lst,rn,rnN,rnP,rnC]
theorem AD6{k:Nat}(hk:k=1∨k=2∨k=3){g:AF}{kn:Bool}(h:MGk g kn 10 6){i:Nat}(hi:i<(lst k g).length):okF (rn k g i AAi):=by
 have s1:=h.c1;have s2:=h.n1;have s3:=h.p1;have s4:=h.l1;have s5:=h.f1;rcases hk with rfl|rfl|rfl
 ·exact(h.vg.rnN h.sh i).okF s1 (by simpa[Koi.rnN]using s2) (by simp only[Koi.rnN];omega) (by simp only[Koi.rnN];omega) (by simp only[Koi.rnN];omega)
 ·exact(h.vg.rnP h.sh (by simpa[lst]using hi)).okF s1 s2 (by simp only[Koi.rnP,List.length_set];omega) (by simp only[Koi.rnP];omega) (by simp only[Koi.rnP];omega)
 ·exact(h.vg.rnC h.sh i).okF (by simpa[Koi.rnC]using s1) s2 (by simp only[Koi.rnC];omega) (by simp only[Koi.rnC];omega) (by simp only[Koi.rnC];omega)
theorem ACx{k:Nat}(hk:k=1∨k=2∨k=3)(g:AF){i:Nat}(hi:i<(lst k g).length)(n:ByteArray):rn k (rn k g i n) i (lst k g)[i]=g:=by
 rcases hk with rfl|rfl|rfl
 ·exact ADY hi n
 ·have h2:i<g.AD.length:=by simpa[lst]using hi
  have e:(lst 2 g)[i]=g.AD[i].name:=by simp[lst]
  rw[e];exact ADJ h2 n
 ·exact ADZ hi n
theorem AD1{k:Nat}(hk:k=1∨k=2∨k=3)(g:AF){i:Nat}(hi:i<(lst k g).length):DX (rn k g i ⟨#[]⟩)≠0:=by
 rcases hk with rfl|rfl|rfl
 ·exact ADj hi
 ·exact ADi (by simpa[lst]using hi)
 ·exact ADn hi
theorem AEF{k:Nat}(hk:k=1∨k=2∨k=3){g:AF}(h:Sh g){i:Nat}(hi:i<(lst k g).length):rn k g i AAi≠g:=fun e=>by
 rcases hk with rfl|rfl|rfl
 ·have h1:=congrArg AF.BC e;have h2:i<g.BC.length:=hi;have h3:AAi∈g.BC:=by
   rw[←h1];exact List.mem_iff_getElem.2 ⟨i,by simpa[rn,rnN]using h2,by simp[rn,rnN]⟩
  exact ABD h.n h3
 ·have h2:i<g.AD.length:=by simpa[lst]using hi
  have h1:=congrArg (fun g:AF=>g.AD.map (·.name)) e;have h3:AAi∈g.AD.map (·.name):=by
   rw[←h1];exact List.mem_iff_getElem.2 ⟨i,by simpa[rn,rnP]using h2,by simp[rn,rnP]⟩
  exact ABD (fun s hm=>by obtain⟨p,hp,rfl⟩:=List.mem_map.1 hm;exact h.p p hp) h3
 ·have h1:=congrArg AF.conds e;have h2:i<g.conds.length:=hi;have h3:AAi∈g.conds:=by
   rw[←h1];exact List.mem_iff_getElem.2 ⟨i,by simpa[rn,rnC]using h2,by simp[rn,rnC]⟩
  exact ABD h.c h3
open Go.Proofs Tryz
def VK(f:Symbol→List Cw→List Bool→Option (List Cw×List Bool)):List Symbol→List Cw→List Bool→Option (List Cw×List Bool)
 |[],ts,us=>some (ts,us)
 |s::l,ts,us=>match f s ts us with
  |none=>none
  |some r=>VK f l r.1 r.2
def snd(h:AF)(hs:List Symbol):Nat→Symbol→List Cw→List Bool→Option (List Cw×List Bool)
 |0,_,_,_=>none
 |n+1,s,ts,us=>match ts with
  |[]=>none
  |t::ts=>if 0≤t.hole then
    (if t=Dk t.hole∧us[t.hole.toNat]?=some false∧hs[t.hole.toNat]?=some s then some (ts,us.set t.hole.toNat true)else none)
   else if s.token=false∧t=Bh t.prod∧0≤t.prod then
    (match h.AD[t.prod.toNat]? with
    |none=>none
    |some p=>if p.left=s.index∧p.right.length≤65536 then VK (snd h hs n) p.right ts us else none)
   else none
def Wt:List V:=[.ptr 0 1 0 0,.ptr 1 1 0 0,.ptr 2 1 0 0,.ptr 3 1 0 0,.ptr 4 1 0 0]
def UH(h:AF)(hs:List Symbol)(ts:List Cw)(us:List Bool):Sg:=
 [.row true 1 [.d (Bm ts)],.row true 1 [.d (As hs)],.row true 1 [.row 5 us.length],.row true 9 [.d (AB h)],.row true 1 [.fn (.func 146) [] Wt],.row true 1 (us.map fun b=>.d (.bool b))]
theorem bN(h:AF)(hs:List Symbol):∀(n:Nat) (s:Symbol) (ts:List Cw) (us:List Bool) (ts':List Cw) (us':List Bool),snd h hs n s ts us=some (ts',us')→AE prog 146 (.d (AL s)::Wt) (UH h hs ts us) (.d (.bool true)) (UH h hs ts' us'):=by
 intro n;induction n with
 |zero=>intro s ts us ts' us' h;simp[snd]at h
 |succ n ih=>
  intro s ts us ts' us' hq;unfold snd at hq;cases ts with
  |nil=>simp at hq
  |cons t ts=>
   simp only at hq;have het:=A1.eq_1 t;refine AE.B9 func146 (by kernel_rfl) rfl (by simp[Wt]) fun wf _=>?_;rw[ntmps146];unfold UH Wt at *;have hl0:¬((ts.length:Int)+1=0):=by omega
   have hd:ts=[]∨((AAL ((Option.map A1 ts[0]?).getD (.bool false))).length=4∧AAe.oneD ((Option.map A1 ts[0]?).getD (.bool false))=true):=by cases ts<;>simp
   have htk:List.take ts.length (List.map A1 ts)=List.map A1 ts:=List.take_of_length_le (by simp);have hl1:(1:Int)≤ts.length+1:=by omega
   refine xW fun K hK=>?_;simp;apply hK;refine xS (xW fun K hK=>?_);simp;apply hK;refine AU ?_;simp[hl0];refine xK ?_;refine xW fun K hK=>?_;simp;apply hK;(repeat refine xS ?_);refine xV fun K hK=>?_;simp[hl1,hd,htk];refine hK _ _ ?_;(try simp only[xQ,reduceIte]);split at hq
   ·rename_i hh;split at hq
    ·rename_i hc;obtain⟨hc1,hc2,hc3⟩:=hc;cases hq;obtain⟨k,hk⟩:∃k:Nat,t.hole=k:=⟨t.hole.toNat,by omega⟩;rw[hk]at hc1 hc2 hc3⊢;simp only[Int.toNat_natCast]at hc2 hc3⊢;subst hc1;refine xB ?_;refine xW fun K hK=>?_;simp[Dk];apply hK;refine AU ?_;simp;obtain⟨hk1,hk2⟩:=List.getElem?_eq_some_iff.1 hc3;obtain⟨hu1,hu2⟩:=List.getElem?_eq_some_iff.1 hc2;refine xS ?_;refine xD [0,2,4,6,8,10,12,14,16,18,20,22,24,26,28,30,32,34,36,38,40,42,44,46,48,50,52,54] (by kernel_rfl) fun K hK=>?_;simp;(repeat((first|refine Oi rfl rfl ?_ ?_;(·simp)|refine dR rfl rfl ?_ ?_;(·simp[hk1,hk2,hu1,hu2])|refine Ga ?_ ?_;(·simp[hk1]));simp[hk1,hk2,hu1,hu2,AAk,deq]));(repeat((first|refine Oi rfl rfl ?_ ?_;(·simp[AL])|refine dR rfl rfl ?_ ?_;(·simp[hk1,AL])|refine Ga ?_ ?_;(·simp));simp[AL,AAk,deq]));refine xM (hK _ _ ?_);(try simp only[AAo,AAX,reduceIte]);have hnk:¬hs.length≤k:=by omega
     refine AU ?_;simp[hnk];refine xK ?_;refine xW fun K hK=>?_;simp[hu1,hu2];apply hK;(repeat refine xS ?_);refine xV fun K hK=>?_;simp;refine hK _ _ ?_;(try simp only[xQ,reduceIte]);have es:(us.map fun b=>V.d (.bool b)).set k (.d (.bool true))=(us.set k true).map fun b=>V.d (D.bool b):=by rw[List.map_set]
     have hbv:AAG 6 ((us.map fun b=>V.d (.bool b)).set k (.d (.bool true)))=true:=by rw[es];simp[-List.map_set]
     (refine Ag ?_;(try simp only[xQ,reduceIte]);refine⟨_,_,_,AJ.refl,?_,?_,AJ.AY 6 (S':=_) (by simp) (by simp) (by simp) (by simp[hbv])⟩<;>simp[asD])
    ·cases hq
   ·rename_i hh;split at hq
    ·rename_i hc;obtain⟨hc1,hc2,hc3⟩:=hc;obtain⟨k,hk⟩:∃k:Nat,t.prod=k:=⟨t.prod.toNat,by omega⟩;rw[hk]at hc2 hq;simp only[Int.toNat_natCast]at hq;subst hc2;cases hp:h.AD[k]? with
     |none=>rw[hp]at hq;simp at hq
     |some p=>
      rw[hp]at hq;simp only at hq;split at hq
      ·rename_i hl;obtain⟨hl,hrl⟩:=hl;obtain⟨hp1,hp2⟩:=List.getElem?_eq_some_iff.1 hp;have hep:=AH.eq_1 p;refine xB ?_;refine xW fun K hK=>?_;simp[Bh];apply hK;refine AU ?_;simp;refine xW fun K hK=>?_;simp;apply hK;refine AU ?_;simp;refine xW fun K hK=>?_;simp[hc1];apply hK;refine AU ?_;simp;refine CC ?_;refine xS ?_;refine xD [0,2,4,6,8,10,12,14,16,18,20,22,24,26,28,30,32,34,36,38,40,42,44,46,48,50,52,54,56,58,60,62,64] (by kernel_rfl) fun K hK=>?_;simp;(repeat((first|refine Oi rfl rfl ?_ ?_;(·simp)|refine dR rfl rfl ?_ ?_;(·simp[hc1,hp1,hp2,hl,hep])|refine Ga ?_ ?_;(·simp[hc1,hp1,hp2,hl,hep]));simp[hc1,hp1,hp2,hl,hep]));refine xM (hK _ _ ?_);(try simp only[xQ,reduceIte]);have hnk:¬h.AD.length≤k:=by omega
       have hs0:ByteArray.empty=(⟨#[]⟩:ByteArray):=rfl;have hkn:¬(k:Int)<0:=by omega
       refine AU ?_;simp[hnk,hs0,hkn];refine xK ?_;refine xS (xW fun K hK=>?_);simp[hp1,hp2,hep];apply hK;refine Bw ?_;have a1:p.right.length≤maxLen:=by unfold maxLen;omega
       refine DC p.right.length (fun i tm S=>tm 122=.d (As p.right)∧tm 123=.d (.int .i64 p.right.length)∧tm 124=.d (.int .i64 i)∧tm 5=.ptr 4 1 0 0∧∃ts us,VK (snd h hs n) (p.right.drop i) ts us=some (ts',us')∧S=UH h hs ts us++[.row true 2 [.d (AL s)],.row true 4 [.d (A1 (Bh k))]]) (Nat.zero_le _) ⟨by simp,by simp,by simp,by simp,ts,us,by simpa using hq,by simp[UH,Wt,Bh,A1];rfl⟩ ?_;rintro i tm S hi ⟨t122,t123,t124,t5,ts1,us1,hq1,rfl⟩;refine xW fun K hK=>?_;simp[t123,t124];apply hK;refine xC ?_;simp;refine⟨fun hlt=>?_,fun hge=>?_⟩
       ·rw[List.drop_eq_getElem_cons hlt]at hq1;simp only[VK]at hq1;cases hq2:snd h hs n p.right[i] ts1 us1 with
        |none=>rw[hq2]at hq1;cases hq1
        |some r=>
         rw[hq2]at hq1;have hcl:=ih p.right[i] ts1 us1 r.1 r.2 hq2;generalize hqe:p.right[i]=q at *;refine xK ?_;refine xB ?_;unfold UH Wt;refine xW fun K hK=>?_;simp[t122,t124,hlt,hqe];apply hK;refine Az fun K hK=>?_;refine xJ ?_;simp[t5];refine xY (hcl) _ rfl rfl ?_;simp[AL];refine xJ ?_;simp;refine Aj (hK _ _ ?_);refine AU ?_;simp;refine CC ?_;have hwi:IntKind.i64.wrap ((i:Int)+1)=(i+1:Nat):=AQ hlt a1;refine xV fun K hK=>?_;simp[t124,hwi];apply hK;refine⟨hlt,_,_,AJ.EL 8 (S':=UH h hs r.1 r.2++[.row true 2 [.d (AL s)],.row true 4 [.d (A1 (Bh k))]]) (by simp[UH,Wt,AL]) (by simp) (by simp) (by simp[UH,Wt]),?_⟩;refine⟨by simp[clean,AAB,t122],by simp[clean,AAB,t123],by simp[clean,AAB],by simp[clean,AAB,t5],r.1,r.2,hq1,rfl⟩
       ·have e:i=p.right.length:=by omega
        subst e;rw[List.drop_length]at hq1;simp only[VK,Option.some.injEq,Prod.mk.injEq]at hq1;obtain⟨rfl,rfl⟩:=hq1;refine Cu ?_;unfold UH Wt;(repeat refine xS ?_);refine xV fun K hK=>?_;simp;refine hK _ _ ?_;(try simp only[xQ,reduceIte]);(refine Ag ?_;(try simp only[xQ,reduceIte]);refine⟨_,_,_,AJ.refl,?_,?_,AJ.AY 6 (S':=_) (by simp) (by simp) (by simp) (by simp)⟩<;>simp[asD])
      ·cases hq
    ·cases hq
open Go.Proofs Tryz
def CO(g:AF)(i:Int):AT:=g.AD.getD i.toNat F1
def FG(g:AF)(r:Rewrite):List Symbol:=
 if r.at_<0 then(CO g r.prod).right else(CO g r.prod).right.take r.at_.toNat++((CO g r.child).right++(CO g r.prod).right.drop (r.at_.toNat+1))
def Xl(g:AF)(r:Rewrite):Bool:=
 decide (0≤r.prod)&&decide (r.prod<g.AD.length)&&decide (r.BL.length≤512)&&decide ((CO g r.prod).right.length≤65536)&&
  (if r.at_= -1 then decide (r.child= -1)else decide (0≤r.at_)&&decide (0≤r.child)&&decide (r.child<g.AD.length)&&decide ((CO g r.child).right.length≤65536)&&
   decide ((CO g r.prod).right[r.at_.toNat]?=some ⟨false,(CO g r.child).left⟩))
theorem Qj{g:AF}{r:Rewrite}(h:Xl g r=true):∃j:Nat,∃hj:j<g.AD.length,r.prod=j∧CO g r.prod=g.AD[j]∧r.BL.length≤512∧g.AD[j].right.length≤65536∧((r.at_= -1∧r.child= -1∧FG g r=g.AD[j].right)∨∃a c:Nat,∃hc:c<g.AD.length,∃ha:a<g.AD[j].right.length,r.at_=a∧r.child=c∧g.AD[j].right[a]=⟨false,g.AD[c].left⟩∧g.AD[c].right.length≤65536∧FG g r=g.AD[j].right.take a++(g.AD[c].right++g.AD[j].right.drop (a+1))):=by
 simp only[Xl,Bool.and_eq_true,decide_eq_true_eq]at h;obtain⟨⟨⟨⟨h1,h2⟩,h3⟩,h4⟩,h5⟩:=h;obtain⟨j,hj⟩:∃j:Nat,r.prod=j:=⟨r.prod.toNat,by omega⟩;have hj1:j<g.AD.length:=by omega
 have e1:CO g r.prod=g.AD[j]:=by simp[CO,hj,hj1]
 rw[e1]at h4 h5;refine⟨j,hj1,hj,e1,h3,h4,?_⟩;split at h5
 ·rename_i ha;exact .inl ⟨ha,by simpa using h5,by simp[FG,ha,e1]⟩
 ·simp only[Bool.and_eq_true,decide_eq_true_eq]at h5;obtain⟨⟨⟨⟨k1,k2⟩,k3⟩,k4⟩,k5⟩:=h5;obtain⟨a,ha⟩:∃a:Nat,r.at_=a:=⟨r.at_.toNat,by omega⟩;obtain⟨c,hc⟩:∃c:Nat,r.child=c:=⟨r.child.toNat,by omega⟩;have hc1:c<g.AD.length:=by omega
  have e2:CO g r.child=g.AD[c]:=by simp[CO,hc,hc1]
  rw[ha,e2]at k5;rw[e2]at k4;obtain⟨k6,k7⟩:=List.getElem?_eq_some_iff.1 k5;simp only[Int.toNat_natCast]at k6 k7;exact .inr ⟨a,c,hc1,k6,ha,hc,k7,k4,by simp[FG,ha,e1,e2];omega⟩
theorem Rt(g:AF)(r:Rewrite)(h:Xl g r=true):Pure prog 145 [AB g,Ab r] (As (FG g r)):=by
 obtain⟨j,hj,hrp,-,-,hl1,hcase⟩:=Qj h;have her:=Ab.eq_1 r;refine Pure.AI func145 (by kernel_rfl) rfl (by simp) fun wf=>?_;rw[ntmps145];generalize hpj:g.AD[j]=o at *;have heo:=AH.eq_1 o;refine xW fun K hK=>?_;simp;apply hK;(repeat refine xS ?_);refine xV fun K hK=>?_;simp[hj,hrp,hpj,heo,her];refine hK _ _ ?_;(try simp only[xQ,reduceIte]);rcases hcase with⟨ha,-,hh⟩|⟨a,c,hc,hal,ha,hrc,-,hl2,hh⟩
 ·refine xS (xW fun K hK=>?_);simp[ha];apply hK;refine AU ?_;simp;(repeat refine xS ?_);refine xV fun K hK=>?_;simp;refine hK _ _ ?_;(try simp only[xQ,reduceIte]);rw[hh];refine Ag ⟨_,_,AJ.refl,?_⟩;try simp
 ·rw[hh];generalize hpc:g.AD[c]=q at *;have heq:=AH.eq_1 q;have hcc:=JF [o.right.take a,q.right,o.right.drop (a+1)] (by simp;omega);have hfl:[o.right.take a,q.right,o.right.drop (a+1)].flatten=o.right.take a++(q.right++o.right.drop (a+1)):=by simp
  rw[hfl]at hcc;have ha0:¬(a:Int)<0:=by omega
  refine xS (xW fun K hK=>?_);simp[ha];apply hK;refine AU ?_;simp[ha0];refine CC ?_;have hw:IntKind.i64.wrap ((a:Int)+1)=(a+1:Nat):=by rw[IntKind.wrap_i64];omega
  have d1:a≤o.right.length:=by omega
  have htk:List.take o.right.length (List.map AL o.right)=List.map AL o.right:=List.take_of_length_le (by simp);have hmt:∀k,List.take k (List.map AL o.right)=List.map AL (o.right.take k):=fun k=>by rw[List.map_take]
  have d7:(a:Int)+1≤o.right.length:=by omega
  have d9:(0:Int)≤a+1:=by omega
  have d8:a+1≤o.right.length:=by omega
  by_cases d5:a+1<o.right.length
  ·skip;(repeat refine xS ?_);refine xE [0,2,4,6,8,10,12,14,16,18,20,22,24,26,28,30,32,34,36] (by kernel_rfl) fun K hK=>?_;simp;refine xA 1 ?_;simp[hrc,hpc,hc,heq,hw,maxLen,d1,d5,d7,d9];refine Ae.CA (hcc) rfl (by simp[htk,List.map_take,List.map_drop,xN]) ?_;simp[htk,List.map_take,List.map_drop];refine xA 1 ?_;simp;refine xM (hK _ _ ?_);(try simp only[xQ,reduceIte]);refine Ag ?_;(try simp only[xQ,reduceIte]);refine⟨_,_,AJ.refl,?_⟩;simp[asD]
  ·have d6:a+1=o.right.length:=by omega
   (repeat refine xS ?_);refine xE [0,2,4,6,8,10,12,14,16,18,20,22,24,26,28,30,32,34,36] (by kernel_rfl) fun K hK=>?_;simp;refine xA 1 ?_;simp[hrc,hpc,hc,heq,hw,maxLen,d1,d6];refine Ae.CA (hcc) rfl (by simp[d6,List.map_take,xN]) ?_;simp[d6,List.map_take];refine xA 1 ?_;simp;refine xM (hK _ _ ?_);(try simp only[xQ,reduceIte]);refine Ag ?_;(try simp only[xQ,reduceIte]);refine⟨_,_,AJ.refl,?_⟩;simp[asD];omega
def Pw(g h:AF)(r:Rewrite):Bool:=Xl g r&&(match snd h (FG g r) 600 ⟨false,(CO g r.prod).left⟩ r.BL (List.replicate (FG g r).length false)with|some ([],_)=>true|_=>false)
theorem T4(g h:AF)(r:Rewrite)(hb:Pw g h r=true):Pure prog 103 [AB g,AB h,Ab r] (.bool true):=by
 simp only[Pw,Bool.and_eq_true]at hb;obtain⟨hb,hs⟩:=hb;have hho:=Rt g r hb;obtain⟨us',hs⟩:∃us',snd h (FG g r) 600 ⟨false,(CO g r.prod).left⟩ r.BL (List.replicate (FG g r).length false)=some ([],us'):=by
  split at hs
  ·rename_i us he;exact⟨us,he⟩
  ·cases hs
 obtain⟨j,hj,hrp,hpa,htl,hl1,hcase⟩:=Qj hb;have hHl:(FG g r).length≤1073741823:=by
  rcases hcase with⟨_,_,hh⟩|⟨a,c,hc,ha,_,_,_,hl2,hh⟩
  ·rw[hh];omega
  ·rw[hh];simp;omega
 rw[hpa]at hs;clear hb hpa;generalize FG g r=H at *;have hsd:=bN h H _ _ _ _ _ _ hs;have her:=Ab.eq_1 r;refine Pure.AI func103 (by kernel_rfl) rfl (by simp) fun wf=>?_;rw[ntmps103];generalize hpj:g.AD[j]=o at *;have heo:=AH.eq_1 o;unfold UH Wt at hsd;have hsd2:=hsd.Ei (args':=[.agg [.d (.bool false),.d (.int .i64 o.left)],.ptr 0 1 0 0,.ptr 1 1 0 0,.ptr 2 1 0 0,.ptr 3 1 0 0,.ptr 4 1 0 0]) rfl fun i h h'=>by
  match i,h with
  |0,_=>exact .inr ⟨AL ⟨false,o.left⟩,by simp[asD,AL],rfl⟩
  |1,_=>exact .inl rfl
  |2,_=>exact .inl rfl
  |3,_=>exact .inl rfl
  |4,_=>exact .inl rfl
  |5,_=>exact .inl rfl
 clear hsd;have hn1:¬g.AD.length≤j:=by omega
 have hn2:¬(512:Int)<r.BL.length:=by omega
 have hn3:¬(j:Int)<0:=by omega
 refine xW fun K hK=>?_;simp;apply hK;refine xS (Az fun K hK=>?_);refine xH ?_;simp[her,hrp,hn1,hn2,hn3];refine Aj (hK _ _ ?_);(try simp only[xQ,reduceIte]);refine AU ?_;simp;refine xK ?_;refine xW fun K hK=>?_;simp[hj,hpj,heo];apply hK;refine AW.Ew (R:=fun tm S=>tm 3=.ptr 0 1 0 0∧tm 4=.ptr 1 1 0 0∧tm 5=.ptr 2 1 0 0∧tm 7=.ptr 3 1 0 0∧S=[.row true 9 [.d (AB g)],.row true 9 [.d (AB h)],.row true 4 [.d (Ab r)],.row true 13 [.d (AH o)]]) ?_ ?_
 ·rcases hcase with⟨ha,hc,-⟩|⟨a,c,hcl,hal,ha,hrc,hsy,hl2,-⟩
  ·refine Bw ?_;refine xW fun K hK=>?_;simp[ha,hc];apply hK;refine AU ?_;simp[her,ha,hc];refine xW fun K hK=>?_;simp;apply hK;refine AU ?_;simp;refine CC ?_;exact⟨_,_,AJ.refl,by simp,by simp,by simp,by simp,by simp[heo,hrp]⟩
  ·have m1:¬(a:Int)= -1:=by omega
   have m2:¬(a:Int)<0:=by omega
   have m3:¬o.right.length≤a:=by omega
   have m4:¬(c:Int)<0:=by omega
   have m5:¬g.AD.length≤c:=by omega
   generalize hpc:g.AD[c]=q at *;have heq:=AH.eq_1 q;refine Bw ?_;refine xW fun K hK=>?_;simp[ha,hrc];apply hK;refine AU ?_;simp[her,ha,hrc,m1];refine Az fun K hK=>?_;refine xH ?_;simp[m2,m3,m4,m5];refine Aj (hK _ _ ?_);refine AU ?_;simp;refine xD [0,2,4,6,8,10,12,14,16,18,20,22,24,26,28,30] (by kernel_rfl) fun K hK=>?_;simp;refine xZ ?_;simp[hal,hsy,hcl,hpc,heq,AL,AAk,deq];refine xM (hK _ _ ?_);refine AU ?_;simp;refine CC ?_;exact⟨_,_,AJ.refl,by simp,by simp,by simp,by simp,by simp[heo,hrp]⟩
 rintro tm S ⟨t3,t4,t5,t7,rfl⟩;(repeat refine xS ?_);refine BX fun K hK=>?_;refine xJ ?_;simp[t3,t5];refine Bp (hho) rfl (by simp[xN]) ?_;simp;refine xJ ?_;simp;refine Aj (hK _ _ ?_);(try simp only[xQ,reduceIte]);have hH2:(H.length:Int)≤1073741824:=by omega
 refine xW fun K hK=>?_;simp[hH2];apply hK;refine xW fun K hK=>?_;simp[t5,her];apply hK;refine xW fun K hK=>?_;simp;apply hK;refine xW fun K hK=>?_;simp[t4];apply hK;(repeat refine xS ?_);refine BX fun K hK=>?_;refine xJ ?_;simp[t7,heo];refine xF (hsd2) [7,4,6,1,8,5] rfl ?_;simp;refine xH ?_;simp;refine Aj (hK _ _ ?_);(try simp only[xQ,reduceIte]);refine Ag ⟨_,_,AJ.refl,?_⟩;try simp
open Go.Proofs Tryz
def Nk(p i q:Int)(x:Rewrite):Bool:=x.prod==p&&(x.at_==i&&(decide (i<0)||x.child==q))
def PR(m:List Rewrite)(p:Int):Sg:=[.row true 1 [.d (An m)],.row true 1 [.d (AG p)]]
def Vh(m:List Rewrite)(p i q:Int):Sg:=PR m p++[.row true 1 [.d (AG i)],.row true 1 [.d (AG q)]]
theorem Zz(m:List Rewrite)(p i q:Int)(x:Rewrite):AE prog 150 [.d (Ab x),.ptr 1 1 0 0,.ptr 2 1 0 0,.ptr 3 1 0 0] (Vh m p i q) (.d (.bool (Nk p i q x))) (Vh m p i q):=by
 have her:=Ab.eq_1 x;unfold Vh PR Nk;refine AE.B9 func150 (by kernel_rfl) rfl (by simp) fun wf _=>?_;rw[ntmps150];by_cases e1:x.prod=p
 ·by_cases e2:x.at_=i
  ·by_cases e3:i<0
   ·skip;refine xW fun K hK=>?_;simp[her,e1,e2];apply hK;(repeat refine xS ?_);refine xV fun K hK=>?_;simp[e3];refine hK _ _ ?_;(try simp only[xQ,reduceIte]);(refine Ag ?_;(try simp only[xQ,reduceIte]);refine⟨_,_,_,AJ.refl,?_,?_,AJ.AY 4 (by simp) (by simp) (by simp) (by simp)⟩<;>simp[asD,e1,e2,e3])
   ·skip;refine xW fun K hK=>?_;simp[her,e1,e2];apply hK;(repeat refine xS ?_);refine xV fun K hK=>?_;simp[e3];refine hK _ _ ?_;(try simp only[xQ,reduceIte]);(refine Ag ?_;(try simp only[xQ,reduceIte]);refine⟨_,_,_,AJ.refl,?_,?_,AJ.AY 4 (by simp) (by simp) (by simp) (by simp)⟩<;>simp[asD,e1,e2,e3])
  ·skip;refine xW fun K hK=>?_;simp[her,e1];apply hK;(repeat refine xS ?_);refine xV fun K hK=>?_;simp[e2];refine hK _ _ ?_;(try simp only[xQ,reduceIte]);(refine Ag ?_;(try simp only[xQ,reduceIte]);refine⟨_,_,_,AJ.refl,?_,?_,AJ.AY 4 (by simp) (by simp) (by simp) (by simp)⟩<;>simp[asD,e1])
 ·skip;refine xW fun K hK=>?_;simp[her];apply hK;(repeat refine xS ?_);refine xV fun K hK=>?_;simp[e1];refine hK _ _ ?_;(try simp only[xQ,reduceIte]);(refine Ag ?_;(try simp only[xQ,reduceIte]);refine⟨_,_,_,AJ.refl,?_,?_,AJ.AY 4 (by simp) (by simp) (by simp) (by simp)⟩<;>simp[asD,Bool.and_assoc])
theorem Vi(m:List Rewrite)(p i q:Int):AE prog 148 [.d (AG i),.d (AG q),.ptr 0 1 0 0,.ptr 1 1 0 0] (PR m p) (.d (.bool (m.any (Nk p i q)))) (PR m p):=by
 have hcf:=Gs m (Nk p i q) 150 [.ptr 1 1 0 0,.ptr 2 1 0 0,.ptr 3 1 0 0] (Vh m p i q) (fun x _=>Zz m p i q x);unfold Vh PR at hcf;unfold PR;refine AE.B9 func148 (by kernel_rfl) rfl (by simp) fun wf _=>?_;rw[ntmps148];refine xW fun K hK=>?_;simp;apply hK;(repeat refine xS ?_);refine BX fun K hK=>?_;refine xJ ?_;simp;refine AS.call rfl rfl (by simp) (f:=149) (args:=[.d (.sl (m.map Ab)),.fn (.func 150) [] [.ptr 1 1 0 0,.ptr 2 1 0 0,.ptr 3 1 0 0]]) (by simp[callee];try rfl) (by simp) hcf ?_;simp;refine xJ ?_;simp;refine Aj (hK _ _ ?_);(try simp only[xQ,reduceIte]);(refine Ag ?_;(try simp only[xQ,reduceIte]);refine⟨_,_,_,AJ.refl,?_,?_,AJ.AY 2 (by simp) (by simp) (by simp) (by simp)⟩<;>simp[asD])
def K6(g:AF)(m:List Rewrite)(p i:Int)(s:Symbol)(k:Nat):Bool:=(List.range k).all fun q=>!decide ((g.AD.getD q F1).left=s.index)||m.any (Nk p i q)
theorem Sd(g:AF)(m:List Rewrite)(p i:Int)(s:Symbol)(k:Nat):K6 g m p i s (k+1)=(K6 g m p i s k&&(!decide ((g.AD.getD k F1).left=s.index)||m.any (Nk p i k))):=by
 simp[K6,List.range_succ]
def aF(g:AF)(m:List Rewrite)(j i:Nat):Bool:=!((g.AD.getD j F1).right.getD i ⟨true,0⟩).token&&K6 g m j i ((g.AD.getD j F1).right.getD i ⟨true,0⟩) g.AD.length
def cq(g:AF)(m:List Rewrite)(j:Nat):Bool:=m.any (Nk j (-1) 0)||(List.range (g.AD.getD j F1).right.length).any fun i=>aF g m j i
theorem NR(g:AF)(m:List Rewrite)(j:Nat)(hj:j<g.AD.length)(hr:(g.AD.getD j F1).right.length≤2 ^ 20)(hb:cq g m j=true):Pure prog 104 [AB g,An m,AG j] (.bool true):=by
 have h0:=Vi m j (-1) 0;have hq:=fun(i q:Nat)=>Vi m j i q;unfold PR at h0 hq;have ti:∀i,aF g m j i=(!((g.AD.getD j F1).right.getD i ⟨true,0⟩).token&&K6 g m j i ((g.AD.getD j F1).right.getD i ⟨true,0⟩) g.AD.length):=fun i=>rfl;have eo:g.AD.getD j F1=g.AD[j]:=by simp[hj]
 unfold cq at hb;rw[eo]at hb ti hr;refine Pure.AI func104 (by kernel_rfl) rfl (by simp) fun wf=>?_;have a1:g.AD.length≤maxLen:=by have:=wf.1;simp[WFD,AAY]at this;exact this.2.2.2.2.2.1.1
 have a2:g.AD[j].right.length≤maxLen:=by unfold maxLen;omega
 clear wf;generalize hpj:g.AD[j]=o at *;have heo:=AH.eq_1 o;rw[ntmps104];refine xW fun K hK=>?_;simp;apply hK;refine xW fun K hK=>?_;simp;apply hK;refine xS (Az fun K hK=>?_);refine xJ ?_;simp;refine xF (h0) [1,2] rfl ?_;simp;refine xJ ?_;simp;refine Aj (hK _ _ ?_);(try simp only[xQ,reduceIte]);cases hm:m.any (Nk j (-1) 0)with
 |true=>
  refine AU ?_;simp;refine xW fun K hK=>?_;simp;apply hK;refine Ag ⟨_,_,AJ.refl,?_⟩;try simp
 |false=>
  rw[hm,Bool.false_or,List.any_eq_true]at hb;obtain⟨i0,hi0,hb⟩:=hb;rw[List.mem_range]at hi0;refine AU ?_;simp;refine xK ?_;refine xS (xW fun K hK=>?_);simp[hj,hpj,heo];apply hK;refine Bw ?_;refine DC o.right.length (fun i tm S=>tm 3=.ptr 0 1 0 0∧tm 7=.fn (.func 148) [] [.ptr 1 1 0 0,.ptr 2 1 0 0]∧tm 20=.d (As o.right)∧tm 21=.d (.int .i64 o.right.length)∧tm 22=.d (.int .i64 i)∧(∀k,k<i→aF g m j k=false)∧S=[.row true 9 [.d (AB g)],.row true 1 [.d (An m)],.row true 1 [.d (AG j)]]) (Nat.zero_le _) (by simp) ?_;rintro i tm S hi ⟨t3,t7,t20,t21,t22,hno,rfl⟩;refine xW fun K hK=>?_;simp[t21,t22];apply hK;refine xC ?_;simp;refine⟨fun hlt=>?_,fun hge=>?_⟩
  ·have hti:=ti i;have eg:o.right.getD i ⟨true,0⟩=o.right[i]:=by simp[hlt]
   rw[eg]at hti;generalize hs:o.right[i]=s at *;have hes:=AL.eq_1 s;refine xK ?_;refine xB ?_;refine xW fun K hK=>?_;simp[t20,t22,hlt,hs,hes];apply hK;refine xS (xW fun K hK=>?_);simp;apply hK;cases hst:s.token with
   |true=>
    rw[hst]at hti;refine AU ?_;simp;refine Cu ?_;refine xV fun K hK=>?_;simp[t22];apply hK;refine⟨hlt,_,_,AJ.EL 3 (S':=[.row true 9 [.d (AB g)],.row true 1 [.d (An m)],.row true 1 [.d (AG j)]]) rfl (by simp) (by simp) (by simp),?_⟩;simp[clean,AAB,AAG,t3,t7,t20,t21,AQ hlt a2];intro k hk;by_cases e:k=i
    ·subst e;simpa using hti
    ·exact hno k (by omega)
   |false=>
    rw[hst]at hti;refine AU ?_;simp;refine xK ?_;refine xW fun K hK=>?_;simp;apply hK;refine AW.El (R:=fun tm S=>tm 3=.ptr 0 1 0 0∧tm 7=.fn (.func 148) [] [.ptr 1 1 0 0,.ptr 2 1 0 0]∧tm 10=.d (.bool (K6 g m j i s g.AD.length))∧tm 20=.d (As o.right)∧tm 21=.d (.int .i64 o.right.length)∧tm 22=.d (.int .i64 i)∧S=[.row true 9 [.d (AB g)],.row true 1 [.d (An m)],.row true 1 [.d (AG j)],.row true 2 [.d (AL s)]]) ?_ ?_
    ·refine xW fun K hK=>?_;simp[t3];apply hK;refine Bw ?_;refine DC g.AD.length (fun q tm S=>tm 3=.ptr 0 1 0 0∧tm 7=.fn (.func 148) [] [.ptr 1 1 0 0,.ptr 2 1 0 0]∧tm 8=.d (.int .i64 i)∧tm 9=.ptr 3 1 0 0∧tm 10=.d (.bool (K6 g m j i s q))∧tm 20=.d (As o.right)∧tm 21=.d (.int .i64 o.right.length)∧tm 22=.d (.int .i64 i)∧tm 31=.d (.int .i64 g.AD.length)∧tm 32=.d (.int .i64 q)∧S=[.row true 9 [.d (AB g)],.row true 1 [.d (An m)],.row true 1 [.d (AG j)],.row true 2 [.d (AL s)]]) (Nat.zero_le _) (by simp[t3,t7,t20,t21,t22,hes,hst,K6]) ?_;rintro q tm S hqi ⟨t3,t7,t8,t9,t10,t20,t21,t22,t31,t32,rfl⟩;refine xW fun K hK=>?_;simp[t31,t32];apply hK;refine xC ?_;simp;refine⟨fun hlq=>?_,fun hgq=>?_⟩
     ·have hsu:=Sd g m j i s q;have eq:g.AD.getD q F1=g.AD[q]:=by simp[hlq]
      rw[eq]at hsu;generalize hpq:g.AD[q]=u at *;have heu:=AH.eq_1 u;have hqq:=hq i q;refine xK ?_;refine xB ?_;(repeat refine xS ?_);refine xV fun K hK=>?_;simp[t32];refine hK _ _ ?_;(try simp only[xQ,reduceIte]);cases ha:K6 g m j i s q with
      |false=>
       rw[ha]at t10 hsu;refine xE [0,2,4,6,8,10,12,14,16,18,20,22,24,26,28,30,32,34,36] (by kernel_rfl) fun K hK=>?_;simp;refine xZ ?_;simp[t10];refine xM (hK _ _ ?_);refine xV fun K hK=>?_;simp[t32];apply hK;refine⟨hlq,_,_,AJ.refl,?_⟩;simp[t3,t7,t8,t9,t20,t21,t22,t31,hsu,AQ hlq a1]
      |true=>
       rw[ha]at t10 hsu;by_cases e:u.left=s.index
       ·refine xE [0,2,4,6,8,10,12,14,16,18,20,22,24,26,28,30,32,34,36] (by kernel_rfl) fun K hK=>?_;simp;refine xZ ?_;simp[t3,t9,t10,hlq,hpq,heu,hes,e,t7,t8];refine Ae.Qp hqq [1,2] rfl rfl (by simp;try rfl) ?_;simp;refine xZ ?_;simp;refine xM (hK _ _ ?_);refine xV fun K hK=>?_;simp[t32];apply hK;refine⟨hlq,_,_,AJ.refl,?_⟩;simp[t3,t7,t8,t9,t20,t21,t22,t31,hsu,e,hes,AQ hlq a1]
       ·(repeat refine xS ?_);refine xE [0,2,4,6,8,10,12,14,16,18,20,22,24,26,28,30,32,34,36] (by kernel_rfl) fun K hK=>?_;simp;(repeat((first|refine Oi rfl rfl ?_ ?_;(·simp[e])|refine dR rfl rfl ?_ ?_;(·simp[t3,t9,hlq,hpq,heu,e])|refine Ga ?_ ?_;(·simp[hes]));simp[t3,t9,t10,hlq,hpq,heu,hes]));refine xM (hK _ _ ?_);(try simp only[AAo,AAX]);refine xV fun K hK=>?_;simp[t32];apply hK;refine⟨hlq,_,_,AJ.refl,?_⟩;simp[t3,t7,t8,t9,t20,t21,t22,t31,hsu,e,hes,AQ hlq a1]
     ·have e:q=g.AD.length:=by omega
      subst e;refine Cu ?_;simp[t3,t7,t10,t20,t21,t22]
    rintro tm S ⟨t3,t7,t10,t20,t21,t22,rfl⟩;(repeat refine xS ?_);refine xV fun K hK=>?_;simp[t10];refine hK _ _ ?_;(try simp only[xQ,reduceIte]);cases ha:K6 g m j i s g.AD.length with
    |true=>
     refine AU ?_;simp;refine xW fun K hK=>?_;simp;apply hK;refine Ag ⟨_,_,AJ.refl,?_⟩;try simp
    |false=>
     rw[ha]at hti;refine AU ?_;simp;refine CC ?_;refine xV fun K hK=>?_;simp[t22];apply hK;refine⟨hlt,_,_,AJ.EL 3 (S':=[.row true 9 [.d (AB g)],.row true 1 [.d (An m)],.row true 1 [.d (AG j)]]) rfl (by simp) (by simp) (by simp),?_⟩;simp[clean,AAB,AAG,t3,t7,t20,t21,AQ hlt a2];intro k hk;by_cases e:k=i
     ·subst e;simpa using hti
     ·exact hno k (by omega)
  ·exfalso;have:=hno i0 (by omega);rw[this]at hb;cases hb
end Go.Koi
