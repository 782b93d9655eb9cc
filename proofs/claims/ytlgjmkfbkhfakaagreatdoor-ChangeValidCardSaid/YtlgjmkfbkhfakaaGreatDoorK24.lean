/- Part 25 of the proof that the law ChangeValid returns true for every input. -/
import Derived.Test.YtlgjmkfbkhfakaaGreatDoorK23
set_option maxHeartbeats 64000000
set_option maxRecDepth 100000
namespace Go.Koi
open Go.Proofs Tryz DT
def ABR(g:AF)(i:Int)(q:Token→Bool):Bool:=decide (0≤i)&&(match g.Ak[i.toNat]? with|some t=>q t|none=>false)
noncomputable def FZ(g:AF)(f:Filter):Bool:=
 if f.kind=1∨f.kind=2 then DS f.cond g.conds.length&&ABm g f
 else if f.kind=3∨f.kind=4 then DS f.cond g.conds.length&&decide (0≤f.left)&&decide (f.left<g.BC.length)&&LM g My f.tokens
 else if f.kind=5 then DS f.cond g.conds.length&&LM g MO f.tokens&&ABR g f.token (fun t=>My t&&!MO t)
 else false
def D8(f:Filter):Filter:=
 if f.kind=1∨f.kind=2 then {f with kind:=0,cond:=⟨[],0⟩,parent:=0,at_:=0,child:=0}
 else if f.kind=3∨f.kind=4 then {f with kind:=0,cond:=⟨[],0⟩,left:=0,tokens:=[]}
 else if f.kind=5 then {f with kind:=0,cond:=⟨[],0⟩,token:=0,tokens:=[]}
 else {f with kind:=0,cond:=⟨[],0⟩}
def Og(f:Filter):Bool:=decide (f.parent=0)&&decide (f.at_=0)&&decide (f.child=0)&&decide (f.left=0)&&decide (f.token=0)&&decide (f.tokens=[])
noncomputable def GU(g:AF)(f:Filter):Bool:=FZ g f&&Og (D8 f)
noncomputable def FH(g:AF):Bool:=g.AM.all (GU g)
def MF(f:Filter):V:=if f.kind=3∨f.kind=4∨f.kind=5 then .full []else .d (Ci f.tokens)
def XR(f:Filter)(tv:V):V:=.agg [.d (AG 0),.d (AG f.parent),.d (AG f.at_),.d (AG f.child),.d (AG f.left),.d (AG f.token),tv,.full [],.d (AG 0)]
theorem Jk(g:AF):Pure prog 159 [AB g] (AG (if FH g then 0 else 53)):=by
 refine Pure.AI func159 (by kernel_rfl) rfl (by simp) fun wf=>?_;have a1:g.AM.length≤maxLen:=by simp[AAY,WFD,AB]at wf;omega
 rw[ntmps159];refine xW fun K hK=>?_;simp;apply hK;refine xW fun K hK=>?_;simp;apply hK;refine xW fun K hK=>?_;simp;apply hK;refine xS (xW fun K hK=>?_);simp[AB];apply hK;refine Bw ?_;refine DC g.AM.length (fun i tm S=>tm 1=.ptr 0 1 0 0∧tm 3=.fn (.func 190) [] []∧tm 4=.fn (.func 191) [] []∧tm 10=.d (A8 g.AM)∧tm 11=.d (.int .i64 g.AM.length)∧tm 12=.d (.int .i64 i)∧S=[.row true 9 [.d (AB g)]]∧(∀j (h:j<i) (h':j<g.AM.length),GU g g.AM[j]=true)) (i0:=0) (Nat.zero_le _) (by simp[AB]) ?_;rintro i tm S hi ⟨t1,t3,t4,t10,t11,t12,rfl,gg⟩;refine xW fun K hK=>?_;simp[t11,t12];apply hK;refine xC ?_;simp;refine⟨fun cx=>?_,fun hO=>?_⟩
 ·have iq:GU g g.AM[i]=false→FH g=false:=fun h=>by
   unfold FH;rw[List.all_eq_false];exact⟨_,List.getElem_mem cx,by simp[h]⟩
  generalize hx:g.AM[i]=x at *;refine xK ?_;refine xB ?_;refine xW fun K hK=>?_;simp[t10,t12,cx,hx];apply hK;refine Az fun K hK=>?_;(repeat((refine B7 ?_ ?_);(focus(simp[t1,AB];try(first|omega|(simp +contextual[AK,t1,AB];done)|grind);done));simp[t1,AB]));refine Bp (IJ x.cond g.conds.length) rfl (by simp[AA]) ?_;simp;refine xJ ?_;simp;refine Aj (hK _ _ ?_);refine xW fun K hK=>?_;simp;apply hK;refine xW fun K hK=>?_;simp;apply hK;refine AW.El (R:=fun tm S=>tm 1=.ptr 0 1 0 0∧tm 3=.fn (.func 190) [] []∧tm 4=.fn (.func 191) [] []∧tm 10=.d (A8 g.AM)∧tm 11=.d (.int .i64 g.AM.length)∧tm 12=.d (.int .i64 i)∧tm 8=.ptr 2 1 0 0∧tm 7=.d (.bool (FZ g x))∧S=[.row true 9 [.d (AB g)],.row true 9 [.d (AK x)],.row true 9 [XR (D8 x) (MF x)]]) ?_ ?_
  ·refine xW fun K hK=>?_;simp;apply hK;refine Bw ?_;by_cases hk:x.kind=1
   ·refine xS (xW fun K hK=>?_);simp;apply hK;refine AU ?_;simp[hk];refine xK ?_;refine AU ?_;simp;refine xW fun K hK=>?_;simp;apply hK;refine BX fun K hK=>?_;refine xJ ?_;simp[t1];refine AS.CE (ds:=[AB g,AK x]) rfl rfl (by simp;rfl) (fun _=>QL g x) (by simp[hk,xN]) ?_;simp;(repeat((refine B7 ?_ ?_);(focus(simp;try(first|omega|(simp +contextual;done)|grind);done));simp));refine Aj (hK _ _ ?_);simp[t1,t3,t4,t10,t11,t12,FZ,D8,XR,MF,hk,AB,AK]
   ·by_cases jy:x.kind=2
    ·have hk:=jy;refine xS (xW fun K hK=>?_);simp;apply hK;refine AU ?_;simp[hk];refine xV fun K hK=>?_;simp;apply hK;refine AU ?_;simp;refine xW fun K hK=>?_;simp;apply hK;refine BX fun K hK=>?_;refine xJ ?_;simp[t1];refine AS.CE (ds:=[AB g,AK x]) rfl rfl (by simp;rfl) (fun _=>QL g x) (by simp[hk,xN]) ?_;simp;(repeat((refine B7 ?_ ?_);(focus(simp;try(first|omega|(simp +contextual;done)|grind);done));simp));refine Aj (hK _ _ ?_);simp[t1,t3,t4,t10,t11,t12,FZ,D8,XR,MF,hk,AB,AK]
    ·by_cases rL:x.kind=3
     ·have hk:=rL;refine xS (xW fun K hK=>?_);simp;apply hK;refine AU ?_;simp[hk];refine xV fun K hK=>?_;simp;apply hK;refine AU ?_;simp;refine xS (xW fun K hK=>?_);simp;apply hK;refine AU ?_;simp;refine xK ?_;refine AU ?_;simp;refine xW fun K hK=>?_;simp;apply hK;refine BX fun K hK=>?_;(repeat((refine B7 ?_ ?_);(focus(simp[t1];try(first|omega|(simp +contextual[t1,AB,AK];done)|grind);done));simp[t1]));refine AS.Hg rfl rfl (by simp[t3];rfl) (fun _=>GS g x.tokens 190 My PN) (by simp +contextual[t3,AB];try rfl) ?_;simp[t3];(repeat((refine B7 ?_ ?_);(focus(simp;try(first|omega|(simp +contextual;done)|grind);done));simp));refine Aj (hK _ _ ?_);simp[t1,t3,t4,t10,t11,t12,FZ,D8,XR,MF,hk,AB,AK]
     ·by_cases oA:x.kind=4
      ·have hk:=oA;refine xS (xW fun K hK=>?_);simp;apply hK;refine AU ?_;simp[hk];refine xV fun K hK=>?_;simp;apply hK;refine AU ?_;simp;refine xS (xW fun K hK=>?_);simp;apply hK;refine AU ?_;simp;refine xV fun K hK=>?_;simp;apply hK;refine AU ?_;simp;refine xW fun K hK=>?_;simp;apply hK;refine BX fun K hK=>?_;(repeat((refine B7 ?_ ?_);(focus(simp[t1];try(first|omega|(simp +contextual[t1,AB,AK];done)|grind);done));simp[t1]));refine AS.Hg rfl rfl (by simp[t3];rfl) (fun _=>GS g x.tokens 190 My PN) (by simp +contextual[t3,AB];try rfl) ?_;simp[t3];(repeat((refine B7 ?_ ?_);(focus(simp;try(first|omega|(simp +contextual;done)|grind);done));simp));refine Aj (hK _ _ ?_);simp[t1,t3,t4,t10,t11,t12,FZ,D8,XR,MF,hk,AB,AK]
      ·by_cases uo:x.kind=5
       ·have hk:=uo;refine xS (xW fun K hK=>?_);simp;apply hK;refine AU ?_;simp[hk];refine xV fun K hK=>?_;simp;apply hK;refine AU ?_;simp;refine xS (xW fun K hK=>?_);simp;apply hK;refine AU ?_;simp;refine xV fun K hK=>?_;simp;apply hK;refine AU ?_;simp;refine xW fun K hK=>?_;simp;apply hK;refine AU ?_;simp;refine xW fun K hK=>?_;simp;apply hK;(repeat refine xS ?_);refine BX fun K hK=>?_;(repeat((refine B7 ?_ ?_);(focus(simp[t1];try(first|omega|(simp +contextual[t1,AB,AK,t4];done)|grind);done));simp[t1,t4]));refine AS.Hg rfl rfl (by simp;rfl) (fun _=>GS g x.tokens 191 MO VU) (by simp +contextual[AB];try rfl) ?_;simp;(repeat((refine B7 ?_ ?_);(focus(simp[t1];try(first|omega|(simp +contextual[t1,AB];done)|grind);done));simp[t1]));refine Aj (hK _ _ ?_);(try simp only[xQ,reduceIte]);generalize sS:(DS x.cond g.conds.length&&LM g MO x.tokens&&decide (0≤x.token)&&decide (x.token<g.Ak.length))=hv;cases hv with
        |false=>
         have hm:FZ g x=false:=by
          have:(DS x.cond g.conds.length&&LM g MO x.tokens&&ABR g x.token fun t=>My t&&!MO t)=false:=by
           simp only[Bool.and_eq_false_iff,decide_eq_false_iff_not]at sS⊢;rcases sS with((h|h)|h)|h
           ·exact .inl (.inl h)
           ·exact .inl (.inr h)
           ·exact .inr (by simp[ABR,h])
           ·refine .inr ?_;unfold ABR;by_cases h0:0≤x.token
            ·rw[List.getElem?_eq_none (by omega)];simp
            ·simp[h0]
          unfold FZ;simp[hk,this]
         refine BX fun K hK=>?_;(iterate 2 (refine B7 (by simp) ?_;simp));(repeat(refine Dp rfl ?_ ?_;(·simp);simp));(iterate 2 (refine B7 (by simp) ?_;simp));(repeat(refine Dp rfl ?_ ?_;(·simp);simp));refine xJ ?_;simp;refine Aj (hK _ _ ?_);simp[t1,t3,t4,t10,t11,t12,hm,D8,XR,MF,hk,AB,AK]
        |true=>
         simp only[Bool.and_eq_true,decide_eq_true_eq]at sS;obtain⟨⟨⟨qj,wZ⟩,yj⟩,yk⟩:=sS;obtain⟨b,hb⟩:∃b:Nat,x.token=b:=⟨x.token.toNat,by omega⟩;have jW:b<g.Ak.length:=by omega
         have hm:FZ g x=(My g.Ak[b]&&!MO g.Ak[b]):=by
          unfold FZ ABR;simp[hk,qj,wZ,hb,jW]
         have ho:=PN g.Ak[b];have hl:=VU g.Ak[b];refine BX fun K hK=>?_;refine xJ ?_;simp[t1,t3,hb,jW];refine AS.Cj (ho) rfl rfl (by simp[xN];try rfl) ?_;simp;refine xJ ?_;simp[t1,t4,jW];refine AS.CE (g:=My g.Ak[b]) (ds:=[Aa g.Ak[b]]) rfl rfl (by simp<;>rfl) (fun _=>hl) (by simp[xN]) ?_;simp;(repeat((refine B7 ?_ ?_);(focus(simp;try(first|omega|(simp +contextual;done)|grind);done));simp));refine Aj (hK _ _ ?_);simp[t1,t3,t4,t10,t11,t12,hm,D8,XR,MF,hk,hb,AB,AK]
       ·refine xS (xW fun K hK=>?_);simp;apply hK;refine AU ?_;simp[hk];refine xV fun K hK=>?_;simp;apply hK;refine AU ?_;simp[jy];refine xS (xW fun K hK=>?_);simp;apply hK;refine AU ?_;simp[rL];refine xV fun K hK=>?_;simp;apply hK;refine AU ?_;simp[oA];refine xW fun K hK=>?_;simp;apply hK;refine AU ?_;simp[uo];refine xV fun K hK=>?_;simp;apply hK;simp[t1,t3,t4,t10,t11,t12,FZ,D8,XR,MF,hk,jy,rL,oA,uo,AB,AK]
  ·rintro tm S ⟨t1,t3,t4,t10,t11,t12,t8,t7,rfl⟩;have g9:(D8 x).tokens=if x.kind=3∨x.kind=4∨x.kind=5 then []else x.tokens:=by
    unfold D8;by_cases k1:x.kind=1∨x.kind=2
    ·have:¬(x.kind=3∨x.kind=4∨x.kind=5):=by omega
     simp[k1,this]
    ·by_cases k2:x.kind=3∨x.kind=4
     ·have:x.kind=3∨x.kind=4∨x.kind=5:=by omega
      simp[k1,k2,this]
     ·by_cases k3:x.kind=5
      ·simp[k3]
      ·have:¬(x.kind=3∨x.kind=4∨x.kind=5):=by omega
       simp[k1,k2,k3]
   have hz:Og (D8 x)=(decide ((D8 x).parent=0)&&decide ((D8 x).at_=0)&&decide ((D8 x).child=0)&&decide ((D8 x).left=0)&&decide ((D8 x).token=0)&&decide ((D8 x).tokens=[])):=rfl;rw[g9]at hz;generalize rO:D8 x=r at *;unfold XR MF;by_cases k3:x.kind=3∨x.kind=4∨x.kind=5
   ·rw[if_pos k3]at hz;simp only[if_pos k3];refine Az fun K hK=>?_;(repeat((refine B7 ?_ ?_);(focus(simp[t8];try(first|omega|(simp +contextual[t7,t8];done)|grind);done));simp[t7,t8]));refine Aj (hK _ _ ?_);(repeat refine xS ?_);refine AW.BD (t:=!(FZ g x&&Og r)) ?_ (fun hb=>?_) (fun hb=>?_)
    ·rw[hz];simp;rw[Bool.eq_iff_iff];simp[or_assoc]
    ·refine xW fun K hK=>?_;simp;apply hK;refine Ag ⟨_,_,AJ.refl,?_⟩;(try simp);have:GU g x=false:=by unfold GU;rw[rO];simpa only[Bool.not_eq_true']using hb
     simp[iq this]
    ·have ig:GU g x=true:=by unfold GU;rw[rO];simpa only[Bool.not_eq_false']using hb
     refine CC ?_;refine xV fun K hK=>?_;simp[t12];apply hK;refine⟨cx,_,_,AJ.drop 1 (by simp) (by simp) (by simp),?_⟩;simp[clean,t1,t3,t4,t10,t11,AQ cx a1,AB];intro j hj jL;by_cases e:j=i
     ·subst e;rw[hx];exact ig
     ·exact gg j (by omega) jL
   ·rw[if_neg k3]at hz;simp only[if_neg k3];refine Az fun K hK=>?_;(repeat((refine B7 ?_ ?_);(focus(simp[t8];try(first|omega|(simp +contextual[t7,t8];done)|grind);done));simp[t7,t8]));refine Aj (hK _ _ ?_);(repeat refine xS ?_);refine AW.BD (t:=!(FZ g x&&Og r)) ?_ (fun hb=>?_) (fun hb=>?_)
    ·rw[hz];simp;have ki:0<x.tokens.length↔¬x.tokens=[]:=by cases x.tokens<;>simp
     rw[Bool.eq_iff_iff];simp[or_assoc,ki]
    ·refine xW fun K hK=>?_;simp;apply hK;refine Ag ⟨_,_,AJ.refl,?_⟩;(try simp);have:GU g x=false:=by unfold GU;rw[rO];simpa only[Bool.not_eq_true']using hb
     simp[iq this]
    ·have ig:GU g x=true:=by unfold GU;rw[rO];simpa only[Bool.not_eq_false']using hb
     refine CC ?_;refine xV fun K hK=>?_;simp[t12];apply hK;refine⟨cx,_,_,AJ.drop 1 (by simp) (by simp) (by simp),?_⟩;simp[clean,t1,t3,t4,t10,t11,AQ cx a1,AB];intro j hj jL;by_cases e:j=i
     ·subst e;rw[hx];exact ig
     ·exact gg j (by omega) jL
 ·have iD:i=g.AM.length:=by omega
  subst iD;have lk:FH g=true:=by
   unfold FH;rw[List.all_eq_true];intro x hx;obtain⟨k,hk,rfl⟩:=List.mem_iff_getElem.1 hx;exact gg k hk hk
  refine Cu ?_;refine xW fun K hK=>?_;simp;apply hK;refine Ag ⟨_,_,AJ.refl,?_⟩;(try simp);simp[lk]
open Go.Proofs Tryz DT
noncomputable def C1(g:AF):List Int:=[if FY g then 0 else 54,if ES g then 0 else 51,if IY g then 0 else 50,AAm g [⟨#[]⟩] g.AD,if AAv g [] g.levels then 0 else 53,if FH g then 0 else 53]
def ABI:List Int→Int
 |[]=>0
 |e::l=>if e=0 then ABI l else e
theorem JP:∀{l:List Int},ABI l=0→∀e∈l,e=0
 |[],_,_,h=>by simp at h
 |a::l,h,e,he=>by
  unfold ABI at h;split at h
  ·rcases List.mem_cons.1 he with rfl|he
   ·assumption
   ·exact JP h e he
  ·rename_i hn;exact absurd h hn
theorem KP:∀{l:List Int},(∀e∈l,e=0)→ABI l=0
 |[],_=>rfl
 |a::l,h=>by simp[ABI,h a List.mem_cons_self];exact KP fun e he=>h e (List.mem_cons_of_mem _ he)
theorem Lk:∀{l:List Int} {i:Nat} (hi:i<l.length),(∀j (h:j<i),l[j]'(by omega)=0)→l[i]≠0→ABI l=l[i]
 |a::l,0,_,_,h=>by simp at h;simp[ABI,h]
 |a::l,i+1,hi,h0,h=>by
  have:a=0:=by simpa using h0 0 (by omega)
  simp only[ABI,this,if_true,List.getElem_cons_succ];exact Lk (by simpa using hi) (fun j hj=>by simpa using h0 (j+1) (by omega)) (by simpa using h)
noncomputable def DX(g:AF):Int:=if Dg g then 2 else ABI (C1 g)
def bk:List V:=[.fn (.func 154) [] [],.fn (.func 155) [] [],.fn (.func 156) [] [],.fn (.func 157) [] [],.fn (.func 158) [] [],.fn (.func 159) [] []]
theorem Zi(g:AF){i:Nat}(hi:i<6):∃(k:FuncId) (h:i<(C1 g).length),bk[i]?=some (.fn (.func k) [] [])∧Pure prog k [AB g] (AG (C1 g)[i]):=by
 match i,hi with
 |0,_=>exact⟨154,by simp[C1],rfl,Oc g⟩
 |1,_=>exact⟨155,by simp[C1],rfl,K5 g⟩
 |2,_=>exact⟨156,by simp[C1],rfl,Oe g⟩
 |3,_=>exact⟨157,by simp[C1],rfl,LD g⟩
 |4,_=>exact⟨158,by simp[C1],rfl,KV g⟩
 |5,_=>exact⟨159,by simp[C1],rfl,Jk g⟩
theorem RN(g:AF):Pure prog 107 [AB g] (AG (DX g)):=by
 refine Pure.AI func107 (by kernel_rfl) rfl (by simp) fun wf=>?_;rw[ntmps107];refine xW fun K hK=>?_;simp;apply hK;refine xS (Az fun K hK=>?_);refine xJ ?_;simp[AB];refine Bp (Um g) rfl (by simp[AB]) ?_;simp;refine xJ ?_;simp;refine Aj (hK _ _ ?_);(try simp only[xQ,reduceIte]);cases hl:Dg g with
 |true=>
  refine AU ?_;simp;refine xW fun K hK=>?_;simp;apply hK;refine Ag ⟨_,_,AJ.refl,?_⟩;(try simp);simp[DX,hl]
 |false=>
  refine AU ?_;simp;refine xK ?_;refine Az fun K hK=>?_;((refine AS.Gi rfl ?_ ?_);(focus(simp[AA5,maxLen];done));simp);refine xJ ?_;simp;refine Aj (hK _ _ ?_);refine xS (xW fun K hK=>?_);simp;apply hK;refine Bw ?_;refine DC 6 (fun i tm S=>tm 1=.ptr 0 1 0 0∧tm 10=.row 1 6∧tm 11=.d (.int .i64 6)∧tm 12=.d (.int .i64 i)∧S=[.row true 9 [.d (AB g)],.row true 1 bk]∧(∀j (h:j<i) (h':j<(C1 g).length),(C1 g)[j]=0)) (i0:=0) (Nat.zero_le _) (by simp[AB,bk]) ?_;rintro i tm S hi ⟨t1,t10,t11,t12,rfl,gg⟩;refine xW fun K hK=>?_;simp[t11,t12];apply hK;refine xC ?_;simp;refine⟨fun cx=>?_,fun hO=>?_⟩
  ·have qm:i<6:=by omega
   obtain⟨k,iX,iN,jy⟩:=Zi g qm;have gz:=Lk iX (fun j hj=>gg j hj (by omega));generalize hx:(C1 g)[i]=e at *;have jh:bk.length=6:=rfl;have j1:i<bk.length:=by rw[jh];exact qm
   have uq:bk[i]=.fn (.func k) [] []:=by rw[List.getElem?_eq_getElem j1]at iN;exact Option.some.inj iN
   refine xK ?_;refine xB ?_;refine Az fun K hK=>?_;refine xJ ?_;simp[t10,t12,qm,cx,jh,uq];refine Aj (hK _ _ ?_);refine Az fun K hK=>?_;refine xJ ?_;simp[t1,AB];refine Bp (jy) rfl (by simp[AB]) ?_;simp;refine xJ ?_;simp;refine Aj (hK _ _ ?_);(repeat refine xS ?_);refine xV fun K hK=>?_;simp;refine hK _ _ ?_;(try simp only[xQ,reduceIte]);by_cases he:e=0
   ·refine AU ?_;simp[he];refine CC ?_;refine xV fun K hK=>?_;simp[t12];apply hK;refine⟨qm,_,_,AJ.refl,?_⟩;simp[t1,t10,t11,AB];refine⟨AQ qm (by simp[maxLen]),fun j hj jL=>?_⟩;by_cases ej:j=i
    ·subst ej;rw[hx];exact he
    ·exact gg j (by omega) jL
   ·refine AU ?_;simp[he];refine xW fun K hK=>?_;simp;apply hK;refine Ag ⟨_,_,AJ.refl,?_⟩;(try simp);simp[DX,hl,gz he]
  ·have qm:i=6:=by omega
   subst qm;have h0:ABI (C1 g)=0:=KP fun e he=>by
    obtain⟨j,hj,rfl⟩:=List.mem_iff_getElem.1 he;exact gg j (by simpa[C1]using hj) hj
   refine Cu ?_;refine xW fun K hK=>?_;simp;apply hK;refine Ag ⟨_,_,AJ.refl,?_⟩;(try simp);simp[DX,hl,h0]
theorem Ir{g:AF}(h:DX g=0):Dg g=false∧FY g=true∧ES g=true∧IY g=true∧AAm g [⟨#[]⟩] g.AD=0∧AAv g [] g.levels=true∧FH g=true:=by
 unfold DX at h;split at h
 ·cases h
 ·rename_i hl;have hz:=JP h;have h1:=hz (if FY g then 0 else 54) (by simp[C1]);have h2:=hz (if ES g then 0 else 51) (by simp[C1]);have h3:=hz (if IY g then 0 else 50) (by simp[C1]);have h4:=hz (AAm g [⟨#[]⟩] g.AD) (by simp[C1]);have h5:=hz (if AAv g [] g.levels then 0 else 53) (by simp[C1]);have h6:=hz (if FH g then 0 else 53) (by simp[C1]);refine⟨by simpa using hl,?_,?_,?_,h4,?_,?_⟩
  ·cases h:FY g<;>simp[h]at h1⊢
  ·cases h:ES g<;>simp[h]at h2⊢
  ·cases h:IY g<;>simp[h]at h3⊢
  ·cases h:AAv g [] g.levels<;>simp[h]at h5⊢
  ·cases h:FH g<;>simp[h]at h6⊢
theorem Qq{c:Nat}:∀{l:List AT},(∀p∈l,p.right.length≤c)→(l.map (·.right.length)).sum≤l.length * c
 |[],_=>by simp
 |p::l,h=>by
  have h1:=h p List.mem_cons_self;have h2:=Qq fun q hq=>h q (List.mem_cons_of_mem _ hq);simp only[List.map_cons,List.sum_cons,List.length_cons,Nat.succ_mul];omega
theorem XH{g:AF}(hn:g.conds.length≤12)(h:DX g=0):bj g:=by
 obtain⟨h0,h1,h2,h3,h4,h5,h6⟩:=Ir h;simp only[Dg,Bool.or_eq_false_iff,decide_eq_false_iff_not,List.any_eq_false,Lp,Bool.or_eq_true,decide_eq_true_eq,not_or]at h0;obtain⟨⟨⟨⟨⟨⟨l1,l2⟩,l3⟩,l4⟩,l5⟩,l6⟩,l7⟩:=h0;have kE:=Gm h4;refine⟨hn,?_,fun t ht=>?_,fun p hp=>?_,fun p hp s hs ht=>?_,by omega,?_⟩
 ·simp only[FY,Bool.and_eq_true]at h1;exact Kk h1.1.2
 ·simp only[ES,Bool.and_eq_true,List.all_eq_true]at h2;have:=h2.2 t ht;simp only[F6,Bool.and_eq_true]at this;exact Kk this.1.2
 ·have:=(kE p hp).2;simp only[Mz,Bool.and_eq_true]at this;exact Kk this.1.1.1
 ·have:=(kE p hp).1;simp only[LX,Bool.and_eq_true,List.all_eq_true]at this;have:=this.2 s hs;simp only[ABM,ht,if_true,Bool.and_eq_true,decide_eq_true_eq]at this;refine⟨this.1,?_⟩;rcases Nat.lt_or_ge s.index.toNat g.Ak.length with hl|hl
  ·omega
  ·rw[List.getElem?_eq_none hl]at this;simp at this
 ·have:=Qq (c:=16) fun p hp=>(show p.right.length≤16 by have:=(l7 p hp).1;omega);unfold Fits;have:g.AD.length * 16≤2000 * 16:=Nat.mul_le_mul_right _ (by omega);omega
noncomputable def fcG(g:AF):Int:=fcE g (DX g)
theorem ACq(g:AF)(hn:g.conds.length≤12):At prog 8 [.d (AB g)] [] (fW g (DX g)):=SP g (DX g) (RN g) fun h=>XH hn h
open Go.Proofs Tryz DT
theorem AE.Hi{f:FuncId}{α:Type}{enc:α→D}{xs:List α}{wr:Bool}{sz:Nat}(h:AE prog f [.d (.sl (xs.map enc))] [] (.row 0 xs.length) [.row wr sz (xs.map fun x=>.d (enc x))]):Pure prog f [.sl (xs.map enc)] (.sl (xs.map enc)):=by
 have h':AE prog f [.d (.sl (xs.map enc))] [] (.row 0 (xs.map enc).length) [.row wr sz ((xs.map enc).map .d)]:=by
  simpa[Function.comp_def]using h
 exact h'.Xb
def GP(d:AN):Prop:=d.nodes.length≤2 ^ 30
theorem KB(d:AN)(hd:GP d):Pure prog 97 [AA d] (AA d):=by
 have hc:=(Mm d.nodes hd).Hi;refine Pure.AI func97 (by kernel_rfl) rfl (by simp) fun wf=>?_;rw[ntmps97];refine xW fun K hK=>?_;simp;apply hK;(repeat refine xS ?_);refine xE [0,2,4,6,8,10,13] (by kernel_rfl) fun K hK=>?_;simp;refine xA 0 ?_;simp[AA];refine Ae.CA (hc) rfl (by simp) ?_;simp;refine xA 0 ?_;simp;refine xX 63 (by kernel_rfl) ?_;simp;refine xM (hK _ _ ?_);(try simp only[xQ,reduceIte]);refine Ag ⟨_,_,AJ.refl,?_⟩;(try simp);simp[AA]
structure EO(g:AF):Prop where
 conds:g.conds.length≤2 ^ 30
 fam:GP g.fam
 BC:g.BC.length≤2 ^ 30
 Ak:g.Ak.length≤2 ^ 30∧∀t∈g.Ak,t.pattern.length≤2 ^ 30∧GP t.cond
 AD:g.AD.length≤2 ^ 30∧∀p∈g.AD,p.right.length≤2 ^ 30∧p.layout.length≤2 ^ 30∧GP p.cond
 levels:g.levels.length≤2 ^ 30∧∀l∈g.levels,l.AD.length≤2 ^ 30∧GP l.cond
 AM:g.AM.length≤2 ^ 30∧∀f∈g.AM,f.tokens.length≤2 ^ 30∧GP f.cond
theorem Bc{S:Sg}:∀{l:List V} {ds:List D},AAi S l=some ds↔l.map (asD S)=ds.map some
 |[],ds=>by cases ds<;>simp[AAi]
 |x::l,ds=>by
  simp only[AAi,List.map_cons];generalize asD S x=o;cases h2:AAi S l with
  |none=>
   constructor
   ·intro h;cases o<;>cases h
   ·intro h;cases ds with
    |nil=>cases h
    |cons d ds=>
     simp only[List.map_cons,List.cons.injEq]at h;rw[Bc.2 h.2]at h2;cases h2
  |some ds0=>
   have h3:=Bc.1 h2;cases o with
   |none=>
    constructor
    ·intro h;cases h
    ·intro h;cases ds with
     |nil=>cases h
     |cons d ds=>simp at h
   |some d0=>
    rw[h3];constructor
    ·intro h;cases h;rfl
    ·intro h;cases ds with
     |nil=>cases h
     |cons d ds=>
      simp only[List.map_cons,List.cons.injEq,Option.some.injEq]at h;rw[h.1,(List.map_inj_right (fun _ _ h=>Option.some.inj h)).1 h.2]
theorem Ic{S:Sg}{l:List V}{ds:List D}{i:Nat}{v:V}{d:D}(h:AAi S l=some ds)(hd:ds[i]?=some d)(hv:asD S v=some d):AAi S (l.set i v)=some ds:=by
 rw[Bc]at h⊢;rw[List.map_set,h,hv];apply List.ext_getElem?;intro j;by_cases e:i=j
 ·subst e;have hi:i<ds.length:=AZ hd;rw[List.getElem?_eq_getElem hi]at hd;simp[hi,Option.some.inj hd]
 ·simp[e]
def MD(g:AF):Sg:=[.row true 9 [.d (AB g)],.row true 9 [.agg [.full [],.full [],.d (AG 0),.full [],.full [],.full [],.d (AG 0),.full [],.full []]],.row true 9 [.agg [.row 3 g.conds.length,.d (AV g.fam.nodes),.d (AG g.fam.root),.row 5 g.Ak.length,.row 4 g.BC.length,.row 6 g.AD.length,.d (AG g.start),.row 7 g.levels.length,.row 8 g.AM.length]],.row (!g.conds.isEmpty) 1 (g.conds.map fun x=>.d (D.str x)),.row (!g.BC.isEmpty) 1 (g.BC.map fun x=>.d (D.str x)),.row (!g.Ak.isEmpty) 7 (g.Ak.map fun x=>.d (Aa x)),.row (!g.AD.isEmpty) 13 (g.AD.map fun x=>.d (AH x)),.row (!g.levels.isEmpty) 4 (g.levels.map fun x=>.d (Ac x)),.row (!g.AM.isEmpty) 9 (g.AM.map fun x=>.d (AK x))]
def XQ(g:AF):V:=.agg [.row 3 g.conds.length,.d (AV g.fam.nodes),.d (AG g.fam.root),.row 5 g.Ak.length,.row 4 g.BC.length,.row 6 g.AD.length,.d (AG g.start),.row 7 g.levels.length,.row 8 g.AM.length]
def SR(g:AF):Sg:=[.row true 9 [.d (AB g)],.row true 9 [XQ g],.row true 9 [XQ g],.row (!g.conds.isEmpty) 1 (g.conds.map fun x=>.d (D.str x)),.row (!g.BC.isEmpty) 1 (g.BC.map fun x=>.d (D.str x)),.row (!g.Ak.isEmpty) 7 (g.Ak.map fun x=>.d (Aa x)),.row (!g.AD.isEmpty) 13 (g.AD.map fun x=>.d (AH x)),.row (!g.levels.isEmpty) 4 (g.levels.map fun x=>.d (Ac x)),.row (!g.AM.isEmpty) 9 (g.AM.map fun x=>.d (AK x))]
theorem SU(g:AF)(hg:EO g):AE prog 27 [.d (AB g)] [] (XQ g) (SR g):=by
 have c1:=L9 g.conds hg.conds;have c2:=L9 g.BC hg.BC;have c3:=Sl g.Ak hg.Ak.1;have c4:=Pb g.AD hg.AD.1;have c5:=Nw g.levels hg.levels.1;have c6:=Mv g.AM hg.AM.1;have c7:=KB g.fam hg.fam;refine AE.AI func27 (by kernel_rfl) rfl (by simp) fun wf _=>?_;rw[ntmps27];refine xW fun K hK=>?_;simp;apply hK;refine xW fun K hK=>?_;simp[AB];apply hK;refine xD [0,2,6,8,12,14,5,18,11,16,21,22,25,26,29] (by kernel_rfl) fun K hK=>?_;simp;refine xA 1 ?_;simp;refine Ae.Ds (xT [0,0,0,0,1,0]) (c1) [] (by kernel_rfl) rfl (by simp[AR];try rfl) ?_;simp;refine xA 1 ?_;simp;refine Ae.Ds (xT [0,0,0,1,0,0]) (c2) [] (by kernel_rfl) rfl (by simp[AR];try rfl) ?_;simp;refine Bj (c7) rfl (by simp[AA]) ?_;simp[AA];refine xA 1 ?_;simp;refine xX 35 (by kernel_rfl) ?_;simp[AR,Al];refine xA 1 ?_;simp;refine xX 9 (by kernel_rfl) ?_;simp[AR];refine xA 1 ?_;simp;refine xX 7 (by kernel_rfl) ?_;simp[AR];refine xM (hK _ _ ?_);refine xD [0,2,6,8,5,12,11,15,16,19] (by kernel_rfl) fun K hK=>?_;simp;refine xA 1 ?_;simp;refine Ae.Ds (xT [0,0,1,0]) (c3) [] (by kernel_rfl) rfl (by simp[AR];try rfl) ?_;simp;refine xA 1 ?_;simp;refine Ae.Ds (xT [0,1,0,0]) (c4) [] (by kernel_rfl) rfl (by simp[AR];try rfl) ?_;simp;refine xX 5 (by kernel_rfl) ?_;simp[AR];refine xA 1 ?_;simp;refine xX 3 (by kernel_rfl) ?_;simp[AR];refine xM (hK _ _ ?_);refine xD [0,2,6,8,5,12,11,15,16,19] (by kernel_rfl) fun K hK=>?_;simp;refine xA 1 ?_;simp;refine Ae.Ds (xT [0,0,1,0]) (c5) [] (by kernel_rfl) rfl (by simp[AR];try rfl) ?_;simp;refine xA 1 ?_;simp;refine Ae.Ds (xT [0,1,0,0]) (c6) [] (by kernel_rfl) rfl (by simp[AR];try rfl) ?_;simp;refine xX 5 (by kernel_rfl) ?_;simp[AR];refine xA 1 ?_;simp;refine xX 3 (by kernel_rfl) ?_;simp[AR];refine xM (hK _ _ ?_);refine AW.El (R:=fun tm S=>tm 2=.ptr 1 1 0 0∧tm 3=.ptr 2 1 0 0∧S=MD g) ?_ ?_
 ·refine xW fun K hK=>?_;simp;apply hK;refine Bw ?_;refine DC g.Ak.length (fun i tm S=>tm 2=.ptr 1 1 0 0∧tm 3=.ptr 2 1 0 0∧tm 43=.d (.int .i64 g.Ak.length)∧tm 44=.d (.int .i64 i)∧S=MD g) (i0:=0) (Nat.zero_le _) (by simp[MD,AB]) ?_;rintro i tm S hi ⟨t2,t3,t43,t44,rfl⟩;refine xW fun K hK=>?_;simp[t43,t44];apply hK;refine xC ?_;simp;refine⟨fun cx=>?_,fun hO=>?_⟩
  ·have iE:g.Ak.isEmpty=false:=by cases h:g.Ak<;>simp[h]at cx⊢
   obtain⟨kJ,ln⟩:=hg.Ak.2 _ (List.getElem_mem cx);generalize hx:g.Ak[i]=x at *;have cP:=(N7 x.pattern kJ).Hi;have cS:=KB x.cond ln;unfold MD;refine xK ?_;refine xB ?_;refine xW fun K hK=>?_;simp[t44];apply hK;(repeat refine xS ?_);refine xV fun K hK=>?_;simp[t3,cx];refine hK _ _ ?_;(try simp only[xQ,reduceIte]);have cy:=Aa.eq_1 x;refine xE [0,2,4,6,8,10,12,14,16,18,20,22,24,26,29,30,32,35] (by kernel_rfl) fun K hK=>?_;simp;refine xA 1 ?_;simp[cx,hx,cy];refine Bj (cP) rfl (by simp[xN]) ?_;simp;refine xA 1 ?_;simp[cx,hx,cy];refine Bj (cS) rfl (by simp[AA,xN]) ?_;simp[AA];refine xA 1 ?_;simp[cx];refine xX 12173 (by kernel_rfl) ?_;simp[cx,hx,iE,AR,Al,cy];refine xA 1 ?_;simp[cx];refine xX 125 (by kernel_rfl) ?_;simp[cx,AR];refine xM (hK _ _ ?_);refine xV fun K hK=>?_;simp[t44];apply hK;refine⟨cx,_,_,AJ.A2 5 rfl (Ic (Bz _ Aa g.Ak) (d:=Aa x) (by simp[cx,hx]) (by simp[cy])),?_⟩;simp[t2,t3,t43,AQ cx (by have:=hg.Ak.1;unfold maxLen;omega:g.Ak.length≤maxLen),iE,Function.comp_def]
  ·have iD:i=g.Ak.length:=by omega
   subst iD;refine Cu ?_;(try simp only[AAE,AAA,reduceIte]);exact⟨t2,t3,trivial⟩
 ·rintro tm S ⟨t2,t3,rfl⟩;refine AW.El (R:=fun tm S=>tm 2=.ptr 1 1 0 0∧tm 3=.ptr 2 1 0 0∧S=MD g) ?_ ?_
  ·skip;refine xW fun K hK=>?_;simp[t3,MD];apply hK;refine Bw ?_;refine DC g.AD.length (fun i tm S=>tm 2=.ptr 1 1 0 0∧tm 3=.ptr 2 1 0 0∧tm 70=.d (.int .i64 g.AD.length)∧tm 71=.d (.int .i64 i)∧S=MD g) (i0:=0) (Nat.zero_le _) (by simp[MD,AB,t2,t3]) ?_;rintro i tm S hi ⟨t2,t3,tl,ti,rfl⟩;refine xW fun K hK=>?_;simp[tl,ti];apply hK;refine xC ?_;simp;refine⟨fun cx=>?_,fun hO=>?_⟩
   ·have iE:g.AD.isEmpty=false:=by cases h:g.AD<;>simp[h]at cx⊢
    have jd:=hg.AD.2 _ (List.getElem_mem cx);generalize hx:g.AD[i]=x at *;have cR:=(GG x.right jd.1).Hi;have cL:=(Mt x.layout jd.2.1).Hi;have cS:=KB x.cond jd.2.2;unfold MD;refine xK ?_;refine xB ?_;refine xW fun K hK=>?_;simp[ti];apply hK;(repeat refine xS ?_);refine xV fun K hK=>?_;simp[t3,cx];refine hK _ _ ?_;(try simp only[xQ,reduceIte]);have cy:=AH.eq_1 x;refine xE [0,2,4,6,8,10,12,14,16,18,20,22,24,26,28,30,32,34,36,38,41,42,44,47,48,50,53] (by kernel_rfl) fun K hK=>?_;simp;refine xA 1 ?_;simp[cx,hx,cy];refine Bj (cR) rfl (by simp[xN]) ?_;simp;refine xA 1 ?_;simp[cx,hx,cy];refine Bj (cL) rfl (by simp[xN]) ?_;simp;refine xA 1 ?_;simp[cx,hx,cy];refine Bj (cS) rfl (by simp[AA,xN]) ?_;simp[AA];refine xA 1 ?_;simp[cx];refine xX 651661 (by kernel_rfl) ?_;simp[cx,hx,iE,AR,Al,cy];refine xA 1 ?_;simp[cx];refine xX 1477 (by kernel_rfl) ?_;simp[cx,AR];refine xA 1 ?_;simp[cx];refine xX 125 (by kernel_rfl) ?_;simp[cx,AR];refine xM (hK _ _ ?_);refine xV fun K hK=>?_;simp[ti];apply hK;refine⟨cx,_,_,AJ.A2 6 rfl (Ic (Bz _ AH g.AD) (d:=AH x) (by simp[cx,hx]) (by simp[cy])),?_⟩;simp[t2,t3,tl,AQ cx (by have:=hg.AD.1;unfold maxLen;omega:g.AD.length≤maxLen),iE,Function.comp_def]
   ·have iD:i=g.AD.length:=by omega
    subst iD;refine Cu ?_;(try simp only[AAE,AAA,reduceIte]);exact⟨t2,t3,trivial⟩
  ·rintro tm S ⟨t2,t3,rfl⟩;refine AW.El (R:=fun tm S=>tm 2=.ptr 1 1 0 0∧tm 3=.ptr 2 1 0 0∧S=MD g) ?_ ?_
   ·skip;refine xW fun K hK=>?_;simp[t3,MD];apply hK;refine Bw ?_;refine DC g.levels.length (fun i tm S=>tm 2=.ptr 1 1 0 0∧tm 3=.ptr 2 1 0 0∧tm 105=.d (.int .i64 g.levels.length)∧tm 106=.d (.int .i64 i)∧S=MD g) (i0:=0) (Nat.zero_le _) (by simp[MD,AB,t2,t3]) ?_;rintro i tm S hi ⟨t2,t3,tl,ti,rfl⟩;refine xW fun K hK=>?_;simp[tl,ti];apply hK;refine xC ?_;simp;refine⟨fun cx=>?_,fun hO=>?_⟩
    ·have iE:g.levels.isEmpty=false:=by cases h:g.levels<;>simp[h]at cx⊢
     have jd:=hg.levels.2 _ (List.getElem_mem cx);generalize hx:g.levels[i]=x at *;have cR:=(Ld x.AD jd.1).Hi;have cS:=KB x.cond jd.2;unfold MD;refine xK ?_;refine xB ?_;refine xW fun K hK=>?_;simp[ti];apply hK;(repeat refine xS ?_);refine xV fun K hK=>?_;simp[t3,cx];refine hK _ _ ?_;(try simp only[xQ,reduceIte]);have cy:=Ac.eq_1 x;refine xE [0,2,4,6,8,10,12,14,16,18,20,22,24,26,29,30,32,35] (by kernel_rfl) fun K hK=>?_;simp;refine xA 1 ?_;simp[cx,hx,cy];refine Bj (cR) rfl (by simp[xN]) ?_;simp;refine xA 1 ?_;simp[cx,hx,cy];refine Bj (cS) rfl (by simp[AA,xN]) ?_;simp[AA];refine xA 1 ?_;simp[cx];refine xX 12173 (by kernel_rfl) ?_;simp[cx,hx,iE,AR,Al,cy];refine xA 1 ?_;simp[cx];refine xX 125 (by kernel_rfl) ?_;simp[cx,AR];refine xM (hK _ _ ?_);refine xV fun K hK=>?_;simp[ti];apply hK;refine⟨cx,_,_,AJ.A2 7 rfl (Ic (Bz _ Ac g.levels) (d:=Ac x) (by simp[cx,hx]) (by simp[cy])),?_⟩;simp[t2,t3,tl,AQ cx (by have:=hg.levels.1;unfold maxLen;omega:g.levels.length≤maxLen),iE,Function.comp_def]
    ·have iD:i=g.levels.length:=by omega
     subst iD;refine Cu ?_;(try simp only[AAE,AAA,reduceIte]);exact⟨t2,t3,trivial⟩
   ·rintro tm S ⟨t2,t3,rfl⟩;refine AW.El (R:=fun tm S=>tm 2=.ptr 1 1 0 0∧tm 3=.ptr 2 1 0 0∧S=MD g) ?_ ?_
    ·skip;refine xW fun K hK=>?_;simp[t3,MD];apply hK;refine Bw ?_;refine DC g.AM.length (fun i tm S=>tm 2=.ptr 1 1 0 0∧tm 3=.ptr 2 1 0 0∧tm 132=.d (.int .i64 g.AM.length)∧tm 133=.d (.int .i64 i)∧S=MD g) (i0:=0) (Nat.zero_le _) (by simp[MD,AB,t2,t3]) ?_;rintro i tm S hi ⟨t2,t3,tl,ti,rfl⟩;refine xW fun K hK=>?_;simp[tl,ti];apply hK;refine xC ?_;simp;refine⟨fun cx=>?_,fun hO=>?_⟩
     ·have iE:g.AM.isEmpty=false:=by cases h:g.AM<;>simp[h]at cx⊢
      have jd:=hg.AM.2 _ (List.getElem_mem cx);generalize hx:g.AM[i]=x at *;have cR:=(Ld x.tokens jd.1).Hi;have cS:=KB x.cond jd.2;unfold MD;refine xK ?_;refine xB ?_;refine xW fun K hK=>?_;simp[ti];apply hK;(repeat refine xS ?_);refine xV fun K hK=>?_;simp[t3,cx];refine hK _ _ ?_;(try simp only[xQ,reduceIte]);have cy:=AK.eq_1 x;refine xE [0,2,4,6,8,10,12,14,16,18,20,22,24,26,29,30,32,35] (by kernel_rfl) fun K hK=>?_;simp;refine xA 1 ?_;simp[cx,hx,cy];refine Bj (cR) rfl (by simp[xN]) ?_;simp;refine xA 1 ?_;simp[cx,hx,cy];refine Bj (cS) rfl (by simp[AA,xN]) ?_;simp[AA];refine xA 1 ?_;simp[cx];refine xX 12173 (by kernel_rfl) ?_;simp[cx,hx,iE,AR,Al,cy];refine xA 1 ?_;simp[cx];refine xX 125 (by kernel_rfl) ?_;simp[cx,AR];refine xM (hK _ _ ?_);refine xV fun K hK=>?_;simp[ti];apply hK;refine⟨cx,_,_,AJ.A2 8 rfl (Ic (Bz _ AK g.AM) (d:=AK x) (by simp[cx,hx]) (by simp[cy])),?_⟩;simp[t2,t3,tl,AQ cx (by have:=hg.AM.1;unfold maxLen;omega:g.AM.length≤maxLen),iE,Function.comp_def]
     ·have iD:i=g.AM.length:=by omega
      subst iD;refine Cu ?_;(try simp only[AAE,AAA,reduceIte]);exact⟨t2,t3,trivial⟩
    ·rintro tm S ⟨t2,t3,rfl⟩;unfold MD;refine xW fun K hK=>?_;simp[t2,t3];apply hK;refine Ag ?_;(try simp only[xQ,reduceIte]);refine⟨_,AJ.JK (by simp[SR,XQ]),?_⟩;simp[Am,t2,SR,XQ]
def hV(g:AF):V:=.agg [.row 0 g.conds.length,.d (AV g.fam.nodes),.d (AG g.fam.root),.row 1 g.Ak.length,.row 2 g.BC.length,.row 3 g.AD.length,.d (AG g.start),.d (BI g.levels),.d (A8 g.AM)]
def hS(g:AF):Sg:=[.row (!g.conds.isEmpty) 1 (g.conds.map fun x=>.d (D.str x)),.row (!g.Ak.isEmpty) 7 (g.Ak.map fun x=>.d (Aa x)),.row (!g.BC.isEmpty) 1 (g.BC.map fun x=>.d (D.str x)),.row (!g.AD.isEmpty) 13 (g.AD.map fun x=>.d (AH x))]
theorem NY(g:AF)(hg:EO g):AE prog 27 [.d (AB g)] [] (hV g) (hS g):=
 (SU g hg).ghost fun tm h0=>by
  let S1:Sg:=[.row true 9 [.d (AB g)],.row true 9 [XQ g],.row true 9 [XQ g],.row (!g.conds.isEmpty) 1 (g.conds.map fun x=>.d (D.str x)),.row (!g.BC.isEmpty) 1 (g.BC.map fun x=>.d (D.str x)),.row (!g.Ak.isEmpty) 7 (g.Ak.map fun x=>.d (Aa x)),.row (!g.AD.isEmpty) 13 (g.AD.map fun x=>.d (AH x)),.BJ (g.levels.map Ac),.BJ (g.AM.map AK)];have g1:AJ prog 1 0 tm (SR g) tm S1:=
   (AJ.B6 7 (S:=SR g) rfl (Bz _ Ac g.levels)).trans (AJ.B6 8 (S:=(SR g).set 7 (.BJ (g.levels.map Ac))) rfl (Bz _ AK g.AM))
  let hV1:V:=.agg [.row 3 g.conds.length,.d (AV g.fam.nodes),.d (AG g.fam.root),.row 5 g.Ak.length,.row 4 g.BC.length,.row 6 g.AD.length,.d (AG g.start),.d (BI g.levels),.d (A8 g.AM)];have g2:AJ prog 1 0 tm S1 (EJ tm 0 hV1) S1:=AJ.fK 0 h0 rfl fun i h h'=>by
   match i,h' with
   |0,_=>exact .inl rfl
   |1,_=>exact .inl rfl
   |2,_=>exact .inl rfl
   |3,_=>exact .inl rfl
   |4,_=>exact .inl rfl
   |5,_=>exact .inl rfl
   |6,_=>exact .inl rfl
   |7,_=>exact .inr ⟨.sl (g.levels.map Ac),by simp[S1,asD,AAn],rfl⟩
   |8,_=>exact .inr ⟨.sl (g.AM.map AK),by simp[S1,asD,AAn],rfl⟩
  have hr:∀(ρ:Nat→Nat) {α:Type} (f:α→D) (l:List α),AAa ρ (l.map fun x=>V.d (f x))=l.map fun x=>V.d (f x):=fun ρ α f l=>by
   induction l with
   |nil=>rfl
   |cons x l ih=>simp[AAa,ih]
  let S2:Sg:=hS g++[.row true 9 [.d (AB g)],.row true 9 [AAO (nameOf [4,5,6,0,2,1,3,7,8]) (XQ g)],.row true 9 [AAO (nameOf [4,5,6,0,2,1,3,7,8]) (XQ g)],.BJ (g.levels.map Ac),.BJ (g.AM.map AK)];have g3:=AJ.perm (P:=prog) (n:=1) (b:=0) (tm:=EJ tm 0 hV1) (S:=S1) (S':=S2) [4,5,6,0,2,1,3,7,8] (by decide) rfl rfl (by simp[S1,S2,hS,AAj,hr,AAa]) (fun i h=>by omega) [3,5,4,6,0,1,2,7,8] rfl rfl;refine⟨_,(g1.trans (g2.trans g3)).trans (AJ.AY 4 (S':=hS g) rfl (Nat.zero_le _) (by simp[S2,hS]) (by simp[S2,hS])),?_⟩;simp[clean,EJ,hV1,hV,nameOf]
open Go.Proofs Tryz DT
def NV(d:AN):Bool:=((d.nodes.length:Int)==0)&&(d.root==0)
theorem Mp(d:AN):Pure prog 106 [AA d] (.bool (NV d)):=by
 refine Pure.AI func106 (by kernel_rfl) rfl (by simp) fun wf=>?_;rw[ntmps106];refine xW fun K hK=>?_;simp;apply hK;(repeat refine xS ?_);refine BX fun K hK=>?_;(repeat((refine B7 ?_ ?_);(focus(simp[AA];try(first|omega|(simp +contextual[AA];done)|grind);done));simp[AA]));refine Aj (hK _ _ ?_);(try simp only[xQ,reduceIte]);refine Ag ⟨_,_,AJ.refl,?_⟩;(try simp);simp[NV]
def cu(x:AAC):Bool:=(x.number==0)&&(x.at_==0)&&(x.to==0)&&decide (x.name=⟨#[]⟩)&&!x.value&&NV x.cond
def cQ(x:AAC):Bool:=((x.levels.length:Int)==0)&&((x.AM.length:Int)==0)&&((x.BL.length:Int)==0)
def dr(t:Token):Bool:=decide (t.name=⟨#[]⟩)&&(t.cls==0)&&decide (t.literal=⟨#[]⟩)&&((t.pattern.length:Int)==0)&&decide (t.Cr=⟨#[]⟩)&&NV t.cond
def dk(p:AT):Bool:=decide (p.name=⟨#[]⟩)&&(p.left==0)&&((p.right.length:Int)==0)&&NV p.cond&&!p.bracket&&(p.Di==0)&&((p.layout.length:Int)==0)&&decide (p.scope=⟨false,0,0,0,0⟩)
def Fi(x:AAC):Bool:=cu x&&cQ x&&dr x.token&&dk x.prod
theorem Mg(x:AAC):Pure prog 28 [AO x] (.bool (Fi x)):=by
 refine Pure.AI func28 (by kernel_rfl) rfl (by simp) fun wf=>?_;rw[ntmps28];have cy:=AO.eq_1 x;have k9:=Aa.eq_1 x.token;have rP:=AH.eq_1 x.prod;have oG:AAT [D.bool x.prod.scope.opens,D.int .i64 x.prod.scope.declares,D.int .i64 x.prod.scope.kind,D.int .i64 x.prod.scope.EA,D.int .i64 x.prod.scope.allowed] [D.bool false,D.int .i64 0,D.int .i64 0,D.int .i64 0,D.int .i64 0]=decide (x.prod.scope=⟨false,0,0,0,0⟩):=by
  cases x.prod.scope;rw[Bool.eq_iff_iff];simp[AAT,deq]
 refine xW fun K hK=>?_;simp;apply hK;refine AW.Ew (R:=fun tm S=>tm 1=.ptr 0 1 0 0∧tm 3=.ptr 1 1 0 0∧tm 4=.ptr 2 1 0 0∧S=[.row true 31 [.d (AO x)],.row true 7 [.agg (AAF (.d (Aa x.token)))],.row true 13 [.agg (AAF (.d (AH x.prod)))]]) ?_ ?_
 ·refine AW.regionF (by kernel_rfl) fun K hK=>?_;change Ad _ _ _ _ _ _ 8 (Array.replicate 8 false) _ _;refine Ad.CB 0 rfl (by kernel_rfl) ?_ ?_;(focus(simp[cy];done));simp;refine Ad.CB 1 rfl (by kernel_rfl) ?_ ?_;(focus(simp[cy];done));simp[cy];refine Ad.CB 2 rfl (by kernel_rfl) ?_ ?_;(focus(simp;done));simp;refine Ad.CB 3 rfl (by kernel_rfl) ?_ ?_;(focus(simp;done));simp;refine Ad.TZ 4 5 [false,false,false,false] [false,false,false,false] (by kernel_rfl) rfl rfl (by kernel_rfl) (by kernel_rfl) ?_ ?_ ?_ ?_
  ·simp[AR]
  ·simp[AR]
  ·simp;refine Ad.DE 5 [false,false,false,false] (by kernel_rfl) rfl (by kernel_rfl) ?_ ?_;(focus(simp[AR];done));simp;refine Ad.DE 6 [false,false,true,true] (by kernel_rfl) rfl (by kernel_rfl) ?_ ?_;(focus(simp[AR];done));simp;refine Ad.DE 7 [true,true] (by kernel_rfl) rfl (by kernel_rfl) ?_ ?_;(focus(simp[AR];done));simp;refine Ad.done (by kernel_rfl) (hK _ _ ⟨_,_,AJ.refl,?_⟩);simp[cy,k9,rP]
  ·simp;refine Ad.DE 4 [false,false,false,false] (by kernel_rfl) rfl (by kernel_rfl) ?_ ?_;(focus(simp[AR];done));simp;refine Ad.DE 6 [false,false,true,true] (by kernel_rfl) rfl (by kernel_rfl) ?_ ?_;(focus(simp[AR];done));simp;refine Ad.DE 7 [true,true] (by kernel_rfl) rfl (by kernel_rfl) ?_ ?_;(focus(simp[AR];done));simp;refine Ad.done (by kernel_rfl) (hK _ _ ⟨_,_,AJ.perm (S':=[.row true 31 [.d (AO x)],.row true 7 [.agg (AAF (.d (Aa x.token)))],.row true 13 [.agg (AAF (.d (AH x.prod)))]]) [0,2,1] (by decide) (by simp) (by simp) ?_ (by simp) [0,2,1] (by simp;decide) (by simp),?_⟩)
   ·simp[cy,k9,rP]
   ·simp
 ·rintro tm S ⟨t1,t3,t4,rfl⟩;refine Az fun K hK=>?_;(repeat((refine B7 ?_ ?_);(focus(simp[t1,cy];try(first|omega|(simp +contextual[t1,cy];done)|grind);done));simp[t1,cy]));refine AS.CE (ds:=[AA x.cond]) rfl rfl (by simp;rfl) (fun _=>Mp x.cond) (by simp[xN]) ?_;simp;(repeat((refine B7 ?_ ?_);(focus(simp;try(first|omega|(simp +contextual;done)|grind);done));simp));refine Aj (hK _ _ ?_);(repeat refine xS ?_);refine BX fun K hK=>?_;(repeat((refine B7 ?_ ?_);(focus(simp[t1];try(first|omega|(simp +contextual[t1,cy];done)|grind);done));simp[t1]));refine Aj (hK _ _ ?_);(try simp only[xQ,reduceIte]);refine Az fun K hK=>?_;(repeat((refine B7 ?_ ?_);(focus(simp[t3];try(first|omega|(simp +contextual[t3];done)|grind);done));simp[t3]));refine AS.CE (ds:=[AA x.token.cond]) rfl rfl (by simp;rfl) (fun _=>Mp x.token.cond) (by simp[xN]) ?_;simp;(repeat((refine B7 ?_ ?_);(focus(simp;try(first|omega|(simp +contextual;done)|grind);done));simp));refine Aj (hK _ _ ?_);refine Az fun K hK=>?_;(repeat((refine B7 ?_ ?_);(focus(simp[t4];try(first|omega|(simp +contextual[t4];done)|grind);done));simp[t4]));refine AS.CE (ds:=[AA x.prod.cond]) rfl rfl (by simp;rfl) (fun _=>Mp x.prod.cond) (by simp[xN]) ?_;simp;(repeat((refine B7 ?_ ?_);(focus(simp[t4];try(first|omega|(simp +contextual[t4,oG];done)|grind);done));simp[t4,oG]));refine Aj (hK _ _ ?_);(repeat refine xS ?_);refine BX fun K hK=>?_;(repeat((refine B7 ?_ ?_);(focus(simp;try(first|omega|(simp +contextual;done)|grind);done));simp));refine Aj (hK _ _ ?_);(try simp only[xQ,reduceIte]);refine Ag ⟨_,_,AJ.refl,?_⟩;(try simp);simp[Fi,cu,cQ,dr,dk,Bool.and_assoc]
end Go.Koi
