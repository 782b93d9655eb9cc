/- Part 24 of the proof that the law ChangeValid returns true for every input. -/
import Derived.Test.YtlgjmkfbkhfakaaGreatDoorK22
set_option maxHeartbeats 64000000
set_option maxRecDepth 100000
namespace Go.Koi
open Go.Proofs Tryz DT
def II(t:Token):Bool:=
 if t.literal=⟨#[]⟩then(if AAq t.pattern=0 then(if t.cls=0 then !decide (t.Cr=⟨#[]⟩)&&F4 t.pattern t.Cr else decide (t.Cr=⟨#[]⟩))else false)
 else decide (t.Cr=⟨#[]⟩)&&decide (t.pattern=[])
noncomputable def F6(n:Nat)(t:Token):Bool:=decide (0≤t.cls)&&decide (t.cls≤2)&&DS t.cond n&&II t
noncomputable def ES(g:AF):Bool:=AAl [⟨#[]⟩] (g.Ak.map (·.name))&&g.Ak.all (F6 g.conds.length)
theorem K5(g:AF):Pure prog 155 [AB g] (AG (if ES g then 0 else 51)):=by
 refine Pure.AI func155 (by kernel_rfl) rfl (by simp) fun wf=>?_;have a1:g.Ak.length≤maxLen:=by simp[AAY,WFD,AB]at wf;exact wf.2.2.2.1.1
 rw[ntmps155];refine xW fun K hK=>?_;simp;apply hK;refine Az fun K hK=>?_;refine xJ ?_;simp;refine xF (H8) [] rfl ?_;simp;refine xJ ?_;simp;refine Aj (hK _ _ ?_);refine xS (xW fun K hK=>?_);simp[AB];apply hK;refine Bw ?_;refine DC g.Ak.length (fun i tm S=>tm 1=.ptr 0 1 0 0∧tm 3=.fn (.func 211) [] [.ptr 2 1 0 0]∧tm 9=.d (Bs g.Ak)∧tm 10=.d (.int .i64 g.Ak.length)∧tm 11=.d (.int .i64 i)∧(∀k (h:k<i) (h':k<g.Ak.length),F6 g.conds.length g.Ak[k]=true∧FV (K8 (g.Ak.map (·.name)) k) g.Ak[k].name=false)∧S=[.row true 9 [.d (AB g)],Dn (K8 (g.Ak.map (·.name)) i),.row true 1 [.map 1]]) (i0:=0) (Nat.zero_le _) (by simp[QW,Dn,AB,Iq]) ?_;rintro i tm S hi ⟨t1,t3,t9,t10,t11,gg,rfl⟩;refine xW fun K hK=>?_;simp[t10,t11];apply hK;refine xC ?_;simp;refine⟨fun cx=>?_,fun hO=>?_⟩
 ·have mL:i<(g.Ak.map (·.name)).length:=by simpa using cx
  have jC:=HN (K8 (g.Ak.map (·.name)) i) g.Ak[i].name;have ka:=H7 mL;simp only[List.getElem_map]at ka;have iq:=fun h=>E3 (L:=[⟨#[]⟩]) (l:=g.Ak.map (·.name)) mL (fun k hk=>by have:=(gg k hk (by omega)).2;simp only[List.getElem_map];exact this) (by simp only[List.getElem_map];exact h);have jq:F6 g.conds.length g.Ak[i]=false→ES g=false:=fun h=>by
   have:g.Ak.all (F6 g.conds.length)=false:=by
    rw[List.all_eq_false];exact⟨_,List.getElem_mem cx,by simp[h]⟩
   simp[ES,this]
  generalize hh:FV (K8 (g.Ak.map (·.name)) i) g.Ak[i].name=hs at *;generalize hx:g.Ak[i]=x at *;unfold Dn;refine xK ?_;refine xB ?_;refine xW fun K hK=>?_;simp[t9,t11,cx,hx];apply hK;refine xS (Az fun K hK=>?_);refine xJ ?_;simp[t3];refine xF (jC) [1,2] rfl ?_;simp[QW,Dn];(repeat((refine B7 ?_ ?_);(focus(simp[t1];try(first|omega|(simp +contextual[Aa,t1,AB];done)|grind);done));simp[t1,AB]));refine AS.CE (ds:=[AA x.cond,AG g.conds.length]) rfl rfl (by simp;rfl) (fun _=>IJ x.cond g.conds.length) (by simp[xN]) ?_;simp;(repeat((refine B7 ?_ ?_);(focus(simp;try(first|omega|(simp +contextual;done)|grind);done));simp));refine Aj (hK _ _ ?_);(try simp only[xQ,reduceIte]);(repeat refine xS ?_);refine AW.BD (t:=hs||decide (x.cls<0)||decide (2<x.cls)||!DS x.cond g.conds.length) ?_ (fun hb=>?_) (fun hb=>?_)
  ·simp
  ·refine xW fun K hK=>?_;simp;apply hK;refine Ag ⟨_,_,AJ.refl,?_⟩;(try simp);cases hs with
   |true=>have iG:=iq hh;simp[ES,iG]
   |false=>
    have:F6 g.conds.length x=false:=by simp[F6];simp at hb;grind
    simp[jq this]
  ·simp only[Bool.or_eq_false_iff,Bool.not_eq_false',decide_eq_false_iff_not]at hb;obtain⟨⟨⟨rfl,iW⟩,gx⟩,sO⟩:=hb;simp;refine xK ?_;refine xW fun K hK=>?_;simp;apply hK;refine AW.El (R:=fun tm S=>tm 1=.ptr 0 1 0 0∧tm 3=.fn (.func 211) [] [.ptr 2 1 0 0]∧tm 9=.d (Bs g.Ak)∧tm 10=.d (.int .i64 g.Ak.length)∧tm 11=.d (.int .i64 i)∧tm 6=.d (.bool (II x))∧S=[.row true 9 [.d (AB g)],Dn (K8 (g.Ak.map (·.name)) (i+1)),.row true 1 [.map 1],.row true 7 [.d (Aa x)]]) ?_ ?_
   ·refine Bw ?_;(repeat refine xS ?_);refine xV fun K hK=>?_;simp;refine hK _ _ ?_;(try simp only[xQ,reduceIte]);by_cases hl:x.literal=⟨#[]⟩
    ·refine AU ?_;simp[hl];(repeat refine xS ?_);refine BX fun K hK=>?_;refine xJ ?_;simp;refine Bp (Ja x.pattern) rfl (by simp) ?_;simp;refine xJ ?_;simp;refine Aj (hK _ _ ?_);(try simp only[xQ,reduceIte]);by_cases hp:AAq x.pattern=0
     ·refine AU ?_;simp[hp];(repeat refine xS ?_);refine xV fun K hK=>?_;simp;refine hK _ _ ?_;(try simp only[xQ,reduceIte]);by_cases hc:x.cls=0
      ·refine AU ?_;simp[hc];refine BX fun K hK=>?_;refine xJ ?_;simp;refine AS.CE (g:=!decide (x.Cr=⟨#[]⟩)) (ds:=[Ax x.pattern,Ba x.Cr]) rfl rfl (by simp<;>rfl) (fun _=>Ol x.pattern x.Cr) (by simp) ?_;simp;(repeat((refine B7 ?_ ?_);(focus(simp;try(first|omega|(simp +contextual;done)|grind);done));simp));refine Aj (hK _ _ ?_);simp[II,hl,hp,hc,t1,t3,t9,t10,t11,ka,Dn,Aa,AB]
      ·refine AU ?_;simp[hc];refine CC ?_;simp[II,hl,hp,hc,t1,t3,t9,t10,t11,ka,Dn,Aa,AB]
     ·refine AU ?_;simp[hp];refine xV fun K hK=>?_;simp;apply hK;simp[II,hl,hp,t1,t3,t9,t10,t11,ka,Dn,Aa,AB]
    ·refine AU ?_;simp[hl];refine xV fun K hK=>?_;simp;apply hK;have iY:((x.pattern.length:Int)==0)=decide (x.pattern=[]):=by rw[Bool.eq_iff_iff];simp
     simp[II,hl,iY,t1,t3,t9,t10,t11,ka,Dn,Aa,AB]
   ·rintro tm S ⟨t1,t3,t9,t10,t11,t6,rfl⟩;unfold Dn;(repeat refine xS ?_);refine xV fun K hK=>?_;simp[t6];refine hK _ _ ?_;(try simp only[xQ,reduceIte]);cases j1:II x with
    |false=>
     refine AU ?_;simp;refine xW fun K hK=>?_;simp;apply hK;refine Ag ⟨_,_,AJ.refl,?_⟩;(try simp);have:F6 g.conds.length x=false:=by simp[F6,j1]
     simp[jq this]
    |true=>
     refine AU ?_;simp;refine CC ?_;refine xV fun K hK=>?_;simp[t11];apply hK;refine⟨cx,_,_,AJ.drop 3 (by simp) (by simp) (by simp),?_⟩;simp[clean,t1,t3,t9,t10,AQ cx a1];intro k hk jN;by_cases e:k=i
     ·subst e;rw[hx];exact⟨by simp[F6,j1,sO];omega,hh⟩
     ·exact gg k (by omega) jN
 ·have iD:i=g.Ak.length:=by omega
  subst iD;have lW:=EZ (L:=[⟨#[]⟩]) (l:=g.Ak.map (·.name)) fun k hk=>by have:=(gg k (by simpa using hk) (by simpa using hk)).2;simp only[List.getElem_map];exact this
  have lk:g.Ak.all (F6 g.conds.length)=true:=by
   rw[List.all_eq_true];intro x hx;obtain⟨k,hk,rfl⟩:=List.mem_iff_getElem.1 hx;exact(gg k hk hk).1
  unfold Dn;refine Cu ?_;refine xW fun K hK=>?_;simp;apply hK;refine Ag ⟨_,_,AJ.refl,?_⟩;(try simp);simp[ES,lW,lk]
open Go.Proofs Tryz DT
def ABM(g:AF)(s:Symbol):Bool:=
 if s.token then decide (0≤s.index)&&(match g.Ak[s.index.toNat]? with|some t=>decide (t.cls=0)|none=>false)
 else decide (0≤s.index)&&decide (s.index<g.BC.length)
theorem Se(g:AF)(s:Symbol):Pure prog 187 [AB g,AL s] (.bool (ABM g s)):=by
 refine Pure.AI func187 (by kernel_rfl) rfl (by simp) fun wf=>?_;rw[ntmps187];refine xW fun K hK=>?_;simp;apply hK;refine xS (xW fun K hK=>?_);simp[AL];apply hK;cases ht:s.token with
 |false=>
  refine AU ?_;simp;(repeat refine xS ?_);refine BX fun K hK=>?_;(repeat((refine B7 ?_ ?_);(focus(simp[AB];try(first|omega|(simp +contextual[AL,AB];done)|grind);done));simp[AB]));refine Aj (hK _ _ ?_);(try simp only[xQ,reduceIte]);refine Ag ⟨_,_,AJ.refl,?_⟩;(try simp);simp[ABM,ht]
 |true=>
  refine AU ?_;simp;refine CC ?_;by_cases h0:0≤s.index
  ·by_cases h1:s.index<g.Ak.length
   ·have h2:s.index.toNat<g.Ak.length:=by omega
    refine xW fun K hK=>?_;simp[AB,h0,h1,h2,Aa];apply hK;refine Ag ⟨_,_,AJ.refl,?_⟩;(try simp);simp[ABM,ht,h0,h2];rw[Bool.eq_iff_iff];simp
   ·have h2:¬s.index.toNat<g.Ak.length:=by omega
    have h3:g.Ak[s.index.toNat]?=none:=List.getElem?_eq_none (by omega);(repeat refine xS ?_);refine BX fun K hK=>?_;(iterate 12 (refine B7 (by simp[AB]) ?_;simp[AB,h0,h1]));(repeat(refine Dp rfl ?_ ?_;(·simp);simp));refine xJ ?_;simp;refine Aj (hK _ _ ?_);(try simp only[xQ,reduceIte]);refine Ag ⟨_,_,AJ.refl,?_⟩;(try simp);simp[ABM,ht,h3]
  ·(repeat refine xS ?_);refine BX fun K hK=>?_;(iterate 4 (refine B7 (by simp[AB]) ?_;simp[AB,h0]));(repeat(refine Dp rfl ?_ ?_;(·simp);simp));(iterate 2 (refine B7 (by simp) ?_;simp));(repeat(refine Dp rfl ?_ ?_;(·simp);simp));refine xJ ?_;simp;refine Aj (hK _ _ ?_);(try simp only[xQ,reduceIte]);refine Ag ⟨_,_,AJ.refl,?_⟩;(try simp);simp[ABM,ht,h0]
theorem NO(g:AF)(s:Symbol):AE prog 186 [.d (AL s),.ptr 0 1 0 0] [.row true 9 [.d (AB g)]] (.d (.bool (!ABM g s))) [.row true 9 [.d (AB g)]]:=by
 refine AE.AI func186 (by kernel_rfl) rfl (by simp) fun wf _=>?_;rw[ntmps186];refine xW fun K hK=>?_;simp;apply hK;(repeat refine xS ?_);refine BX fun K hK=>?_;refine xJ ?_;simp[AL,AB];refine Bp (Se g s) rfl (by simp[AB,AL]) ?_;simp;refine xJ ?_;simp;refine Aj (hK _ _ ?_);(try simp only[xQ,reduceIte]);refine Ag ?_;(try simp only[xQ,reduceIte]);refine⟨_,AJ.AY 1 (by simp[AB]) (by simp) (by simp) (by simp),?_⟩;simp[Am,clean]
def Mc(p:AT)(i:Int):Bool:=decide (0≤i)&&decide (i<p.right.length)
theorem Nv(p:AT)(i:Int):AE prog 217 [.d (AG i),.ptr 0 1 0 0] [.row true 13 [.d (AH p)]] (.d (.bool (Mc p i))) [.row true 13 [.d (AH p)]]:=by
 refine AE.AI func217 (by kernel_rfl) rfl (by simp) fun wf _=>?_;rw[ntmps217];refine xW fun K hK=>?_;simp;apply hK;(repeat refine xS ?_);refine BX fun K hK=>?_;(repeat((refine B7 ?_ ?_);(focus(simp;try(first|omega|(simp +contextual[AH];done)|grind);done));simp[AH]));refine Aj (hK _ _ ?_);(try simp only[xQ,reduceIte]);refine Ag ?_;(try simp only[xQ,reduceIte]);refine⟨_,AJ.JK (by simp[AH]),?_⟩;simp[Am,Mc]
def AAo(p:AT)(k v lo hi:Int):Bool:=
 if k=0 then decide (v=0)
 else decide (0<k)&&decide (k≤p.right.length)&&(match p.right[(k - 1).toNat]? with|some s=>s.token|none=>false)&&decide (lo≤v)&&decide (v≤hi)
theorem NP(p:AT)(k v lo hi:Int):AE prog 218 [.d (AG k),.d (AG v),.d (AG lo),.d (AG hi),.ptr 0 1 0 0] [.row true 13 [.d (AH p)]] (.d (.bool (AAo p k v lo hi))) [.row true 13 [.d (AH p)]]:=by
 refine AE.AI func218 (by kernel_rfl) rfl (by simp) fun wf _=>?_;rw[ntmps218];refine xW fun K hK=>?_;simp;apply hK;refine xS (xW fun K hK=>?_);simp;apply hK;by_cases hk:k=0
 ·refine AU ?_;simp[hk];refine xW fun K hK=>?_;simp;apply hK;refine Ag ?_;(try simp only[xQ,reduceIte]);refine⟨_,AJ.JK (by simp),?_⟩;simp[Am,AAo];left;rw[Bool.eq_iff_iff];simp
 ·refine AU ?_;simp[hk];refine CC ?_;by_cases h0:0<k
  ·by_cases h1:k≤p.right.length
   ·obtain⟨m,rfl⟩:∃m:Nat,k=m+1:=⟨(k - 1).toNat,by omega⟩;have h2:m<p.right.length:=by omega
    have h4:IntKind.i64.wrap (m:Int)=m:=by
     have:=wf.1;simp[WFV,WFD,rng]at this;rw[Go.IntKind.wrap_i64];omega
    have oD:IntKind.i64.wrap ((m:Int)+1 - 1)=m:=by rw[show(m:Int)+1 - 1=m by omega];exact h4
    have jZ:(m:Int)+1≤p.right.length:=h1;have pf:(0:Int)<(m:Int)+1:=h0;(repeat refine xS ?_);refine BX fun K hK=>?_;(repeat((refine B7 ?_ ?_);(focus(simp[h2,AL];try(first|omega|(simp +contextual[AH,pf,jZ,h2,h4,oD,AL];done)|grind);done));simp[AH,pf,jZ,h2,h4,AL]));refine Aj (hK _ _ ?_);(try simp only[xQ,reduceIte]);refine Ag ?_;(try simp only[xQ,reduceIte]);refine⟨_,AJ.JK (by simp[AH]),?_⟩;simp[Am,AAo,hk,pf,jZ,h2]
   ·(repeat refine xS ?_);refine BX fun K hK=>?_;(iterate 10 (refine B7 (by simp) ?_;simp[AH,h0,h1]));(repeat(refine Dp rfl ?_ ?_;(·simp);simp));(iterate 2 (refine B7 (by simp) ?_;simp));(repeat(refine Dp rfl ?_ ?_;(·simp);simp));(iterate 2 (refine B7 (by simp) ?_;simp));(repeat(refine Dp rfl ?_ ?_;(·simp);simp));refine xJ ?_;simp;refine Aj (hK _ _ ?_);(try simp only[xQ,reduceIte]);refine Ag ?_;(try simp only[xQ,reduceIte]);refine⟨_,AJ.JK (by simp[AH]),?_⟩;simp[Am,AAo,hk,h0,h1]
  ·(repeat refine xS ?_);refine BX fun K hK=>?_;(iterate 3 (refine B7 (by simp) ?_;simp[AH,h0]));(repeat(refine Dp rfl ?_ ?_;(·simp);simp));(iterate 2 (refine B7 (by simp) ?_;simp));(repeat(refine Dp rfl ?_ ?_;(·simp);simp));(iterate 2 (refine B7 (by simp) ?_;simp));(repeat(refine Dp rfl ?_ ?_;(·simp);simp));(iterate 2 (refine B7 (by simp) ?_;simp));(repeat(refine Dp rfl ?_ ?_;(·simp);simp));refine xJ ?_;simp;refine Aj (hK _ _ ?_);(try simp only[xQ,reduceIte]);refine Ag ?_;(try simp only[xQ,reduceIte]);refine⟨_,AJ.JK (by simp[AH]),?_⟩;simp[Am,AAo,hk,h0]
def Kl(p:AT)(x:D2):Bool:=decide (1≤x.kind)&&decide (x.kind≤4)&&Mc p x.a&&Mc p x.b&&!(decide (x.kind=1)&&!decide (x.b=0))
def ABW(p:AT):Bool:=
 p.layout.all (Kl p)&&AAo p p.scope.declares p.scope.kind 1 7&&AAo p p.scope.EA p.scope.allowed 0 255&&
 (!p.bracket||(decide (p.right.length=3)&&decide (p.Di=0)&&decide (p.layout=[])&&decide (p.scope=⟨false,0,0,0,0⟩)&&
  (match p.right with|[a,c,d]=>a.token&&decide (c=⟨false,p.left⟩)&&d.token|_=>false)))
theorem Ot(p:AT):Pure prog 189 [AH p] (.bool (ABW p)):=by
 refine Pure.AI func189 (by kernel_rfl) rfl (by simp) fun wf=>?_;have a1:p.layout.length≤maxLen:=by simp[AAY,WFD,AH]at wf;omega
 rw[ntmps189];refine xW fun K hK=>?_;simp;apply hK;refine xS (xW fun K hK=>?_);simp[AH];apply hK;refine Bw ?_;refine DC p.layout.length (fun i tm S=>tm 1=.ptr 0 1 0 0∧tm 9=.d (Bf p.layout)∧tm 10=.d (.int .i64 p.layout.length)∧tm 11=.d (.int .i64 i)∧(∀k (h:k<i) (h':k<p.layout.length),Kl p p.layout[k]=true)∧S=[.row true 13 [.d (AH p)]]) (i0:=0) (Nat.zero_le _) (by simp[AH]) ?_;rintro i tm S hi ⟨t1,t9,t10,t11,gg,rfl⟩;refine xW fun K hK=>?_;simp[t10,t11];apply hK;refine xC ?_;simp;refine⟨fun cx=>?_,fun hO=>?_⟩
 ·have iq:Kl p p.layout[i]=false→ABW p=false:=fun h=>by
   have:p.layout.all (Kl p)=false:=by
    rw[List.all_eq_false];exact⟨_,List.getElem_mem cx,by simp[h]⟩
   simp[ABW,this]
  generalize hx:p.layout[i]=x at *;have wX:=Nv p x.a;have my:=Nv p x.b;refine xK ?_;refine xB ?_;refine xW fun K hK=>?_;simp[t9,t11,cx,hx];apply hK;refine xW fun K hK=>?_;simp[t1];apply hK;refine Az fun K hK=>?_;(repeat((refine B7 ?_ ?_);(focus(simp;try(first|omega|(simp +contextual[A0];done)|grind);done));simp));refine AS.MS (wX) [0] rfl rfl (by simp;rfl) (by simp) (by simp +contextual;try rfl) (by simp;try rfl) ?_;simp;(repeat((refine B7 ?_ ?_);(focus(simp;try(first|omega|(simp +contextual;done)|grind);done));simp));refine AS.MS (my) [0] rfl rfl (by simp;rfl) (by simp) (by simp +contextual;try rfl) (by simp;try rfl) ?_;simp;(repeat((refine B7 ?_ ?_);(focus(simp;try(first|omega|(simp +contextual;done)|grind);done));simp));refine Aj (hK _ _ ?_);(repeat refine xS ?_);refine AW.BD (t:=!Kl p x) ?_ (fun hb=>?_) (fun hb=>?_)
  ·simp[Kl];rw[Bool.eq_iff_iff];simp
  ·refine xW fun K hK=>?_;simp;apply hK;refine Ag ⟨_,_,AJ.refl,?_⟩;(try simp);simp at hb;simp[iq hb]
  ·simp at hb;refine CC ?_;refine xV fun K hK=>?_;simp[t11];apply hK;refine⟨cx,_,_,AJ.drop 1 (by simp) (by simp) (by simp),?_⟩;simp[clean,t1,t9,t10,AQ cx a1];intro k hk jN;by_cases e:k=i
   ·subst e;rw[hx];exact hb
   ·exact gg k (by omega) jN
 ·have iD:i=p.layout.length:=by omega
  subst iD;have rN:p.layout.all (Kl p)=true:=by
   rw[List.all_eq_true];intro x hx;obtain⟨k,hk,rfl⟩:=List.mem_iff_getElem.1 hx;exact gg k hk hk
  have sy:=NP p p.scope.declares p.scope.kind 1 7;have tS:=NP p p.scope.EA p.scope.allowed 0 255;refine Cu ?_;refine xW fun K hK=>?_;simp[t1];apply hK;refine xW fun K hK=>?_;simp[t1,AH];apply hK;refine xS (Az fun K hK=>?_);refine xJ ?_;simp;refine xF (sy) [0] rfl ?_;simp[AH];(repeat((refine B7 ?_ ?_);(focus(simp;try(first|omega|(simp +contextual;done)|grind);done));simp));refine AS.MS (tS) [0] rfl rfl (by simp;rfl) (by simp) (by simp +contextual[];try rfl) (by simp[AH];try rfl) ?_;simp;(repeat((refine B7 ?_ ?_);(focus(simp;try(first|omega|(simp +contextual;done)|grind);done));simp));refine Aj (hK _ _ ?_);(try simp only[xQ,reduceIte]);(repeat refine xS ?_);refine AW.BD (t:=!(AAo p p.scope.declares p.scope.kind 1 7&&AAo p p.scope.EA p.scope.allowed 0 255)) ?_ (fun hb=>?_) (fun hb=>?_)
  ·simp
  ·refine xW fun K hK=>?_;simp;apply hK;refine Ag ⟨_,_,AJ.refl,?_⟩;(try simp);have iC:(AAo p p.scope.declares p.scope.kind 1 7&&AAo p p.scope.EA p.scope.allowed 0 255)=false:=by simpa only[Bool.not_eq_true']using hb
   have:ABW p=false:=by
    unfold ABW;rw[rN,Bool.true_and,iC,Bool.false_and]
   simp[this]
  ·have iC:(AAo p p.scope.declares p.scope.kind 1 7&&AAo p p.scope.EA p.scope.allowed 0 255)=true:=by simpa only[Bool.not_eq_false']using hb
   refine xK ?_;refine xS (xW fun K hK=>?_);simp[t1];apply hK;have pg:ABW p=(!p.bracket||(decide (p.right.length=3)&&decide (p.Di=0)&&decide (p.layout=[])&&decide (p.scope=⟨false,0,0,0,0⟩)&&
     (match p.right with|[a,c,d]=>a.token&&decide (c=⟨false,p.left⟩)&&d.token|_=>false))):=by
    unfold ABW;rw[rN,Bool.true_and,iC,Bool.true_and]
   cases iP:p.bracket with
   |false=>
    refine AU ?_;simp;refine xW fun K hK=>?_;simp;apply hK;refine Ag ⟨_,_,AJ.refl,?_⟩;(try simp);simp[pg,iP]
   |true=>
    rw[iP]at pg;simp only[Bool.not_true,Bool.false_or]at pg;refine AU ?_;simp;refine xK ?_;refine xS (Az fun K hK=>?_);(repeat((refine B7 ?_ ?_);(focus(simp[t1];try(first|omega|(simp +contextual[t1,AH];done)|grind);done));simp[t1]));refine Aj (hK _ _ ?_);(try simp only[xQ,reduceIte]);have oG:AAT [D.bool p.scope.opens,D.int .i64 p.scope.declares,D.int .i64 p.scope.kind,D.int .i64 p.scope.EA,D.int .i64 p.scope.allowed] [D.bool false,D.int .i64 0,D.int .i64 0,D.int .i64 0,D.int .i64 0]=decide (p.scope=⟨false,0,0,0,0⟩):=by
     cases p.scope;rw[Bool.eq_iff_iff];simp[AAT,deq]
    (repeat refine xS ?_);refine AW.BD (t:=!(decide (p.right.length=3)&&decide (p.Di=0)&&decide (p.layout=[])&&decide (p.scope=⟨false,0,0,0,0⟩))) ?_ (fun hb=>?_) (fun hb=>?_)
    ·simp[oG];rw[Bool.eq_iff_iff];simp;have:(0<p.layout.length)↔¬p.layout=[]:=by cases p.layout<;>simp
     rw[this];have:((p.right.length:Int)=3)↔p.right.length=3:=by omega
     rw[this]
    ·refine xW fun K hK=>?_;simp;apply hK;refine Ag ⟨_,_,AJ.refl,?_⟩;(try simp);have iG:(decide (p.right.length=3)&&decide (p.Di=0)&&decide (p.layout=[])&&decide (p.scope=⟨false,0,0,0,0⟩))=false:=by simpa only[Bool.not_eq_true']using hb
     rw[pg,iG,Bool.false_and]
    ·have iG:(decide (p.right.length=3)&&decide (p.Di=0)&&decide (p.layout=[])&&decide (p.scope=⟨false,0,0,0,0⟩))=true:=by simpa only[Bool.not_eq_false']using hb
     rw[iG,Bool.true_and]at pg;simp only[Bool.and_eq_true,decide_eq_true_eq]at iG;obtain⟨⟨⟨h3,_⟩,_⟩,_⟩:=iG;rcases hr:p.right with _|⟨a,_|⟨c,_|⟨d,_|⟨e,l⟩⟩⟩⟩<;>rw[hr]at h3<;>simp at h3;rw[hr]at pg;simp only[]at pg;refine xK ?_;(repeat refine xS ?_);refine xE [0,2,4,6,8,10,12,14,16,18,20,22,24,26,28,30,32,34,36,38,40,42,44] (by kernel_rfl) fun K hK=>?_;simp;refine xA 0 ?_;simp[t1,AL];refine xM (hK _ _ ?_);(try simp only[xQ,reduceIte]);refine Ag ⟨_,_,AJ.refl,?_⟩;(try simp);rw[pg];cases c;rw[Bool.eq_iff_iff];simp[AAT,deq]
noncomputable def Mz(g:AF)(p:AT):Bool:=DS p.cond g.conds.length&&decide (-1≤p.Di)&&decide (p.Di≤1)&&ABW p
def LX(g:AF)(p:AT):Bool:=ABM g ⟨false,p.left⟩&&p.right.all (ABM g)
noncomputable def AAm(g:AF):List ByteArray→List AT→Int
 |_,[]=>0
 |L,p::l=>if LX g p=false then 50 else if FV L p.name=true∨Mz g p=false then 52 else AAm g (L++[p.name]) l
theorem Gm{g:AF}:∀{l:List AT} {L:List ByteArray},AAm g L l=0→∀p∈l,LX g p=true∧Mz g p=true
 |[],_,_=>fun p hp=>by simp at hp
 |p::l,L,h=>by
  unfold AAm at h;split at h
  ·cases h
  ·rename_i h1;split at h
   ·cases h
   ·rename_i h2;intro q hq;rcases List.mem_cons.1 hq with rfl|hq
    ·exact⟨by simpa using h1,by simp at h2;exact h2.2⟩
    ·exact Gm h q hq
open Go.Proofs Tryz DT
theorem LD(g:AF):Pure prog 157 [AB g] (AG (AAm g [⟨#[]⟩] g.AD)):=by
 refine Pure.AI func157 (by kernel_rfl) rfl (by simp) fun wf=>?_;have a1:g.AD.length≤maxLen:=by simp[AAY,WFD,AB]at wf;omega
 generalize nQ:AAm g [⟨#[]⟩] g.AD=fin;rw[ntmps157];refine xW fun K hK=>?_;simp;apply hK;refine Az fun K hK=>?_;refine xJ ?_;simp;refine xF (H8) [] rfl ?_;simp;refine xJ ?_;simp;refine Aj (hK _ _ ?_);refine xS (xW fun K hK=>?_);simp[AB];apply hK;refine Bw ?_;refine DC g.AD.length (fun i tm S=>tm 1=.ptr 0 1 0 0∧tm 3=.fn (.func 211) [] [.ptr 2 1 0 0]∧tm 9=.d (Bb g.AD)∧tm 10=.d (.int .i64 g.AD.length)∧tm 11=.d (.int .i64 i)∧AAm g (K8 (g.AD.map (·.name)) i) (g.AD.drop i)=fin∧S=[.row true 9 [.d (AB g)],Dn (K8 (g.AD.map (·.name)) i),.row true 1 [.map 1]]) (i0:=0) (Nat.zero_le _) (by simp[QW,Dn,AB,Iq,nQ]) ?_;rintro i tm S hi ⟨t1,t3,t9,t10,t11,ly,rfl⟩;refine xW fun K hK=>?_;simp[t10,t11];apply hK;refine xC ?_;simp;refine⟨fun cx=>?_,fun hO=>?_⟩
 ·have mL:i<(g.AD.map (·.name)).length:=by simpa using cx
  have jC:=HN (K8 (g.AD.map (·.name)) i) g.AD[i].name;have ka:=H7 mL;simp only[List.getElem_map]at ka;rw[List.drop_eq_getElem_cons cx]at ly;unfold AAm at ly;generalize hh:FV (K8 (g.AD.map (·.name)) i) g.AD[i].name=hs at *;generalize hx:g.AD[i]=x at *;have sQ:=HY x.right (fun s=>!ABM g s) 186 [.ptr 0 1 0 0] [.row true 9 [.d (AB g)]] (fun s _=>NO g s);have hw:=(NO g ⟨false,x.left⟩).Zo;simp only[List.map_cons,List.map_nil]at hw;unfold Dn;refine xK ?_;refine xB ?_;refine xW fun K hK=>?_;simp[t9,t11,cx,hx];apply hK;refine xW fun K hK=>?_;simp[t1];apply hK;refine xS (Az fun K hK=>?_);refine xJ ?_;simp;refine xF (hw) [0] rfl ?_;simp[AB];(repeat((refine B7 ?_ ?_);(focus(simp;try(first|omega|(simp +contextual[AH];done)|grind);done));simp));refine AS.MS (sQ) [0] rfl rfl (by simp;rfl) (by simp) (by simp +contextual[];try rfl) (by simp[AB];try rfl) ?_;simp;(repeat((refine B7 ?_ ?_);(focus(simp;try(first|omega|(simp +contextual;done)|grind);done));simp));refine Aj (hK _ _ ?_);(try simp only[xQ,reduceIte]);(repeat refine xS ?_);refine AW.BD (t:=!LX g x) ?_ (fun hb=>?_) (fun hb=>?_)
  ·have:(x.right.any fun s=>!ABM g s)=!x.right.all (ABM g):=by rw[List.not_all_eq_any_not]
   simp[LX,this]
  ·refine xW fun K hK=>?_;simp;apply hK;refine Ag ⟨_,_,AJ.refl,?_⟩;(try simp);rw[←ly];simp at hb;simp[hb]
  ·simp at hb;rw[hb]at ly;simp only[Bool.true_eq_false,if_false]at ly;refine xK ?_;refine Az fun K hK=>?_;refine xJ ?_;simp[t3];refine xF (jC) [1,2] rfl ?_;simp[QW,Dn];(repeat((refine B7 ?_ ?_);(focus(simp[t1];try(first|omega|(simp +contextual[AH,t1,AB];done)|grind);done));simp[t1]));refine AS.CE (g:=!hs) (ds:=[AA x.cond,AG g.conds.length]) rfl rfl (by simp<;>rfl) (fun _=>IJ x.cond g.conds.length) (by simp[xN]) ?_;simp;(repeat((refine B7 ?_ ?_);(focus(simp;try(first|omega|(simp +contextual;done)|grind);done));simp));refine AS.CE (g:=!hs&&DS x.cond g.conds.length&&!decide (x.Di< -1)&&!decide (1<x.Di)) (ds:=[AH x]) rfl rfl (by simp<;>rfl) (fun _=>Ot x) (by simp[xN]) ?_;simp;(repeat((refine B7 ?_ ?_);(focus(simp;try(first|omega|(simp +contextual;done)|grind);done));simp));refine Aj (hK _ _ ?_);(repeat refine xS ?_);refine AW.BD (t:=hs||!Mz g x) ?_ (fun hb=>?_) (fun hb=>?_)
   ·simp[Mz];have e1:decide (x.Di< -1)=!decide (-1≤x.Di):=by rw[Bool.eq_iff_iff];simp
    have e2:decide (1<x.Di)=!decide (x.Di≤1):=by rw[Bool.eq_iff_iff];simp
    rw[e1,e2];simp only[Bool.or_assoc]
   ·have wY:hs=true∨Mz g x=false:=by simp at hb;grind
    rw[if_pos wY]at ly;refine xW fun K hK=>?_;simp;apply hK;refine Ag ⟨_,_,AJ.refl,?_⟩;(try simp);simp[←ly]
   ·simp only[Bool.or_eq_false_iff,Bool.not_eq_false']at hb;obtain⟨rfl,ig⟩:=hb;simp only[ig,Bool.true_eq_false,Bool.false_eq_true,or_self,if_false]at ly;rw[←ka]at ly;refine CC ?_;refine xV fun K hK=>?_;simp[t11];apply hK;refine⟨cx,_,_,AJ.drop 3 (by simp) (by simp) (by simp),?_⟩;simp[clean,t1,t3,t9,t10,AQ cx a1,ka,AB];rw[←ka];exact ly
 ·have iD:i=g.AD.length:=by omega
  subst iD;simp[AAm]at ly;unfold Dn;refine Cu ?_;refine xW fun K hK=>?_;simp;apply hK;refine Ag ⟨_,_,AJ.refl,?_⟩;(try simp);simp[←ly]
open Go.Proofs Tryz DT
def AAc(N:Nat):List Int→List Int→Option (List Int)
 |u,[]=>some u
 |u,p::ps=>if p<0∨(N:Int)≤p∨p∈u then none else AAc N (u++[p]) ps
noncomputable def AAv(g:AF):List Int→List Level→Bool
 |_,[]=>true
 |u,l::ls=>if decide (0≤l.assoc)&&decide (l.assoc≤3)&&DS l.cond g.conds.length then(match AAc g.AD.length u l.AD with|none=>false|some v=>AAv g v ls)else false
@[simp] theorem bl(l:List (Int×Bool))(k:Int)(x:Bool):DU (BO (D.int .i64) (fun x=>V.d (.bool x)) l) (.int .i64 k) (.d (.bool x))=BO (D.int .i64) (fun x=>V.d (.bool x)) (CU l k x):=C9 (ev:=fun x=>V.d (.bool x)) (by intro a b;rw[Bool.eq_iff_iff];simp[deq]) l k x
def Na(u:List Int):O:=.map (BO (D.int .i64) (fun x=>.d (.bool x)) (u.map fun p=>(p,true)))
theorem Yg(u:List Int)(p:Int):look (u.map fun p=>(p,true)) p=if p∈u then some true else none:=by
 induction u with
 |nil=>rfl
 |cons x u ih=>
  rw[List.map_cons,CQ,ih];by_cases h:x=p
  ·simp[h]
  ·have:¬p=x:=fun e=>h e.symm;simp[h,this]
def gW(g:AF)(fin:Bool)(i:Nat)(S:Sg):Prop:=∃u,AAv g u (g.levels.drop i)=fin∧S=[.row true 9 [.d (AB g)],Na u]
def gR(g:AF)(fin:Bool)(i:Nat)(l:Level)(j:Nat)(S:Sg):Prop:=
 ∃u,(match AAc g.AD.length u (l.AD.drop j)with|none=>false|some v=>AAv g v (g.levels.drop (i+1)))=fin∧S=[.row true 9 [.d (AB g)],Na u,.row true 4 [.d (Ac l)]]
theorem KV(g:AF):Pure prog 158 [AB g] (AG (if AAv g [] g.levels then 0 else 53)):=by
 refine Pure.AI func158 (by kernel_rfl) rfl (by simp) fun wf=>?_;have a1:g.levels.length≤maxLen:=by simp[AAY,WFD,AB]at wf;omega
 have a2':∀l∈g.levels,l.AD.length≤maxLen:=by
  simp[AAY,WFD,DM,AB]at wf;intro l hl;have:=wf.2.2.2.2.2.2.2.1.2 l hl;exact this.1.1
 generalize nQ:AAv g [] g.levels=fin;rw[ntmps158];refine xW fun K hK=>?_;simp;apply hK;refine xW fun K hK=>?_;simp;apply hK;refine xS (xW fun K hK=>?_);simp[AB];apply hK;refine Bw ?_;refine DC g.levels.length (fun i tm S=>tm 1=.ptr 0 1 0 0∧tm 3=.map 1∧tm 10=.d (BI g.levels)∧tm 11=.d (.int .i64 g.levels.length)∧tm 12=.d (.int .i64 i)∧gW g fin i S) (i0:=0) (Nat.zero_le _) (by simp;exact⟨[],nQ,by simp[Na,AB]⟩) ?_;rintro i tm S hi ⟨t1,t3,t10,t11,t12,u,hu,rfl⟩;unfold Na;refine xW fun K hK=>?_;simp[t11,t12];apply hK;refine xC ?_;simp;refine⟨fun cx=>?_,fun hO=>?_⟩
 ·have a2:g.levels[i].AD.length≤maxLen:=a2' _ (List.getElem_mem cx);rw[List.drop_eq_getElem_cons cx]at hu;unfold AAv at hu;generalize hx:g.levels[i]=x at *;refine xK ?_;refine xB ?_;refine xW fun K hK=>?_;simp[t10,t12,cx,hx];apply hK;refine xS (Az fun K hK=>?_);(repeat((refine B7 ?_ ?_);(focus(simp[t1,AB];try(first|omega|(simp +contextual[Ac,t1,AB];done)|grind);done));simp[t1,AB]));refine AS.CE (ds:=[AA x.cond,AG g.conds.length]) rfl rfl (by simp;rfl) (fun _=>IJ x.cond g.conds.length) (by simp[xN]) ?_;simp;(repeat((refine B7 ?_ ?_);(focus(simp;try(first|omega|(simp +contextual;done)|grind);done));simp));refine Aj (hK _ _ ?_);(try simp only[xQ,reduceIte]);(repeat refine xS ?_);refine AW.BD (t:=!(decide (0≤x.assoc)&&decide (x.assoc≤3)&&DS x.cond g.conds.length)) ?_ (fun hb=>?_) (fun hb=>?_)
  ·have e1:decide (x.assoc<0)=!decide (0≤x.assoc):=by rw[Bool.eq_iff_iff];simp
   have e2:decide (3<x.assoc)=!decide (x.assoc≤3):=by rw[Bool.eq_iff_iff];simp
   simp[e1,e2]
  ·rw[if_neg (by simpa only[Bool.not_eq_true',Bool.not_eq_true]using hb)]at hu;refine xW fun K hK=>?_;simp;apply hK;refine Ag ⟨_,_,AJ.refl,?_⟩;(try simp);simp[←hu]
  ·rw[if_pos (by simpa only[Bool.not_eq_false']using hb)]at hu;refine xK ?_;refine xW fun K hK=>?_;simp;apply hK;refine Bw ?_;refine DC x.AD.length (fun j tm S=>tm 1=.ptr 0 1 0 0∧tm 3=.map 1∧tm 10=.d (BI g.levels)∧tm 11=.d (.int .i64 g.levels.length)∧tm 12=.d (.int .i64 i)∧tm 34=.d (Ci x.AD)∧tm 35=.d (.int .i64 x.AD.length)∧tm 36=.d (.int .i64 j)∧gR g fin i x j S) (i0:=0) (Nat.zero_le _) (by simp[t1,t3,t10,t11,t12];exact⟨u,by simpa using hu,by simp[Na,AB,Ac]⟩) ?_;rintro j tm S hj ⟨t1,t3,t10,t11,t12,t34,t35,t36,v,hv,rfl⟩;unfold Na;refine xW fun K hK=>?_;simp[t35,t36];apply hK;refine xC ?_;simp;refine⟨fun ik=>?_,fun pY=>?_⟩
   ·rw[List.drop_eq_getElem_cons ik]at hv;unfold AAc at hv;generalize hy:x.AD[j]=y at *;have kq:=Yg v y;refine xK ?_;refine xB ?_;refine xW fun K hK=>?_;simp[t34,t36,ik,hy];apply hK;refine xS (Az fun K hK=>?_);(repeat((refine B7 ?_ ?_);(focus(simp[t1];try(first|omega|(simp +contextual[t1,t3,AB];done)|grind);done));simp[t1,t3,AB]));rw[kq];refine Aj (hK _ _ ?_);(try simp only[xQ,reduceIte]);(repeat refine xS ?_);refine AW.BD (t:=decide (y<0)||decide ((g.AD.length:Int)≤y)||decide (y∈v)) ?_ (fun hb=>?_) (fun hb=>?_)
    ·simp;by_cases hm:y∈v<;>simp[hm]
    ·have:y<0∨(g.AD.length:Int)≤y∨y∈v:=by simpa only[Bool.or_eq_true,decide_eq_true_eq,or_assoc]using hb
     rw[if_pos this]at hv;refine xW fun K hK=>?_;simp;apply hK;refine Ag ⟨_,_,AJ.refl,?_⟩;(try simp);simp[←hv]
    ·have gy:¬(y<0∨(g.AD.length:Int)≤y∨y∈v):=by simp only[Bool.or_eq_false_iff,decide_eq_false_iff_not]at hb;grind
     rw[if_neg gy]at hv;have mM:y∉v:=fun h=>gy (.inr (.inr h));rw[if_neg mM]at kq;have iT:CU (v.map fun p=>(p,true)) y true=(v++[y]).map fun p=>(p,true):=by rw[IT _ (by simpa using kq)];simp
     refine xK ?_;refine xV fun K hK=>?_;simp[t3,iT];apply hK;refine xV fun K hK=>?_;simp[t36];apply hK;refine⟨ik,_,_,AJ.refl,?_⟩;simp[t1,t3,t10,t11,t12,t34,t35,AQ ik a2];exact⟨v++[y],hv,by simp[Na,AB]⟩
   ·have iV:j=x.AD.length:=by omega
    subst iV;simp[AAc]at hv;refine Cu ?_;refine xV fun K hK=>?_;simp[t12];apply hK;refine⟨cx,_,_,AJ.drop 2 (by simp) (by simp) (by simp),?_⟩;simp[clean,t1,t3,t10,t11,AQ cx a1];exact⟨v,hv,by simp[Na]⟩
 ·have iD:i=g.levels.length:=by omega
  subst iD;simp[AAv]at hu;refine Cu ?_;refine xW fun K hK=>?_;simp;apply hK;refine Ag ⟨_,_,AJ.refl,?_⟩;(try simp);simp[←hu]
open Go.Proofs Tryz DT
def My(t:Token):Bool:=decide (t.cls=0)
def MO(t:Token):Bool:=!decide (t.literal=⟨#[]⟩)
theorem PN(t:Token):Pure prog 190 [Aa t] (.bool (My t)):=by
 refine Pure.AI func190 (by kernel_rfl) rfl (by simp) fun wf=>?_;rw[ntmps190];refine xW fun K hK=>?_;simp;apply hK;refine xW fun K hK=>?_;simp[Aa];apply hK;refine Ag ⟨_,_,AJ.refl,?_⟩;(try simp);unfold My;rw[Bool.eq_iff_iff];simp
theorem VU(t:Token):Pure prog 191 [Aa t] (.bool (MO t)):=by
 refine Pure.AI func191 (by kernel_rfl) rfl (by simp) fun wf=>?_;rw[ntmps191];refine xW fun K hK=>?_;simp;apply hK;refine xW fun K hK=>?_;simp[Aa];apply hK;refine Ag ⟨_,_,AJ.refl,?_⟩;(try simp);simp[MO]
def AA8(g:AF)(kind:Token→Bool)(l:List Int)(i:Nat):Bool:=
 decide (0≤l.getD i 0)&&decide (l.getD i 0<g.Ak.length)&&!(decide (0<i)&&decide (l.getD i 0≤l.getD (i - 1) 0))&&(match g.Ak[(l.getD i 0).toNat]? with|some t=>kind t|none=>false)
def LM(g:AF)(kind:Token→Bool)(l:List Int):Bool:=(List.range l.length).all (AA8 g kind l)&&decide (0<l.length)
theorem GS(g:AF)(l:List Int)(k:FuncId)(kind:Token→Bool)(hk:∀t,Pure prog k [Aa t] (.bool (kind t))):
  AE prog 193 [.d (AB g),.d (Ci l),.fn (.func k) [] []] [] (.d (.bool (LM g kind l))) []:=by
 refine AE.AI func193 (by kernel_rfl) rfl (by simp) fun wf _=>?_;have a1:l.length≤maxLen:=by have:=wf.2.1;simp only[WFV,WFD,Ci]at this;simpa using this.1
 rw[ntmps193];refine xW fun K hK=>?_;simp;apply hK;refine xS (xW fun K hK=>?_);simp;apply hK;refine Bw ?_;refine DC l.length (fun i tm S=>tm 1=.d (Ci l)∧tm 2=.fn (.func k) [] []∧tm 3=.ptr 0 1 0 0∧tm 9=.d (Ci l)∧tm 10=.d (.int .i64 l.length)∧tm 11=.d (.int .i64 i)∧S=[.row true 9 [.d (AB g)]]∧(∀j<i,AA8 g kind l j=true)) (i0:=0) (Nat.zero_le _) (by simp[AB]) ?_;rintro i tm S hi ⟨t1,t2,t3,t9,t10,t11,rfl,gg⟩;refine xW fun K hK=>?_;simp[t10,t11];apply hK;refine xC ?_;simp;refine⟨fun cx=>?_,fun hO=>?_⟩
 ·have iq:AA8 g kind l i=false→LM g kind l=false:=fun h=>by
   have:(List.range l.length).all (AA8 g kind l)=false:=by
    rw[List.all_eq_false];exact⟨i,by simpa using cx,by simp[h]⟩
   simp[LM,this]
  have mz:l.getD i 0=l[i]:=by simp[cx]
  have gz:AA8 g kind l i=(decide (0≤l[i])&&decide (l[i] <g.Ak.length)&&!(decide (0<i)&&decide (l[i]≤l.getD (i - 1) 0))&&(match g.Ak[(l[i]).toNat]? with|some t=>kind t|none=>false)):=by unfold AA8;rw[mz]
  generalize hx:l[i]=x at *;refine xK ?_;refine xB ?_;(repeat refine xS ?_);refine xV fun K hK=>?_;simp[t9,t11,cx,hx];refine hK _ _ ?_;(try simp only[xQ,reduceIte]);by_cases h0:x<0
  ·have pf:¬0≤x:=by omega
   refine Az fun K hK=>?_;(iterate 3 (refine B7 (by simp) ?_;simp[h0]));(repeat(refine Dp rfl ?_ ?_;(·simp);simp));(iterate 2 (refine B7 (by simp) ?_;simp));(repeat(refine Dp rfl ?_ ?_;(·simp);simp));(iterate 2 (refine B7 (by simp) ?_;simp));(repeat(refine Dp rfl ?_ ?_;(·simp);simp));refine xJ ?_;simp;refine Aj (hK _ _ ?_);refine AU ?_;simp;refine xW fun K hK=>?_;simp;apply hK;refine Ag ?_;(try simp only[xQ,reduceIte]);rw[iq (by rw[gz];simp[pf])];refine⟨_,AJ.AY 0 (by simp) (by simp) (by simp) (by simp),?_⟩;simp[Am,clean]
  ·have pf:0≤x:=by omega
   obtain⟨m,rfl⟩:∃m:Nat,x=m:=⟨x.toNat,by omega⟩;by_cases h1:m<g.Ak.length
   ·have vJ:=hk g.Ak[m];have qP:¬(g.Ak.length:Int)≤m:=by omega
    have iM:¬g.Ak.length≤m:=by omega
    cases i with
    |zero=>
     (repeat refine xS ?_);refine BX fun K hK=>?_;(iterate 13 (refine B7 (by simp[t3]) ?_;simp[h0,t3,qP,AB]));(repeat(refine Dp rfl ?_ ?_;(·simp);simp));(iterate 3 (refine B7 (by simp) ?_;simp));(iterate 6 (refine B7 (by simp[t3,h1,Aa]) ?_;simp[t2,t3,h1,Aa]));refine AS.Cj (vJ) rfl rfl (by simp[xN];try rfl) ?_;simp;refine xJ ?_;simp;refine Aj (hK _ _ ?_);(try simp only[xQ,reduceIte]);cases oM:kind g.Ak[m]with
     |false=>
      refine AU ?_;simp;refine xW fun K hK=>?_;simp;apply hK;refine Ag ?_;(try simp only[xQ,reduceIte]);rw[iq (by rw[gz];simp[h1,oM])];refine⟨_,AJ.AY 0 (by simp) (by simp) (by simp) (by simp),?_⟩;simp[Am,clean]
     |true=>
      refine AU ?_;simp;refine CC ?_;refine xV fun K hK=>?_;simp[t11];apply hK;refine⟨cx,_,_,AJ.refl,?_⟩;have jz:IntKind.i64.wrap 1=1:=by decide
      have um:AA8 g kind l 0=true:=by rw[gz];simp[h1,oM]
      simp[t1,t2,t3,t9,t10,jz,AB,um]
    |succ q=>
     have hq:q<l.length:=by omega
     have lB:l.getD q 0=l[q]:=by simp[hq]
     have qN:IntKind.i64.wrap ((q:Int)+1 - 1)=q:=by rw[show(q:Int)+1 - 1=q by omega,Go.IntKind.wrap_i64];unfold maxLen at a1;omega
     have oN:IntKind.i64.wrap (q:Int)=q:=by rw[Go.IntKind.wrap_i64];unfold maxLen at a1;omega
     have jm:IntKind.i64.wrap ((q:Int)+1+1)=(q:Int)+1+1:=by rw[Go.IntKind.wrap_i64];unfold maxLen at a1;omega
     have sR:(0:Int)<(q:Int)+1:=by omega
     simp only[Nat.add_sub_cancel,lB]at gz;by_cases hle:(m:Int)≤l[q]
     ·refine Az fun K hK=>?_;(iterate 23 (refine B7 (by simp[t3,hq]) ?_;simp[h0,t1,t3,qP,AB,hq,oN,sR,hle]));(repeat(refine Dp rfl ?_ ?_;(·simp);simp));refine xJ ?_;simp;refine Aj (hK _ _ ?_);refine AU ?_;simp;refine xW fun K hK=>?_;simp;apply hK;refine Ag ?_;(try simp only[xQ,reduceIte]);rw[iq (by rw[gz];simp[hle])];refine⟨_,AJ.AY 0 (by simp) (by simp) (by simp) (by simp),?_⟩;simp[Am,clean]
     ·(repeat refine xS ?_);refine BX fun K hK=>?_;(iterate 23 (refine B7 (by simp[t3,hq]) ?_;simp[h0,t1,t3,qP,AB,hq,oN,sR,hle]));(iterate 6 (refine B7 (by simp[t3,h1,Aa]) ?_;simp[t2,t3,h1,Aa]));refine AS.Cj (vJ) rfl rfl (by simp[xN];try rfl) ?_;simp;refine xJ ?_;simp;refine Aj (hK _ _ ?_);(try simp only[xQ,reduceIte]);cases oM:kind g.Ak[m]with
      |false=>
       refine AU ?_;simp;refine xW fun K hK=>?_;simp;apply hK;refine Ag ?_;(try simp only[xQ,reduceIte]);rw[iq (by rw[gz];simp[h1,oM])];refine⟨_,AJ.AY 0 (by simp) (by simp) (by simp) (by simp),?_⟩;simp[Am,clean]
      |true=>
       refine AU ?_;simp;refine CC ?_;refine xV fun K hK=>?_;simp[t11];apply hK;refine⟨cx,_,_,AJ.refl,?_⟩;simp[t1,t2,t3,t9,t10,jm,AB];intro j hj;by_cases e:j=q+1
       ·subst e;rw[gz];simp[h1,oM,hle]
       ·exact gg j (by omega)
   ·have jZ:g.Ak.length≤m:=by omega
    refine Az fun K hK=>?_;(iterate 10 (refine B7 (by simp[t3]) ?_;simp[h0,t3,jZ,AB]));(repeat(refine Dp rfl ?_ ?_;(·simp);simp));(iterate 2 (refine B7 (by simp) ?_;simp));(repeat(refine Dp rfl ?_ ?_;(·simp);simp));refine xJ ?_;simp;refine Aj (hK _ _ ?_);refine AU ?_;simp;refine xW fun K hK=>?_;simp;apply hK;refine Ag ?_;(try simp only[xQ,reduceIte]);rw[iq (by rw[gz];simp[h1])];refine⟨_,AJ.AY 0 (by simp) (by simp) (by simp) (by simp),?_⟩;simp[Am,clean]
 ·have iD:i=l.length:=by omega
  subst iD;have lk:(List.range l.length).all (AA8 g kind l)=true:=by
   rw[List.all_eq_true];intro j hj;exact gg j (by simpa using hj)
  refine Cu ?_;refine xW fun K hK=>?_;simp[t1];apply hK;refine Ag ?_;(try simp only[xQ,reduceIte]);refine⟨_,AJ.AY 0 (by simp) (by simp) (by simp) (by simp),?_⟩;simp[Am,clean,LM,lk]
def ABm(g:AF)(f:Filter):Bool:=
 decide (0≤f.parent)&&decide (0≤f.child)&&decide (0≤f.at_)&&(match g.AD[f.parent.toNat]?,g.AD[f.child.toNat]? with
  |some p,some c=>(match p.right[f.at_.toNat]? with|some s=>decide (s=⟨false,c.left⟩)|none=>false)
  |_,_=>false)
theorem QL(g:AF)(f:Filter):Pure prog 192 [AB g,AK f] (.bool (ABm g f)):=by
 refine Pure.AI func192 (by kernel_rfl) rfl (by simp) fun wf=>?_;rw[ntmps192];refine xW fun K hK=>?_;simp;apply hK;(repeat refine xS ?_);refine BX fun K hK=>?_;(repeat((refine B7 ?_ ?_);(focus(simp[AK,AB];try(first|omega|(simp +contextual[AK,AB];done)|grind);done));simp[AK,AB]));refine Aj (hK _ _ ?_);(try simp only[xQ,reduceIte]);(repeat refine xS ?_);refine AW.BD (t:=decide (f.parent<0)||decide ((g.AD.length:Int)≤f.parent)||decide (f.child<0)||decide ((g.AD.length:Int)≤f.child)) ?_ (fun hb=>?_) (fun hb=>?_)
 ·simp
 ·have gy:ABm g f=false:=by
   simp only[Bool.or_eq_true,decide_eq_true_eq]at hb;unfold ABm;rcases hb with((h|h)|h)|h
   ·simp[show ¬0≤f.parent by omega]
   ·by_cases h0:0≤f.parent
    ·rw[List.getElem?_eq_none (by omega)];simp
    ·simp[h0]
   ·simp[show ¬0≤f.child by omega]
   ·by_cases h0:0≤f.child
    ·rw[List.getElem?_eq_none (i:=f.child.toNat) (by omega)];cases g.AD[f.parent.toNat]?<;>simp
    ·simp[h0]
  refine xW fun K hK=>?_;simp;apply hK;refine Ag ⟨_,_,AJ.refl,?_⟩;(try simp);simp[gy]
 ·simp only[Bool.or_eq_false_iff,decide_eq_false_iff_not]at hb;obtain⟨⟨⟨p0,p1⟩,c0⟩,c1⟩:=hb;obtain⟨a,ha⟩:∃a:Nat,f.parent=a:=⟨f.parent.toNat,by omega⟩;obtain⟨c,hc⟩:∃c:Nat,f.child=c:=⟨f.child.toNat,by omega⟩;have jP:a<g.AD.length:=by omega
  have iW:c<g.AD.length:=by omega
  have kr:ABm g f=(decide (0≤f.at_)&&(match g.AD[a].right[f.at_.toNat]? with|some s=>decide (s=⟨false,g.AD[c].left⟩)|none=>false)):=by
   unfold ABm;simp[ha,hc,jP,iW]
  refine xK ?_;(repeat refine xS ?_);refine xV fun K hK=>?_;simp[ha,jP,AH];refine hK _ _ ?_;(try simp only[xQ,reduceIte]);generalize hr:g.AD[a].right=r at *;by_cases h0:0≤f.at_
  ·by_cases h1:f.at_<r.length
   ·obtain⟨b,kb⟩:∃b:Nat,f.at_=b:=⟨f.at_.toNat,by omega⟩;have jW:b<r.length:=by omega
    (repeat refine xS ?_);refine xE [0,2,4,6,8,10,12,14,16,18,20,22,24,26,28,30,32,34,36,38,40,42,44,46,48,50,52] (by kernel_rfl) fun K hK=>?_;simp;refine xA 0 ?_;simp[AH,kb,jW,hc,iW,AL];refine xM (hK _ _ ?_);(try simp only[xQ,reduceIte]);refine Ag ⟨_,_,AJ.refl,?_⟩;(try simp);rw[kr,kb];simp[jW];cases r[b];rw[Bool.eq_iff_iff];simp[AAT,deq]
   ·have hn:r[f.at_.toNat]?=none:=List.getElem?_eq_none (by omega);(repeat refine xS ?_);refine xE [0,2,4,6,8,10,12,14,16,18,20,22,24,26,28,30,32,34,36,38,40,42,44,46,48,50,52] (by kernel_rfl) fun K hK=>?_;simp;(iterate 11 (refine Ga (by simp) ?_;simp[h0,h1]));(repeat(refine Oi rfl rfl ?_ ?_;(·simp);simp));refine xA 0 ?_;simp;refine xM (hK _ _ ?_);(try simp only[xQ,reduceIte]);refine Ag ⟨_,_,AJ.refl,?_⟩;(try simp);rw[kr,hn];simp
  ·(repeat refine xS ?_);refine xE [0,2,4,6,8,10,12,14,16,18,20,22,24,26,28,30,32,34,36,38,40,42,44,46,48,50,52] (by kernel_rfl) fun K hK=>?_;simp;(iterate 4 (refine Ga (by simp) ?_;simp[h0]));(repeat(refine Oi rfl rfl ?_ ?_;(·simp);simp));(iterate 2 (refine Ga (by simp) ?_;simp));(repeat(refine Oi rfl rfl ?_ ?_;(·simp);simp));refine xA 0 ?_;simp;refine xM (hK _ _ ?_);(try simp only[xQ,reduceIte]);refine Ag ⟨_,_,AJ.refl,?_⟩;(try simp);rw[kr];simp[h0]
end Go.Koi
