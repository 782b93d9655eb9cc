/-
  Part 25 of the proof that the law ChangeRenames of the package koinelaw31 returns true for every input.
-/
import Derived.Test.YtknmpedpidhhbaaGreatDoorK23
set_option maxHeartbeats 64000000
set_option maxRecDepth 100000
namespace Go.Koi
open Go.Proofs Tryz DT
theorem Lf{u v:List Bool}{i at_:Int}(h:GC u i at_=some v):0≤i∧i<at_:=by
 unfold GC at h;split at h
 ·cases h
 ·rename_i hn;omega
theorem PB{p:List BM}{i:Nat}(h:(ABB p (i+1)).isSome=true):∃u v x,ABB p i=some u∧p[i]?=some x∧EK u i x=some v:=by
 obtain⟨v,hv⟩:=Option.isSome_iff_exists.1 h;obtain⟨u,h1,h2⟩:=Option.bind_eq_some_iff.1 hv;obtain⟨x,h3,h4⟩:=Option.bind_eq_some_iff.1 h2;exact⟨u,v,x,h1,h3,h4⟩
theorem Oy{p:List BM}{n:Nat}(h:(ABB p n).isSome=true):∀i≤n,(ABB p i).isSome=true:=fun i hi=>by
 cases hs:ABB p i with
 |some u=>rfl
 |none=>
  have:=Hp hs (n - i);rw[Nat.add_sub_cancel' hi]at this;rw[this]at h;cases h
theorem M7{p:List BM}(h:AAr p=0):T1 p∧p≠[]:=by
 unfold AAr at h;split at h
 ·cases h
 ·rename_i hl;split at h
  ·cases h
  ·rename_i u hu;split at h
   ·cases h
   ·rename_i hno;refine⟨⟨by omega,fun i x hx=>?_⟩,fun e=>hno (.inl e)⟩;have hi:i<p.length:=AZ hx;obtain⟨u0,v,x',h1,h2,h3⟩:=PB (Oy (n:=p.length) (by rw[hu];rfl) (i+1) (by omega));rw[hx]at h2;cases h2;unfold EK at h3;split at h3
    ·cases h3
    ·constructor
     ·intro hk;have ha:¬Bu x.kind<1:=by rcases hk with e|e|e<;>rw[e]<;>decide
      rw[if_neg ha]at h3;obtain⟨v1,g1,_⟩:=Option.bind_eq_some_iff.1 h3;exact Lf g1
     ·intro hk;have ha:¬Bu x.kind<1:=by rcases hk with e|e<;>rw[e]<;>decide
      have hb:¬Bu x.kind<2:=by rcases hk with e|e<;>rw[e]<;>decide
      rw[if_neg ha]at h3;obtain⟨v1,g1,g2⟩:=Option.bind_eq_some_iff.1 h3;rw[if_neg hb]at g2;exact Lf g2
def F4(p:List BM)(s:ByteArray):Bool:=
 if AAr p=0 then ACm p (HF p) s s.size 0 (HF p).f (decide (s.size=0)&&(HF p).e)else false
theorem Ol(p:List BM)(s:ByteArray):Pure prog 175 [Ax p,Ba s] (.bool (F4 p s)):=by
 refine Pure.AI func175 (by kernel_rfl) rfl (by simp) fun wf=>?_;rw[ntmps175];refine xW fun K hK=>?_;simp;apply hK;refine xS (Az fun K hK=>?_);refine xJ ?_;simp;refine Bp (Ja p) rfl (by simp) ?_;simp;refine xJ ?_;simp;refine Aj (hK _ _ ?_);(try simp only[xQ,reduceIte]);by_cases hc:AAr p=0
 ·have hse:decide (s.size=0)=decide (s=⟨#[]⟩):=by simp only[Hb]
  have hm:F4 p s=ACm p (HF p) s s.size 0 (HF p).f (decide (s=⟨#[]⟩)&&(HF p).e):=by rw[←hse];unfold F4;rw[if_pos hc]
  rw[hm];obtain⟨hp,h0⟩:=M7 hc;have hg:Ib p.length (HF p):=Cb hp.1 _ _ _ (J9 _);have hcp:=Ok hp h0;have hrn:=ZR hp.1 hg s (decide (s=⟨#[]⟩)&&(HF p).e);generalize HF p=r at *;obtain⟨rf,rl,re,rfol⟩:=r;obtain⟨r1,r2,r3⟩:=hg;simp only[]at r1 r2 r3;obtain⟨a0,a1',a2,a3,a4,a5,a6,a7,rfl⟩:=r1.1.Jl;obtain⟨b0,b1,b2,b3,b4,b5,b6,b7,rfl⟩:=r2.1.Jl;refine AU ?_;simp[hc];refine xK ?_;refine Az fun K hK=>?_;refine xJ ?_;simp;refine xF (hcp) [] rfl ?_;simp[-AAc,-AAE,Cd,IM];refine xJ ?_;simp;refine Aj (hK _ _ ?_);refine xW fun K hK=>?_;simp[Dj,mC,EI];apply hK;refine Az fun K hK=>?_;refine xJ ?_;simp;unfold Nf IM at hrn;refine xF (hrn) [1,2,3,0,4] rfl ?_;simp[-AAc,-AAE,Cd,Ay,Dj,mC,EI];refine xJ ?_;simp;refine Aj (hK _ _ ?_);refine xW fun K hK=>?_;simp;apply hK;refine Ag ⟨_,_,AJ.refl,?_⟩;try simp
 ·have hm:F4 p s=false:=by simp[F4,hc]
  rw[hm];refine AU ?_;simp[hc];refine xW fun K hK=>?_;simp;apply hK;refine Ag ⟨_,_,AJ.refl,?_⟩;try simp
open Go.Proofs Tryz DT
def II(t:Token):Bool:=
 if t.literal=⟨#[]⟩then(if AAr t.pattern=0 then(if t.cls=0 then !decide (t.Cr=⟨#[]⟩)&&F4 t.pattern t.Cr else decide (t.Cr=⟨#[]⟩))else false)
 else decide (t.Cr=⟨#[]⟩)&&decide (t.pattern=[])
noncomputable def F6(n:Nat)(t:Token):Bool:=decide (0≤t.cls)&&decide (t.cls≤2)&&DS t.cond n&&II t
noncomputable def ES(g:AF):Bool:=AAS [⟨#[]⟩] (g.Ak.map (·.name))&&g.Ak.all (F6 g.conds.length)
theorem K5(g:AF):Pure prog 155 [AB g] (AG (if ES g then 0 else 51)):=by
 refine Pure.AI func155 (by kernel_rfl) rfl (by simp) fun wf=>?_;have a1:g.Ak.length≤maxLen:=by simp[AAY,WFD,AB]at wf;exact wf.2.2.2.1.1
 rw[ntmps155];refine xW fun K hK=>?_;simp;apply hK;refine Az fun K hK=>?_;refine xJ ?_;simp;refine xF (H8) [] rfl ?_;simp;refine xJ ?_;simp;refine Aj (hK _ _ ?_);refine xS (xW fun K hK=>?_);simp[AB];apply hK;refine Bw ?_;refine DC g.Ak.length (fun i tm S=>tm 1=.ptr 0 1 0 0∧tm 3=.fn (.func 213) [] [.ptr 2 1 0 0]∧tm 9=.d (Bs g.Ak)∧tm 10=.d (.int .i64 g.Ak.length)∧tm 11=.d (.int .i64 i)∧(∀k (h:k<i) (h':k<g.Ak.length),F6 g.conds.length g.Ak[k]=true∧FV (K8 (g.Ak.map (·.name)) k) g.Ak[k].name=false)∧S=[.row true 9 [.d (AB g)],Dn (K8 (g.Ak.map (·.name)) i),.row true 1 [.map 1]]) (i0:=0) (Nat.zero_le _) (by simp[QW,Dn,AB,Iq]) ?_;rintro i tm S hi ⟨t1,t3,t9,t10,t11,hall,rfl⟩;refine xW fun K hK=>?_;simp[t10,t11];apply hK;refine xC ?_;simp;refine⟨fun hlt=>?_,fun hge=>?_⟩
 ·have hlm:i<(g.Ak.map (·.name)).length:=by simpa using hlt
  have hn1:=HN (K8 (g.Ak.map (·.name)) i) g.Ak[i].name;have hsu:=H7 hlm;simp only[List.getElem_map]at hsu;have hbad:=fun h=>E3 (L:=[⟨#[]⟩]) (l:=g.Ak.map (·.name)) hlm (fun k hk=>by have:=(hall k hk (by omega)).2;simp only[List.getElem_map];exact this) (by simp only[List.getElem_map];exact h);have hbad2:F6 g.conds.length g.Ak[i]=false→ES g=false:=fun h=>by
   have:g.Ak.all (F6 g.conds.length)=false:=by
    rw[List.all_eq_false];exact⟨_,List.getElem_mem hlt,by simp[h]⟩
   simp[ES,this]
  generalize hh:FV (K8 (g.Ak.map (·.name)) i) g.Ak[i].name=hs at *;generalize hx:g.Ak[i]=x at *;unfold Dn;refine xK ?_;refine xB ?_;refine xW fun K hK=>?_;simp[t9,t11,hlt,hx];apply hK;refine xS (Az fun K hK=>?_);refine xJ ?_;simp[t3];refine xF (hn1) [1,2] rfl ?_;simp[QW,Dn];(repeat((refine B7 ?_ ?_);(focus(simp[t1];try(first|omega|(simp +contextual[Aa,t1,AB];done)|grind);done));simp[t1,AB]));refine AS.CE (ds:=[AA x.cond,AG g.conds.length]) rfl rfl (by simp;rfl) (fun _=>IJ x.cond g.conds.length) (by simp[xN]) ?_;simp;(repeat((refine B7 ?_ ?_);(focus(simp;try(first|omega|(simp +contextual;done)|grind);done));simp));refine Aj (hK _ _ ?_);(try simp only[xQ,reduceIte]);(repeat refine xS ?_);refine AW.BD (t:=hs||decide (x.cls<0)||decide (2<x.cls)||!DS x.cond g.conds.length) ?_ (fun hb=>?_) (fun hb=>?_)
  ·simp
  ·refine xW fun K hK=>?_;simp;apply hK;refine Ag ⟨_,_,AJ.refl,?_⟩;(try simp);cases hs with
   |true=>have hb2:=hbad hh;simp[ES,hb2]
   |false=>
    have:F6 g.conds.length x=false:=by simp[F6];simp at hb;grind
    simp[hbad2 this]
  ·simp only[Bool.or_eq_false_iff,Bool.not_eq_false',decide_eq_false_iff_not]at hb;obtain⟨⟨⟨rfl,hc1⟩,hc2⟩,hft⟩:=hb;simp;refine xK ?_;refine xW fun K hK=>?_;simp;apply hK;refine AW.El (R:=fun tm S=>tm 1=.ptr 0 1 0 0∧tm 3=.fn (.func 213) [] [.ptr 2 1 0 0]∧tm 9=.d (Bs g.Ak)∧tm 10=.d (.int .i64 g.Ak.length)∧tm 11=.d (.int .i64 i)∧tm 6=.d (.bool (II x))∧S=[.row true 9 [.d (AB g)],Dn (K8 (g.Ak.map (·.name)) (i+1)),.row true 1 [.map 1],.row true 7 [.d (Aa x)]]) ?_ ?_
   ·refine Bw ?_;(repeat refine xS ?_);refine xV fun K hK=>?_;simp;refine hK _ _ ?_;(try simp only[xQ,reduceIte]);by_cases hl:x.literal=⟨#[]⟩
    ·refine AU ?_;simp[hl];(repeat refine xS ?_);refine BX fun K hK=>?_;refine xJ ?_;simp;refine Bp (Ja x.pattern) rfl (by simp) ?_;simp;refine xJ ?_;simp;refine Aj (hK _ _ ?_);(try simp only[xQ,reduceIte]);by_cases hp:AAr x.pattern=0
     ·refine AU ?_;simp[hp];(repeat refine xS ?_);refine xV fun K hK=>?_;simp;refine hK _ _ ?_;(try simp only[xQ,reduceIte]);by_cases hc:x.cls=0
      ·refine AU ?_;simp[hc];refine BX fun K hK=>?_;refine xJ ?_;simp;refine AS.CE (g:=!decide (x.Cr=⟨#[]⟩)) (ds:=[Ax x.pattern,Ba x.Cr]) rfl rfl (by simp<;>rfl) (fun _=>Ol x.pattern x.Cr) (by simp) ?_;simp;(repeat((refine B7 ?_ ?_);(focus(simp;try(first|omega|(simp +contextual;done)|grind);done));simp));refine Aj (hK _ _ ?_);simp[II,hl,hp,hc,t1,t3,t9,t10,t11,hsu,Dn,Aa,AB]
      ·refine AU ?_;simp[hc];refine CC ?_;simp[II,hl,hp,hc,t1,t3,t9,t10,t11,hsu,Dn,Aa,AB]
     ·refine AU ?_;simp[hp];refine xV fun K hK=>?_;simp;apply hK;simp[II,hl,hp,t1,t3,t9,t10,t11,hsu,Dn,Aa,AB]
    ·refine AU ?_;simp[hl];refine xV fun K hK=>?_;simp;apply hK;have hpl:((x.pattern.length:Int)==0)=decide (x.pattern=[]):=by rw[Bool.eq_iff_iff];simp
     simp[II,hl,hpl,t1,t3,t9,t10,t11,hsu,Dn,Aa,AB]
   ·rintro tm S ⟨t1,t3,t9,t10,t11,t6,rfl⟩;unfold Dn;(repeat refine xS ?_);refine xV fun K hK=>?_;simp[t6];refine hK _ _ ?_;(try simp only[xQ,reduceIte]);cases hfi:II x with
    |false=>
     refine AU ?_;simp;refine xW fun K hK=>?_;simp;apply hK;refine Ag ⟨_,_,AJ.refl,?_⟩;(try simp);have:F6 g.conds.length x=false:=by simp[F6,hfi]
     simp[hbad2 this]
    |true=>
     refine AU ?_;simp;refine CC ?_;refine xV fun K hK=>?_;simp[t11];apply hK;refine⟨hlt,_,_,AJ.drop 3 (by simp) (by simp) (by simp),?_⟩;simp[clean,t1,t3,t9,t10,AQ hlt a1];intro k hk hk';by_cases e:k=i
     ·subst e;rw[hx];exact⟨by simp[F6,hfi,hft];omega,hh⟩
     ·exact hall k (by omega) hk'
 ·have hil:i=g.Ak.length:=by omega
  subst hil;have hdis:=EZ (L:=[⟨#[]⟩]) (l:=g.Ak.map (·.name)) fun k hk=>by have:=(hall k (by simpa using hk) (by simpa using hk)).2;simp only[List.getElem_map];exact this
  have hall':g.Ak.all (F6 g.conds.length)=true:=by
   rw[List.all_eq_true];intro x hx;obtain⟨k,hk,rfl⟩:=List.mem_iff_getElem.1 hx;exact(hall k hk hk).1
  unfold Dn;refine Cu ?_;refine xW fun K hK=>?_;simp;apply hK;refine Ag ⟨_,_,AJ.refl,?_⟩;(try simp);simp[ES,hdis,hall']
open Go.Proofs Tryz DT
def ABC(g:AF)(s:Symbol):Bool:=
 if s.token then decide (0≤s.index)&&(match g.Ak[s.index.toNat]? with|some t=>decide (t.cls=0)|none=>false)
 else decide (0≤s.index)&&decide (s.index<g.BC.length)
theorem Se(g:AF)(s:Symbol):Pure prog 187 [AB g,AL s] (.bool (ABC g s)):=by
 refine Pure.AI func187 (by kernel_rfl) rfl (by simp) fun wf=>?_;rw[ntmps187];refine xW fun K hK=>?_;simp;apply hK;refine xS (xW fun K hK=>?_);simp[AL];apply hK;cases ht:s.token with
 |false=>
  refine AU ?_;simp;(repeat refine xS ?_);refine BX fun K hK=>?_;(repeat((refine B7 ?_ ?_);(focus(simp[AB];try(first|omega|(simp +contextual[AL,AB];done)|grind);done));simp[AB]));refine Aj (hK _ _ ?_);(try simp only[xQ,reduceIte]);refine Ag ⟨_,_,AJ.refl,?_⟩;(try simp);simp[ABC,ht]
 |true=>
  refine AU ?_;simp;refine CC ?_;by_cases h0:0≤s.index
  ·by_cases h1:s.index<g.Ak.length
   ·have h2:s.index.toNat<g.Ak.length:=by omega
    refine xW fun K hK=>?_;simp[AB,h0,h1,h2,Aa];apply hK;refine Ag ⟨_,_,AJ.refl,?_⟩;(try simp);simp[ABC,ht,h0,h2];rw[Bool.eq_iff_iff];simp
   ·have h2:¬s.index.toNat<g.Ak.length:=by omega
    have h3:g.Ak[s.index.toNat]?=none:=List.getElem?_eq_none (by omega);(repeat refine xS ?_);refine BX fun K hK=>?_;(iterate 12 (refine B7 (by simp[AB]) ?_;simp[AB,h0,h1]));(repeat(refine Dp rfl ?_ ?_;(·simp);simp));refine xJ ?_;simp;refine Aj (hK _ _ ?_);(try simp only[xQ,reduceIte]);refine Ag ⟨_,_,AJ.refl,?_⟩;(try simp);simp[ABC,ht,h3]
  ·(repeat refine xS ?_);refine BX fun K hK=>?_;(iterate 4 (refine B7 (by simp[AB]) ?_;simp[AB,h0]));(repeat(refine Dp rfl ?_ ?_;(·simp);simp));(iterate 2 (refine B7 (by simp) ?_;simp));(repeat(refine Dp rfl ?_ ?_;(·simp);simp));refine xJ ?_;simp;refine Aj (hK _ _ ?_);(try simp only[xQ,reduceIte]);refine Ag ⟨_,_,AJ.refl,?_⟩;(try simp);simp[ABC,ht,h0]
theorem NO(g:AF)(s:Symbol):AE prog 186 [.d (AL s),.ptr 0 1 0 0] [.row true 9 [.d (AB g)]] (.d (.bool (!ABC g s))) [.row true 9 [.d (AB g)]]:=by
 refine AE.AI func186 (by kernel_rfl) rfl (by simp) fun wf _=>?_;rw[ntmps186];refine xW fun K hK=>?_;simp;apply hK;(repeat refine xS ?_);refine BX fun K hK=>?_;refine xJ ?_;simp[AL,AB];refine Bp (Se g s) rfl (by simp[AB,AL]) ?_;simp;refine xJ ?_;simp;refine Aj (hK _ _ ?_);(try simp only[xQ,reduceIte]);refine Ag ?_;(try simp only[xQ,reduceIte]);refine⟨_,AJ.AY 1 (by simp[AB]) (by simp) (by simp) (by simp),?_⟩;simp[Am,clean]
def Mc(p:AT)(i:Int):Bool:=decide (0≤i)&&decide (i<p.right.length)
theorem Nv(p:AT)(i:Int):AE prog 219 [.d (AG i),.ptr 0 1 0 0] [.row true 13 [.d (AH p)]] (.d (.bool (Mc p i))) [.row true 13 [.d (AH p)]]:=by
 refine AE.AI func219 (by kernel_rfl) rfl (by simp) fun wf _=>?_;rw[ntmps219];refine xW fun K hK=>?_;simp;apply hK;(repeat refine xS ?_);refine BX fun K hK=>?_;(repeat((refine B7 ?_ ?_);(focus(simp;try(first|omega|(simp +contextual[AH];done)|grind);done));simp[AH]));refine Aj (hK _ _ ?_);(try simp only[xQ,reduceIte]);refine Ag ?_;(try simp only[xQ,reduceIte]);refine⟨_,AJ.JK (by simp[AH]),?_⟩;simp[Am,Mc]
def AAm(p:AT)(k v lo hi:Int):Bool:=
 if k=0 then decide (v=0)
 else decide (0<k)&&decide (k≤p.right.length)&&(match p.right[(k - 1).toNat]? with|some s=>s.token|none=>false)&&decide (lo≤v)&&decide (v≤hi)
theorem NP(p:AT)(k v lo hi:Int):AE prog 220 [.d (AG k),.d (AG v),.d (AG lo),.d (AG hi),.ptr 0 1 0 0] [.row true 13 [.d (AH p)]] (.d (.bool (AAm p k v lo hi))) [.row true 13 [.d (AH p)]]:=by
 refine AE.AI func220 (by kernel_rfl) rfl (by simp) fun wf _=>?_;rw[ntmps220];refine xW fun K hK=>?_;simp;apply hK;refine xS (xW fun K hK=>?_);simp;apply hK;by_cases hk:k=0
 ·refine AU ?_;simp[hk];refine xW fun K hK=>?_;simp;apply hK;refine Ag ?_;(try simp only[xQ,reduceIte]);refine⟨_,AJ.JK (by simp),?_⟩;simp[Am,AAm];left;rw[Bool.eq_iff_iff];simp
 ·refine AU ?_;simp[hk];refine CC ?_;by_cases h0:0<k
  ·by_cases h1:k≤p.right.length
   ·obtain⟨m,rfl⟩:∃m:Nat,k=m+1:=⟨(k - 1).toNat,by omega⟩;have h2:m<p.right.length:=by omega
    have h4:IntKind.i64.wrap (m:Int)=m:=by
     have:=wf.1;simp[WFV,WFD,rng]at this;rw[Go.IntKind.wrap_i64];omega
    have h4':IntKind.i64.wrap ((m:Int)+1 - 1)=m:=by rw[show(m:Int)+1 - 1=m by omega];exact h4
    have h1':(m:Int)+1≤p.right.length:=h1;have h0':(0:Int)<(m:Int)+1:=h0;(repeat refine xS ?_);refine BX fun K hK=>?_;(repeat((refine B7 ?_ ?_);(focus(simp[h2,AL];try(first|omega|(simp +contextual[AH,h0',h1',h2,h4,h4',AL];done)|grind);done));simp[AH,h0',h1',h2,h4,AL]));refine Aj (hK _ _ ?_);(try simp only[xQ,reduceIte]);refine Ag ?_;(try simp only[xQ,reduceIte]);refine⟨_,AJ.JK (by simp[AH]),?_⟩;simp[Am,AAm,hk,h0',h1',h2]
   ·(repeat refine xS ?_);refine BX fun K hK=>?_;(iterate 10 (refine B7 (by simp) ?_;simp[AH,h0,h1]));(repeat(refine Dp rfl ?_ ?_;(·simp);simp));(iterate 2 (refine B7 (by simp) ?_;simp));(repeat(refine Dp rfl ?_ ?_;(·simp);simp));(iterate 2 (refine B7 (by simp) ?_;simp));(repeat(refine Dp rfl ?_ ?_;(·simp);simp));refine xJ ?_;simp;refine Aj (hK _ _ ?_);(try simp only[xQ,reduceIte]);refine Ag ?_;(try simp only[xQ,reduceIte]);refine⟨_,AJ.JK (by simp[AH]),?_⟩;simp[Am,AAm,hk,h0,h1]
  ·(repeat refine xS ?_);refine BX fun K hK=>?_;(iterate 3 (refine B7 (by simp) ?_;simp[AH,h0]));(repeat(refine Dp rfl ?_ ?_;(·simp);simp));(iterate 2 (refine B7 (by simp) ?_;simp));(repeat(refine Dp rfl ?_ ?_;(·simp);simp));(iterate 2 (refine B7 (by simp) ?_;simp));(repeat(refine Dp rfl ?_ ?_;(·simp);simp));(iterate 2 (refine B7 (by simp) ?_;simp));(repeat(refine Dp rfl ?_ ?_;(·simp);simp));refine xJ ?_;simp;refine Aj (hK _ _ ?_);(try simp only[xQ,reduceIte]);refine Ag ?_;(try simp only[xQ,reduceIte]);refine⟨_,AJ.JK (by simp[AH]),?_⟩;simp[Am,AAm,hk,h0]
def Kl(p:AT)(x:D2):Bool:=decide (1≤x.kind)&&decide (x.kind≤4)&&Mc p x.a&&Mc p x.b&&!(decide (x.kind=1)&&!decide (x.b=0))
def ABQ(p:AT):Bool:=
 p.layout.all (Kl p)&&AAm p p.scope.declares p.scope.kind 1 7&&AAm p p.scope.EA p.scope.allowed 0 255&&
 (!p.bracket||(decide (p.right.length=3)&&decide (p.Di=0)&&decide (p.layout=[])&&decide (p.scope=⟨false,0,0,0,0⟩)&&
  (match p.right with|[a,c,d]=>a.token&&decide (c=⟨false,p.left⟩)&&d.token|_=>false)))
theorem Ot(p:AT):Pure prog 189 [AH p] (.bool (ABQ p)):=by
 refine Pure.AI func189 (by kernel_rfl) rfl (by simp) fun wf=>?_;have a1:p.layout.length≤maxLen:=by simp[AAY,WFD,AH]at wf;omega
 rw[ntmps189];refine xW fun K hK=>?_;simp;apply hK;refine xS (xW fun K hK=>?_);simp[AH];apply hK;refine Bw ?_;refine DC p.layout.length (fun i tm S=>tm 1=.ptr 0 1 0 0∧tm 9=.d (Bf p.layout)∧tm 10=.d (.int .i64 p.layout.length)∧tm 11=.d (.int .i64 i)∧(∀k (h:k<i) (h':k<p.layout.length),Kl p p.layout[k]=true)∧S=[.row true 13 [.d (AH p)]]) (i0:=0) (Nat.zero_le _) (by simp[AH]) ?_;rintro i tm S hi ⟨t1,t9,t10,t11,hall,rfl⟩;refine xW fun K hK=>?_;simp[t10,t11];apply hK;refine xC ?_;simp;refine⟨fun hlt=>?_,fun hge=>?_⟩
 ·have hbad:Kl p p.layout[i]=false→ABQ p=false:=fun h=>by
   have:p.layout.all (Kl p)=false:=by
    rw[List.all_eq_false];exact⟨_,List.getElem_mem hlt,by simp[h]⟩
   simp[ABQ,this]
  generalize hx:p.layout[i]=x at *;have hca:=Nv p x.a;have hcb:=Nv p x.b;refine xK ?_;refine xB ?_;refine xW fun K hK=>?_;simp[t9,t11,hlt,hx];apply hK;refine xW fun K hK=>?_;simp[t1];apply hK;refine Az fun K hK=>?_;(repeat((refine B7 ?_ ?_);(focus(simp;try(first|omega|(simp +contextual[A0];done)|grind);done));simp));refine AS.MS (hca) [0] rfl rfl (by simp;rfl) (by simp) (by simp +contextual;try rfl) (by simp;try rfl) ?_;simp;(repeat((refine B7 ?_ ?_);(focus(simp;try(first|omega|(simp +contextual;done)|grind);done));simp));refine AS.MS (hcb) [0] rfl rfl (by simp;rfl) (by simp) (by simp +contextual;try rfl) (by simp;try rfl) ?_;simp;(repeat((refine B7 ?_ ?_);(focus(simp;try(first|omega|(simp +contextual;done)|grind);done));simp));refine Aj (hK _ _ ?_);(repeat refine xS ?_);refine AW.BD (t:=!Kl p x) ?_ (fun hb=>?_) (fun hb=>?_)
  ·simp[Kl];rw[Bool.eq_iff_iff];simp
  ·refine xW fun K hK=>?_;simp;apply hK;refine Ag ⟨_,_,AJ.refl,?_⟩;(try simp);simp at hb;simp[hbad hb]
  ·simp at hb;refine CC ?_;refine xV fun K hK=>?_;simp[t11];apply hK;refine⟨hlt,_,_,AJ.drop 1 (by simp) (by simp) (by simp),?_⟩;simp[clean,t1,t9,t10,AQ hlt a1];intro k hk hk';by_cases e:k=i
   ·subst e;rw[hx];exact hb
   ·exact hall k (by omega) hk'
 ·have hil:i=p.layout.length:=by omega
  subst hil;have hlay:p.layout.all (Kl p)=true:=by
   rw[List.all_eq_true];intro x hx;obtain⟨k,hk,rfl⟩:=List.mem_iff_getElem.1 hx;exact hall k hk hk
  have he1:=NP p p.scope.declares p.scope.kind 1 7;have he2:=NP p p.scope.EA p.scope.allowed 0 255;refine Cu ?_;refine xW fun K hK=>?_;simp[t1];apply hK;refine xW fun K hK=>?_;simp[t1,AH];apply hK;refine xS (Az fun K hK=>?_);refine xJ ?_;simp;refine xF (he1) [0] rfl ?_;simp[AH];(repeat((refine B7 ?_ ?_);(focus(simp;try(first|omega|(simp +contextual;done)|grind);done));simp));refine AS.MS (he2) [0] rfl rfl (by simp;rfl) (by simp) (by simp +contextual[];try rfl) (by simp[AH];try rfl) ?_;simp;(repeat((refine B7 ?_ ?_);(focus(simp;try(first|omega|(simp +contextual;done)|grind);done));simp));refine Aj (hK _ _ ?_);(try simp only[xQ,reduceIte]);(repeat refine xS ?_);refine AW.BD (t:=!(AAm p p.scope.declares p.scope.kind 1 7&&AAm p p.scope.EA p.scope.allowed 0 255)) ?_ (fun hb=>?_) (fun hb=>?_)
  ·simp
  ·refine xW fun K hK=>?_;simp;apply hK;refine Ag ⟨_,_,AJ.refl,?_⟩;(try simp);have hb':(AAm p p.scope.declares p.scope.kind 1 7&&AAm p p.scope.EA p.scope.allowed 0 255)=false:=by simpa only[Bool.not_eq_true']using hb
   have:ABQ p=false:=by
    unfold ABQ;rw[hlay,Bool.true_and,hb',Bool.false_and]
   simp[this]
  ·have hb':(AAm p p.scope.declares p.scope.kind 1 7&&AAm p p.scope.EA p.scope.allowed 0 255)=true:=by simpa only[Bool.not_eq_false']using hb
   refine xK ?_;refine xS (xW fun K hK=>?_);simp[t1];apply hK;have hdk:ABQ p=(!p.bracket||(decide (p.right.length=3)&&decide (p.Di=0)&&decide (p.layout=[])&&decide (p.scope=⟨false,0,0,0,0⟩)&&
     (match p.right with|[a,c,d]=>a.token&&decide (c=⟨false,p.left⟩)&&d.token|_=>false))):=by
    unfold ABQ;rw[hlay,Bool.true_and,hb',Bool.true_and]
   cases hbr:p.bracket with
   |false=>
    refine AU ?_;simp;refine xW fun K hK=>?_;simp;apply hK;refine Ag ⟨_,_,AJ.refl,?_⟩;(try simp);simp[hdk,hbr]
   |true=>
    rw[hbr]at hdk;simp only[Bool.not_true,Bool.false_or]at hdk;refine AU ?_;simp;refine xK ?_;refine xS (Az fun K hK=>?_);(repeat((refine B7 ?_ ?_);(focus(simp[t1];try(first|omega|(simp +contextual[t1,AH];done)|grind);done));simp[t1]));refine Aj (hK _ _ ?_);(try simp only[xQ,reduceIte]);have hsc:AAk [D.bool p.scope.opens,D.int .i64 p.scope.declares,D.int .i64 p.scope.kind,D.int .i64 p.scope.EA,D.int .i64 p.scope.allowed] [D.bool false,D.int .i64 0,D.int .i64 0,D.int .i64 0,D.int .i64 0]=decide (p.scope=⟨false,0,0,0,0⟩):=by
     cases p.scope;rw[Bool.eq_iff_iff];simp[AAk,deq]
    (repeat refine xS ?_);refine AW.BD (t:=!(decide (p.right.length=3)&&decide (p.Di=0)&&decide (p.layout=[])&&decide (p.scope=⟨false,0,0,0,0⟩))) ?_ (fun hb=>?_) (fun hb=>?_)
    ·simp[hsc];rw[Bool.eq_iff_iff];simp;have:(0<p.layout.length)↔¬p.layout=[]:=by cases p.layout<;>simp
     rw[this];have:((p.right.length:Int)=3)↔p.right.length=3:=by omega
     rw[this]
    ·refine xW fun K hK=>?_;simp;apply hK;refine Ag ⟨_,_,AJ.refl,?_⟩;(try simp);have hb2:(decide (p.right.length=3)&&decide (p.Di=0)&&decide (p.layout=[])&&decide (p.scope=⟨false,0,0,0,0⟩))=false:=by simpa only[Bool.not_eq_true']using hb
     rw[hdk,hb2,Bool.false_and]
    ·have hb2:(decide (p.right.length=3)&&decide (p.Di=0)&&decide (p.layout=[])&&decide (p.scope=⟨false,0,0,0,0⟩))=true:=by simpa only[Bool.not_eq_false']using hb
     rw[hb2,Bool.true_and]at hdk;simp only[Bool.and_eq_true,decide_eq_true_eq]at hb2;obtain⟨⟨⟨h3,_⟩,_⟩,_⟩:=hb2;rcases hr:p.right with _|⟨a,_|⟨c,_|⟨d,_|⟨e,l⟩⟩⟩⟩<;>rw[hr]at h3<;>simp at h3;rw[hr]at hdk;simp only[]at hdk;refine xK ?_;(repeat refine xS ?_);refine xE [0,2,4,6,8,10,12,14,16,18,20,22,24,26,28,30,32,34,36,38,40,42,44] (by kernel_rfl) fun K hK=>?_;simp;refine xA 0 ?_;simp[t1,AL];refine xM (hK _ _ ?_);(try simp only[xQ,reduceIte]);refine Ag ⟨_,_,AJ.refl,?_⟩;(try simp);rw[hdk];cases c;rw[Bool.eq_iff_iff];simp[AAk,deq]
noncomputable def Mz(g:AF)(p:AT):Bool:=DS p.cond g.conds.length&&decide (-1≤p.Di)&&decide (p.Di≤1)&&ABQ p
def LX(g:AF)(p:AT):Bool:=ABC g ⟨false,p.left⟩&&p.right.all (ABC g)
noncomputable def AAg(g:AF):List ByteArray→List AT→Int
 |_,[]=>0
 |L,p::l=>if LX g p=false then 50 else if FV L p.name=true∨Mz g p=false then 52 else AAg g (L++[p.name]) l
theorem Gm{g:AF}:∀{l:List AT} {L:List ByteArray},AAg g L l=0→∀p∈l,LX g p=true∧Mz g p=true
 |[],_,_=>fun p hp=>by simp at hp
 |p::l,L,h=>by
  unfold AAg at h;split at h
  ·cases h
  ·rename_i h1;split at h
   ·cases h
   ·rename_i h2;intro q hq;rcases List.mem_cons.1 hq with rfl|hq
    ·exact⟨by simpa using h1,by simp at h2;exact h2.2⟩
    ·exact Gm h q hq
open Go.Proofs Tryz DT
theorem LD(g:AF):Pure prog 157 [AB g] (AG (AAg g [⟨#[]⟩] g.AD)):=by
 refine Pure.AI func157 (by kernel_rfl) rfl (by simp) fun wf=>?_;have a1:g.AD.length≤maxLen:=by simp[AAY,WFD,AB]at wf;omega
 generalize hfin:AAg g [⟨#[]⟩] g.AD=fin;rw[ntmps157];refine xW fun K hK=>?_;simp;apply hK;refine Az fun K hK=>?_;refine xJ ?_;simp;refine xF (H8) [] rfl ?_;simp;refine xJ ?_;simp;refine Aj (hK _ _ ?_);refine xS (xW fun K hK=>?_);simp[AB];apply hK;refine Bw ?_;refine DC g.AD.length (fun i tm S=>tm 1=.ptr 0 1 0 0∧tm 3=.fn (.func 213) [] [.ptr 2 1 0 0]∧tm 9=.d (Bb g.AD)∧tm 10=.d (.int .i64 g.AD.length)∧tm 11=.d (.int .i64 i)∧AAg g (K8 (g.AD.map (·.name)) i) (g.AD.drop i)=fin∧S=[.row true 9 [.d (AB g)],Dn (K8 (g.AD.map (·.name)) i),.row true 1 [.map 1]]) (i0:=0) (Nat.zero_le _) (by simp[QW,Dn,AB,Iq,hfin]) ?_;rintro i tm S hi ⟨t1,t3,t9,t10,t11,hpe,rfl⟩;refine xW fun K hK=>?_;simp[t10,t11];apply hK;refine xC ?_;simp;refine⟨fun hlt=>?_,fun hge=>?_⟩
 ·have hlm:i<(g.AD.map (·.name)).length:=by simpa using hlt
  have hn1:=HN (K8 (g.AD.map (·.name)) i) g.AD[i].name;have hsu:=H7 hlm;simp only[List.getElem_map]at hsu;rw[List.drop_eq_getElem_cons hlt]at hpe;unfold AAg at hpe;generalize hh:FV (K8 (g.AD.map (·.name)) i) g.AD[i].name=hs at *;generalize hx:g.AD[i]=x at *;have hcf:=HY x.right (fun s=>!ABC g s) 186 [.ptr 0 1 0 0] [.row true 9 [.d (AB g)]] (fun s _=>NO g s);have hw:=(NO g ⟨false,x.left⟩).Zo;simp only[List.map_cons,List.map_nil]at hw;unfold Dn;refine xK ?_;refine xB ?_;refine xW fun K hK=>?_;simp[t9,t11,hlt,hx];apply hK;refine xW fun K hK=>?_;simp[t1];apply hK;refine xS (Az fun K hK=>?_);refine xJ ?_;simp;refine xF (hw) [0] rfl ?_;simp[AB];(repeat((refine B7 ?_ ?_);(focus(simp;try(first|omega|(simp +contextual[AH];done)|grind);done));simp));refine AS.MS (hcf) [0] rfl rfl (by simp;rfl) (by simp) (by simp +contextual[];try rfl) (by simp[AB];try rfl) ?_;simp;(repeat((refine B7 ?_ ?_);(focus(simp;try(first|omega|(simp +contextual;done)|grind);done));simp));refine Aj (hK _ _ ?_);(try simp only[xQ,reduceIte]);(repeat refine xS ?_);refine AW.BD (t:=!LX g x) ?_ (fun hb=>?_) (fun hb=>?_)
  ·have:(x.right.any fun s=>!ABC g s)=!x.right.all (ABC g):=by rw[List.not_all_eq_any_not]
   simp[LX,this]
  ·refine xW fun K hK=>?_;simp;apply hK;refine Ag ⟨_,_,AJ.refl,?_⟩;(try simp);rw[←hpe];simp at hb;simp[hb]
  ·simp at hb;rw[hb]at hpe;simp only[Bool.true_eq_false,if_false]at hpe;refine xK ?_;refine Az fun K hK=>?_;refine xJ ?_;simp[t3];refine xF (hn1) [1,2] rfl ?_;simp[QW,Dn];(repeat((refine B7 ?_ ?_);(focus(simp[t1];try(first|omega|(simp +contextual[AH,t1,AB];done)|grind);done));simp[t1]));refine AS.CE (g:=!hs) (ds:=[AA x.cond,AG g.conds.length]) rfl rfl (by simp<;>rfl) (fun _=>IJ x.cond g.conds.length) (by simp[xN]) ?_;simp;(repeat((refine B7 ?_ ?_);(focus(simp;try(first|omega|(simp +contextual;done)|grind);done));simp));refine AS.CE (g:=!hs&&DS x.cond g.conds.length&&!decide (x.Di< -1)&&!decide (1<x.Di)) (ds:=[AH x]) rfl rfl (by simp<;>rfl) (fun _=>Ot x) (by simp[xN]) ?_;simp;(repeat((refine B7 ?_ ?_);(focus(simp;try(first|omega|(simp +contextual;done)|grind);done));simp));refine Aj (hK _ _ ?_);(repeat refine xS ?_);refine AW.BD (t:=hs||!Mz g x) ?_ (fun hb=>?_) (fun hb=>?_)
   ·simp[Mz];have e1:decide (x.Di< -1)=!decide (-1≤x.Di):=by rw[Bool.eq_iff_iff];simp
    have e2:decide (1<x.Di)=!decide (x.Di≤1):=by rw[Bool.eq_iff_iff];simp
    rw[e1,e2];simp only[Bool.or_assoc]
   ·have h52:hs=true∨Mz g x=false:=by simp at hb;grind
    rw[if_pos h52]at hpe;refine xW fun K hK=>?_;simp;apply hK;refine Ag ⟨_,_,AJ.refl,?_⟩;(try simp);simp[←hpe]
   ·simp only[Bool.or_eq_false_iff,Bool.not_eq_false']at hb;obtain⟨rfl,hok⟩:=hb;simp only[hok,Bool.true_eq_false,Bool.false_eq_true,or_self,if_false]at hpe;rw[←hsu]at hpe;refine CC ?_;refine xV fun K hK=>?_;simp[t11];apply hK;refine⟨hlt,_,_,AJ.drop 3 (by simp) (by simp) (by simp),?_⟩;simp[clean,t1,t3,t9,t10,AQ hlt a1,hsu,AB];rw[←hsu];exact hpe
 ·have hil:i=g.AD.length:=by omega
  subst hil;simp[AAg]at hpe;unfold Dn;refine Cu ?_;refine xW fun K hK=>?_;simp;apply hK;refine Ag ⟨_,_,AJ.refl,?_⟩;(try simp);simp[←hpe]
open Go.Proofs Tryz DT
def AAa(N:Nat):List Int→List Int→Option (List Int)
 |u,[]=>some u
 |u,p::ps=>if p<0∨(N:Int)≤p∨p∈u then none else AAa N (u++[p]) ps
noncomputable def AAq(g:AF):List Int→List Level→Bool
 |_,[]=>true
 |u,l::ls=>if decide (0≤l.assoc)&&decide (l.assoc≤3)&&DS l.cond g.conds.length then(match AAa g.AD.length u l.AD with|none=>false|some v=>AAq g v ls)else false
@[simp] theorem bl(l:List (Int×Bool))(k:Int)(x:Bool):DU (BO (D.int .i64) (fun x=>V.d (.bool x)) l) (.int .i64 k) (.d (.bool x))=BO (D.int .i64) (fun x=>V.d (.bool x)) (CU l k x):=C9 (ev:=fun x=>V.d (.bool x)) (by intro a b;rw[Bool.eq_iff_iff];simp[deq]) l k x
def Na(u:List Int):O:=.map (BO (D.int .i64) (fun x=>.d (.bool x)) (u.map fun p=>(p,true)))
theorem Yg(u:List Int)(p:Int):look (u.map fun p=>(p,true)) p=if p∈u then some true else none:=by
 induction u with
 |nil=>rfl
 |cons x u ih=>
  rw[List.map_cons,CQ,ih];by_cases h:x=p
  ·simp[h]
  ·have:¬p=x:=fun e=>h e.symm;simp[h,this]
def gW(g:AF)(fin:Bool)(i:Nat)(S:Sg):Prop:=∃u,AAq g u (g.levels.drop i)=fin∧S=[.row true 9 [.d (AB g)],Na u]
def gR(g:AF)(fin:Bool)(i:Nat)(l:Level)(j:Nat)(S:Sg):Prop:=
 ∃u,(match AAa g.AD.length u (l.AD.drop j)with|none=>false|some v=>AAq g v (g.levels.drop (i+1)))=fin∧S=[.row true 9 [.d (AB g)],Na u,.row true 4 [.d (Ac l)]]
theorem KV(g:AF):Pure prog 158 [AB g] (AG (if AAq g [] g.levels then 0 else 53)):=by
 refine Pure.AI func158 (by kernel_rfl) rfl (by simp) fun wf=>?_;have a1:g.levels.length≤maxLen:=by simp[AAY,WFD,AB]at wf;omega
 have a2':∀l∈g.levels,l.AD.length≤maxLen:=by
  simp[AAY,WFD,DM,AB]at wf;intro l hl;have:=wf.2.2.2.2.2.2.2.1.2 l hl;exact this.1.1
 generalize hfin:AAq g [] g.levels=fin;rw[ntmps158];refine xW fun K hK=>?_;simp;apply hK;refine xW fun K hK=>?_;simp;apply hK;refine xS (xW fun K hK=>?_);simp[AB];apply hK;refine Bw ?_;refine DC g.levels.length (fun i tm S=>tm 1=.ptr 0 1 0 0∧tm 3=.map 1∧tm 10=.d (BI g.levels)∧tm 11=.d (.int .i64 g.levels.length)∧tm 12=.d (.int .i64 i)∧gW g fin i S) (i0:=0) (Nat.zero_le _) (by simp;exact⟨[],hfin,by simp[Na,AB]⟩) ?_;rintro i tm S hi ⟨t1,t3,t10,t11,t12,u,hu,rfl⟩;unfold Na;refine xW fun K hK=>?_;simp[t11,t12];apply hK;refine xC ?_;simp;refine⟨fun hlt=>?_,fun hge=>?_⟩
 ·have a2:g.levels[i].AD.length≤maxLen:=a2' _ (List.getElem_mem hlt);rw[List.drop_eq_getElem_cons hlt]at hu;unfold AAq at hu;generalize hx:g.levels[i]=x at *;refine xK ?_;refine xB ?_;refine xW fun K hK=>?_;simp[t10,t12,hlt,hx];apply hK;refine xS (Az fun K hK=>?_);(repeat((refine B7 ?_ ?_);(focus(simp[t1,AB];try(first|omega|(simp +contextual[Ac,t1,AB];done)|grind);done));simp[t1,AB]));refine AS.CE (ds:=[AA x.cond,AG g.conds.length]) rfl rfl (by simp;rfl) (fun _=>IJ x.cond g.conds.length) (by simp[xN]) ?_;simp;(repeat((refine B7 ?_ ?_);(focus(simp;try(first|omega|(simp +contextual;done)|grind);done));simp));refine Aj (hK _ _ ?_);(try simp only[xQ,reduceIte]);(repeat refine xS ?_);refine AW.BD (t:=!(decide (0≤x.assoc)&&decide (x.assoc≤3)&&DS x.cond g.conds.length)) ?_ (fun hb=>?_) (fun hb=>?_)
  ·have e1:decide (x.assoc<0)=!decide (0≤x.assoc):=by rw[Bool.eq_iff_iff];simp
   have e2:decide (3<x.assoc)=!decide (x.assoc≤3):=by rw[Bool.eq_iff_iff];simp
   simp[e1,e2]
  ·rw[if_neg (by simpa only[Bool.not_eq_true',Bool.not_eq_true]using hb)]at hu;refine xW fun K hK=>?_;simp;apply hK;refine Ag ⟨_,_,AJ.refl,?_⟩;(try simp);simp[←hu]
  ·rw[if_pos (by simpa only[Bool.not_eq_false']using hb)]at hu;refine xK ?_;refine xW fun K hK=>?_;simp;apply hK;refine Bw ?_;refine DC x.AD.length (fun j tm S=>tm 1=.ptr 0 1 0 0∧tm 3=.map 1∧tm 10=.d (BI g.levels)∧tm 11=.d (.int .i64 g.levels.length)∧tm 12=.d (.int .i64 i)∧tm 34=.d (Ci x.AD)∧tm 35=.d (.int .i64 x.AD.length)∧tm 36=.d (.int .i64 j)∧gR g fin i x j S) (i0:=0) (Nat.zero_le _) (by simp[t1,t3,t10,t11,t12];exact⟨u,by simpa using hu,by simp[Na,AB,Ac]⟩) ?_;rintro j tm S hj ⟨t1,t3,t10,t11,t12,t34,t35,t36,v,hv,rfl⟩;unfold Na;refine xW fun K hK=>?_;simp[t35,t36];apply hK;refine xC ?_;simp;refine⟨fun hlt2=>?_,fun hge2=>?_⟩
   ·rw[List.drop_eq_getElem_cons hlt2]at hv;unfold AAa at hv;generalize hy:x.AD[j]=y at *;have hlk:=Yg v y;refine xK ?_;refine xB ?_;refine xW fun K hK=>?_;simp[t34,t36,hlt2,hy];apply hK;refine xS (Az fun K hK=>?_);(repeat((refine B7 ?_ ?_);(focus(simp[t1];try(first|omega|(simp +contextual[t1,t3,AB];done)|grind);done));simp[t1,t3,AB]));rw[hlk];refine Aj (hK _ _ ?_);(try simp only[xQ,reduceIte]);(repeat refine xS ?_);refine AW.BD (t:=decide (y<0)||decide ((g.AD.length:Int)≤y)||decide (y∈v)) ?_ (fun hb=>?_) (fun hb=>?_)
    ·simp;by_cases hm:y∈v<;>simp[hm]
    ·have:y<0∨(g.AD.length:Int)≤y∨y∈v:=by simpa only[Bool.or_eq_true,decide_eq_true_eq,or_assoc]using hb
     rw[if_pos this]at hv;refine xW fun K hK=>?_;simp;apply hK;refine Ag ⟨_,_,AJ.refl,?_⟩;(try simp);simp[←hv]
    ·have hno:¬(y<0∨(g.AD.length:Int)≤y∨y∈v):=by simp only[Bool.or_eq_false_iff,decide_eq_false_iff_not]at hb;grind
     rw[if_neg hno]at hv;have hnm:y∉v:=fun h=>hno (.inr (.inr h));rw[if_neg hnm]at hlk;have hput:CU (v.map fun p=>(p,true)) y true=(v++[y]).map fun p=>(p,true):=by rw[IT _ (by simpa using hlk)];simp
     refine xK ?_;refine xV fun K hK=>?_;simp[t3,hput];apply hK;refine xV fun K hK=>?_;simp[t36];apply hK;refine⟨hlt2,_,_,AJ.refl,?_⟩;simp[t1,t3,t10,t11,t12,t34,t35,AQ hlt2 a2];exact⟨v++[y],hv,by simp[Na,AB]⟩
   ·have hjl:j=x.AD.length:=by omega
    subst hjl;simp[AAa]at hv;refine Cu ?_;refine xV fun K hK=>?_;simp[t12];apply hK;refine⟨hlt,_,_,AJ.drop 2 (by simp) (by simp) (by simp),?_⟩;simp[clean,t1,t3,t10,t11,AQ hlt a1];exact⟨v,hv,by simp[Na]⟩
 ·have hil:i=g.levels.length:=by omega
  subst hil;simp[AAq]at hu;refine Cu ?_;refine xW fun K hK=>?_;simp;apply hK;refine Ag ⟨_,_,AJ.refl,?_⟩;(try simp);simp[←hu]
end Go.Koi
