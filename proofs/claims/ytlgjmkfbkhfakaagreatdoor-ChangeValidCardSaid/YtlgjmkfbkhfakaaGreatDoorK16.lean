/- Part 17 of the proof that the law ChangeValid returns true for every input. -/
import Derived.Test.YtlgjmkfbkhfakaaGreatDoorK15
set_option maxHeartbeats 64000000
set_option maxRecDepth 100000
namespace Go.Koi
open Go.Proofs Tryz
theorem FR(a b:Ah):deq (AX a) (AX b)=decide (a=b):=by
 cases a;cases b;rw[Bool.eq_iff_iff];simp[deq,AAT,AX]
section
variable {β:Type} {ev:β→V}
@[simp] theorem Xr(l:List (Ah×β))(a b c:Int):A4 (BO AX ev l) (.agg [.int .i64 a,.int .i64 b,.int .i64 c])=(look l ⟨a,b,c⟩).map ev:=D1 FR l ⟨a,b,c⟩
@[simp] theorem Ws(l:List (Ah×β))(x:Ah):A4 (BO AX ev l) (AX x)=(look l x).map ev:=D1 FR l x
@[simp] theorem ZG(l:List (Ah×Int))(a b c x:Int):DU (BO AX (fun x=>.d (.int .i64 x)) l) (.agg [.int .i64 a,.int .i64 b,.int .i64 c]) (.d (.int .i64 x))=BO AX (fun x=>.d (.int .i64 x)) (CU l ⟨a,b,c⟩ x):=C9 (ev:=fun x=>V.d (.int .i64 x)) FR l ⟨a,b,c⟩ x
@[simp] theorem Xy(l:List (Ah×Bool))(a b c:Int)(x:Bool):DU (BO AX (fun x=>.d (.bool x)) l) (.agg [.int .i64 a,.int .i64 b,.int .i64 c]) (.d (.bool x))=BO AX (fun x=>.d (.bool x)) (CU l ⟨a,b,c⟩ x):=C9 (ev:=fun x=>V.d (.bool x)) FR l ⟨a,b,c⟩ x
@[simp] theorem W2(l:List (Ah×Bool))(y:Ah)(x:Bool):DU (BO AX (fun x=>.d (.bool x)) l) (AX y) (.d (.bool x))=BO AX (fun x=>.d (.bool x)) (CU l y x):=C9 (ev:=fun x=>V.d (.bool x)) FR l y x
@[simp] theorem TO(l:List (Ah×β)):AAR (.cells [.int .i64,.int .i64,.int .i64]) (BO AX ev l)=True:=eq_true (Dx (by intro a;simp[AAV,AAU,AAX,AX]) l)
@[simp] theorem Wc(y:Ah):AAV (.cells [.int .i64,.int .i64,.int .i64]) (AX y)=true:=by simp[AAV,AAU,AAX,AX]
end
def AN.FQ(d:AN)(n v:Int):Int:=if d.level n=v then(match d.nodes[(n - 2).toNat]? with|some x=>x.low|none=>0)else n
def AN.FO(d:AN)(n v:Int):Int:=if d.level n=v then(match d.nodes[(n - 2).toNat]? with|some x=>x.high|none=>0)else n
theorem Kf(d:AN)(n v:Int)(hn:n<2+d.nodes.length)(hv:v<64):Pure prog 126 [AA d,AG n,AG v] (.Bd [AG (d.FQ n v),AG (d.FO n v)]):=by
 refine Pure.AI func126 (by kernel_rfl) rfl (by simp) fun wf=>?_;simp[AAY,DM,WFD]at wf;rw[ntmps126];refine xW fun K hK=>?_;simp;apply hK;refine xS (Az fun K hK=>?_);refine xJ ?_;simp;refine Bp (Fv d n hn) rfl (by simp[xN]) ?_;simp;refine xJ ?_;simp;refine Aj (hK _ _ ?_);(try simp only[xQ,reduceIte]);refine AU ?_;simp;refine⟨fun h=>?_,fun h=>?_⟩
 ·refine xW fun K hK=>?_;simp;apply hK;refine Ag ⟨_,_,AJ.refl,?_⟩;(try simp);simp[AN.FQ,AN.FO,h]
 ·have h2:¬n<2:=by intro h2;simp[AN.level,h2]at h;omega
  have hw:IntKind.i64.wrap (n - 2)=n - 2:=wrap_i64 (by omega) (by omega);have h3:(n - 2).toNat<d.nodes.length:=by omega
  have h4:n - 2<(d.nodes.length:Int):=by omega
  have h5:2≤n:=by omega
  refine xK ?_;(repeat refine xS ?_);refine xE [0,2,4,6,8,10,12,14,16,18,20,22,24,26,28,30] (by kernel_rfl) fun K hK=>?_;simp;refine xA 0 ?_;simp[hw,h3,h4,h5];refine xM (hK _ _ ?_);(try simp only[xQ,reduceIte]);refine Ag ⟨_,_,AJ.refl,?_⟩;(try simp);simp[AN.FQ,AN.FO,h,h3]
def Mr(f:FuncId)(g:Bool→Bool→Bool):Prop:=∀x y,Pure prog f [.bool x,.bool y] (.bool (g x y))
theorem Fe:Mr 161 and:=fun x y=>by
 refine Pure.AI func161 (by kernel_rfl) rfl (by simp) fun wf=>?_;rw[ntmps161];refine xW fun K hK=>?_;simp;apply hK;refine xW fun K hK=>?_;simp;apply hK;refine Ag ⟨_,_,AJ.refl,?_⟩;try simp
theorem Hu:Mr 164 or:=fun x y=>by
 refine Pure.AI func164 (by kernel_rfl) rfl (by simp) fun wf=>?_;rw[ntmps164];refine xW fun K hK=>?_;simp;apply hK;refine xW fun K hK=>?_;simp;apply hK;refine Ag ⟨_,_,AJ.refl,?_⟩;try simp
theorem Yj:Mr 170 (fun x _=>!x):=fun x y=>by
 refine Pure.AI func170 (by kernel_rfl) rfl (by simp) fun wf=>?_;rw[ntmps170];refine xW fun K hK=>?_;simp;apply hK;refine xW fun K hK=>?_;simp;apply hK;refine Ag ⟨_,_,AJ.refl,?_⟩;try simp
theorem On{f:FuncId}{g:Bool→Bool→Bool}(hf:Mr f g)(x y z:Bool):AE prog 196 [.d (.bool x),.d (.bool y),.d (.bool z),.ptr 0 1 0 0] [.row true 1 [.fn (.func f) [] []]] (.d (.bool (g x y))) [.row true 1 [.fn (.func f) [] []]]:=by
 refine AE.AI func196 (by kernel_rfl) rfl (by simp) fun wf wfs=>?_;rw[ntmps196];refine xW fun K hK=>?_;simp;apply hK;(repeat refine xS ?_);refine BX fun K hK=>?_;refine xJ ?_;simp;refine Bp (hf x y) rfl (by simp) ?_;simp;refine xJ ?_;simp;refine Aj (hK _ _ ?_);(try simp only[xQ,reduceIte]);refine Ag ?_;(try simp only[xQ,reduceIte]);refine⟨_,AJ.refl,?_⟩;simp[Am]
theorem Pk(d:AN):Pure prog 194 [AA d] (.Bd [AA (if d.nodes.length>4096 then⟨[],0⟩else d),AG (if d.nodes.length>4096 then 2 else 0)]):=by
 refine Pure.AI func194 (by kernel_rfl) rfl (by simp) fun wf=>?_;rw[ntmps194];refine xW fun K hK=>?_;simp;apply hK;refine xS (xW fun K hK=>?_);simp;apply hK;refine AU ?_;simp;refine⟨fun h=>?_,fun h=>?_⟩
 ·have h:d.nodes.length>4096:=by omega
  refine xW fun K hK=>?_;simp;apply hK;refine Ag ⟨_,_,AJ.refl,?_⟩;(try simp);simp[h,AA]
 ·have h:¬d.nodes.length>4096:=by omega
  refine xK ?_;refine xW fun K hK=>?_;simp;apply hK;refine Ag ⟨_,_,AJ.refl,?_⟩;(try simp);have e:(if 4096<d.nodes.length then(⟨[],0⟩:AN)else d)=d:=if_neg (by omega);rw[e];exact⟨rfl,by omega⟩
def U7(N:List Ah)(kn:List (Ah×Int)):Sg:=
 [.row true 2 [.agg [.row 1 N.length,.map 2]],.row (!N.isEmpty) 3 (N.map fun x=>.d (AX x)),.map (BO AX (fun x=>.d (.int .i64 x)) kn)]
theorem LB:AE prog 219 [] [] (.ptr 2 1 0 0) [.map [],.row false 3 [],.row true 2 [.agg [.row 1 0,.map 0]]]:=by
 refine AE.AI func219 (by kernel_rfl) rfl (by simp) fun wf wfs=>?_;rw[ntmps219];refine xW fun K hK=>?_;simp;apply hK;(repeat refine xS ?_);refine BX fun K hK=>?_;refine xO ?_;simp;refine xO ?_;simp;refine AS.ghost (AJ.Tb 2 0 3 rfl rfl) ?_;simp;refine xJ ?_;simp;refine Aj (hK _ _ ?_);(try simp only[xQ,reduceIte]);refine Ag ?_;(try simp only[xQ,reduceIte]);refine⟨_,AJ.refl,?_⟩;simp[Am]
def brR(N:List Ah)(kn:List (Ah×Int))(v lo hi:Int):List Ah×List (Ah×Int)×Int:=
 if lo=hi then(N,kn,lo)else match look kn ⟨v,lo,hi⟩with
  |some n=>(N,kn,n)
  |none=>(N++[⟨v,lo,hi⟩],CU kn ⟨v,lo,hi⟩ (N.length+2),N.length+2)
theorem RA(N:List Ah)(kn:List (Ah×Int))(v lo hi:Int)(hN:N.length<2 ^ 30):
  AE prog 221 [.ptr 0 1 0 0,.d (AG v),.d (AG lo),.d (AG hi)] (U7 N kn) (.d (AG (brR N kn v lo hi).2.2)) (U7 (brR N kn v lo hi).1 (brR N kn v lo hi).2.1):=by
 refine AE.AI func221 (by kernel_rfl) rfl (by simp) fun wf wfs=>?_;rw[ntmps221];unfold U7;refine xW fun K hK=>?_;simp;apply hK;refine xS (xW fun K hK=>?_);simp;apply hK;refine AU ?_;simp;refine⟨fun h=>?_,fun h=>?_⟩
 ·refine xW fun K hK=>?_;simp;apply hK;refine Ag ?_;(try simp only[xQ,reduceIte]);refine⟨_,AJ.JK (by simp[brR,h]),?_⟩;simp[Am,brR,h]
 ·refine xK ?_;refine xW fun K hK=>?_;simp;apply hK;refine xD [0,2,4,6,8,10,12,14,16,18,20] (by kernel_rfl) fun K hK=>?_;simp;refine xA 0 ?_;simp;refine xM (hK _ _ ?_);refine xS (xW fun K hK=>?_);simp;apply hK;cases hl:look kn ⟨v,lo,hi⟩with
  |some n=>
   refine AU ?_;simp;refine xK ?_;refine xW fun K hK=>?_;simp;apply hK;refine Ag ?_;(try simp only[xQ,reduceIte]);refine⟨_,AJ.AY 3 (by simp[brR,h,hl]) (by simp) (by simp) (by simp),?_⟩;simp[Am,clean,brR,h,hl]
  |none=>
   have hN':N.length≤1073741823:=by omega
   have hw:IntKind.i64.wrap ((N.length:Int)+1+1)=N.length+2:=wrap_i64 (by omega) (by omega);refine AU ?_;simp;refine xD [0,2,4,6,8,10,12,15,16,18,21] (by kernel_rfl) fun K hK=>?_;simp;(repeat(refine Ae.fL ?_ ?_;(·simp);simp));(repeat((refine Ga ?_ ?_);(focus(simp[maxLen];done));simp[maxLen]));((refine eU [true,false,true,false,false,false,false] (by kernel_rfl) ?_ ?_);(focus(simp[hN'];done));simp);refine xA 2 ?_;simp;refine xX 125 (by kernel_rfl) ?_;simp;refine xM (hK _ _ ?_);refine xW fun K hK=>?_;simp[hw];apply hK;refine xE [0,2,4,6,8,10,13] (by kernel_rfl) fun K hK=>?_;simp;refine xA 0 ?_;simp;refine xX 63 (by kernel_rfl) ?_;simp;refine xM (hK _ _ ?_);refine xW fun K hK=>?_;simp;apply hK;refine Ag ?_;(try simp only[xQ,reduceIte]);refine⟨_,AJ.AY 3 (by simp[brR,h,hl,AX]) (by simp) (by simp) (by simp),?_⟩;simp[Am,clean,brR,h,hl]
open Go.Proofs DT
structure BK(N:List Ah)(kn:List (Ah×Int)):Prop where
 YT:J6 N
 kn:∀b n,look kn b=some n↔∃k:Nat,N[k]?=some b∧n=k+2
theorem BK.nil:BK [] []:=⟨J6.nil,fun b n=>by simp⟩
theorem VP{N:List Ah}{kn:List (Ah×Int)}(h:BK N kn){v lo hi:Int}{s t:DT}(h0:0≤v)(h1:v≤63)(hs:s.Good)(ht:t.Good)(ls:v<s.level)(lt:v<t.level)
  (rs:AAQ N s lo) (rt:AAQ N t hi):BK (brR N kn v lo hi).1 (brR N kn v lo hi).2.1∧(∃M,(brR N kn v lo hi).1=N++M)∧AAQ (brR N kn v lo hi).1 (DT.mk v s t) (brR N kn v lo hi).2.2∧(DT.mk v s t).Good∧∀k:Nat,N.length≤k→k<(brR N kn v lo hi).1.length→(brR N kn v lo hi).2.2=k+2:=by
 by_cases he:lo=hi
 ·subst he;have e:s=t:=rs.uniq rt;subst e;have em:DT.mk v s s=s:=by simp[DT.mk]
  simp only[brR,if_true];rw[em];exact⟨h,⟨[],by simp⟩,rs,hs,fun k h1 h2=>absurd h2 (by omega)⟩
 ·have gn:s≠t:=fun e=>by subst e;exact he (rs.inj h.YT.nodup rt)
  have em:DT.mk v s t=.node v s t:=by simp[DT.mk,gn]
  cases hl:look kn ⟨v,lo,hi⟩with
  |some n=>
   have e:brR N kn v lo hi=(N,kn,n):=by simp[brR,he,hl]
   rw[e,em];obtain⟨k,hk,hn⟩:=(h.kn _ _).1 hl;exact⟨h,⟨[],by simp⟩,⟨k,hn,lo,hi,hk,rs,rt⟩,⟨h0,h1,gn,ls,lt,hs,ht⟩,fun k h1 h2=>absurd h2 (by simp only;omega)⟩
  |none=>
   have e:brR N kn v lo hi=(N++[⟨v,lo,hi⟩],CU kn ⟨v,lo,hi⟩ (N.length+2),(N.length:Int)+2):=by simp[brR,he,hl]
   rw[e,em];have lH:(⟨v,lo,hi⟩:Ah)∉N:=fun hm=>by
    obtain⟨k,hk,pa⟩:=List.mem_iff_getElem.1 hm;have:=(h.kn ⟨v,lo,hi⟩ (k+2)).2 ⟨k,by rw[List.getElem?_eq_getElem hk,pa],rfl⟩;rw[hl]at this;cases this
   obtain⟨g1,g2,g3⟩:=h.YT.snoc h0 h1 hs ht ls lt rs rt he lH;refine⟨⟨g1,fun b n=>?_⟩,⟨_,rfl⟩,g2,g3,fun k h1 h2=>?_⟩
   ·rw[E9];by_cases eb:b=⟨v,lo,hi⟩
    ·subst eb;rw[if_pos rfl];constructor
     ·intro hh;simp only[Option.some.injEq]at hh;exact⟨N.length,by simp,hh.symm⟩
     ·rintro⟨k,hk,rfl⟩;by_cases ek:k<N.length
      ·rw[List.getElem?_append_left ek]at hk;exact absurd (List.mem_of_getElem? hk) lH
      ·have iX:=(List.getElem?_eq_some_iff.1 hk).1;simp only[List.length_append,List.length_cons,List.length_nil]at iX;have:k=N.length:=by omega
       subst this;rfl
    ·rw[if_neg eb,h.kn];constructor
     ·rintro⟨k,hk,rfl⟩;refine⟨k,?_,rfl⟩;rw[List.getElem?_append_left (List.getElem?_eq_some_iff.1 hk).1];exact hk
     ·rintro⟨k,hk,rfl⟩;refine⟨k,?_,rfl⟩;by_cases ek:k<N.length
      ·rw[List.getElem?_append_left ek]at hk;exact hk
      ·have iX:=(List.getElem?_eq_some_iff.1 hk).1;simp only[List.length_append,List.length_cons,List.length_nil]at iX;have:k=N.length:=by omega
       subst this;simp at hk;exact absurd hk.symm eb
   ·simp only[List.length_append,List.length_cons,List.length_nil]at h2;simp only;omega
theorem AAQ.level{d:AN}{s:DT}{n:Int}(h:AAQ d.nodes s n):d.level n=s.level:=by
 cases s with
 |leaf b=>have:=h.Dy.2 ⟨b,rfl⟩;simp[AN.level,this,DT.level]
 |node v l r=>
  obtain⟨k,hk,lo,hi,e,_,_⟩:=h;have:¬n<2:=by omega
  have e2:(n - 2).toNat=k:=by omega
  simp[AN.level,this,e2,e,DT.level]
theorem AAQ.lt{N:List Ah}{s:DT}{n:Int}(h:AAQ N s n):n<2+N.length:=by have:=h.range;omega
theorem AAQ.FQ{d:AN}{s:DT}{n v:Int}(h:AAQ d.nodes s n)(hv:v<64):AAQ d.nodes (s.lo v) (d.FQ n v):=by
 unfold AN.FQ;rw[h.level];split
 ·next e=>
  cases s with
  |leaf b=>simp only[DT.level]at e;omega
  |node w l r=>
   obtain⟨k,hk,lo,hi,e1,h1,h2⟩:=h;simp only[DT.level]at e;subst e;have e2:(n - 2).toNat=k:=by omega
   simp[e2,e1,DT.lo];exact h1
 ·next e=>rw[Ma e];exact h
theorem AAQ.FO{d:AN}{s:DT}{n v:Int}(h:AAQ d.nodes s n)(hv:v<64):AAQ d.nodes (s.hi v) (d.FO n v):=by
 unfold AN.FO;rw[h.level];split
 ·next e=>
  cases s with
  |leaf b=>simp only[DT.level]at e;omega
  |node w l r=>
   obtain⟨k,hk,lo,hi,e1,h1,h2⟩:=h;simp only[DT.level]at e;subst e;have e2:(n - 2).toNat=k:=by omega
   simp[e2,e1,DT.hi];exact h2
 ·next e=>rw[Mn e];exact h
abbrev Sy:=Int×Int×Int
def NC(t:Sy):D:=.agg [.int .i64 t.1,.int .i64 t.2.1,.int .i64 t.2.2]
theorem ZJ(a b:Sy):deq (NC a) (NC b)=decide (a=b):=by
 obtain⟨a1,a2,a3⟩:=a;obtain⟨b1,b2,b3⟩:=b;rw[Bool.eq_iff_iff];simp[deq,AAT,NC]
section
variable {β:Type} {ev:β→V}
@[simp] theorem eG(l:List (Sy×β))(a b c:Int):A4 (BO NC ev l) (.agg [.int .i64 a,.int .i64 b,.int .i64 c])=(look l (a,b,c)).map ev:=D1 ZJ l (a,b,c)
@[simp] theorem eY(l:List (Sy×Int))(a b c x:Int):DU (BO NC (fun x=>.d (.int .i64 x)) l) (.agg [.int .i64 a,.int .i64 b,.int .i64 c]) (.d (.int .i64 x))=BO NC (fun x=>.d (.int .i64 x)) (CU l (a,b,c) x):=C9 (ev:=fun x=>V.d (.int .i64 x)) ZJ l (a,b,c) x
@[simp] theorem aP(l:List (Sy×β)):AAR (.cells [.int .i64,.int .i64,.int .i64]) (BO NC ev l)=True:=eq_true (Dx (by intro a;simp[AAV,AAU,AAX,NC]) l)
end
def cX:V:=.fn (.func 220) [] [.ptr 0 1 0 0,.ptr 1 1 0 0,.ptr 2 1 0 0,.ptr 3 1 0 0,.ptr 4 1 0 0]
def cV:V:=.fn (.func 196) [] [.ptr 9 1 0 0]
attribute [simp] cX cV
def JH(f:FuncId)(a b c:AN)(N:List Ah)(kn:List (Ah×Int))(memo:List (Sy×Int)):Sg:=
 [.row true 1 [cV],.row true 1 [.map 6],.row true 6 [.d (.agg [AV a.nodes,AG a.root,AV b.nodes,AG b.root,AV c.nodes,AG c.root])],.row true 1 [cX],.row true 1 [.ptr 5 1 0 0],.row true 2 [.agg [.row 7 N.length,.map 8]],.map (BO NC (fun x=>.d (.int .i64 x)) memo),.row (!N.isEmpty) 3 (N.map fun x=>.d (AX x)),.map (BO AX (fun x=>.d (.int .i64 x)) kn),.row true 1 [.fn (.func f) [] []]]
structure OP(g:Bool→Bool→Bool)(s0 s1 s2:DT)(N:List Ah)(r:Int)(t:DT):Prop where
 Me:AAQ N t r
 GM:t.Good
 sem:∀c,t.sem c=g (s0.sem c) (s1.sem c)
 fG:min s0.level (min s1.level s2.level)≤t.level
structure CI(g:Bool→Bool→Bool)(a b c:AN)(N:List Ah)(kn:List (Ah×Int))(memo:List (Sy×Int)):Prop extends BK N kn where
 memo:∀x y z r,look memo (x,y,z)=some r→∀s0 s1 s2,AAQ a.nodes s0 x→AAQ b.nodes s1 y→AAQ c.nodes s2 z→s0.Good→s1.Good→s2.Good→∃t,OP g s0 s1 s2 N r t
 src:∀k:Nat,k<N.length→∃x y z s0 s1 s2 t,AAQ a.nodes s0 x∧AAQ b.nodes s1 y∧AAQ c.nodes s2 z∧OP g s0 s1 s2 N (k+2) t
theorem OP.mono{g:Bool→Bool→Bool}{s0 s1 s2 t:DT}{N:List Ah}{r:Int}(h:OP g s0 s1 s2 N r t)(M:List Ah):OP g s0 s1 s2 (N++M) r t:=⟨h.Me.mono M,h.GM,h.sem,h.fG⟩
open Classical in
theorem CI.len{g:Bool→Bool→Bool}{a b c:AN}{N:List Ah}{kn:List (Ah×Int)}{memo:List (Sy×Int)}(h:CI g a b c N kn memo):
  N.length≤(a.nodes.length+2) * (b.nodes.length+2) * (c.nodes.length+2):=by
 let f:Nat→Nat:=fun k=>if hk:k<N.length then
  ((h.src k hk).choose.toNat * (b.nodes.length+2)+(h.src k hk).choose_spec.choose.toNat) * (c.nodes.length+2)+(h.src k hk).choose_spec.choose_spec.choose.toNat else 0
 have hf:∀k,k<N.length→∃x y z s0 s1 s2 t,AAQ a.nodes s0 x∧AAQ b.nodes s1 y∧AAQ c.nodes s2 z∧OP g s0 s1 s2 N (k+2) t∧f k=(x.toNat * (b.nodes.length+2)+y.toNat) * (c.nodes.length+2)+z.toNat:=fun k hk=>by
  obtain⟨s0,s1,s2,t,g1,g2,g3,g4⟩:=(h.src k hk).choose_spec.choose_spec.choose_spec;exact⟨_,_,_,s0,s1,s2,t,g1,g2,g3,g4,by simp only[f,hk,dif_pos]⟩
 have key:=FL f (l:=List.range N.length) (n:=(a.nodes.length+2) * (b.nodes.length+2) * (c.nodes.length+2)) List.nodup_range (fun k hk=>?_) (fun k hk k' jN e=>?_)
 ·simpa using key
 ·obtain⟨x,y,z,s0,s1,s2,t,g1,g2,g3,g4,g5⟩:=hf k (by simpa using hk);have r1:=g1.range;have r2:=g2.range;have r3:=g3.range;rw[g5];have h1:x.toNat+1≤a.nodes.length+2:=by omega
  have h2:y.toNat+1≤b.nodes.length+2:=by omega
  have h3:z.toNat+1≤c.nodes.length+2:=by omega
  generalize x.toNat=X at *;generalize y.toNat=Y at *;generalize z.toNat=Z at *;generalize a.nodes.length+2=A at *;generalize b.nodes.length+2=B at *;generalize c.nodes.length+2=C at *;have e1:X * B+Y+1≤A * B:=by
   have:=Nat.mul_le_mul_right B h1;rw[Nat.add_mul]at this;omega
  have:=Nat.mul_le_mul_right C e1;rw[Nat.add_mul]at this;omega
 ·obtain⟨x,y,z,s0,s1,s2,t,g1,g2,g3,g4,g5⟩:=hf k (by simpa using hk);obtain⟨x',y',z',s0',s1',s2',t',g1',g2',g3',g4',g5'⟩:=hf k' (by simpa using jN);have r1:=g1.range;have r2:=g2.range;have r3:=g3.range;have r1':=g1'.range;have r2':=g2'.range;have r3':=g3'.range;rw[g5,g5']at e;have ez:z.toNat=z'.toNat:=by
   have:=congrArg (·% (c.nodes.length+2)) e;simp only[Nat.mul_comm _ (c.nodes.length+2),Nat.mul_add_mod]at this;rwa [Nat.mod_eq_of_lt (by omega),Nat.mod_eq_of_lt (by omega)]at this
  rw[ez]at e;have e2:x.toNat * (b.nodes.length+2)+y.toNat=x'.toNat * (b.nodes.length+2)+y'.toNat:=Nat.eq_of_mul_eq_mul_right (m:=c.nodes.length+2) (by omega) (by omega);have ey:y.toNat=y'.toNat:=by
   have:=congrArg (·% (b.nodes.length+2)) e2;simp only[Nat.mul_comm _ (b.nodes.length+2),Nat.mul_add_mod]at this;rwa [Nat.mod_eq_of_lt (by omega),Nat.mod_eq_of_lt (by omega)]at this
  rw[ey]at e2;have ex:x.toNat=x'.toNat:=Nat.eq_of_mul_eq_mul_right (m:=b.nodes.length+2) (by omega) (by omega);have ex:x=x':=by omega
  have ey:y=y':=by omega
  subst ex;subst ey;have e0:=g1.uniq g1';have e1:=g2.uniq g2';subst e0;subst e1;have et:t=t':=DT.unique g4.GM g4'.GM fun c=>by rw[g4.sem,g4'.sem]
  subst et;have:=g4.Me.inj h.YT.nodup g4'.Me;omega
open Go.Proofs Tryz DT
def V3(x y z:Int):V:=.agg [.d (.int .i64 x),.d (.int .i64 y),.d (.int .i64 z)]
attribute [simp] V3
def Wv(x y z:Int):List V:=[V3 x y z,.ptr 0 1 0 0,.ptr 1 1 0 0,.ptr 2 1 0 0,.ptr 3 1 0 0,.ptr 4 1 0 0]
theorem Lh{f:FuncId}{g:Bool→Bool→Bool}(hf:Mr f g)(a b c:AN){x y z:Int}{N:List Ah}{kn:List (Ah×Int)}{memo:List (Sy×Int)}
  (hx:x<2) (hy:y<2) (hz:z<2):
  AE prog 220 (Wv x y z) (JH f a b c N kn memo) (.d (AG (if g (x==1) (y==1)then 1 else 0))) (JH f a b c N kn memo):=by
 unfold Wv;refine AE.AI func220 (by kernel_rfl) rfl (by simp) fun wf wfs=>?_;rw[ntmps220];unfold JH;refine xW fun K hK=>?_;simp;apply hK;refine xS (xW fun K hK=>?_);simp[hx,hy,hz];apply hK;refine AU ?_;simp;refine xS (Az fun K hK=>?_);refine xJ ?_;simp;refine xF (On hf (x==1) (y==1) (z==1)) [9] rfl ?_;simp;refine xJ ?_;simp;refine Aj (hK _ _ ?_);(try simp only[xQ,reduceIte]);cases hg:g (x==1) (y==1)with
 |true=>
  refine AU ?_;simp;refine xW fun K hK=>?_;simp;apply hK;refine Ag ?_;(try simp only[xQ,reduceIte]);refine⟨_,AJ.AY 10 (by simp) (by simp) (by simp) (by simp),?_⟩;simp[Am,clean]
 |false=>
  refine AU ?_;simp;refine xK ?_;refine xW fun K hK=>?_;simp;apply hK;refine Ag ?_;(try simp only[xQ,reduceIte]);refine⟨_,AJ.AY 10 (by simp) (by simp) (by simp) (by simp),?_⟩;simp[Am,clean]
theorem Sc{f:FuncId}(a b c:AN){x y z r:Int}{N:List Ah}{kn:List (Ah×Int)}{memo:List (Sy×Int)}
  (hn:¬(x<2∧y<2∧z<2)) (hr:look memo (x,y,z)=some r):
  AE prog 220 (Wv x y z) (JH f a b c N kn memo) (.d (AG r)) (JH f a b c N kn memo):=by
 unfold Wv;refine AE.AI func220 (by kernel_rfl) rfl (by simp) fun wf wfs=>?_;rw[ntmps220];unfold JH;refine xW fun K hK=>?_;simp;apply hK;refine xS (Az fun K hK=>?_);refine xJ ?_;simp;refine Aj (hK _ _ ?_);(try simp only[xQ,reduceIte]);refine AU ?_;simp;refine⟨fun h1 h2 h3=>absurd ⟨h1,h2,h3⟩ hn,fun _=>?_⟩
 ·refine xK ?_;refine xS (xW fun K hK=>?_);simp;apply hK;refine xW fun K hK=>?_;simp[hr];apply hK;refine AU ?_;simp;refine xW fun K hK=>?_;simp;apply hK;refine Ag ?_;(try simp only[xQ,reduceIte]);refine⟨_,AJ.AY 10 (by simp) (by simp) (by simp) (by simp),?_⟩;simp[Am,clean]
def aV(i j l:Int):Int:=if l<(if j<i then j else i)then l else(if j<i then j else i)
theorem Tk{f:FuncId}(a b c:AN){x y z:Int}{N N1 N2:List Ah}{kn kn1 kn2:List (Ah×Int)}{memo m1 m2:List (Sy×Int)}{r1 r2 v:Int}
  (hn:¬(x<2∧y<2∧z<2)) (hr:look memo (x,y,z)=none)
  (hx:x<2+a.nodes.length) (hy:y<2+b.nodes.length) (hz:z<2+c.nodes.length) (hv:aV (a.level x) (b.level y) (c.level z)=v) (jU:v<64) (hN2:N2.length<2 ^ 30)
  (c1:AE prog 220 (Wv (a.FQ x v) (b.FQ y v) (c.FQ z v)) (JH f a b c N kn memo) (.d (AG r1)) (JH f a b c N1 kn1 m1))
  (c2:AE prog 220 (Wv (a.FO x v) (b.FO y v) (c.FO z v)) (JH f a b c N1 kn1 m1) (.d (AG r2)) (JH f a b c N2 kn2 m2)):
  AE prog 220 (Wv x y z) (JH f a b c N kn memo) (.d (AG (brR N2 kn2 v r1 r2).2.2)) (JH f a b c (brR N2 kn2 v r1 r2).1 (brR N2 kn2 v r1 r2).2.1 (CU m2 (x,y,z) (brR N2 kn2 v r1 r2).2.2)):=by
 unfold Wv at c1 c2⊢;refine AE.AI func220 (by kernel_rfl) rfl (by simp) fun wf wfs=>?_;rw[ntmps220];unfold JH;refine xW fun K hK=>?_;simp;apply hK;refine xS (Az fun K hK=>?_);refine xJ ?_;simp;refine Aj (hK _ _ ?_);(try simp only[xQ,reduceIte]);refine AU ?_;simp;refine⟨fun h1 h2 h3=>absurd ⟨h1,h2,h3⟩ hn,fun _=>?_⟩
 ·refine xK ?_;refine xS (xW fun K hK=>?_);simp;apply hK;refine xW fun K hK=>?_;simp[hr];apply hK;refine AU ?_;simp;refine xK ?_;refine xD [0,2,4,6,8,10,12,14,16,18,20,22,24,26,28,30,32] (by kernel_rfl) fun K hK=>?_;simp;refine xA 2 ?_;simp;refine xA 0 ?_;simp;refine Ae.CA (Fv a x hx) rfl (by simp[xN]) ?_;simp;refine xA 0 ?_;simp;refine Ae.CA (Fv b y hy) rfl (by simp[xN]) ?_;simp;refine xA 0 ?_;simp;refine Ae.CA (Fv c z hz) rfl (by simp[xN]) ?_;simp;refine xA 0 ?_;simp;refine xM (hK _ _ ?_);(repeat refine xS ?_);refine xV fun K hK=>?_;simp;refine hK _ _ ?_;(try simp only[xQ,reduceIte]);have mX:(if c.level z<(if b.level y<a.level x then b.level y else a.level x)then c.level z else(if b.level y<a.level x then b.level y else a.level x))=v:=hv;simp only[mX];refine xS (xW fun K hK=>?_);simp;apply hK;refine Bw ?_;refine DC 3 (fun i tm S=>tm 1=.ptr 0 1 0 0∧tm 2=.ptr 1 1 0 0∧tm 3=.ptr 2 1 0 0∧tm 4=.ptr 3 1 0 0∧tm 5=.ptr 4 1 0 0∧tm 6=.ptr 10 1 0 0∧tm 10=.d (.int .i64 v)∧tm 11=.ptr 11 1 0 0∧tm 12=.ptr 12 1 0 0∧tm 64=.d (.int .i64 i)∧S=JH f a b c N kn memo++[.row true 3 [V3 x y z],.row true 3 [V3 (if 0<i then a.FQ x v else 0) (if 1<i then b.FQ y v else 0) (if 2<i then c.FQ z v else 0)],.row true 3 [V3 (if 0<i then a.FO x v else 0) (if 1<i then b.FO y v else 0) (if 2<i then c.FO z v else 0)]]) (i0:=0) (by omega) (by simp[JH]) ?_;rintro i tm S hi ⟨t1,t2,t3,t4,t5,t6,t10,t11,t12,t64,rfl⟩;unfold JH;rcases(by omega:i=0∨i=1∨i=2∨i=3)with rfl|rfl|rfl|rfl
  ·refine xW fun K hK=>?_;simp[t64];apply hK;refine xC ?_;simp;refine xK ?_;refine xB ?_;refine xW fun K hK=>?_;simp[t64];apply hK;refine xE [0,2,4,6,8,10,12,14,16,18,20,22,24,26,29,30,33] (by kernel_rfl) fun K hK=>?_;simp;refine xA 2 ?_;simp[t3,t6,t10];refine Ae.CA (Kf a x v hx jU) rfl (by simp[xN]) ?_;simp;refine xA 2 ?_;simp[t11];refine xX 12285 (by kernel_rfl) ?_;simp;refine xA 2 ?_;simp[t12];refine xX 7 (by kernel_rfl) ?_;simp;refine xM (hK _ _ ?_);refine xV fun K hK=>?_;simp[t64];apply hK;refine⟨_,_,AJ.refl,?_⟩;simp[t1,t2,t3,t4,t5,t6,t10,t11,t12,IntKind.wrap,IntKind.bits,IntKind.signed]
  ·refine xW fun K hK=>?_;simp[t64];apply hK;refine xC ?_;simp;refine xK ?_;refine xB ?_;refine xW fun K hK=>?_;simp[t64];apply hK;refine xE [0,2,4,6,8,10,12,14,16,18,20,22,24,26,29,30,33] (by kernel_rfl) fun K hK=>?_;simp;refine xA 2 ?_;simp[t3,t6,t10];refine Ae.CA (Kf b y v hy jU) rfl (by simp[xN]) ?_;simp;refine xA 2 ?_;simp[t11];refine xX 12285 (by kernel_rfl) ?_;simp;refine xA 2 ?_;simp[t12];refine xX 7 (by kernel_rfl) ?_;simp;refine xM (hK _ _ ?_);refine xV fun K hK=>?_;simp[t64];apply hK;refine⟨_,_,AJ.refl,?_⟩;simp[t1,t2,t3,t4,t5,t6,t10,t11,t12,IntKind.wrap,IntKind.bits,IntKind.signed]
  ·refine xW fun K hK=>?_;simp[t64];apply hK;refine xC ?_;simp;refine xK ?_;refine xB ?_;refine xW fun K hK=>?_;simp[t64];apply hK;refine xE [0,2,4,6,8,10,12,14,16,18,20,22,24,26,29,30,33] (by kernel_rfl) fun K hK=>?_;simp;refine xA 2 ?_;simp[t3,t6,t10];refine Ae.CA (Kf c z v hz jU) rfl (by simp[xN]) ?_;simp;refine xA 2 ?_;simp[t11];refine xX 12285 (by kernel_rfl) ?_;simp;refine xA 2 ?_;simp[t12];refine xX 7 (by kernel_rfl) ?_;simp;refine xM (hK _ _ ?_);refine xV fun K hK=>?_;simp[t64];apply hK;refine⟨_,_,AJ.refl,?_⟩;simp[t1,t2,t3,t4,t5,t6,t10,t11,t12,IntKind.wrap,IntKind.bits,IntKind.signed]
  ·refine xW fun K hK=>?_;simp[t64];apply hK;refine xC ?_;simp;refine Cu ?_;refine Az fun K hK=>?_;refine xJ ?_;simp[t4,t11];refine xY (c1) _ rfl rfl ?_;simp[JH];refine xJ ?_;simp;refine Aj (hK _ _ ?_);refine xD [0,2,4,6,8,11,13,14] (by kernel_rfl) fun K hK=>?_;simp;refine xA 2 ?_;simp[t4,t5,t10,t12];refine xL 3 _ (c2) (by kernel_rfl) rfl rfl ?_;simp[JH];refine Ae.Ds (xT [1,1,1]) (RA N2 kn2 v r1 r2 hN2) [5,7,8] (by kernel_rfl) rfl (by simp[U7];try rfl) ?_;simp[U7];refine xA 2 ?_;simp;refine xM (hK _ _ ?_);refine xW fun K hK=>?_;simp[t2,t6];apply hK;refine xW fun K hK=>?_;simp;apply hK;refine Ag ?_;(try simp only[xQ,reduceIte]);refine⟨_,AJ.AY 10 (by simp) (by simp) (by simp) (by simp),?_⟩;simp[Am,clean]
open Go.Proofs Tryz DT
theorem XV(i j l:Int):aV i j l=min i (min j l):=by unfold aV;split<;>split<;>omega
theorem YD{f:FuncId}{g:Bool→Bool→Bool}(hf:Mr f g)(a b c:AN)(kY:(a.nodes.length+2) * (b.nodes.length+2) * (c.nodes.length+2)<2 ^ 30):
  ∀(m:Nat) (s0 s1 s2:DT) (x y z:Int) (N:List Ah) (kn:List (Ah×Int)) (memo:List (Sy×Int)),s0.size+s1.size+s2.size≤m→AAQ a.nodes s0 x→AAQ b.nodes s1 y→AAQ c.nodes s2 z→s0.Good→s1.Good→s2.Good→CI g a b c N kn memo→∃N' kn' memo' r t,CI g a b c N' kn' memo'∧(∃M,N'=N++M)∧OP g s0 s1 s2 N' r t∧AE prog 220 (Wv x y z) (JH f a b c N kn memo) (.d (AG r)) (JH f a b c N' kn' memo'):=by
 intro m;induction m with
 |zero=>
  intro s0 s1 s2 x y z N kn memo hm h0 h1 h2 g0 g1 g2 hI;obtain⟨b0,rfl⟩:=Cs (t:=s0) (by omega);obtain⟨b1,rfl⟩:=Cs (t:=s1) (by omega);obtain⟨b2,rfl⟩:=Cs (t:=s2) (by omega);have hx:=h0.Dy.2 ⟨b0,rfl⟩;have hy:=h1.Dy.2 ⟨b1,rfl⟩;have hz:=h2.Dy.2 ⟨b2,rfl⟩;have e0:(x==1)=b0:=by simp only[AAQ]at h0;subst h0;cases b0<;>rfl
  have e1:(y==1)=b1:=by simp only[AAQ]at h1;subst h1;cases b1<;>rfl
  have hb:=Lh hf a b c (N:=N) (kn:=kn) (memo:=memo) hx hy hz;rw[e0,e1]at hb;exact⟨N,kn,memo,_,.leaf (g b0 b1),hI,⟨[],by simp⟩,⟨by simp[AAQ],trivial,fun c=>rfl,by simp[DT.level]⟩,hb⟩
 |succ m ih=>
  intro s0 s1 s2 x y z N kn memo hm h0 h1 h2 g0 g1 g2 hI;by_cases hz:s0.size=0∧s1.size=0∧s2.size=0
  ·obtain⟨b0,rfl⟩:=Cs hz.1;obtain⟨b1,rfl⟩:=Cs hz.2.1;obtain⟨b2,rfl⟩:=Cs hz.2.2;have hx:=h0.Dy.2 ⟨b0,rfl⟩;have hy:=h1.Dy.2 ⟨b1,rfl⟩;have hz:=h2.Dy.2 ⟨b2,rfl⟩;have e0:(x==1)=b0:=by simp only[AAQ]at h0;subst h0;cases b0<;>rfl
   have e1:(y==1)=b1:=by simp only[AAQ]at h1;subst h1;cases b1<;>rfl
   have hb:=Lh hf a b c (N:=N) (kn:=kn) (memo:=memo) hx hy hz;rw[e0,e1]at hb;exact⟨N,kn,memo,_,.leaf (g b0 b1),hI,⟨[],by simp⟩,⟨by simp[AAQ],trivial,fun c=>rfl,by simp[DT.level]⟩,hb⟩
  ·have hn:¬(x<2∧y<2∧z<2):=fun⟨a1,a2,a3⟩=>by
    obtain⟨b0,rfl⟩:=h0.Dy.1 a1;obtain⟨b1,rfl⟩:=h1.Dy.1 a2;obtain⟨b2,rfl⟩:=h2.Dy.1 a3;exact hz ⟨rfl,rfl,rfl⟩
   cases hl:look memo (x,y,z)with
   |some r=>
    obtain⟨t,ht⟩:=hI.memo x y z r hl s0 s1 s2 h0 h1 h2 g0 g1 g2;exact⟨N,kn,memo,r,t,hI,⟨[],by simp⟩,ht,Sc a b c hn hl⟩
   |none=>
    obtain⟨v,hv⟩:∃v,v=min s0.level (min s1.level s2.level):=⟨_,rfl⟩;have rE:=Kb g0;have jc:=Kb g1;have jT:=Kb g2;have pW:∀t:DT,t.Good→0≤t.level:=fun t ht=>by
     by_cases e:t.size=0
     ·obtain⟨b,rfl⟩:=Cs e;simp[DT.level]
     ·exact(D4 ht e).1
    have lU:v≤63:=by
     by_cases e0:s0.size=0
     ·by_cases e1:s1.size=0
      ·have:=D4 g2 (fun e2=>hz ⟨e0,e1,e2⟩);omega
      ·have:=D4 g1 e1;omega
     ·have:=D4 g0 e0;omega
    have vy:0≤v:=by have:=pW s0 g0;have:=pW s1 g1;have:=pW s2 g2;omega
    have d0:=Ik s0 v;have d1:=Ik s1 v;have d2:=Ik s2 v;have u0:=Ii s0 v;have u1:=Ii s1 v;have u2:=Ii s2 v;have nJ:s0.level=v∨s1.level=v∨s2.level=v:=by omega
    have tH:(s0.lo v).size+(s1.lo v).size+(s2.lo v).size≤m:=by
     rcases nJ with e|e|e
     ·have:=FU e (by omega);omega
     ·have:=FU e (by omega);omega
     ·have:=FU e (by omega);omega
    have tI:(s0.hi v).size+(s1.hi v).size+(s2.hi v).size≤m:=by
     rcases nJ with e|e|e
     ·have:=FJ e (by omega);omega
     ·have:=FJ e (by omega);omega
     ·have:=FJ e (by omega);omega
    obtain⟨N1,kn1,m1,r1,t1,hI1,⟨M1,e1⟩,pb,c1⟩:=ih (s0.lo v) (s1.lo v) (s2.lo v) _ _ _ N kn memo tH (h0.FQ (by omega)) (h1.FQ (by omega)) (h2.FQ (v:=v) (by omega)) (IQ g0 v) (IQ g1 v) (IQ g2 v) hI;obtain⟨N2,kn2,m2,r2,t2,hI2,⟨M2,e2⟩,qM,c2⟩:=ih (s0.hi v) (s1.hi v) (s2.hi v) _ _ _ N1 kn1 m1 tI (h0.FO (by omega)) (h1.FO (by omega)) (h2.FO (v:=v) (by omega)) (IC g0 v) (IC g1 v) (IC g2 v) hI1;have hN2:N2.length<2 ^ 30:=by have:=hI2.len;omega
    have k1:v<t1.level:=by
     have:=pb.fG;have:=KQ g0 (v:=v) (by omega) lU;have:=KQ g1 (v:=v) (by omega) lU;have:=KQ g2 (v:=v) (by omega) lU;omega
    have k2:v<t2.level:=by
     have:=qM.fG;have:=Kq g0 (v:=v) (by omega) lU;have:=Kq g1 (v:=v) (by omega) lU;have:=Kq g2 (v:=v) (by omega) lU;omega
    have hb:=VP hI2.toBK vy lU pb.GM qM.GM k1 k2 (e2▸pb.Me.mono M2) qM.Me;have hc:=Tk (f:=f) a b c hn hl h0.lt h1.lt h2.lt (by rw[XV,h0.level,h1.level,h2.level,←hv]) (by omega) hN2 c1 c2;generalize brR N2 kn2 v r1 r2=R at hb hc;obtain⟨N3,kn3,r3⟩:=R;simp only at hb hc;obtain⟨b1,⟨M3,e3⟩,b3,b4,b5⟩:=hb;have pX:OP g s0 s1 s2 N3 r3 (DT.mk v t1 t2):=by
     refine⟨b3,b4,fun cc=>?_,?_⟩
     ·rw[aU,pb.sem,qM.sem,LS (t:=s0) v,LS (t:=s1) v];cases cc v<;>rfl
     ·rw[←hv];exact Tl k1
    refine⟨N3,kn3,_,r3,_,⟨b1,fun x' y' z' r' jf u0 u1 u2 q0 q1 q2 w0 w1 w2=>?_,fun k hk=>?_⟩,⟨M1++M2++M3,by rw[e3,e2,e1];simp⟩,pX,hc⟩
    ·rw[E9]at jf;split at jf
     ·next e=>
      cases jf;simp only[Prod.mk.injEq]at e;obtain⟨rfl,rfl,rfl⟩:=e;rw[q0.uniq h0,q1.uniq h1,q2.uniq h2];exact⟨_,pX⟩
     ·obtain⟨t,ht⟩:=hI2.memo x' y' z' r' jf u0 u1 u2 q0 q1 q2 w0 w1 w2;exact⟨t,e3▸ht.mono M3⟩
    ·by_cases jy:k<N2.length
     ·obtain⟨x',y',z',u0,u1,u2,t,q0,q1,q2,q3⟩:=hI2.src k jy;exact⟨x',y',z',u0,u1,u2,t,q0,q1,q2,e3▸q3.mono M3⟩
     ·have:=b5 k (by omega) hk;subst this;exact⟨x,y,z,s0,s1,s2,_,h0,h1,h2,pX⟩
theorem NJ(N:List Ah)(kn:List (Ah×Int))(hNd:N.Nodup)(hN:N.length≤2 ^ 30)(t:DT)(n:Int)(hr:AAQ N t n):
  AE prog 141 [.ptr 0 1 0 0,.d (AG n)] (U7 N kn) (.d (AA (B2 t))) [.row true 2 [.agg [.d (AV N),.any]],.BJ (N.map AX),.map (BO AX (fun x=>.d (.int .i64 x)) kn)]:=by
 refine AE.pre (fun n=>(AJ.B6 1 (xs:=N.map AX) rfl (by simp)).trans (AJ.I4 0 (sz:=2) (els:=[.agg [.row 1 N.length,.map 2]]) [.agg [.d (AV N),.any]] (by simp[U7]) (by simp[U7]))) ?_;simp only[U7,List.set];exact(Jx N hNd hN true t n hr).Iz _ rfl (by simp) (by simp) (by simp) (by simp)
def Valid(d:AN):Prop:=∃t:DT,t.Good∧d=B2 t
theorem KD{f:FuncId}{g:Bool→Bool→Bool}(hf:Mr f g)(s0 s1:DT)(g0:s0.Good)(g1:s1.Good)
  (kY:((B2 s0).nodes.length+2) * ((B2 s1).nodes.length+2) * 2<2 ^ 30):
  ∃t:DT,t.Good∧(∀c,t.sem c=g (s0.sem c) (s1.sem c))∧AE prog 195 [.agg [.d (AV (B2 s0).nodes),.d (AG (B2 s0).root),.d (AV (B2 s1).nodes),.d (AG (B2 s1).root),.full [],.d (AG 0)],.fn (.func 196) [] [.ptr 0 1 0 0]]
    [.row true 1 [.fn (.func f) [] []]] (.d (AA (B2 t))) [.row true 1 [.fn (.func f) [] []]]:=by
 have r2:AAQ (⟨[],0⟩:AN).nodes (.leaf false) 0:=by simp[AAQ]
 obtain⟨N,kn,memo,r,t,hI,-,ht,hc⟩:=YD hf (B2 s0) (B2 s1) ⟨[],0⟩ (by simpa using kY) _ s0 s1 (.leaf false) (B2 s0).root (B2 s1).root 0 [] [] [] (Nat.le_refl _) (FD s0) (FD s1) r2 g0 g1 trivial
  ⟨BK.nil,fun x y z r h=>by simp at h,fun k hk=>absurd hk (by simp)⟩
 refine⟨t,ht.GM,ht.sem,?_⟩;unfold Wv at hc;have hN2:N.length≤2 ^ 30:=by have:=hI.len;simp only[List.length_nil,Nat.zero_add]at this;omega
 refine AE.B9 func195 (by kernel_rfl) rfl (by simp) fun wf wfs=>?_;rw[ntmps195];refine xW fun K hK=>?_;simp;apply hK;refine Az fun K hK=>?_;refine xJ ?_;simp;refine xF (LB) [] rfl ?_;simp;refine xJ ?_;simp;refine Aj (hK _ _ ?_);refine xW fun K hK=>?_;simp;apply hK;refine xW fun K hK=>?_;simp;apply hK;refine xW fun K hK=>?_;simp;apply hK;refine AW.ghost (AJ.I4 1 (sz:=6) [.d (.agg [AV (B2 s0).nodes,AG (B2 s0).root,AV (B2 s1).nodes,AG (B2 s1).root,.sl [],AG 0])] rfl (by simp)) ?_;simp;(repeat refine xS ?_);refine xE [0,2,4,6,8,10,12,14,16,18,20,22,25,27,29] (by kernel_rfl) fun K hK=>?_;simp;refine xA 2 ?_;simp;refine Ae.Ds (xT [1,0,0,0,0,0,0,0,0,0,1,0]) (hc) [2,9,1,10,7,6,8,5,4,0] (by kernel_rfl) rfl (by simp[JH];try rfl) ?_;simp[JH];refine Ae.Ds (xT [0,0,0,0,0,0,0,0,0,1]) (NJ N kn hI.YT.nodup hN2 t r ht.Me) [6,5,4] (by kernel_rfl) rfl (by simp[U7];try rfl) ?_;simp;refine xX 511 (by kernel_rfl) ?_;simp;refine xM (hK _ _ ?_);(try simp only[xQ,reduceIte]);refine Ag ?_;(try simp only[xQ,reduceIte]);refine⟨_,_,_,AJ.refl,by simp,by simp,AJ.AY 1 (by simp) (by simp) (by simp) (by simp)⟩
open Go.Proofs DT
def Il(L:List DT)(k:Nat)(t:DT):Prop:=(∃b,t=.leaf b)∨∃j,j<k∧L[j]?=some t
def Ord(L:List DT):Prop:=∀(k:Nat) v l h,L[k]?=some (.node v l h)→Il L k l∧Il L k h
theorem Il.mono{L:List DT}{k:Nat}{t:DT}(h:Il L k t)(hk:k≤L.length)(M:List DT):Il (L++M) k t:=by
 rcases h with h|⟨j,h1,h2⟩
 ·exact .inl h
 ·exact .inr ⟨j,h1,by rw[List.getElem?_append_left (by omega)];exact h2⟩
theorem Ek.fu{L:List DT}{t:DT}(h:Ek L t):Il L L.length t:=by
 rcases h with h|h
 ·exact .inl h
 ·obtain⟨j,hj,e⟩:=List.mem_iff_getElem.1 h;exact .inr ⟨j,hj,by rw[List.getElem?_eq_getElem hj,e]⟩
theorem Ord.nil:Ord []:=fun k v l h e=>by simp at e
theorem WO(t:DT):∀L,Ord L→Ord (emit t L):=by
 induction t with
 |leaf b=>intro L h;exact h
 |node v l h ihl ihh=>
  intro L hL;unfold emit;split
  ·exact hL
  ·have h1:=ihh _ (ihl L hL);intro k w a b hm;by_cases hk:k<(emit h (emit l L)).length
   ·rw[List.getElem?_append_left hk]at hm;have:=h1 k w a b hm;exact⟨this.1.mono (by omega) _,this.2.mono (by omega) _⟩
   ·have hlen:=(List.getElem?_eq_some_iff.1 hm).1;simp only[List.length_append,List.length_cons,List.length_nil]at hlen;have ek:k=(emit h (emit l L)).length:=by omega
    subst ek;simp only[List.getElem?_append_right (Nat.le_refl _),Nat.sub_self,List.getElem?_cons_zero,Option.some.injEq,DT.node.injEq]at hm;obtain⟨rfl,rfl,rfl⟩:=hm;exact⟨(I1 h (Fh l L)).fu.mono (Nat.le_refl _) _,(Fh h _).fu.mono (Nat.le_refl _) _⟩
theorem SC(t:DT):t.Good→∀L,(∀x∈L,x.Good)→∀x∈emit t L,x.Good:=by
 induction t with
 |leaf b=>intro _ L h;exact h
 |node v l h ihl ihh=>
  intro hg L hL;unfold emit;split
  ·exact hL
  ·intro x hx;rcases List.mem_append.1 hx with hx|hx
   ·exact ihh hg.2.2.2.2.2.2 _ (ihl hg.2.2.2.2.2.1 L hL) x hx
   ·simp only[List.mem_singleton]at hx;subst hx;exact hg
theorem Ow(t:DT):∀L:List DT,L.Nodup→(emit t L).Nodup:=by
 induction t with
 |leaf b=>intro L h;exact h
 |node v l h ihl ihh=>
  intro L hL;unfold emit;split
  ·exact hL
  ·next hi=>
   rw[List.nodup_append];refine⟨ihh _ (ihl L hL),by simp,?_⟩;intro a ha b hb e;simp only[List.mem_singleton]at hb;subst e;subst hb;rcases H3 _ _ _ ha with ha|ha
   ·rcases H3 _ _ _ ha with ha|ha
    ·exact hi ha
    ·simp only[DT.size]at ha;omega
   ·simp only[DT.size]at ha;omega
theorem RC(t:DT):∀L,(∀x∈L,∃v l h,x=DT.node v l h)→∀x∈emit t L,∃v l h,x=DT.node v l h:=by
 induction t with
 |leaf b=>intro L h;exact h
 |node v l h ihl ihh=>
  intro L hL;unfold emit;split
  ·exact hL
  ·intro x hx;rcases List.mem_append.1 hx with hx|hx
   ·exact ihh _ (ihl L hL) x hx
   ·simp only[List.mem_singleton]at hx;exact⟨v,l,h,hx⟩
def JD(d:AN)(k:Nat)(b:Ah):Prop:=
 0≤b.var∧b.var≤63∧0≤b.low∧0≤b.high∧b.low≤k+1∧b.high≤k+1∧b.low≠b.high∧b.var<d.level b.low∧b.var<d.level b.high
theorem Qr{L:List DT}{k:Nat}{t:DT}(hd:L.Nodup)(h:Il L k t):num L t≤k+1:=by
 cases t with
 |leaf b=>simp only[num];cases b<;>simp<;>omega
 |node v l r=>
  rcases h with⟨b,hb⟩|⟨j,h1,h2⟩
  ·exact absurd hb (by simp)
  ·obtain⟨hj,e⟩:=List.getElem?_eq_some_iff.1 h2;have:L.idxOf (DT.node v l r)=j:=by
    have:=hd.idxOf_getElem j hj;rwa [e]at this
   simp only[num,this];omega
theorem Il.Ek{L:List DT}{k:Nat}{t:DT}(h:Il L k t):Ek L t:=by
 rcases h with h|⟨j,_,h2⟩
 ·exact .inl h
 ·exact .inr (List.mem_of_getElem? h2)
theorem Vf{t:DT}(ht:t.Good):(B2 t).nodes.Nodup∧(∀k b,(B2 t).nodes[k]?=some b→JD (B2 t) k b)∧0≤(B2 t).root∧(B2 t).root≤(B2 t).nodes.length+1:=by
 have hc:=G9 t [] FN.nil;have ho:=WO t [] Ord.nil;have hg:=SC t ht [] (fun x h=>absurd h (by simp));have hd:=Ow t [] List.nodup_nil;have hn:=RC t [] (fun x h=>absurd h (by simp));have hr:=JC (Fh t []);have eqn:(B2 t).nodes=(emit t []).map (P8 (emit t [])):=rfl;have eqr:(B2 t).root=num (emit t []) t:=rfl;rw[eqr];have rep:∀s,Ek (emit t []) s→AAQ (B2 t).nodes s (num (emit t []) s):=fun s hs=>by rw[eqn];exact LQ hc hs
 refine⟨?_,fun k b hk=>?_,hr.1,by rw[eqn,List.length_map];omega⟩
 ·rw[eqn];refine List.pairwise_map.2 (hd.imp_of_mem fun {x y} hx hy dI e=>dI ?_);obtain⟨v,l,h,rfl⟩:=hn x hx;obtain⟨v',l',h',rfl⟩:=hn y hy;simp only[P8,Ah.mk.injEq]at e;obtain⟨rfl,e1,e2⟩:=e;have c1:=hc _ _ _ hx;have c2:=hc _ _ _ hy;have:=(rep l c1.1).uniq (e1▸rep l' c2.1);have:=(rep h c1.2).uniq (e2▸rep h' c2.2);subst_vars;rfl
 ·rw[eqn,List.getElem?_map,Option.map_eq_some_iff]at hk;obtain⟨x,hx,rfl⟩:=hk;have hm:=List.mem_of_getElem? hx;obtain⟨v,l,h,rfl⟩:=hn x hm;have c1:=hc _ _ _ hm;have o1:=ho _ _ _ _ hx;have g1:=hg _ hm;have r1:=JC c1.1;have r2:=JC c1.2;refine⟨g1.1,g1.2.1,r1.1,r2.1,Qr hd o1.1,Qr hd o1.2,fun e=>g1.2.2.1 ((rep l c1.1).uniq ?_),?_,?_⟩
  ·have e':num (emit t []) l=num (emit t []) h:=e;rw[e'];exact rep h c1.2
  ·simp only[P8];rw[(rep l c1.1).level];exact g1.2.2.2.1
  ·simp only[P8];rw[(rep h c1.2).level];exact g1.2.2.2.2.1
theorem Lc{d:AN}(hd:d.nodes.Nodup)(hf:∀k b,d.nodes[k]?=some b→JD d k b):J6 d.nodes:=by
 refine⟨hd,fun k=>?_⟩;induction k using Nat.strongRecOn with
 |_ k ih=>
  intro hk;obtain⟨f1,f2,f3,f4,f5,f6,f7,f8,f9⟩:=hf k _ (List.getElem?_eq_getElem hk);have get:∀n:Int,0≤n→n≤k+1→∃s,s.Good∧AAQ d.nodes s n:=fun n h0 h1=>by
   by_cases e0:n=0
   ·subst e0;exact⟨.leaf false,trivial,by simp[AAQ]⟩
   by_cases e1:n=1
   ·subst e1;exact⟨.leaf true,trivial,by simp[AAQ]⟩
   have:=ih (n - 2).toNat (by omega) (by omega);rwa [show(((n - 2).toNat:Int)+2)=n by omega]at this
  obtain⟨s,gs,rs⟩:=get _ f3 f5;obtain⟨t,gt,rt⟩:=get _ f4 f6;refine⟨.node d.nodes[k].var s t,⟨f1,f2,fun e=>f7 ?_,?_,?_,gs,gt⟩,⟨k,rfl,_,_,List.getElem?_eq_getElem hk,rs,rt⟩⟩
  ·subst e;exact rs.inj hd rt
  ·rw[←rs.level];exact f8
  ·rw[←rt.level];exact f9
open Classical in
noncomputable def HW(d:AN):Int:=if d.nodes.length>4096 then 2 else if Valid d then 0 else 20
theorem Ky{t:DT}(h:HW (B2 t)=0):(B2 t).nodes.length≤4096:=by
 unfold HW at h;split at h
 ·simp at h
 ·omega
theorem JA{d:AN}(h:HW d=0):Valid d:=by
 unfold HW at h;split at h
 ·simp at h
 ·split at h
  ·assumption
  ·simp at h
theorem Kh{d:AN}(h:Valid d):J6 d.nodes∧(∀k b,d.nodes[k]?=some b→JD d k b)∧0≤d.root∧d.root≤d.nodes.length+1:=by
 obtain⟨t,ht,rfl⟩:=h;obtain⟨h1,h2,h3,h4⟩:=Vf ht;exact⟨Lc h1 h2,h2,h3,h4⟩
end Go.Koi
