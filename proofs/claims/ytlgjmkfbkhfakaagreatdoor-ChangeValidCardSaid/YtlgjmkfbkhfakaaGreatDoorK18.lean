/- Part 19 of the proof that the law ChangeValid returns true for every input. -/
import Derived.Test.YtlgjmkfbkhfakaaGreatDoorK17
set_option maxHeartbeats 64000000
set_option maxRecDepth 100000
namespace Go.Koi
open Go.Proofs Tryz DT
def ACl:Nat→List (Int→Bool)
 |0=>[fun _=>false]
 |n+1=>ACl n++(ACl n).map fun c=>DT.EJ c n true
theorem OC(c:Int→Bool):∀n:Nat,∃c'∈ACl n,∀v:Int,0≤v→v<n→c' v=c v
 |0=>⟨fun _=>false,by simp[ACl],fun v h0 h1=>absurd h1 (by omega)⟩
 |n+1=>by
  obtain⟨c',hc,h⟩:=OC c n;by_cases e:c n=true
  ·refine⟨DT.EJ c' n true,List.mem_append_right _ (List.mem_map.2 ⟨c',hc,rfl⟩),fun v h0 h1=>?_⟩;simp only[DT.EJ];by_cases ev:v=n
   ·subst ev;rw[if_pos rfl,e]
   ·rw[if_neg ev];exact h v h0 (by omega)
  ·have hz:∀(k:Nat),∀x∈ACl k,∀v:Int,(k:Int)≤v→x v=false:=by
    intro k;induction k with
    |zero=>intro x hx v _;simp[ACl]at hx;subst hx;rfl
    |succ k ih=>
     intro x hx v hv;rcases List.mem_append.1 hx with hx|hx
     ·exact ih x hx v (by omega)
     ·obtain⟨y,hy,rfl⟩:=List.mem_map.1 hx;simp only[DT.EJ];rw[if_neg (by omega)];exact ih y hy v (by omega)
   refine⟨c',List.mem_append_left _ hc,fun v h0 h1=>?_⟩;by_cases ev:v=n
   ·subst ev;rw[hz n c' hc n (Int.le_refl _)];cases hh:c n with
    |false=>rfl
    |true=>exact absurd hh e
   ·exact h v h0 (by omega)
theorem LY{n:Nat}{t:DT}(h:D9 n t){c c':Int→Bool}(hc:∀v:Int,0≤v→v<n→c' v=c v):t.sem c'=t.sem c:=by
 obtain⟨hg,hb⟩:=h;induction t with
 |leaf b=>rfl
 |node w l r ihl ihr=>
  simp only[DT.sem];rw[hc w hg.1 hb.1,ihl hg.2.2.2.2.2.1 hb.2.1,ihr hg.2.2.2.2.2.2 hb.2.2]
theorem Lg{α:Type}{p q:α→Bool}:∀{l:List α},(∀x∈l,p x=true→q x=true)→(∃x∈l,q x=true∧p x=false)→l.countP p<l.countP q
 |[],_,h=>by obtain⟨x,hx,_⟩:=h;simp at hx
 |x::l,h1,h2=>by
  have hle:l.countP p≤l.countP q:=List.countP_mono_left fun y hy hp=>h1 y (by simp[hy]) hp;rw[List.countP_cons,List.countP_cons];obtain⟨y,hy,hq,hp⟩:=h2;rcases List.mem_cons.1 hy with rfl|hy
  ·simp only[hq,hp,if_true];simp;omega
  ·have:=Lg (fun z hz=>h1 z (by simp[hz])) ⟨y,hy,hq,hp⟩;have hx:=h1 x (by simp);by_cases e:p x=true
   ·simp only[e,hx e,if_true];omega
   ·rw[if_neg e];split<;>omega
def outs(n:Nat)(t:DT):Nat:=(ACl n).countP fun c=>!t.sem c
theorem Xe{n:Nat}{s t:DT}(hs:D9 n s)(ht:D9 n t)(h:∀c,s.sem c=true→t.sem c=true)(dI:s≠t):outs n t<outs n s:=by
 refine Lg (fun c _ hc=>?_) ?_
 ·simp only[Bool.not_eq_true']at hc⊢;cases e:s.sem c with
  |false=>rfl
  |true=>rw[h c e]at hc;cases hc
 ·have:¬∀c,s.sem c=t.sem c:=fun hh=>dI (DT.unique hs.GM ht.GM hh);obtain⟨c,hc⟩:=Classical.not_forall.1 this;obtain⟨c',hm,ha⟩:=OC c n;refine⟨c',hm,?_⟩;rw[LY hs ha,LY ht ha];cases e1:s.sem c with
  |true=>exact absurd (e1.trans (h c e1).symm) hc
  |false=>cases e2:t.sem c with
   |true=>simp
   |false=>exact absurd (e1.trans e2.symm) hc
theorem XS{n:Nat}{s t:DT}(h:∀c,s.sem c=true→t.sem c=true):outs n t≤outs n s:=
 List.countP_mono_left fun c _ hc=>by
  simp only[Bool.not_eq_true']at hc⊢;cases e:s.sem c with
  |false=>rfl
  |true=>rw[h c e]at hc;cases hc
noncomputable def mu{α:Type}[DecidableEq α](n:Nat)(ks:List α)(m:List (α×DT)):Nat:=(ks.map fun k=>outs n (EN m k)).sum
theorem Qx{α:Type}[DecidableEq α](m:List (α×DT))(k:α)(t:DT)(j:α):EN (CU m k t) j=if j=k then t else EN m j:=by
 unfold EN;rw[E9];split<;>rfl
theorem VQ{α:Type}{f g:α→Nat}:∀{l:List α},(∀x∈l,f x≤g x)→(l.map f).sum≤(l.map g).sum
 |[],_=>Nat.le_refl _
 |x::l,h=>by
  have h1:=h x (by simp);have h2:=VQ (l:=l) fun y hy=>h y (by simp[hy]);simp only[List.map_cons,List.sum_cons];omega
theorem V0{α:Type}{f g:α→Nat}:∀{l:List α},(∀x∈l,f x≤g x)→(∃x∈l,f x<g x)→(l.map f).sum<(l.map g).sum
 |[],_,h=>by obtain⟨x,hx,_⟩:=h;simp at hx
 |x::l,h,h'=>by
  have h1:=h x (by simp);have h2:=VQ (l:=l) fun y hy=>h y (by simp[hy]);simp only[List.map_cons,List.sum_cons];obtain⟨y,hy,cx⟩:=h';rcases List.mem_cons.1 hy with rfl|hy
  ·omega
  ·have:=V0 (l:=l) (fun y hy=>h y (by simp[hy])) ⟨y,hy,cx⟩;omega
theorem ADv{α:Type}[DecidableEq α]{n:Nat}{ks:List α}{m:List (α×DT)}{k:α}{t:DT}(hk:k∈ks)(hm:D9 n (EN m k))(ht:D9 n t)(h:∀c,(EN m k).sem c=true→t.sem c=true)(dI:EN m k≠t):
  mu n ks (CU m k t)<mu n ks m:=by
 refine V0 (fun j _=>?_) ⟨k,hk,?_⟩
 ·rw[Qx];split
  ·next e=>subst e;exact XS h
  ·exact Nat.le_refl _
 ·rw[Qx,if_pos rfl];exact Xe hm ht h dI
theorem XL{n:Nat}(hn:n≤12){ks:List Int}{m:List (Int×DT)}(hm:F2 n m)(ch:Bool){k:Int}(hk:k∈ks){d:DT}(hd:D9 n d):
  Gw m ch k d=(m,ch)∨((Gw m ch k d).2=true∧mu n ks (Gw m ch k d).1<mu n ks m):=by
 obtain⟨o1,o2,_⟩:=EP Hu hn (hm.at k) hd;unfold Gw;split
 ·exact .inl rfl
 ·split
  ·exact .inl rfl
  ·next dI=>exact .inr ⟨rfl,ADv hk (hm.at k) o1 (fun c hc=>by show(Oz or (EN m k) d).sem c=true;rw[o2,hc];rfl) dI⟩
theorem Li{n:Nat}(hn:n≤12)(empty:Bool){ks:List Int}:∀(l:List (AT×DT)) (s:List (Int×DT)×Bool),F2 n s.1→eM n l→(∀p∈l,p.1.left∈ks)→mu n ks (Cm empty l s).1≤mu n ks s.1∧((Cm empty l s).2=true→s.2=true∨mu n ks (Cm empty l s).1<mu n ks s.1)
 |[],s,_,_,_=>⟨Nat.le_refl _,fun h=>.inl h⟩
 |p::l,s,hs,hl,hk=>by
  have hp:=hl p (by simp);obtain⟨i1,i2⟩:=Li hn empty l (EM empty s p) (NS hn empty hs hp) (fun q hq=>hl q (by simp[hq])) (fun q hq=>hk q (by simp[hq]));have e:Cm empty (p::l) s=Cm empty l (EM empty s p):=rfl;rw[e];have gn:EM empty s p=s∨((EM empty s p).2=true∧mu n ks (EM empty s p).1<mu n ks s.1):=by
   unfold EM;split
   ·exact .inl rfl
   ·exact XL hn hs s.2 (hk p (by simp)) (HK hn hs _ hp)
  rcases gn with gn|⟨h1,h2⟩
  ·rw[gn]at i1 i2⊢;exact⟨i1,i2⟩
  ·exact⟨by omega,fun _=>.inr (by omega)⟩
noncomputable def ACZ(empty:Bool)(l:List (AT×DT)):Nat→List (Int×DT)→List (Int×DT)
 |0,m=>m
 |f+1,m=>if(Cm empty l (m,false)).2 then ACZ empty l f (Cm empty l (m,false)).1 else(Cm empty l (m,false)).1
def Vj(g:AF)(ps:List DT)(empty:Bool)(m:List (Int×DT)):Sg:=
 [.row true 1 [.ptr 4 1 0 0],.row true 1 [.d (.bool empty)],.row true 1 [.map 3],mI m,.row true 10 [.d (C6 g ps)]]
theorem VC{n:Nat}(hn:n≤12)(g:AF)(ps:List DT)(hlen:ps.length=g.AD.length)(kZ:∀t∈ps,D9 n t)(empty:Bool)(m:List (Int×DT))(hm:F2 n m):
  ∃m',F2 n m'∧m'=ACZ empty (g.AD.zip ps) (mu n (g.AD.map (·.left)) m+1) m∧AE prog 162 [.map 3,.fn (.func 163) [] [.ptr 0 1 0 0,.ptr 1 1 0 0,.ptr 2 1 0 0]] (Vj g ps empty m) (.Bd []) (Vj g ps empty m'):=by
 have hL:eM n (g.AD.zip ps):=fun p hp=>kZ _ (List.of_mem_zip hp).2;have hKs:∀p∈g.AD.zip ps,p.1.left∈g.AD.map (·.left):=fun p hp=>List.mem_map.2 ⟨p.1,(List.of_mem_zip hp).1,rfl⟩;obtain⟨F,hF⟩:∃F,F=ACZ empty (g.AD.zip ps) (mu n (g.AD.map (·.left)) m+1) m:=⟨_,rfl⟩;have tJ:∀(f:Nat) m,F2 n m→F2 n (ACZ empty (g.AD.zip ps) f m):=by
  intro f;induction f with
  |zero=>intro m h;exact h
  |succ f ih=>
   intro m h;have:=HS hn empty (g.AD.zip ps) (s:=(m,false)) h hL;simp only[ACZ];split
   ·exact ih _ this
   ·exact this
 refine⟨F,hF▸tJ _ _ hm,hF,?_⟩;refine AE.AI func162 (by kernel_rfl) rfl (by simp) fun wf wfs=>?_;rw[ntmps162];unfold Vj;refine xW fun K hK=>?_;simp;apply hK;refine xW fun K hK=>?_;simp;apply hK;refine Bw ?_;refine AW.loop (fun k tm S=>tm 1=.fn (.func 163) [] [.ptr 0 1 0 0,.ptr 1 1 0 0,.ptr 2 1 0 0]∧tm 2=.ptr 5 1 0 0∧tm 4=.ptr 6 1 0 0∧∃m' ch,F2 n m'∧S=Vj g ps empty m'++[.row true 1 [.map 3],.row true 1 [.d (.bool ch)]]∧((ch=true∧mu n (g.AD.map (·.left)) m'<k∧ACZ empty (g.AD.zip ps) k m'=F)∨(ch=false∧m'=F))) ⟨mu n (g.AD.map (·.left)) m+1,_,_,AJ.refl,by simp,by simp,by simp,m,true,hm,rfl,.inl ⟨rfl,Nat.lt_succ_self _,hF.symm⟩⟩ ?_;rintro k tm S ⟨t1,t2,t4,m',ch,iS,rfl,jO⟩;rcases jO with⟨rfl,hk,hf⟩|⟨rfl,rfl⟩
 ·obtain⟨k,rfl⟩:∃k',k=k'+1:=⟨k - 1,by omega⟩;obtain⟨q1,q2⟩:=Li hn empty (ks:=g.AD.map (·.left)) (g.AD.zip ps) (m',false) iS hL hKs;have q3:=HS hn empty (g.AD.zip ps) (s:=(m',false)) iS hL;have hc:=Uw hn g ps hlen kZ empty m' iS false;simp only[ACZ]at hf;generalize Cm empty (g.AD.zip ps) (m',false)=R at q1 q2 q3 hc hf;unfold Vj;refine xS (xW fun K hK=>?_);simp[t4];apply hK;refine AU ?_;simp;refine xK ?_;refine xB ?_;refine xW fun K hK=>?_;simp[t4];apply hK;refine BX fun K hK=>?_;refine xJ ?_;simp[t1,t2,t4];refine xF (hc) [0,1,2,5,6,3,4] rfl ?_;simp[SB,addFn];refine xJ ?_;simp;refine Aj (hK _ _ ?_);refine xW fun K hK=>?_;simp[t4];apply hK;refine xV fun K hK=>?_;simp;apply hK;refine⟨if R.2 then k else 0,?_,_,_,AJ.Cy [0,1,2,3,4,5,7] (S0:=Vj g ps empty R.1++[.row true 1 [.map 3],.row true 1 [.d (.bool R.2)]]) ?_ ?_ ?_,?_⟩
  ·split<;>omega
  ·simp[Vj]
  ·simp
  ·rfl
  ·simp[pick,t1,t2];refine⟨⟨by decide,by decide⟩,by decide,by decide,R.1,q3,?_⟩;cases hR2:R.2 with
   |false=>exact .inl ⟨by simp[Vj],by simpa[hR2]using hf⟩
   |true=>
    have hq:mu n (g.AD.map (·.left)) R.1<mu n (g.AD.map (·.left)) m':=by
     rcases q2 hR2 with h|h
     ·cases h
     ·exact h
    exact .inr ⟨by simp[Vj],by simp;omega,by simpa[hR2]using hf⟩
 ·unfold Vj;refine xS (xW fun K hK=>?_);simp[t4];apply hK;refine AU ?_;simp;refine Cu ?_;refine⟨_,AJ.AY 5 (by simp) (by simp) (by simp) (by simp),?_⟩;simp[Am]
def Em(g:AF)(ps:List DT):O:=.row true 10 [.d (C6 g ps)]
noncomputable def fM(n:Nat)(empty:Bool)(g:AF)(ps:List DT):List (Int×DT):=ACZ empty (g.AD.zip ps) (mu n (g.AD.map (·.left)) []+1) []
theorem Mw{n:Nat}(hn:n≤12)(g:AF)(ps:List DT)(hlen:ps.length=g.AD.length)(kZ:∀t∈ps,D9 n t)(empty:Bool):
  ∃m,F2 n m∧m=fM n empty g ps∧AE prog 111 [.ptr 0 1 0 0,.d (.bool empty)] [Em g ps] (.map 1) [Em g ps,mI m]:=by
 obtain⟨m,hm,he,hc⟩:=VC hn g ps hlen kZ empty [] (fun p hp=>absurd hp (by simp));refine⟨m,hm,he,?_⟩;refine AE.AI func111 (by kernel_rfl) rfl (by simp) fun wf wfs=>?_;rw[ntmps111];unfold Em;refine xW fun K hK=>?_;simp;apply hK;refine xW fun K hK=>?_;simp;apply hK;refine Az fun K hK=>?_;refine xJ ?_;simp;refine xF (hc) [1,2,4,3,0] rfl ?_;simp[Vj];refine xJ ?_;simp;refine Aj (hK _ _ ?_);refine xW fun K hK=>?_;simp;apply hK;refine Ag ?_;(try simp only[xQ,reduceIte]);refine⟨_,AJ.Cy [0,3] ?_ ?_ ?_,?_⟩
 ·simp
 ·simp
 ·rfl
 ·simp[Am,pick];try decide
open Go.Proofs Tryz DT
abbrev Pr:=Int×Int
def GN(t:Pr):D:=.agg [.int .i64 t.1,.int .i64 t.2]
theorem ZI(a b:Pr):deq (GN a) (GN b)=decide (a=b):=by
 obtain⟨a1,a2⟩:=a;obtain⟨b1,b2⟩:=b;rw[Bool.eq_iff_iff];simp[deq,AAT,GN]
section
variable {β:Type} {ev:β→V}
@[simp] theorem eE(l:List (Pr×β))(a b:Int):A4 (BO GN ev l) (.agg [.int .i64 a,.int .i64 b])=(look l (a,b)).map ev:=D1 ZI l (a,b)
@[simp] theorem fA(l:List (Pr×DT))(a b:Int)(t:DT):DU (BO GN vT l) (.agg [.int .i64 a,.int .i64 b]) (.d (AA (B2 t)))=BO GN vT (CU l (a,b) t):=C9 (ev:=vT) ZI l (a,b) t
@[simp] theorem bC(l:List (Pr×β)):AAR (.cells [.int .i64,.int .i64]) (BO GN ev l)=True:=eq_true (Dx (by intro a;simp[AAV,AAU,AAX,GN]) l)
end
def m2(m:List (Pr×DT)):O:=.map (BO GN vT m)
attribute [simp] m2
theorem Zp(m:List (Pr×DT))(a b:Int):AE prog 115 [.map 0,.agg [.d (.int .i64 a),.d (.int .i64 b)]] [m2 m] (.d (AA (B2 (EN m (a,b))))) [m2 m]:=by
 refine AE.B9 func115 (by kernel_rfl) rfl (by simp) fun wf wfs=>?_;rw[ntmps115];unfold m2;(repeat refine xS ?_);refine xV fun K hK=>?_;simp;refine hK _ _ ?_;(try simp only[xQ,reduceIte]);cases hl:look m (a,b)with
 |some t=>
  have e:EN m (a,b)=t:=by simp[EN,hl]
  rw[e];refine xS (xW fun K hK=>?_);simp[hl,vT];apply hK;refine xW fun K hK=>?_;simp;apply hK;refine AU ?_;simp;refine xW fun K hK=>?_;simp;apply hK;refine Ag ?_;(try simp only[xQ,reduceIte]);refine⟨_,_,_,AJ.refl,by simp,by simp,AJ.AY 1 (by simp) (by simp) (by simp) (by simp)⟩
 |none=>
  have e:EN m (a,b)=.leaf false:=by simp[EN,hl]
  rw[e];refine xS (xW fun K hK=>?_);simp[hl];apply hK;refine xW fun K hK=>?_;simp;apply hK;refine AU ?_;simp;refine xK ?_;(repeat refine xS ?_);refine BX fun K hK=>?_;refine xJ ?_;simp;refine Bp (Fb false) rfl (by simp) ?_;simp;refine xJ ?_;simp;refine Aj (hK _ _ ?_);(try simp only[xQ,reduceIte]);refine Ag ?_;(try simp only[xQ,reduceIte]);refine⟨_,_,_,AJ.refl,by simp,by simp[Ed,AA],AJ.AY 1 (by simp) (by simp) (by simp) (by simp)⟩
theorem OZ:∀{xs:List V},ABP xs↔∀x∈xs,WFV x
 |[]=>by simp[ABP]
 |x::xs=>by simp[ABP,OZ (xs:=xs)]
open Classical in
noncomputable def Eu(st:List (Pr×DT))(fr:Int)(d:DT)(s:List (Int×DT)×List Int)(m:Int):List (Int×DT)×List Int:=
 if EN s.1 m=Wf (EN s.1 m) (HT d (EN st (fr,m)))then s else(CU s.1 m (Wf (EN s.1 m) (HT d (EN st (fr,m)))),s.2++[m])
noncomputable def visitM(st:List (Pr×DT))(fr:Int)(d:DT)(l:List Int)(s:List (Int×DT)×List Int):List (Int×DT)×List Int:=l.foldl (Eu st fr d) s
theorem OV(st:List (Pr×DT))(fr:Int)(d:DT)(l:List Int)(s:List (Int×DT)×List Int){i:Nat}(hi:i<l.length):visitM st fr d (l.take (i+1)) s=Eu st fr d (visitM st fr d (l.take i) s) l[i]:=by
 unfold visitM;rw[List.take_succ_eq_append_getElem hi,List.foldl_append];rfl
theorem RL(st:List (Pr×DT))(fr:Int)(d:DT)(s:List (Int×DT)×List Int)(m:Int):s.2.length≤(Eu st fr d s m).2.length:=by
 unfold Eu;split
 ·exact Nat.le_refl _
 ·simp
theorem Hr(st:List (Pr×DT))(fr:Int)(d:DT):∀(l:List Int) (s:List (Int×DT)×List Int),s.2.length≤(visitM st fr d l s).2.length
 |[],_=>Nat.le_refl _
 |m::l,s=>Nat.le_trans (RL st fr d s m) (Hr st fr d l _)
theorem VD{n:Nat}(hn:n≤12){st:List (Pr×DT)}(gn:F2 n st){fr:Int}{d:DT}(hd:D9 n d){s:List (Int×DT)×List Int}(hs:F2 n s.1){m:Int}{ks:List Int}(hm:m∈ks):
  F2 n (Eu st fr d s m).1∧(Eu st fr d s m).2.length+mu n ks (Eu st fr d s m).1≤s.2.length+mu n ks s.1∧(Eu st fr d s m).2.length+2 * mu n ks (Eu st fr d s m).1≤s.2.length+2 * mu n ks s.1:=by
 obtain⟨a1,a2,_⟩:=EP Fe hn hd (gn.at (fr,m));obtain⟨o1,o2,_⟩:=EP Hu hn (hs.at m) a1;unfold Eu;split
 ·exact⟨hs,Nat.le_refl _,Nat.le_refl _⟩
 ·next dI=>
  have h1:=ADv (ks:=ks) hm (hs.at m) o1 (fun c hc=>by rw[o2,hc];rfl) dI;refine⟨hs.put m o1,?_,?_⟩
  ·simp only[List.length_append,List.length_cons,List.length_nil];have:mu n ks (CU s.1 m (Wf (EN s.1 m) (HT d (EN st (fr,m)))))<mu n ks s.1:=h1;omega
  ·simp only[List.length_append,List.length_cons,List.length_nil];have:mu n ks (CU s.1 m (Wf (EN s.1 m) (HT d (EN st (fr,m)))))<mu n ks s.1:=h1;omega
theorem HH{n:Nat}(hn:n≤12){st:List (Pr×DT)}(gn:F2 n st){fr:Int}{d:DT}(hd:D9 n d){ks:List Int}:∀(l:List Int) {s:List (Int×DT)×List Int},(∀m∈l,m∈ks)→F2 n s.1→F2 n (visitM st fr d l s).1∧(visitM st fr d l s).2.length+mu n ks (visitM st fr d l s).1≤s.2.length+mu n ks s.1∧(visitM st fr d l s).2.length+2 * mu n ks (visitM st fr d l s).1≤s.2.length+2 * mu n ks s.1
 |[],_,_,hs=>⟨hs,Nat.le_refl _,Nat.le_refl _⟩
 |m::l,s,hl,hs=>by
  obtain⟨h1,h2,h3⟩:=VD hn gn (fr:=fr) hd hs (hl m (by simp));obtain⟨i1,i2,i3⟩:=HH hn gn (fr:=fr) hd (ks:=ks) l (fun x hx=>hl x (by simp[hx])) h1;have e:visitM st fr d (m::l) s=visitM st fr d l (Eu st fr d s m):=rfl;rw[e];exact⟨i1,by omega,by omega⟩
def vI(l:List Int):V:=.d (.sl (l.map (D.int .i64)))
def Sp(nx:List (Int×List Int))(st:List (Pr×DT))(rch:List (Int×DT))(wq:Bool)(q:List Int):Sg:=
 [.row true 1 [.map 4],.row true 1 [.map 5],.row true 1 [.map 6],.row true 1 [.row 7 q.length],.map (BO (D.int .i64) vI nx),mI rch,m2 st,.row wq 1 (q.map fun x=>.d (.int .i64 x))]
@[simp] theorem Vd{α:Type}{ek:α→D}{k:Nat}(l:List (α×List Int)):(BO ek vI l).all (fun e=>AAB k e.2)=true:=by
 rw[List.all_eq_true];intro p hp;simp only[BO,List.mem_map]at hp;obtain⟨q,_,rfl⟩:=hp;rfl
@[simp] theorem fR{α:Type}(ρ:Nat→Nat)(ek:α→D)(l:List (α×List Int)):(BO ek vI l).map (fun p=>(p.1,AAO ρ p.2))=BO ek vI l:=by
 unfold BO;rw[List.map_map];rfl
theorem Lm{n:Nat}(hn:n≤12)(nx:List (Int×List Int))(st:List (Pr×DT))(gn:F2 n st)(rch:List (Int×DT))(hr:F2 n rch)(wq:Bool)(q:List Int)(fr:Int)(d:DT)(hd:D9 n d)
  (ks:List Int) (o6:∀m∈(look nx fr).getD [],m∈ks) (hq:q.length+mu n ks rch≤2 ^ 29):
  ∃wq',((visitM st fr d ((look nx fr).getD []) (rch,q)).2.length=q.length∨wq'=true)∧(wq=true→wq'=true)∧AE prog 116 [.d (AG fr),.d (AA (B2 d)),.ptr 0 1 0 0,.ptr 1 1 0 0,.ptr 2 1 0 0,.ptr 3 1 0 0] (Sp nx st rch wq q) (.Bd [])
   (Sp nx st (visitM st fr d ((look nx fr).getD []) (rch,q)).1 wq' (visitM st fr d ((look nx fr).getD []) (rch,q)).2):=by
 cases hl:look nx fr with
 |none=>
  refine⟨wq,.inl rfl,id,?_⟩;have e:visitM st fr d ((none:Option (List Int)).getD []) (rch,q)=(rch,q):=rfl;rw[e];refine AE.AI func116 (by kernel_rfl) rfl (by simp) fun wf wfs=>?_;rw[ntmps116];unfold Sp mI m2;refine xW fun K hK=>?_;simp;apply hK;refine xW fun K hK=>?_;simp[hl];apply hK;refine Bw ?_;refine DC 0 (fun i tm S=>tm 15=.d (.int .i64 0)∧tm 16=.d (.int .i64 0)∧i=0∧S=Sp nx st rch wq q++[.row true 2 [.d (AA (B2 d))]]) (i0:=0) (Nat.le_refl _) (by simp[Sp]) ?_;rintro i tm S hi ⟨t15,t16,rfl,rfl⟩;unfold Sp mI m2;refine xW fun K hK=>?_;simp[t15,t16];apply hK;refine xC ?_;simp;refine Cu ?_;refine⟨_,AJ.AY 8 (by simp) (by simp) (by simp) (by simp),?_⟩;simp[Am]
 |some l=>
  rw[hl]at o6;simp only[Option.getD_some]at o6⊢;refine⟨wq||decide (q.length<(visitM st fr d l (rch,q)).2.length),?_,fun h=>by simp[h],?_⟩
  ·rcases Nat.lt_or_ge q.length (visitM st fr d l (rch,q)).2.length with h|h
   ·right;simp[h]
   ·left;have:=Hr st fr d l (rch,q);simp only at this;omega
  refine AE.AI func116 (by kernel_rfl) rfl (by simp) fun wf wfs=>?_;rw[ntmps116];have a1:l.length≤maxLen:=by
   have h:=wfs.2.2.2.2.1;simp only[WFO]at h;have h2:=(OZ.1 h.2) (vI l) (by simp only[BO,List.mem_map];exact⟨(.int .i64 fr,vI l),⟨(fr,l),F3 hl,rfl⟩,rfl⟩);simpa[vI,WFV,WFD]using h2.1
  unfold Sp mI m2;refine xW fun K hK=>?_;simp;apply hK;refine xW fun K hK=>?_;simp[hl,vI];apply hK;refine Bw ?_;refine DC l.length (fun i tm S=>tm 0=.d (.int .i64 fr)∧tm 3=.ptr 1 1 0 0∧tm 4=.ptr 2 1 0 0∧tm 5=.ptr 3 1 0 0∧tm 7=.ptr 8 1 0 0∧tm 14=.d (.sl (l.map (D.int .i64)))∧tm 15=.d (.int .i64 l.length)∧tm 16=.d (.int .i64 i)∧S=Sp nx st (visitM st fr d (l.take i) (rch,q)).1 (wq||decide (q.length<(visitM st fr d (l.take i) (rch,q)).2.length)) (visitM st fr d (l.take i) (rch,q)).2++[.row true 2 [.d (AA (B2 d))]]) (i0:=0) (Nat.zero_le _) (by simp[Sp,visitM]) ?_;rintro i tm S hi ⟨t0,t3,t4,t5,t7,t14,t15,t16,rfl⟩;generalize hR:visitM st fr d (l.take i) (rch,q)=R;obtain⟨k1,k2,k3⟩:=HH hn gn (fr:=fr) hd (ks:=ks) (l.take i) (s:=(rch,q)) (fun m hm=>o6 m (List.mem_of_mem_take hm)) hr;rw[hR]at k1 k2 k3;simp only at k2 k3;have k4:q.length≤R.2.length:=by rw[←hR];exact Hr st fr d (l.take i) (rch,q)
  unfold Sp mI m2;refine xW fun K hK=>?_;simp[t15,t16];apply hK;refine xC ?_;simp;refine⟨fun cx=>?_,fun hO=>?_⟩
  ·have iK:visitM st fr d (l.take (i+1)) (rch,q)=Eu st fr d R l[i]:=by rw[OV _ _ _ _ _ cx,hR]
   obtain⟨X,hX⟩:∃X,X=Oz and d (EN st (fr,l[i])):=⟨_,rfl⟩;obtain⟨A,hA⟩:∃A,A=EN R.1 l[i]:=⟨_,rfl⟩;obtain⟨Y,hY⟩:∃Y,Y=Oz or A X:=⟨_,rfl⟩;obtain⟨a1',a2',a3'⟩:=EP Fe hn hd (gn.at (fr,l[i]));rw[←hX]at a1' a3';obtain⟨o1,o2,o3⟩:=EP Hu hn (k1.at l[i]) a1';rw[←hA,←hY]at o3;have pZ:Eu st fr d R l[i]=if A=Y then R else(CU R.1 l[i] Y,R.2++[l[i]]):=by
    unfold Eu;rw[hY,hA,hX];rfl
   have lZ:R.2.length≤1073741823:=by omega
   rw[iK,pZ];have gz:=QI R.1 l[i];rw[←hA]at gz;refine xK ?_;refine xB ?_;refine xW fun K hK=>?_;simp[t14,t16,cx];apply hK;(repeat refine xS ?_);refine BX fun K hK=>?_;refine xJ ?_;simp[t3];refine xF (gz) [5] rfl ?_;simp[mI];refine xJ ?_;simp;refine Aj (hK _ _ ?_);(try simp only[xQ,reduceIte]);cases jx:look st (fr,l[i])with
   |none=>
    have e1:EN st (fr,l[i])=.leaf false:=by simp[EN,jx]
    have a3'':Du and (B2 d) ⟨[],0⟩=(B2 X,0):=by rw[←a3',e1];rfl
    refine xD [0,2,4,6,8,10,12,14,16,18,20,22,24,26,28,31,33] (by kernel_rfl) fun K hK=>?_;simp;refine xA 1 ?_;simp[t7,t4,t0,jx];refine Bj (I2 (B2 d) (B2 (EN st (fr,l[i])))) rfl (by simp[e1,Ed,xN]) ?_;simp[e1,a3'',Ed];refine xA 1 ?_;simp;refine Bj (E4 (B2 X)) rfl (by simp[xN]) ?_;simp;refine xA 1 ?_;simp;refine Bj (QH (B2 A) (B2 X)) rfl (by simp[xN]) ?_;simp[o3];refine xA 1 ?_;simp;refine Bj (E4 (B2 Y)) rfl (by simp[xN]) ?_;simp;refine xX 0 (by kernel_rfl) ?_;simp[AR,Al,t7,t4,t0,jx];refine xX 32767 (by kernel_rfl) ?_;simp;refine xM (hK _ _ ?_);refine Az fun K hK=>?_;refine xJ ?_;simp;refine Bp (E0 (B2 A) (B2 Y)) rfl (by simp[xN]) ?_;simp;refine xJ ?_;simp;refine Aj (hK _ _ ?_);refine AU ?_;simp;refine⟨fun dI=>?_,fun he=>?_⟩
    ·have p5:¬A=Y:=fun e=>dI (congrArg B2 e);rw[if_neg p5];refine xW fun K hK=>?_;simp[t3];apply hK;refine xV fun K hK=>?_;simp[t5,maxLen,lZ];apply hK;refine xV fun K hK=>?_;simp[t16];apply hK;refine⟨cx,_,_,AJ.drop 9 (by simp) (by simp) (by simp),?_⟩;simp[clean,t0,t3,t4,t5,t7,t14,t15,AQ cx a1];exact Or.inr (by omega)
    ·have px:A=Y:=Jt he;rw[if_pos px];refine CC ?_;refine xV fun K hK=>?_;simp[t16];apply hK;refine⟨cx,_,_,AJ.drop 9 (by simp) (by simp) (by simp),?_⟩;simp[clean,t0,t3,t4,t5,t7,t14,t15,AQ cx a1]
   |some u=>
    have e1:EN st (fr,l[i])=u:=by simp[EN,jx]
    rw[e1]at a3';refine xD [0,2,4,6,8,10,12,14,16,18,20,22,24,26,28,31,33] (by kernel_rfl) fun K hK=>?_;simp;refine xA 1 ?_;simp[t7,t4,t0,jx,vT];refine Bj (I2 (B2 d) (B2 u)) rfl (by simp[xN]) ?_;simp[a3'];refine xA 1 ?_;simp;refine Bj (E4 (B2 X)) rfl (by simp[xN]) ?_;simp;refine xA 1 ?_;simp;refine Bj (QH (B2 A) (B2 X)) rfl (by simp[xN]) ?_;simp[o3];refine xA 1 ?_;simp;refine Bj (E4 (B2 Y)) rfl (by simp[xN]) ?_;simp;refine xX 0 (by kernel_rfl) ?_;simp[AR,Al,t7,t4,t0,jx,vT];refine xX 32767 (by kernel_rfl) ?_;simp;refine xM (hK _ _ ?_);refine Az fun K hK=>?_;refine xJ ?_;simp;refine Bp (E0 (B2 A) (B2 Y)) rfl (by simp[xN]) ?_;simp;refine xJ ?_;simp;refine Aj (hK _ _ ?_);refine AU ?_;simp;refine⟨fun dI=>?_,fun he=>?_⟩
    ·have p5:¬A=Y:=fun e=>dI (congrArg B2 e);rw[if_neg p5];refine xW fun K hK=>?_;simp[t3];apply hK;refine xV fun K hK=>?_;simp[t5,maxLen,lZ];apply hK;refine xV fun K hK=>?_;simp[t16];apply hK;refine⟨cx,_,_,AJ.drop 9 (by simp) (by simp) (by simp),?_⟩;simp[clean,t0,t3,t4,t5,t7,t14,t15,AQ cx a1];exact Or.inr (by omega)
    ·have px:A=Y:=Jt he;rw[if_pos px];refine CC ?_;refine xV fun K hK=>?_;simp[t16];apply hK;refine⟨cx,_,_,AJ.drop 9 (by simp) (by simp) (by simp),?_⟩;simp[clean,t0,t3,t4,t5,t7,t14,t15,AQ cx a1]
  ·have iD:i=l.length:=by omega
   subst iD;rw[List.take_length]at hR;rw[hR];refine Cu ?_;refine⟨_,AJ.AY 8 (by simp) (by simp) (by simp) (by simp),?_⟩;simp[Am]
open Go.Proofs DT
inductive Rch(st:Int→Int→Prop)(i:Int):Int→Prop
 |one {y:Int}:st i y→Rch st i y
 |more {x y:Int}:Rch st i x→x≠i→st x y→Rch st i y
theorem Rch.mono{st st':Int→Int→Prop}{i:Int}(h:∀a b,st a b→st' a b):∀{y:Int},Rch st i y→Rch st' i y:=by
 intro y hy;induction hy with
 |one h1=>exact .one (h _ _ h1)
 |more _ dI h2 ih=>exact .more ih dI (h _ _ h2)
theorem AEB{t:DT}(hg:t.Good)(h:t≠.leaf false):∃c,t.sem c=true:=by
 by_cases hc:∃c,t.sem c=true
 ·exact hc
 ·refine absurd (DT.unique hg (t:=.leaf false) trivial fun c=>?_) h;have:¬t.sem c=true:=fun h=>hc ⟨c,h⟩;simpa[sem]using this
def sOf(st:List (Pr×DT))(c:Int→Bool)(a b:Int):Prop:=(EN st (a,b)).sem c=true
theorem AER{st:List (Pr×DT)}{c:Int→Bool}{a b:Int}(h:sOf st c a b):(a,b)∈st.map (·.1):=by
 unfold sOf EN at h;cases hl:look st (a,b)with
 |none=>rw[hl]at h;simp[sem]at h
 |some t=>exact List.mem_map.2 ⟨_,F3 hl,rfl⟩
structure AEK(st:List (Pr×DT))(fr:Int)(d:DT)(l:List Int)(s s':List (Int×DT)×List Int):Prop where
 mono:∀y c,(EN s.1 y).sem c=true→(EN s'.1 y).sem c=true
 add:∀y∈l,∀c,d.sem c=true→sOf st c fr y→(EN s'.1 y).sem c=true
 sound:∀y c,(EN s'.1 y).sem c=true→(EN s.1 y).sem c=true∨d.sem c=true∧sOf st c fr y
 DG:∀z∈s.2,z∈s'.2
 queue:∀z,EN s'.1 z≠EN s.1 z→z∈s'.2
theorem ADU{n:Nat}(hn:n≤12){st:List (Pr×DT)}(gn:F2 n st){fr:Int}{d:DT}(hd:D9 n d){s:List (Int×DT)×List Int}(hs:F2 n s.1)(m:Int):AEK st fr d [m] s (Eu st fr d s m):=by
 obtain⟨a1,a2,-⟩:=EP Fe hn hd (gn.at (fr,m));obtain⟨o1,o2,-⟩:=EP Hu hn (hs.at m) a1;unfold Eu;split
 ·next he=>
  refine⟨fun _ _ h=>h,fun y hy c h1 h2=>?_,fun _ _ h=>.inl h,fun _ h=>h,fun z h=>absurd rfl h⟩;simp only[List.mem_singleton]at hy;subst hy;rw[he];show(Oz or _ (Oz and _ _)).sem c=true
  rw[o2,a2,h1,show(EN st (fr,y)).sem c=true from h2];simp
 ·next he=>
  have gz:∀y,EN (CU s.1 m (Wf (EN s.1 m) (HT d (EN st (fr,m))))) y=if y=m then Wf (EN s.1 m) (HT d (EN st (fr,m)))else EN s.1 y:=fun y=>Qx _ _ _ _;have qL:∀c,(Wf (EN s.1 m) (HT d (EN st (fr,m)))).sem c=((EN s.1 m).sem c||(d.sem c&&(EN st (fr,m)).sem c)):=fun c=>by
   show(Oz or _ (Oz and _ _)).sem c=_
   rw[o2,a2]
  refine⟨fun y c h=>?_,fun y hy c h1 h2=>?_,fun y c h=>?_,fun z h=>List.mem_append_left _ h,fun z h=>?_⟩
  ·simp only[gz];split
   ·next e=>subst e;rw[qL,h];rfl
   ·exact h
  ·simp only[List.mem_singleton]at hy;subst hy;simp only[gz,if_true];rw[qL,h1,show(EN st (fr,y)).sem c=true from h2];simp
  ·simp only[gz]at h;split at h
   ·next e=>
    subst e;rw[qL]at h;simp only[Bool.or_eq_true,Bool.and_eq_true]at h;exact h
   ·exact .inl h
  ·simp only[gz]at h;by_cases e:z=m
   ·subst e;exact List.mem_append_right _ (by simp)
   ·rw[if_neg e]at h;exact absurd rfl h
theorem ABt{n:Nat}(hn:n≤12){st:List (Pr×DT)}(gn:F2 n st){fr:Int}{d:DT}(hd:D9 n d){ks:List Int}:∀(l:List Int) {s:List (Int×DT)×List Int},(∀m∈l,m∈ks)→F2 n s.1→AEK st fr d l s (visitM st fr d l s)
 |[],_,_,_=>⟨fun _ _ h=>h,fun _ h=>absurd h (by simp),fun _ _ h=>.inl h,fun _ h=>h,fun _ h=>absurd rfl h⟩
 |m::l,s,hl,hs=>by
  have e:visitM st fr d (m::l) s=visitM st fr d l (Eu st fr d s m):=rfl;have h1:=ADU hn gn (fr:=fr) hd hs m;have kJ:=(HH hn gn (fr:=fr) hd (ks:=ks) [m] (s:=s) (fun x hx=>hl x (by simp at hx;simp[hx])) hs).1;have h2:=ABt hn gn (fr:=fr) hd (ks:=ks) l (s:=Eu st fr d s m) (fun x hx=>hl x (by simp[hx])) kJ;rw[e];refine⟨fun y c h=>h2.mono y c (h1.mono y c h),fun y hy c a b=>?_,fun y c h=>?_,fun z h=>h2.DG z (h1.DG z h),fun z h=>?_⟩
  ·rcases List.mem_cons.1 hy with rfl|hy
   ·exact h2.mono _ c (h1.add _ (by simp) c a b)
   ·exact h2.add y hy c a b
  ·rcases h2.sound y c h with h|h
   ·exact h1.sound y c h
   ·exact .inr h
  ·by_cases e1:EN (Eu st fr d s m).1 z=EN s.1 z
   ·exact h2.queue z (by rw[e1];exact h)
   ·exact h2.DG z (h1.queue z e1)
structure RI(st:List (Pr×DT))(fam:DT)(i:Int)(rch:List (Int×DT))(q:List Int):Prop where
 sound:∀y c,(EN rch y).sem c=true→fam.sem c=true∧Rch (sOf st c) i y
 first:∀y c,fam.sem c=true→sOf st c i y→(EN rch y).sem c=true
 closed:∀x,x≠i→x∉q→∀y c,(EN rch x).sem c=true→sOf st c x y→(EN rch y).sem c=true
theorem ACN(y:Int):EN ([]:List (Int×DT)) y=.leaf false:=rfl
theorem RI.start{st:List (Pr×DT)}{fam:DT}{i:Int}{l:List Int}{s':List (Int×DT)×List Int}(hl:∀y c,sOf st c i y→y∈l)(h:AEK st i fam l ([],[]) s'):RI st fam i s'.1 s'.2:=by
 refine⟨fun y c hy=>?_,fun y c hf hs=>h.add y (hl y c hs) c hf hs,fun x hx hq y c h1 _=>?_⟩
 ·rcases h.sound y c hy with h1|h1
  ·simp only[ACN,sem]at h1;cases h1
  ·exact⟨h1.1,.one h1.2⟩
 ·have:EN s'.1 x=EN [] x:=Classical.byContradiction fun dI=>hq (h.queue x dI);rw[this,ACN]at h1;simp[sem]at h1
theorem RI.visit{st:List (Pr×DT)}{fam:DT}{i x:Int}{q l:List Int}{rch:List (Int×DT)}{s':List (Int×DT)×List Int}(R:RI st fam i rch (x::q))(hx:x≠i)(hl:∀y c,sOf st c x y→y∈l)
  (h:AEK st x (EN rch x) l (rch,q) s'):RI st fam i s'.1 s'.2:=by
 refine⟨fun y c hy=>?_,fun y c hf hs=>h.mono y c (R.first y c hf hs),fun z hz hq y c h1 h2=>?_⟩
 ·rcases h.sound y c hy with h1|h1
  ·exact R.sound y c h1
  ·have:=R.sound x c h1.1;exact⟨this.1,.more this.2 hx h1.2⟩
 ·have wH:z∉q:=fun hm=>hq (h.DG z hm);have he:EN s'.1 z=EN rch z:=Classical.byContradiction fun dI=>hq (h.queue z dI);rw[he]at h1;by_cases e:z=x
  ·subst e;exact h.add y (hl y c h2) c h1 h2
  ·exact h.mono y c (R.closed z hz (by simp[e,wH]) y c h1 h2)
theorem RI.pass{st:List (Pr×DT)}{fam:DT}{i:Int}{q:List Int}{rch:List (Int×DT)}(R:RI st fam i rch (i::q)):RI st fam i rch q:=
 ⟨R.sound,R.first,fun z hz hq=>R.closed z hz (by simp[hz,hq])⟩
theorem RI.done{st:List (Pr×DT)}{fam:DT}{i:Int}{rch:List (Int×DT)}(R:RI st fam i rch [])(y:Int)(c:Int→Bool):(EN rch y).sem c=true↔fam.sem c=true∧Rch (sOf st c) i y:=by
 refine⟨R.sound y c,?_⟩;rintro⟨hf,hr⟩;induction hr with
 |one h1=>exact R.first _ c hf h1
 |more _ dI h2 ih=>exact R.closed _ dI (by simp) _ c ih h2
def ADr(st:List (Pr×DT))(fam:DT)(k:Int)(c:Int→Bool):Prop:=fam.sem c=true∧Rch (sOf st c) k k
structure ACJ(st:List (Pr×DT))(fam:DT)(i:Nat)(out:List (Int×DT)):Prop where
 sound:∀k c,(EN out k).sem c=true→∃j:Nat,j<i∧k=j∧ADr st fam k c
 full:∀j:Nat,j<i→∀c,ADr st fam j c→(EN out j).sem c=true
theorem ACJ.nil{st:List (Pr×DT)}{fam:DT}:ACJ st fam 0 []:=⟨fun k c h=>(by simp only[ACN,sem]at h;cases h),fun j h=>absurd h (by omega)⟩
theorem ACJ.skip{st:List (Pr×DT)}{fam:DT}{i:Nat}{out:List (Int×DT)}(h:ACJ st fam i out)(gy:∀c y,¬sOf st c i y):ACJ st fam (i+1) out:=by
 refine⟨fun k c hk=>?_,fun j hj c hc=>?_⟩
 ·obtain⟨j,h1,h2⟩:=h.sound k c hk;exact⟨j,by omega,h2⟩
 ·by_cases e:j=i
  ·subst e;have:∀y,Rch (sOf st c) (j:Int) y→False:=fun y hy=>by
    induction hy with
    |one h1=>exact gy c _ h1
    |more _ _ _ ih=>exact ih
   exact(this _ hc.2).elim
  ·exact h.full j (by omega) c hc
theorem ACJ.put{st:List (Pr×DT)}{fam:DT}{i:Nat}{out rch:List (Int×DT)}(h:ACJ st fam i out)(R:RI st fam i rch []):ACJ st fam (i+1) (CU out i (EN rch i)):=by
 refine⟨fun k c hk=>?_,fun j hj c hc=>?_⟩
 ·rw[Qx]at hk;split at hk
  ·next e=>subst e;exact⟨i,by omega,rfl,(R.done _ c).1 hk⟩
  ·obtain⟨j,h1,h2⟩:=h.sound k c hk;exact⟨j,by omega,h2⟩
 ·rw[Qx];split
  ·next e=>exact(R.done _ c).2 (by rw[←e];exact hc)
  ·next e=>
   have:j≠i:=fun e2=>e (by rw[e2]);exact h.full j (by omega) c hc
theorem ACJ.found{n:Nat}{st:List (Pr×DT)}{fam:DT}{i:Nat}{out:List (Int×DT)}(h:ACJ st fam i out)(hk:Keyed out)(ho:F2 n out):(∃q∈out,q.2≠.leaf false)↔∃j:Nat,j<i∧∃c,ADr st fam j c:=by
 constructor
 ·rintro⟨q,hq,dI⟩;obtain⟨c,hc⟩:=AEB (ho q hq).GM dI;have hl:EN out q.1=q.2:=by unfold EN;rw[hk.look (k:=q.1) (x:=q.2) hq];rfl
  obtain⟨j,h1,h2,h3⟩:=h.sound q.1 c (by rw[hl];exact hc);exact⟨j,h1,c,by rw[←h2];exact h3⟩
 ·rintro⟨j,h1,c,hc⟩;have h2:=h.full j h1 c hc;unfold EN at h2;cases hl:look out (j:Int)with
  |none=>rw[hl]at h2;simp[sem]at h2
  |some t=>exact⟨_,F3 hl,fun e=>by simp only at e;rw[hl,e]at h2;simp[sem]at h2⟩
end Go.Koi
