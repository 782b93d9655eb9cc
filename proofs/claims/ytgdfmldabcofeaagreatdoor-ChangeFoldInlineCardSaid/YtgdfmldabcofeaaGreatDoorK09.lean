/-
  Part 10 of the proof that the law ChangeFoldInline returns true for every input.
-/
import Derived.Test.YtgdfmldabcofeaaGreatDoorK08
set_option maxHeartbeats 64000000
set_option maxRecDepth 100000
namespace Go.Koi
open Go renaming maxLen->al
open Go.Proofs Tryz DT
noncomputable def La:List AN->Int
 |[]=>0
 |d::ds=>if Hn d≠0 then Hn d else La ds
theorem RO:∀{ds:List AN},(∀k (h:k<ds.length),Hn ds[k]=0)->La ds=0
 |[],_=>rfl
 |d::ds,h=>by
  have h0:=h 0 (by simp);simp at h0;simp[La,h0,ne_eq];exact RO λk g=>by have:=h (k+1) (by simp;omega);simpa using this
theorem Ur:∀{ds:List AN} {i:Nat} (hi:i<ds.length),(∀k (h:k<i),Hn (ds[k]'(by omega))=0)->Hn ds[i]≠0->La ds=Hn ds[i]
 |d::ds,0,_,_,hn=>by
  simp at hn⊢;simp[La,hn]
 |d::ds,i+1,hi,h,hn=>by
  have h0:=h 0 (by omega);simp at h0;simp at hn⊢;simp[La,h0,ne_eq];exact Ur (by simpa using hi) (λk g=>by have:=h (k+1) (by omega);simpa using this) hn
theorem eU(ds:List AN):Pure prog 233 [.sl (ds.map AB)] (AF (La ds)):=by
 refine eJ func233 rfl rfl (by simp) λwf=>?_;have o:ds.length<=maxLen:=by have:=wf.1;simp[DZ]at this;simpa using this.1
 rw[ntmps233];apply yW;simp;refine xS (yW ?_);simp;apply Bx;refine DV ds.length (λi tm S=>tm 6=.d (.sl (ds.map AB))/\tm 7=.d (.int .i64 ds.length)/\tm 8=.d (.int .i64 i)/\S=[]/\∀k (h:k<i) (u:k<ds.length),Hn ds[k]=0) (cq _) (by simp) ?_;rintro i tm S hi ⟨t6,t7,t8,rfl,m⟩;apply yW;simp[t7,t8];apply xC;simp;refine⟨λg=>?_,λv=>?_⟩
 .apply xK;apply xB;apply yW;simp[t6,t8,g];apply yS;apply yJ;simp;refine B9 (TP ds[i]) rfl (by simp[xN]) (yJ ?_);simp;apply yW;simp;apply AR;simp;refine⟨λq=>?_,λs=>?_⟩
  .apply yW;simp;refine Af ⟨_,_,am,?_⟩;(try simp);exact(Ur g (λk j=>m k j (by omega)) q).symm
  .apply CT;apply yV;simp[t8];refine⟨g,_,_,ip 0 (by simp) (by simp) (by simp),?_⟩;simp[clean,t6,t7,AL g o];intro k j t;by_cases e:k=i
   .subst e;exact s
   .exact m k (by omega) t
 .apply C7;apply yW;simp;apply zT;(try simp);exact(RO λk j=>m k (by omega) j).symm
open Classical in
noncomputable def tI(f:(Int->Bool)->Bool):DT:=if h:∃t:DT,t.Good/\∀c,t.Ca c=f c then h.choose else .leaf false
theorem Ol{f:(Int->Bool)->Bool}{t:DT}(g:t.Good)(hs:∀c,t.Ca c=f c):tI f=t:=by
 have h:∃t:DT,t.Good/\∀c,t.Ca c=f c:=⟨t,g,hs⟩;unfold tI;rw[x0 h];exact DT.unique h.choose_spec.1 g λc=>by rw[h.choose_spec.2,hs]
open Classical in
noncomputable def tr(d:AN):DT:=if h:Valid d then h.choose else .leaf false
theorem Lu(d:AN):(tr d).Good:=by
 unfold tr;split
 .next h=>exact h.choose_spec.1
 .trivial
theorem Ep{d:AN}(h:Valid d):Cq (tr d)=d:=by
 unfold tr;rw[x0 h];exact h.choose_spec.2.symm
theorem WW{t:DT}(h:t.Good):tr (Cq t)=t:=Oc (Ep ⟨t,h,rfl⟩)
noncomputable def mn(g:Bool->Bool->Bool)(a b:AN):AN:=Cq (tI λc=>g ((tr a).Ca c) ((tr b).Ca c))
noncomputable def Gr(g:Bool->Bool->Bool)(a b:AN):AN×Int:=
 if La [a,b]≠0 then(⟨[],0⟩,La [a,b])else if(mn g a b).nodes.length>4096 then(⟨[],0⟩,2)else(mn g a b,0)
theorem RF{f:FuncId}{g:Bool->Bool->Bool}(s:Ul f g)(a b:AN):
  AG prog 194 [.d (AB a),.d (AB b),.fn (.func f) [] []] [] (.d (.Cb [AB (Gr g a b).1,AF (Gr g a b).2])) []:=by
 refine zD func194 26 rfl λwf u=>?_;apply yW;simp;refine xS (yS ?_);apply yJ;simp[maxLen];refine B9 (eU [a,b]) rfl (by simp[xN]) (yJ ?_);simp;apply yW;simp;apply AR;simp;refine⟨λv=>?_,λi=>?_⟩
 .apply yW;simp;apply Af;refine⟨_,_,_,am,by simp,by simp[Gr,v];rfl,a8 0 (by simp) (by simp) (by simp) (by simp)⟩
 .have ha:Hn a=0:=by
   simp only[La]at i;split at i
   .assumption
   .next h=>simpa using h
  have hb:Hn b=0:=by
   simp only[La,ha,ne_eq,not_true,fc]at i;split at i
   .assumption
   .next h=>simpa using h
  have m:=NS ha;have o:=NS hb;have C:(Cq (tr a)).nodes.length<=4096:=Pu (by rw[Ep m];exact ha);have E:(Cq (tr b)).nodes.length<=4096:=Pu (by rw[Ep o];exact hb);have j:((Cq (tr a)).nodes.length+2) * ((Cq (tr b)).nodes.length+2) * 2<2 ^ 30:=by
   have h1:=Ot (show(Cq (tr a)).nodes.length+2<=4098 by omega) (show(Cq (tr b)).nodes.length+2<=4098 by omega);omega
  obtain⟨t,w,z,q⟩:=Od s (tr a) (tr b) (Lu a) (Lu b) j;have A:mn g a b=Cq t:=by unfold mn;rw[Ol w z]
  rw[Ep m,Ep o]at q;apply xK;(repeat apply xS);apply yT;apply yJ;simp;refine xF (q) [2] rfl ?_;simp;apply yJ;simp;refine B9 (WT (Cq t)) rfl (by simp[xN]) (yJ ?_);simp;apply Af;refine⟨_,_,_,am,by simp,?_,a8 0 (by simp) (by simp) (by simp) (by simp)⟩;simp[Gr,i,ne_eq,A];by_cases B:(Cq t).nodes.length>4096
  .simp[B,AB]
  .have k:¬4096<(Cq t).nodes.length:=by omega
   simp[k,AB]
theorem Mw(a b:AN):Pure prog 143 [AB a,AB b] (.Cb [AB (Gr and a b).1,AF (Gr and a b).2]):=by
 refine zD func143 11 rfl λwf g=>?_;apply yW;simp;(repeat apply xS);apply yT;apply yJ;simp;refine AV.Xj (RF HI a b) rfl (by simp;try rfl) (yJ ?_);simp;apply Af;refine⟨_,_,_,am,by simp,by simp,a8 0 (by simp) (by simp) (by simp) (by simp)⟩
theorem Xs(a b:AN):Pure prog 147 [AB a,AB b] (.Cb [AB (Gr or a b).1,AF (Gr or a b).2]):=by
 refine zD func147 11 rfl λwf g=>?_;apply yW;simp;(repeat apply xS);apply yT;apply yJ;simp;refine AV.Xj (RF JL a b) rfl (by simp;try rfl) (yJ ?_);simp;apply Af;refine⟨_,_,_,am,by simp,by simp,a8 0 (by simp) (by simp) (by simp) (by simp)⟩
open Go.Proofs DT
def DT.Below(n:Nat):DT->Prop
 |.leaf _=>True
 |.node v l h=>v<n/\l.Below n/\h.Below n
structure FE(n:Nat)(t:DT):Prop where
 HD:t.Good
 below:t.Below n
theorem FE.leaf(n:Nat)(b:Bool):FE n (.leaf b):=⟨trivial,trivial⟩
abbrev zn:=@Nat.pow_le_pow_right
theorem VM{n:Nat}:∀{t:DT},t.Good->t.Below n->∀k:Nat,(k:Int)<=t.level->k<=n->t.size+1<=2 ^ (n - k):=by
 intro t;induction t with
 |leaf b=>intro _ _ k _ _;simp[DT.size];exact Nat.one_le_two_pow
 |node v l h i j=>
  intro g hb k m o;simp[DT.level]at m;have q:=g.1;have s:=hb.1;have w:=i g.2.2.2.2.2.1 hb.2.1 (v.toNat+1) (by have:=g.2.2.2.1;omega) (by omega);have z:=j g.2.2.2.2.2.2 hb.2.2 (v.toNat+1) (by have:=g.2.2.2.2.1;omega) (by omega);have u:n - k=(n - (v.toNat+1))+(v.toNat+1 - k):=by omega
  have A:2 ^ (n - (v.toNat+1)) * 2<=2 ^ (n - k):=by
   rw[u,Nat.pow_add];refine Nat.mul_le_mul_left _ ?_;have:2 ^ 1<=2 ^ (v.toNat+1 - k):=zn (by omega) (by omega);simpa using this
  simp[DT.size];omega
theorem FE.size{n:Nat}{t:DT}(h:FE n t)(hn:n<=12):t.size<=4095:=by
 have g:(0:Int)<=t.level:=by
  by_cases e:t.size=0
  .obtain⟨b,rfl⟩:=Dr e;simp[DT.level]
  .exact(FK h.HD e).1
 have:=VM h.HD h.below 0 (by simpa using g) (by omega);have i:2 ^ (n - 0)<=2 ^ 12:=zn (by omega) (by omega);have j:2 ^ 12=4096:=rfl;omega
theorem Uu(t:DT):∀L:List DT,(emit t L).length<=L.length+t.size:=by
 induction t with
 |leaf b=>intro L;simp[emit]
 |node v l h g i=>
  intro L;unfold emit;split
  .simp
  .have h1:=g L;have j:=i (emit l L);simp[DT.size];omega
theorem WZ(t:DT):(Cq t).nodes.length<=t.size:=by
 have:=Uu t [];simp[Cq,qK];simpa using this
theorem FE.len{n:Nat}{t:DT}(h:FE n t)(hn:n<=12):(Cq t).nodes.length<=4095:=ke (WZ t) (h.size hn)
theorem FE.Hn{n:Nat}{t:DT}(h:FE n t)(hn:n<=12):Koi.Hn (Cq t)=0:=by
 have:=h.len hn;unfold Koi.Hn;rw[ao (by omega),ap ⟨t,h.HD,rfl⟩]
theorem bu{n:Nat}:∀{t:DT},t.Good->(∀c (v:Int) b,(n:Int)<=v->t.Ca (DT.FP c v b)=t.Ca c)->t.Below n:=by
 intro t;induction t with
 |leaf b=>intro _ _;trivial
 |node v l h q s=>
  intro i hi;have j:∀c,l.Ca c=(DT.node v l h).Ca (DT.FP c v false):=λc=>by
   have:=Vm i (v:=v) (vb _) c;simpa[DT.lo]using this
  have u:∀c,h.Ca c=(DT.node v l h).Ca (DT.FP c v true):=λc=>by
   have:=Vg i (v:=v) (vb _) c;simpa[DT.hi]using this
  have B:v<n:=by
   by_cases z:v<n
   .exact z
   .exact absurd (DT.unique i.2.2.2.2.2.1 i.2.2.2.2.2.2 λc=>by rw[j,u,hi _ _ _ (by omega),hi _ _ _ (by omega)]) i.2.2.1
  have g:∀(c:Int->Bool) (w:Int) (x y:Bool),w≠v->DT.FP (DT.FP c w x) v y=DT.FP (DT.FP c v y) w x:=λc w x y m=>by
   funext k;simp[DT.FP];by_cases A:k=v
   .subst A;rw[ap rfl,ao (λe=>m e.symm),ap rfl]
   .rw[ao A];by_cases o:k=w
    .rw[ap o,ap o]
    .rw[ao o,ao o,ao A]
  refine⟨B,q i.2.2.2.2.2.1 λc w b m=>?_,s i.2.2.2.2.2.2 λc w b m=>?_⟩
  .rw[j,j,g _ _ _ _ (by omega),hi _ _ _ m]
  .rw[u,u,g _ _ _ _ (by omega),hi _ _ _ m]
theorem FE.indep{n:Nat}{t:DT}(h:FE n t)(c:Int->Bool)(v:Int)(b:Bool)(m:(n:Int)<=v):t.Ca (DT.FP c v b)=t.Ca c:=by
 obtain⟨j,hb⟩:=h;induction t with
 |leaf b=>rfl
 |node w l r g i=>
  have k:DT.FP c v b w=c w:=by have:=hb.1;simp only[DT.FP];rw[ao (by omega)]
  simp[DT.Ca,k];rw[g j.2.2.2.2.2.1 hb.2.1,i j.2.2.2.2.2.2 hb.2.2]
noncomputable def QL(g:Bool->Bool->Bool)(s t:DT):DT:=tI λc=>g (s.Ca c) (t.Ca c)
theorem E0{f:FuncId}{g:Bool->Bool->Bool}(q:Ul f g){n:Nat}{s t:DT}(hn:n<=12)(hs:FE n s)(h:FE n t):
  FE n (QL g s t)/\(∀c,(QL g s t).Ca c=g (s.Ca c) (t.Ca c))/\Gr g (Cq s) (Cq t)=(Cq (QL g s t),0):=by
 have A:=hs.len hn;have lt:=h.len hn;have i:((Cq s).nodes.length+2) * ((Cq t).nodes.length+2) * 2<2 ^ 30:=by
  have h1:=Ot (show(Cq s).nodes.length+2<=4098 by omega) (show(Cq t).nodes.length+2<=4098 by omega);omega
 obtain⟨u,k,j,_⟩:=Od q s t hs.HD h.HD i;have e:QL g s t=u:=Ol k j;have m:FE n u:=⟨k,bu k λc v b o=>by rw[j,j,hs.indep c v b o,h.indep c v b o]⟩;refine⟨e▸m,by rw[e];exact j,?_⟩;have w:La [Cq s,Cq t]=0:=by simp[La,hs.Hn hn,h.Hn hn]
 have z:mn g (Cq s) (Cq t)=Cq u:=by
  unfold mn;rw[WW hs.HD,WW h.HD];exact i6 Cq e
 have B:=m.len hn;simp only[Gr,w,ne_eq,not_true,fc,z,e];rw[ao (by omega)]
noncomputable def JH:=QL and
noncomputable def aF:=QL or
theorem Jr{t:DT}(g:t.Good):(Cq t).root=0↔t=.leaf false:=by
 constructor
 .intro h;have:=GO t;rw[h]at this;exact this.zero
 .rintro rfl;rfl
theorem HC(d:AN):Pure prog 142 [AB d,AF 0] (AB d):=by
 refine zD func142 11 rfl λwf g=>?_;apply yW;simp;refine xS (yW ?_);simp;apply AR;simp;apply xK;apply yW;simp;apply Af;refine⟨_,_,_,am,by simp,by simp,a8 0 (by simp) (by simp) (by simp) (by simp)⟩
def vT(t:DT):V:=.d (AB (Cq t))
def mI(m:List (Int×DT)):O:=.map (Bg (D.int .i64) vT m)
noncomputable def DW{α:Type}[DecidableEq α](m:List (α×DT))(k:α):DT:=(look m k).getD (.leaf false)
def Hp{α:Type}(n:Nat)(m:List (α×DT)):Prop:=∀p∈m,FE n p.2
theorem Hp.at{α:Type}[DecidableEq α]{n:Nat}{m:List (α×DT)}(h:Hp n m)(k:α):FE n (DW m k):=by
 unfold DW;cases g:look m k with
 |none=>exact FE.leaf n false
 |some t=>exact h _ (Gk g)
@[simp] theorem sg{α:Type}[DecidableEq α]{ek:α->D}{k:Nat}(l:List (α×DT)):(Bg ek vT l).all (λe=>AP k e.2)=true:=Vj (λ_=>rfl) l
@[simp] theorem uF{α:Type}(ρ:Nat->Nat)(ek:α->D)(l:List (α×DT)):(Bg ek vT l).map (λp=>(p.1,Bc ρ p.2))=Bg ek vT l:=by
 unfold Bg;rw[kv];rfl
@[simp] theorem tD(l:List (Int×DT))(k:Int)(t:DT):Ek (Bg (D.int .i64) vT l) (.int .i64 k) (.d (AB (Cq t)))=Bg (D.int .i64) vT (C9 l k t):=EZ (ev:=vT) (by intro a b;rw[eg];simp[De]) l k t
theorem Xa(m:List (Int×DT))(k:Int):AG prog 150 [.map 0,.d (AF k)] [mI m] (.d (AB (Cq (DW m k)))) [mI m]:=by
 refine zD func150 16 rfl λwf h=>?_;unfold mI;(repeat apply xS);apply yV;simp;cases g:look m k with
 |some t=>
  have e:DW m k=t:=by simp[DW,g]
  rw[e];refine xS (yW ?_);simp[g,vT];apply yW;simp;apply AR;simp;apply yW;simp;apply Af;refine⟨_,_,_,am,by simp,by simp,a8 1 (by simp) (by simp) (by simp) (by simp)⟩
 |none=>
  have e:DW m k=.leaf false:=by simp[DW,g]
  rw[e];refine xS (yW ?_);simp[g];apply yW;simp;apply AR;simp;apply xK;(repeat apply xS);apply yT;apply yJ;simp;refine B9 (H7 false) rfl (by simp) (yJ ?_);simp;apply Af;refine⟨_,_,_,am,by simp,by simp[Gi,AB],a8 1 (by simp) (by simp) (by simp) (by simp)⟩
noncomputable def stepT(m:List (Int×DT))(t:DT)(s:Symbol):DT:=if s.token=false/\t≠.leaf false then JH t (DW m s.index)else t
noncomputable def JM(m:List (Int×DT))(t:DT)(l:List Symbol):DT:=l.foldl (stepT m) t
theorem cU{n:Nat}{m:List (Int×DT)}{t:DT}(hn:n<=12)(h:Hp n m)(g:FE n t)(s:Symbol):FE n (stepT m t s):=by
 unfold stepT;split
 .exact(E0 HI hn g (h.at _)).1
 .exact g
theorem KT{n:Nat}{m:List (Int×DT)}(hn:n<=12)(g:Hp n m)(l:List Symbol):∀{t:DT},FE n t->FE n (JM m t l):=by
 induction l with
 |nil=>intro t h;exact h
 |cons s l i=>intro t h;exact i (cU hn g h s)
abbrev E2:=@List.foldl_append
theorem ZV(m:List (Int×DT))(t:DT)(l:List Symbol){i:Nat}(hi:i<l.length):JM m t (l.take (i+1))=stepT m (JM m t (l.take i)) l[i]:=by
 unfold JM;rw[pe hi,E2];rfl
theorem fp{n:Nat}(hn:n<=12)(m:List (Int×DT))(k:Hp n m)(t:DT)(w:FE n t)(l:List Symbol):
  AG prog 145 [.d (AB (Cq t)),.d (Az l),.map 0] [mI m] (.d (AB (Cq (JM m t l)))) [mI m]:=by
 refine AG.CJ func145 rfl rfl (by simp) λwf z=>?_;have o:l.length<=maxLen:=by have:=wf.2.1;simp[JQ,DZ]at this;simpa using this.1
 rw[ntmps145];unfold mI;apply yW;simp;refine xS (yW ?_);simp;apply Bx;refine zL l.length (λi tm S=>tm 2=.map 0/\tm 3=.ptr 1 1 0 0/\tm 6=.ptr 2 1 0 0/\tm 9=.d (Az l)/\tm 10=.d (.int .i64 l.length)/\tm 11=.d (.int .i64 i)/\S=[mI m,.row true 2 [.d (AB (Cq (JM m t (l.take i))))],.row true 2 [.agg [.full [],.d (.int .i64 0)]]]) (by simp[mI,JM]) ?_;rintro i tm S hi ⟨t2,t3,t6,t9,t10,t11,rfl⟩;unfold mI;apply yW;simp[t10,t11];apply xC;simp;refine⟨λg=>?_,λF=>?_⟩
 .have q:=KT hn k (l.take i) w;generalize A:JM m t (l.take i)=X at *;have s:=Jr q.HD;have B:JM m t (l.take (i+1))=stepT m X l[i]:=by rw[ZV m t l g,A]
  rw[B];apply xK;apply xB;apply yW;simp[t9,t11,g];apply yW;simp[t3];apply AR;simp;refine⟨λh1 C=>?_,λh=>?_⟩
  .have j:stepT m X l[i]=JH X (DW m l[i].index):=by
    unfold stepT;rw[ap ⟨h1,λe=>C (s.2 e)⟩]
   obtain⟨o1,G,u⟩:=E0 HI hn q (k.at l[i].index);rw[j];refine yE [0,2,4,6,8,10,12,14,16,19] (by kernel_rfl) ?_;simp;apply yA 0;simp[t2,t3];refine Ag.oH _ (Xa m l[i].index) rfl rfl (by simp[mI];try rfl) ?_;simp;apply yA 0;simp;refine go (Mw (Cq X) (Cq (DW m l[i].index))) rfl (by simp[xN]) ?_;simp[u];apply yA 0;simp;refine go (HC (Cq (QL and X (DW m l[i].index)))) rfl (by simp[xN]) ?_;simp;apply xX 511 (by kernel_rfl);simp[t3];apply xM;apply yV;simp[t11];refine⟨g,_,_,ip 3 (by simp) (by simp) (by simp),?_⟩;simp[clean,t2,t3,t6,t9,t10,AL g o,JH]
  .have j:stepT m X l[i]=X:=by
    unfold stepT;rw[ao (λv=>v.2 (s.1 (h v.1)))]
   rw[j];apply CT;apply yV;simp[t11];refine⟨g,_,_,ip 3 (by simp) (by simp) (by simp),?_⟩;simp[clean,t2,t3,t6,t9,t10,AL g o]
 .have E:i=l.length:=by omega
  subst E;rw[ne];apply C7;apply yW;simp[t3,t6];apply Af;refine⟨_,_,_,am,by simp[t6],by simp[t6],a8 1 (by simp) (by simp) (by simp) (by simp)⟩
attribute [simp] mI
open Classical in
noncomputable def KI(m:List (Int×DT))(ch:Bool)(k:Int)(d:DT):List (Int×DT)×Bool:=
 if d=.leaf false then(m,ch)else if DW m k=aF (DW m k) d then(m,ch)else(C9 m k (aF (DW m k) d),true)
def rR(m:List (Int×DT))(ch:Bool):Sg:=[.row true 1 [.map 2],.row true 1 [.d (.bool ch)],mI m]
theorem Hp.put{n:Nat}{m:List (Int×DT)}(h:Hp n m)(k:Int){t:DT}(i:FE n t):Hp n (C9 m k t):=by
 intro p g;unfold C9 at g;split at g
 .obtain⟨q,j,rfl⟩:=eo.1 g;split
  .exact i
  .exact h q j
 .rcases dl.1 g with g|g
  .exact h p g
  .simp at g;subst g;exact i
theorem lk{n:Nat}(hn:n<=12){m:List (Int×DT)}(g:Hp n m)(ch:Bool)(k:Int){d:DT}(h:FE n d):Hp n (KI m ch k d).1:=by
 unfold KI;split
 .exact g
 .split
  .exact g
  .exact g.put k (E0 JL hn (g.at k) h).1
theorem pF{n:Nat}(hn:n<=12)(m:List (Int×DT))(q:Hp n m)(ch:Bool)(k:Int)(d:DT)(i:FE n d):
  AG prog 237 [.d (AF k),.d (AB (Cq d)),.ptr 0 1 0 0,.ptr 1 1 0 0] (rR m ch) (.Cb []) (rR (KI m ch k d).1 (KI m ch k d).2):=by
 have j:=Jr i.HD;obtain⟨o1,v,o⟩:=E0 JL hn (q.at k) i;refine zC func237 27 rfl λwf s=>?_;unfold rR mI;apply yW;simp;refine xS (yW ?_);simp;apply AR;simp;refine⟨λh=>?_,λh=>?_⟩
 .have e:KI m ch k d=(m,ch):=by unfold KI;rw[ap (j.1 h)]
  rw[e];apply Af;refine⟨_,a8 3 (by simp) (by simp) (by simp) (by simp),?_⟩;simp[Au]
 .have g:¬d=.leaf false:=λe=>h (j.2 e);apply xK;apply yS;apply yJ;simp;refine xF (Xa m k) [2] rfl ?_;simp[mI];apply yJ;simp;apply yS;apply yJ;simp;refine B9 (Xs (Cq (DW m k)) (Cq d)) rfl (by simp[xN]) (yJ ?_);simp[o];refine B9 (HC (Cq (QL or (DW m k) d))) rfl (by simp[xN]) (yJ ?_);simp;apply yS;apply yJ;simp;refine B9 (MM (Cq (DW m k)) (Cq (QL or (DW m k) d))) rfl (by simp[xN]) (yJ ?_);simp;apply AR;simp;refine⟨λt=>?_,λu=>?_⟩
  .have e:KI m ch k d=(C9 m k (aF (DW m k) d),true):=by
    unfold KI;rw[ao g,ao (λe:DW m k=aF (DW m k) d=>t (i6 Cq e))]
   rw[e];apply yW;simp;apply yV;simp;refine⟨_,a8 3 (by simp;rfl) (by simp) (by simp) (by simp),?_⟩;simp[Au]
  .have e:KI m ch k d=(m,ch):=by
    unfold KI;rw[ao g,ap (show DW m k=aF (DW m k) d from Oc u)]
   rw[e];apply CT;refine⟨_,a8 3 (by simp) (by simp) (by simp) (by simp),?_⟩;simp[Au]
def D4(g:AE)(h:List DT):D:=.agg (BN (AA g)++[.sl (h.map λt=>AB (Cq t))])
def Bq(l:List Symbol):Bool:=l.any (·.token)
noncomputable def Fv(empty:Bool)(s:List (Int×DT)×Bool)(p:AO×DT):List (Int×DT)×Bool:=
 if empty&&Bq p.1.right then s else KI s.1 s.2 p.1.left (JM s.1 p.2 p.1.right)
noncomputable def Dy(empty:Bool)(l:List (AO×DT))(s:List (Int×DT)×Bool):List (Int×DT)×Bool:=l.foldl (Fv empty) s
def tF{α:Type}(n:Nat)(l:List (α×DT)):Prop:=∀p∈l,FE n p.2
theorem U0{n:Nat}(hn:n<=12)(empty:Bool){s:List (Int×DT)×Bool}(hs:Hp n s.1){p:AO×DT}(g:FE n p.2):Hp n (Fv empty s p).1:=by
 unfold Fv;split
 .exact hs
 .exact lk hn hs _ _ (KT hn hs _ g)
theorem KM{n:Nat}(hn:n<=12)(empty:Bool):∀(l:List (AO×DT)) {s:List (Int×DT)×Bool},Hp n s.1->tF n l->Hp n (Dy empty l s).1
 |[],_,g,_=>g
 |p::l,_,g,h=>KM hn empty l (U0 hn empty g (h p (by simp))) λq i=>h q (by simp[i])
theorem Uj(empty:Bool)(l:List (AO×DT))(s:List (Int×DT)×Bool){i:Nat}(hi:i<l.length):Dy empty (l.take (i+1)) s=Fv empty (Dy empty (l.take i) s) l[i]:=by
 unfold Dy;rw[pe hi,E2];rfl
def Zs(g:AE)(h:List DT)(empty:Bool)(m:List (Int×DT))(ch:Bool):Sg:=
 [.row true 1 [.ptr 6 1 0 0],.row true 1 [.d (.bool empty)],.row true 1 [.map 5],.row true 1 [.map 5],.row true 1 [.d (.bool ch)],mI m,.row true 10 [.d (D4 g h)]]
def addFn:V:=.fn (.func 237) [] [.ptr 3 1 0 0,.ptr 4 1 0 0]
abbrev adO:=@List.of_mem_zip
abbrev W0:=@List.mem_of_mem_take
abbrev s9:=@List.take_of_length_le
theorem iu{n:Nat}(hn:n<=12)(g:AE)(q:List DT)(Z:q.length=g.AD.length)(T:∀t∈q,FE n t)(empty:Bool)(m:List (Int×DT))(hm:Hp n m)(ch:Bool):
  AG prog 197 [addFn,.ptr 0 1 0 0,.ptr 1 1 0 0,.ptr 2 1 0 0] (Zs g q empty m ch) (.Cb [])
   (Zs g q empty (Dy empty (g.AD.zip q) (m,ch)).1 (Dy empty (g.AD.zip q) (m,ch)).2):=by
 unfold addFn;have hL:tF n (g.AD.zip q):=λp v=>T _ (adO v).2;refine md func197 rfl rfl (by simp) λwf F=>?_;simp[Zs,mI,OI,sQ,Hw,JQ,D4,DZ,Bs]at F;obtain⟨_,_,_,_,_,_,_,_,⟨a1,a2⟩,_⟩:=F;have a3:∀p∈g.AD,p.right.length<=maxLen:=λp v=>by
  rw[Di]at a2;have:=a2 p v;simp[AH,DZ,Bs]at this;exact this.2.2.1.1
 rw[ntmps197];unfold Zs mI;apply AW.scope;apply xS;apply AW.label;simp[C4];apply yS;apply yJ;simp[D4];apply Bx;refine zL g.AD.length (λi tm S=>tm 0=.fn (.func 237) [] [.ptr 3 1 0 0,.ptr 4 1 0 0]/\tm 1=.ptr 0 1 0 0/\tm 2=.ptr 1 1 0 0/\tm 3=.ptr 2 1 0 0/\tm 13=.d (Co g.AD)/\tm 14=.d (.int .i64 g.AD.length)/\tm 15=.d (.int .i64 i)/\S=Zs g q empty (Dy empty ((g.AD.zip q).take i) (m,ch)).1 (Dy empty ((g.AD.zip q).take i) (m,ch)).2) (by simp[Zs,mI,D4,Dy]) ?_;rintro i tm S hi ⟨t0,t1,t2,t3,t13,t14,t15,rfl⟩;generalize L:Dy empty ((g.AD.zip q).take i) (m,ch)=R;apply yW;simp[t14,t15];apply xC;simp;refine⟨λB=>?_,λvw=>?_⟩
 .have U:i<(g.AD.zip q).length:=by simp;omega
  have W:i<q.length:=by omega
  have s:Hp n R.1:=by rw[<-L];exact KM hn empty _ hm λp v=>hL p (W0 v)
  have vx:Dy empty ((g.AD.zip q).take (i+1)) (m,ch)=Fv empty R (g.AD[i],q[i]):=by
   rw[Uj empty _ _ U,L];simp
  have X:=a3 g.AD[i] (b9 B);rw[vx];generalize v:g.AD[i]=p at *;apply xK;apply xB;apply yW;simp[t13,t15,B,v];refine xS (yW ?_);simp;apply Bx;refine zL p.right.length (λj o S=>o 0=.fn (.func 237) [] [.ptr 3 1 0 0,.ptr 4 1 0 0]/\o 1=.ptr 0 1 0 0/\o 2=.ptr 1 1 0 0/\o 3=.ptr 2 1 0 0/\o 13=.d (Co g.AD)/\o 14=.d (.int .i64 g.AD.length)/\o 15=.d (.int .i64 i)/\o 5=.d (.int .i64 i)/\o 6=.ptr 7 1 0 0/\o 21=.d (Az p.right)/\o 22=.d (.int .i64 p.right.length)/\o 23=.d (.int .i64 j)/\S=Zs g q empty R.1 R.2++[.row true 13 [.d (AH p)]]/\∀k (h:k<j) (h':k<p.right.length),¬(p.right[k].token=true/\empty=true)) (by simp[Zs,mI,D4,AH,t0,t1,t2,t3,t13,t14,t15]) ?_;rintro j o S hj ⟨C,M,G,N,w,z,u,s5,s6,H,J,A,rfl,vt⟩;apply yW;simp[J,A];apply xC;simp;refine⟨λP=>?_,λhge2=>?_⟩
  .apply xK;apply xB;unfold Zs;apply yW;simp[H,A,P];(repeat apply xS);apply yV;simp[G];by_cases E:p.right[j].token=true/\empty=true
   .have Q:Fv empty R (p,q[i])=R:=by
     unfold Fv;rw[ap];simp[Bq];exact⟨E.2,_,b9 P,E.1⟩
    rw[Q];apply AR;simp[E.1,E.2];apply C7;apply yV;simp[u];refine⟨B,_,_,ip 7 (by simp) (by simp) (by simp),?_⟩;simp[clean,C,M,G,N,w,z,AL B a1]
   .apply AR;simp;refine⟨λh1 h2=>absurd ⟨h1,h2⟩ E,λ_=>?_⟩;apply CT;apply yV;simp[A];refine⟨P,_,_,ip 8 (by simp) (by simp) (by simp),?_⟩;simp[clean,C,M,G,N,w,z,u,s5,s6,H,J,AL P X];intro k hk xb;by_cases e:k=j
    .subst e;intro h1;cases K:empty with
     |false=>rfl
     |true=>exact absurd ⟨h1,K⟩ E
    .intro h1;cases K:empty with
     |false=>rfl
     |true=>exact absurd ⟨h1,K⟩ (vt k (by omega) xb)
  .have Q:Fv empty R (p,q[i])=KI R.1 R.2 p.left (JM R.1 q[i] p.right):=by
    unfold Fv;rw[ao];simp only[bi,Bq,zv];rintro⟨K,x,hx,Y⟩;obtain⟨k,hk,rfl⟩:=jp.1 hx;exact vt k (by omega) hk ⟨Y,K⟩
   have vk:=KT hn s p.right (T _ (b9 W));rw[Q];unfold Zs mI;apply C7;refine yE [0,2,4,6,8,10,12,14,16,18,20,22,24,26,29] (by kernel_rfl) ?_;simp;apply yA 2;simp[C,M,N,s5,s6,D4,W];refine Ag.Sm (fp hn R.1 s q[i] (T _ (b9 W)) p.right) [5] rfl (by simp[mI];try rfl) ?_;simp;refine ru (xT [1,0,0,0,0,0,0,0,0,0,0,1,0,1]) (pF hn R.1 s R.2 p.left _ vk) [3,4,5] (by kernel_rfl) rfl (by simp[rR,mI];try rfl) ?_;simp[rR,mI];apply xM;apply yV;simp[u];refine⟨B,_,_,ip 7 (by simp) (by simp) (by simp),?_⟩;simp[clean,C,M,G,N,w,z,AL B a1]
 .have U:i=g.AD.length:=by omega
  subst U;have we:(g.AD.zip q).take g.AD.length=g.AD.zip q:=s9 (by simp;omega);rw[we]at L;apply C7;refine⟨λl h=>(by cases h),_,rc (by rw[L];rfl),?_⟩;simp[Au]
def SV:Nat->List (Int->Bool)
 |0=>[λ_=>false]
 |n+1=>SV n++(SV n).map λc=>DT.FP c n true
abbrev ac5:=@List.mem_append_right
theorem TG(c:Int->Bool):∀n:Nat,∃i∈SV n,∀v:Int,0<=v->v<n->i v=c v
 |0=>⟨λ_=>false,by simp[SV],λv h0 h1=>absurd h1 (by omega)⟩
 |n+1=>by
  obtain⟨i,j,h⟩:=TG c n;by_cases e:c n=true
  .refine⟨DT.FP i n true,ac5 _ (eo.2 ⟨i,j,rfl⟩),λv h0 h1=>?_⟩;simp only[DT.FP];by_cases ev:v=n
   .subst ev;rw[ap rfl,e]
   .rw[ao ev];exact h v h0 (by omega)
  .have o:∀(k:Nat),∀x∈SV k,∀v:Int,(k:Int)<=v->x v=false:=by
    intro k;induction k with
    |zero=>intro x g v _;simp[SV]at g;subst g;rfl
    |succ k m=>
     intro x g v t;rcases dl.1 g with g|g
     .exact m x g v (by omega)
     .obtain⟨y,q,rfl⟩:=eo.1 g;simp only[DT.FP];rw[ao (by omega)];exact m y q v (by omega)
   refine⟨i,acm _ j,λv h0 h1=>?_⟩;by_cases ev:v=n
   .subst ev;rw[o n i j n (vb _)];cases s:c n with
    |false=>rfl
    |true=>exact absurd s e
   .exact h v h0 (by omega)
theorem Q8{n:Nat}{t:DT}(h:FE n t){c k:Int->Bool}(m:∀v:Int,0<=v->v<n->k v=c v):t.Ca k=t.Ca c:=by
 obtain⟨g,hb⟩:=h;induction t with
 |leaf b=>rfl
 |node w l r i j=>
  simp only[DT.Ca];rw[m w g.1 hb.1,i g.2.2.2.2.2.1 hb.2.1,j g.2.2.2.2.2.2 hb.2.2]
abbrev adu:=@List.countP_mono_left
abbrev acT:=@List.countP_cons
theorem RB{α:Type}{p q:α->Bool}:∀{l:List α},(∀x∈l,p x=true->q x=true)->(∃x∈l,q x=true/\p x=false)->l.countP p<l.countP q
 |[],_,h=>by obtain⟨x,j,_⟩:=h;simp at j
 |x::l,h1,m=>by
  have o:l.countP p<=l.countP q:=adu λy g i=>h1 y (by simp[g]) i;rw[acT,acT];obtain⟨y,g,k,i⟩:=m;rcases fi.1 g with rfl|g
  .simp only[k,i,er];simp;omega
  .have:=RB (λz s=>h1 z (by simp[s])) ⟨y,g,k,i⟩;have j:=h1 x (by simp);by_cases e:p x=true
   .simp only[e,j e,er];omega
   .rw[ao e];split<;>omega
def outs(n:Nat)(t:DT):Nat:=(SV n).countP λc=>!t.Ca c
theorem kB{n:Nat}{s t:DT}(hs:FE n s)(j:FE n t)(h:∀c,s.Ca c=true->t.Ca c=true)(k:s≠t):outs n t<outs n s:=by
 refine RB (λc _ g=>?_) ?_
 .simp only[mp]at g⊢;cases e:s.Ca c with
  |false=>rfl
  |true=>rw[h c e]at g;cases g
 .have:¬∀c,s.Ca c=t.Ca c:=λm=>k (DT.unique hs.HD j.HD m);obtain⟨c,g⟩:=Classical.not_forall.1 this;obtain⟨o,q,ha⟩:=TG c n;refine⟨o,q,?_⟩;rw[Q8 hs ha,Q8 j ha];cases i:s.Ca c with
  |true=>exact absurd (i.trans (h c i).symm) g
  |false=>cases u:t.Ca c with
   |true=>simp
   |false=>exact absurd (i.trans u.symm) g
theorem lR{n:Nat}{s t:DT}(h:∀c,s.Ca c=true->t.Ca c=true):outs n t<=outs n s:=
 adu λc _ g=>by
  simp only[mp]at g⊢;cases e:s.Ca c with
  |false=>rfl
  |true=>rw[h c e]at g;cases g
noncomputable def mu{α:Type}[DecidableEq α](n:Nat)(ks:List α)(m:List (α×DT)):Nat:=(ks.map λk=>outs n (DW m k)).sum
theorem JE{α:Type}[DecidableEq α](m:List (α×DT))(k:α)(t:DT)(j:α):DW (C9 m k t) j=if j=k then t else DW m j:=by
 unfold DW;rw[FR];split<;>rfl
abbrev adG:=@List.sum_cons
theorem gU{α:Type}{f g:α->Nat}:∀{l:List α},(∀x∈l,f x<=g x)->(l.map f).sum<=(l.map g).sum
 |[],_=>br _
 |x::l,h=>by
  have h1:=h x (by simp);have j:=gU (l:=l) λy i=>h y (by simp[i]);simp only[eP,adG];omega
theorem gp{α:Type}{f g:α->Nat}:∀{l:List α},(∀x∈l,f x<=g x)->(∃x∈l,f x<g x)->(l.map f).sum<(l.map g).sum
 |[],_,h=>by obtain⟨x,j,_⟩:=h;simp at j
 |x::l,h,k=>by
  have h1:=h x (by simp);have o:=gU (l:=l) λy i=>h y (by simp[i]);simp only[eP,adG];obtain⟨y,i,m⟩:=k;rcases fi.1 i with rfl|i
  .omega
  .have:=gp (l:=l) (λy i=>h y (by simp[i])) ⟨y,i,m⟩;omega
theorem fv{α:Type}[DecidableEq α]{n:Nat}{ks:List α}{m:List (α×DT)}{k:α}{t:DT}(g:k∈ks)(i:FE n (DW m k))(o:FE n t)(h:∀c,(DW m k).Ca c=true->t.Ca c=true)(q:DW m k≠t):
  mu n ks (C9 m k t)<mu n ks m:=by
 refine gp (λj _=>?_) ⟨k,g,?_⟩
 .rw[JE];split
  .next e=>subst e;exact lR h
  .exact br _
 .rw[JE,ap rfl];exact kB i o h q
theorem kb{n:Nat}(hn:n<=12){ks:List Int}{m:List (Int×DT)}(g:Hp n m)(ch:Bool){k:Int}(h:k∈ks){d:DT}(i:FE n d):
  KI m ch k d=(m,ch)\/((KI m ch k d).2=true/\mu n ks (KI m ch k d).1<mu n ks m):=by
 obtain⟨o1,j,_⟩:=E0 JL hn (g.at k) i;unfold KI;split
 .exact .inl rfl
 .split
  .exact .inl rfl
  .next o=>exact .inr ⟨rfl,fv h (g.at k) o1 (λc q=>by show(QL or (DW m k) d).Ca c=true;rw[j,q];rfl) o⟩
theorem Qk{n:Nat}(hn:n<=12)(empty:Bool){ks:List Int}:∀(l:List (AO×DT)) (s:List (Int×DT)×Bool),Hp n s.1->tF n l->(∀p∈l,p.1.left∈ks)->mu n ks (Dy empty l s).1<=mu n ks s.1/\((Dy empty l s).2=true->s.2=true\/mu n ks (Dy empty l s).1<mu n ks s.1)
 |[],s,_,_,_=>⟨br _,λh=>.inl h⟩
 |p::l,s,g,k,m=>by
  have o:=k p (by simp);obtain⟨t,u⟩:=Qk hn empty l (Fv empty s p) (U0 hn empty g o) (λq i=>k q (by simp[i])) (λq i=>m q (by simp[i]));have e:Dy empty (p::l) s=Dy empty l (Fv empty s p):=rfl;rw[e];have j:Fv empty s p=s\/((Fv empty s p).2=true/\mu n ks (Fv empty s p).1<mu n ks s.1):=by
   unfold Fv;split
   .exact .inl rfl
   .exact kb hn g s.2 (m p (by simp)) (KT hn g _ o)
  rcases j with j|⟨h1,v⟩
  .rw[j]at t u⊢;exact⟨t,u⟩
  .exact⟨by omega,λ_=>.inr (by omega)⟩
noncomputable def QP(empty:Bool)(l:List (AO×DT)):Nat->List (Int×DT)->List (Int×DT)
 |0,m=>m
 |f+1,m=>if(Dy empty l (m,false)).2 then QP empty l f (Dy empty l (m,false)).1 else(Dy empty l (m,false)).1
def dh(g:AE)(h:List DT)(empty:Bool)(m:List (Int×DT)):Sg:=
 [.row true 1 [.ptr 4 1 0 0],.row true 1 [.d (.bool empty)],.row true 1 [.map 3],mI m,.row true 10 [.d (D4 g h)]]
theorem bm{n:Nat}(hn:n<=12)(g:AE)(i:List DT)(q:i.length=g.AD.length)(E:∀t∈i,FE n t)(empty:Bool)(m:List (Int×DT))(G:Hp n m):
  ∃j,Hp n j/\j=QP empty (g.AD.zip i) (mu n (g.AD.map (·.left)) m+1) m/\AG prog 196 [.map 3,.fn (.func 197) [] [.ptr 0 1 0 0,.ptr 1 1 0 0,.ptr 2 1 0 0]] (dh g i empty m) (.Cb []) (dh g i empty j):=by
 have w:tF n (g.AD.zip i):=λp z=>E _ (adO z).2;have A:∀p∈g.AD.zip i,p.1.left∈g.AD.map (·.left):=λp z=>eo.2 ⟨p.1,(adO z).1,rfl⟩;obtain⟨F,B⟩:∃F,F=QP empty (g.AD.zip i) (mu n (g.AD.map (·.left)) m+1) m:=⟨_,rfl⟩;have u:∀(f:Nat) m,Hp n m->Hp n (QP empty (g.AD.zip i) f m):=by
  intro f;induction f with
  |zero=>intro m h;exact h
  |succ f L=>
   intro m h;have:=KM hn empty (g.AD.zip i) (s:=(m,false)) h w;simp only[QP];split
   .exact L _ this
   .exact this
 refine⟨F,B▸u _ _ G,B,?_⟩;refine md func196 (by kernel_rfl) rfl (by simp) λwf M=>?_;rw[ntmps196];unfold dh;apply yW;simp;apply yW;simp;apply Bx;refine aeA (λk tm S=>tm 1=.fn (.func 197) [] [.ptr 0 1 0 0,.ptr 1 1 0 0,.ptr 2 1 0 0]/\tm 2=.ptr 5 1 0 0/\tm 4=.ptr 6 1 0 0/\∃j ch,Hp n j/\S=dh g i empty j++[.row true 1 [.map 3],.row true 1 [.d (.bool ch)]]/\((ch=true/\mu n (g.AD.map (·.left)) j<k/\QP empty (g.AD.zip i) k j=F)\/(ch=false/\j=F))) ⟨mu n (g.AD.map (·.left)) m+1,_,_,am,by simp,by simp,by simp,m,true,G,rfl,.inl ⟨rfl,Nat.lt_succ_self _,B.symm⟩⟩ ?_;rintro k tm S ⟨t1,t2,t4,j,ch,C,rfl,N⟩;rcases N with⟨rfl,T,v⟩|⟨rfl,rfl⟩
 .obtain⟨k,rfl⟩:∃P,k=P+1:=⟨k - 1,by omega⟩;obtain⟨Q,H⟩:=Qk hn empty (ks:=g.AD.map (·.left)) (g.AD.zip i) (j,false) C w A;have J:=KM hn empty (g.AD.zip i) (s:=(j,false)) C w;have K:=iu hn g i q E empty j C false;simp only[QP]at v;generalize Dy empty (g.AD.zip i) (j,false)=R at Q H J K v;unfold dh;refine xS (yW ?_);simp[t4];apply AR;simp;apply xK;apply xB;apply yW;simp[t4];apply yT;apply yJ;simp[t1,t2,t4];refine xF (K) [0,1,2,5,6,3,4] rfl ?_;simp[Zs,addFn];apply yJ;simp;apply yW;simp[t4];apply yV;simp;refine⟨if R.2 then k else 0,?_,_,_,rx [0,1,2,3,4,5,7] (S0:=dh g i empty R.1++[.row true 1 [.map 3],.row true 1 [.d (.bool R.2)]]) ?_ ?_ ?_,?_⟩
  .split<;>omega
  .simp[dh]
  .simp
  .rfl
  .simp[pick,t1,t2];refine⟨⟨by decide,by decide⟩,by decide,by decide,R.1,J,?_⟩;cases o:R.2 with
   |false=>exact .inl ⟨by simp[dh],by simpa[o]using v⟩
   |true=>
    have U:mu n (g.AD.map (·.left)) R.1<mu n (g.AD.map (·.left)) j:=by
     rcases H o with h|h
     .cases h
     .exact h
    exact .inr ⟨by simp[dh],by simp;omega,by simpa[o]using v⟩
 .unfold dh;refine xS (yW ?_);simp[t4];apply AR;simp;apply C7;refine⟨_,a8 5 (by simp) (by simp) (by simp) (by simp),?_⟩;simp[Au]
def Gn(g:AE)(h:List DT):O:=.row true 10 [.d (D4 g h)]
noncomputable def ph(n:Nat)(empty:Bool)(g:AE)(h:List DT):List (Int×DT):=QP empty (g.AD.zip h) (mu n (g.AD.map (·.left)) []+1) []
theorem Sv{n:Nat}(hn:n<=12)(g:AE)(h:List DT)(i:h.length=g.AD.length)(j:∀t∈h,FE n t)(empty:Bool):
  ∃m,Hp n m/\m=ph n empty g h/\AG prog 144 [.ptr 0 1 0 0,.d (.bool empty)] [Gn g h] (.map 1) [Gn g h,mI m]:=by
 obtain⟨m,k,o,q⟩:=bm hn g h i j empty [] (λp s=>absurd s (by simp));refine⟨m,k,o,?_⟩;refine md func144 (by kernel_rfl) rfl (by simp) λwf u=>?_;rw[ntmps144];unfold Gn;apply yW;simp;apply yW;simp;apply yS;apply yJ;simp;refine xF (q) [1,2,4,3,0] rfl ?_;simp[dh];apply yJ;simp;apply yW;simp;apply Af;refine⟨_,rx [0,3] ?_ ?_ ?_,?_⟩
 .simp
 .simp
 .rfl
 .simp[Au,pick];try decide
abbrev Pr:=Int×Int
def I3(t:Pr):D:=.agg [.int .i64 t.1,.int .i64 t.2]
theorem nO(a b:Pr):De (I3 a) (I3 b)=decide (a=b):=by
 obtain⟨g,h⟩:=a;obtain⟨i,j⟩:=b;rw[eg];simp[De,Cg,I3]
section
variable {β:Type} {ev:β->V}
@[simp] theorem sx(l:List (Pr×β))(a b:Int):DF (Bg I3 ev l) (.agg [.int .i64 a,.int .i64 b])=(look l (a,b)).map ev:=F2 nO l (a,b)
@[simp] theorem tP(l:List (Pr×DT))(a b:Int)(t:DT):Ek (Bg I3 vT l) (.agg [.int .i64 a,.int .i64 b]) (.d (AB (Cq t)))=Bg I3 vT (C9 l (a,b) t):=EZ (ev:=vT) nO l (a,b) t
@[simp] theorem qC(l:List (Pr×β)):Bj (.cells [.int .i64,.int .i64]) (Bg I3 ev l)=True:=eq_true (E9 (by intro a;simp[B7,B2,CN,I3]) l)
end
def m2(m:List (Pr×DT)):O:=.map (Bg I3 vT m)
attribute [simp] m2
theorem oG(m:List (Pr×DT))(a b:Int):AG prog 148 [.map 0,.agg [.d (.int .i64 a),.d (.int .i64 b)]] [m2 m] (.d (AB (Cq (DW m (a,b))))) [m2 m]:=by
 refine zD func148 16 rfl λwf h=>?_;unfold m2;(repeat apply xS);apply yV;simp;cases g:look m (a,b)with
 |some t=>
  have e:DW m (a,b)=t:=by simp[DW,g]
  rw[e];refine xS (yW ?_);simp[g,vT];apply yW;simp;apply AR;simp;apply yW;simp;apply Af;refine⟨_,_,_,am,by simp,by simp,a8 1 (by simp) (by simp) (by simp) (by simp)⟩
 |none=>
  have e:DW m (a,b)=.leaf false:=by simp[DW,g]
  rw[e];refine xS (yW ?_);simp[g];apply yW;simp;apply AR;simp;apply xK;(repeat apply xS);apply yT;apply yJ;simp;refine B9 (H7 false) rfl (by simp) (yJ ?_);simp;apply Af;refine⟨_,_,_,am,by simp,by simp[Gi,AB],a8 1 (by simp) (by simp) (by simp) (by simp)⟩
theorem TJ:∀{xs:List V},Hw xs↔∀x∈xs,JQ x
 |[]=>by simp[Hw]
 |x::xs=>by simp[Hw,TJ (xs:=xs)]
open Classical in
noncomputable def E5(st:List (Pr×DT))(fr:Int)(d:DT)(s:List (Int×DT)×List Int)(m:Int):List (Int×DT)×List Int:=
 if DW s.1 m=aF (DW s.1 m) (JH d (DW st (fr,m)))then s else(C9 s.1 m (aF (DW s.1 m) (JH d (DW st (fr,m)))),s.2++[m])
noncomputable def visitM(st:List (Pr×DT))(fr:Int)(d:DT)(l:List Int)(s:List (Int×DT)×List Int):List (Int×DT)×List Int:=l.foldl (E5 st fr d) s
theorem Ux(st:List (Pr×DT))(fr:Int)(d:DT)(l:List Int)(s:List (Int×DT)×List Int){i:Nat}(hi:i<l.length):visitM st fr d (l.take (i+1)) s=E5 st fr d (visitM st fr d (l.take i) s) l[i]:=by
 unfold visitM;rw[pe hi,E2];rfl
theorem Yv(st:List (Pr×DT))(fr:Int)(d:DT)(s:List (Int×DT)×List Int)(m:Int):s.2.length<=(E5 st fr d s m).2.length:=by
 unfold E5;split
 .exact br _
 .simp
theorem LZ(st:List (Pr×DT))(fr:Int)(d:DT):∀(l:List Int) (s:List (Int×DT)×List Int),s.2.length<=(visitM st fr d l s).2.length
 |[],_=>br _
 |m::l,s=>ke (Yv st fr d s m) (LZ st fr d l _)
theorem gT{n:Nat}(hn:n<=12){st:List (Pr×DT)}(g:Hp n st){fr:Int}{d:DT}(h:FE n d){s:List (Int×DT)×List Int}(hs:Hp n s.1){m:Int}{ks:List Int}(i:m∈ks):
  Hp n (E5 st fr d s m).1/\(E5 st fr d s m).2.length+mu n ks (E5 st fr d s m).1<=s.2.length+mu n ks s.1/\(E5 st fr d s m).2.length+2 * mu n ks (E5 st fr d s m).1<=s.2.length+2 * mu n ks s.1:=by
 obtain⟨j,t,_⟩:=E0 HI hn h (g.at (fr,m));obtain⟨o1,k,_⟩:=E0 JL hn (hs.at m) j;unfold E5;split
 .exact⟨hs,br _,br _⟩
 .next o=>
  have h1:=fv (ks:=ks) i (hs.at m) o1 (λc q=>by rw[k,q];rfl) o;refine⟨hs.put m o1,?_,?_⟩
  .simp;have:mu n ks (C9 s.1 m (aF (DW s.1 m) (JH d (DW st (fr,m)))))<mu n ks s.1:=h1;omega
  .simp;have:mu n ks (C9 s.1 m (aF (DW s.1 m) (JH d (DW st (fr,m)))))<mu n ks s.1:=h1;omega
theorem Ic{n:Nat}(hn:n<=12){st:List (Pr×DT)}(h:Hp n st){fr:Int}{d:DT}(i:FE n d){ks:List Int}:∀(l:List Int) {s:List (Int×DT)×List Int},(∀m∈l,m∈ks)->Hp n s.1->Hp n (visitM st fr d l s).1/\(visitM st fr d l s).2.length+mu n ks (visitM st fr d l s).1<=s.2.length+mu n ks s.1/\(visitM st fr d l s).2.length+2 * mu n ks (visitM st fr d l s).1<=s.2.length+2 * mu n ks s.1
 |[],_,_,g=>⟨g,br _,br _⟩
 |m::l,s,j,g=>by
  obtain⟨h1,q,t⟩:=gT hn h (fr:=fr) i g (j m (by simp));obtain⟨k,u,v⟩:=Ic hn h (fr:=fr) i (ks:=ks) l (λx o=>j x (by simp[o])) h1;have e:visitM st fr d (m::l) s=visitM st fr d l (E5 st fr d s m):=rfl;rw[e];exact⟨k,by omega,by omega⟩
def vI(l:List Int):V:=.d (.sl (l.map (D.int .i64)))
def bB(h:List (Int×List Int))(st:List (Pr×DT))(g:List (Int×DT))(i:Bool)(q:List Int):Sg:=
 [.row true 1 [.map 4],.row true 1 [.map 5],.row true 1 [.map 6],.row true 1 [.row 7 q.length],.map (Bg (D.int .i64) vI h),mI g,m2 st,.row i 1 (q.map λx=>.d (.int .i64 x))]
@[simp] theorem eF{α:Type}{ek:α->D}{k:Nat}(l:List (α×List Int)):(Bg ek vI l).all (λe=>AP k e.2)=true:=by
 rw[cl];intro p g;simp only[Bg,eo]at g;obtain⟨q,_,rfl⟩:=g;rfl
@[simp] theorem tV{α:Type}(ρ:Nat->Nat)(ek:α->D)(l:List (α×List Int)):(Bg ek vI l).map (λp=>(p.1,Bc ρ p.2))=Bg ek vI l:=by
 unfold Bg;rw[kv];rfl
theorem Qq{n:Nat}(hn:n<=12)(t:List (Int×List Int))(st:List (Pr×DT))(U:Hp n st)(g:List (Int×DT))(hr:Hp n g)(E:Bool)(q:List Int)(fr:Int)(d:DT)(W:FE n d)
  (ks:List Int) (z:∀m∈(look t fr).getD [],m∈ks) (hq:q.length+mu n ks g<=2 ^ 29):
  ∃B,((visitM st fr d ((look t fr).getD []) (g,q)).2.length=q.length\/B=true)/\(E=true->B=true)/\AG prog 149 [.d (AF fr),.d (AB (Cq d)),.ptr 0 1 0 0,.ptr 1 1 0 0,.ptr 2 1 0 0,.ptr 3 1 0 0] (bB t st g E q) (.Cb [])
   (bB t st (visitM st fr d ((look t fr).getD []) (g,q)).1 B (visitM st fr d ((look t fr).getD []) (g,q)).2):=by
 cases M:look t fr with
 |none=>
  refine⟨E,.inl rfl,id,?_⟩;have e:visitM st fr d ((none:Option (List Int)).getD []) (g,q)=(g,q):=rfl;rw[e];refine zC func149 50 rfl λwf H=>?_;unfold bB mI m2;apply yW;simp;apply yW;simp[M];apply Bx;refine DV 0 (λi tm S=>tm 15=.d (.int .i64 0)/\tm 16=.d (.int .i64 0)/\i=0/\S=bB t st g E q++[.row true 2 [.d (AB (Cq d))]]) (i0:=0) (br _) (by simp[bB]) ?_;rintro i tm S hi ⟨t15,t16,rfl,rfl⟩;unfold bB mI m2;apply yW;simp[t15,t16];apply xC;simp;apply C7;refine⟨_,a8 8 (by simp) (by simp) (by simp) (by simp),?_⟩;simp[Au]
 |some l=>
  rw[M]at z;simp only[ut]at z⊢;refine⟨E||decide (q.length<(visitM st fr d l (g,q)).2.length),?_,λh=>by simp[h],?_⟩
  .rcases pu q.length (visitM st fr d l (g,q)).2.length with h|h
   .right;simp[h]
   .left;have:=LZ st fr d l (g,q);simp only at this;omega
  refine zC func149 50 rfl λwf H=>?_;have N:l.length<=maxLen:=by
   have h:=H.2.2.2.2.1;simp[sQ]at h;have h2:=(TJ.1 h.2) (vI l) (by simp only[Bg,eo];exact⟨(.int .i64 fr,vI l),⟨(fr,l),Gk M,rfl⟩,rfl⟩);simpa[vI,JQ,DZ]using h2.1
  unfold bB mI m2;apply yW;simp;apply yW;simp[M,vI];apply Bx;refine zL l.length (λi tm S=>tm 0=.d (.int .i64 fr)/\tm 3=.ptr 1 1 0 0/\tm 4=.ptr 2 1 0 0/\tm 5=.ptr 3 1 0 0/\tm 7=.ptr 8 1 0 0/\tm 14=.d (.sl (l.map (D.int .i64)))/\tm 15=.d (.int .i64 l.length)/\tm 16=.d (.int .i64 i)/\S=bB t st (visitM st fr d (l.take i) (g,q)).1 (E||decide (q.length<(visitM st fr d (l.take i) (g,q)).2.length)) (visitM st fr d (l.take i) (g,q)).2++[.row true 2 [.d (AB (Cq d))]]) (by simp[bB,visitM]) ?_;rintro i tm S hi ⟨t0,t3,t4,t5,t7,t14,t15,t16,rfl⟩;generalize J:visitM st fr d (l.take i) (g,q)=R;obtain⟨k1,k2,k3⟩:=Ic hn U (fr:=fr) W (ks:=ks) (l.take i) (s:=(g,q)) (λm hm=>z m (W0 hm)) hr;rw[J]at k1 k2 k3;simp only at k2 k3;have k4:q.length<=R.2.length:=by rw[<-J];exact LZ st fr d (l.take i) (g,q)
  unfold bB mI m2;apply yW;simp[t15,t16];apply xC;simp;refine⟨λo=>?_,λvw=>?_⟩
  .have vx:visitM st fr d (l.take (i+1)) (g,q)=E5 st fr d R l[i]:=by rw[Ux _ _ _ _ _ o,J]
   obtain⟨X,Z⟩:∃X,X=QL and d (DW st (fr,l[i])):=⟨_,rfl⟩;obtain⟨A,P⟩:∃A,A=DW R.1 l[i]:=⟨_,rfl⟩;obtain⟨Y,hY⟩:∃Y,Y=QL or A X:=⟨_,rfl⟩;obtain⟨K,a2',j⟩:=E0 HI hn W (U.at (fr,l[i]));rw[<-Z]at K j;obtain⟨o1,o2,L⟩:=E0 JL hn (k1.at l[i]) K;rw[<-P,<-hY]at L;have v:E5 st fr d R l[i]=if A=Y then R else(C9 R.1 l[i] Y,R.2++[l[i]]):=by
    unfold E5;rw[hY,P,Z];rfl
   have y9:R.2.length<=1073741823:=by omega
   rw[vx,v];have Df:=Xa R.1 l[i];rw[<-P]at Df;apply xK;apply xB;apply yW;simp[t14,t16,o];(repeat apply xS);apply yT;apply yJ;simp[t3];refine xF (Df) [5] rfl ?_;simp[mI];apply yJ;simp;cases F:look st (fr,l[i])with
   |none=>
    have G:DW st (fr,l[i])=.leaf false:=by simp[DW,F]
    have w:Gr and (Cq d) ⟨[],0⟩=(Cq X,0):=by rw[<-j,G];rfl
    refine yD [0,2,4,6,8,10,12,14,16,18,20,22,24,26,28,31,33] (by kernel_rfl) ?_;simp;apply yA 1;simp[t7,t4,t0,F];refine B5 (Mw (Cq d) (Cq (DW st (fr,l[i])))) rfl (by simp[G,Gi,xN]) ?_;simp[G,w,Gi];apply yA 1;simp;refine B5 (HC (Cq X)) rfl (by simp[xN]) ?_;simp;apply yA 1;simp;refine B5 (Xs (Cq A) (Cq X)) rfl (by simp[xN]) ?_;simp[L];apply yA 1;simp;refine B5 (HC (Cq Y)) rfl (by simp[xN]) ?_;simp;apply xX 0 (by kernel_rfl);simp[Ac,Al,t7,t4,t0,F];apply xX 32767 (by kernel_rfl);simp;apply xM;apply yS;apply yJ;simp;refine B9 (MM (Cq A) (Cq Y)) rfl (by simp[xN]) (yJ ?_);simp;apply AR;simp;refine⟨λQ=>?_,λT=>?_⟩
    .have k:¬A=Y:=λe=>Q (i6 Cq e);rw[ao k];apply yW;simp[t3];apply yV;simp[t5,maxLen,y9];apply yV;simp[t16];refine⟨o,_,_,ip 9 (by simp) (by simp) (by simp),?_⟩;simp[clean,t0,t3,t4,t5,t7,t14,t15,AL o N];exact Or.inr (by omega)
    .have C:A=Y:=Oc T;rw[ap C];apply CT;apply yV;simp[t16];refine⟨o,_,_,ip 9 (by simp) (by simp) (by simp),?_⟩;simp[clean,t0,t3,t4,t5,t7,t14,t15,AL o N]
   |some u=>
    have G:DW st (fr,l[i])=u:=by simp[DW,F]
    rw[G]at j;refine yD [0,2,4,6,8,10,12,14,16,18,20,22,24,26,28,31,33] (by kernel_rfl) ?_;simp;apply yA 1;simp[t7,t4,t0,F,vT];refine B5 (Mw (Cq d) (Cq u)) rfl (by simp[xN]) ?_;simp[j];apply yA 1;simp;refine B5 (HC (Cq X)) rfl (by simp[xN]) ?_;simp;apply yA 1;simp;refine B5 (Xs (Cq A) (Cq X)) rfl (by simp[xN]) ?_;simp[L];apply yA 1;simp;refine B5 (HC (Cq Y)) rfl (by simp[xN]) ?_;simp;apply xX 0 (by kernel_rfl);simp[Ac,Al,t7,t4,t0,F,vT];apply xX 32767 (by kernel_rfl);simp;apply xM;apply yS;apply yJ;simp;refine B9 (MM (Cq A) (Cq Y)) rfl (by simp[xN]) (yJ ?_);simp;apply AR;simp;refine⟨λQ=>?_,λT=>?_⟩
    .have k:¬A=Y:=λe=>Q (i6 Cq e);rw[ao k];apply yW;simp[t3];apply yV;simp[t5,maxLen,y9];apply yV;simp[t16];refine⟨o,_,_,ip 9 (by simp) (by simp) (by simp),?_⟩;simp[clean,t0,t3,t4,t5,t7,t14,t15,AL o N];exact Or.inr (by omega)
    .have C:A=Y:=Oc T;rw[ap C];apply CT;apply yV;simp[t16];refine⟨o,_,_,ip 9 (by simp) (by simp) (by simp),?_⟩;simp[clean,t0,t3,t4,t5,t7,t14,t15,AL o N]
  .have vP:i=l.length:=by omega
   subst vP;rw[ne]at J;rw[J];apply C7;refine⟨_,a8 8 (by simp) (by simp) (by simp) (by simp),?_⟩;simp[Au]
inductive U2(st:Int->Int->Prop)(i:Int):Int->Prop
 |one {y:Int}:st i y->U2 st i y
 |more {x y:Int}:U2 st i x->x≠i->st x y->U2 st i y
theorem U2.mono{st g:Int->Int->Prop}{i:Int}(h:∀a b,st a b->g a b):∀{y:Int},U2 st i y->U2 g i y:=by
 intro y j;induction j with
 |one h1=>exact .one (h _ _ h1)
 |more _ k m o=>exact .more o k (h _ _ m)
theorem TH{t:DT}(i:t.Good)(h:t≠.leaf false):∃c,t.Ca c=true:=by
 by_cases g:∃c,t.Ca c=true
 .exact g
 .refine absurd (DT.unique i (t:=.leaf false) trivial λc=>?_) h;have:¬t.Ca c=true:=λh=>g ⟨c,h⟩;simpa[Ca]using this
def Sz(st:List (Pr×DT))(c:Int->Bool)(a b:Int):Prop:=(DW st (a,b)).Ca c=true
theorem kZ{st:List (Pr×DT)}{c:Int->Bool}{a b:Int}(h:Sz st c a b):(a,b)∈st.map (·.1):=by
 unfold Sz DW at h;cases g:look st (a,b)with
 |none=>rw[g]at h;simp[Ca]at h
 |some t=>exact eo.2 ⟨_,Gk g,rfl⟩
structure kj(st:List (Pr×DT))(fr:Int)(d:DT)(l:List Int)(s s':List (Int×DT)×List Int):Prop where
 mono:∀y c,(DW s.1 y).Ca c=true->(DW s'.1 y).Ca c=true
 add:∀y∈l,∀c,d.Ca c=true->Sz st c fr y->(DW s'.1 y).Ca c=true
 sound:∀y c,(DW s'.1 y).Ca c=true->(DW s.1 y).Ca c=true\/d.Ca c=true/\Sz st c fr y
 Dz:∀z∈s.2,z∈s'.2
 queue:∀z,DW s'.1 z≠DW s.1 z->z∈s'.2
abbrev oj:=@Bool.or_eq_true
theorem ZI{n:Nat}(hn:n<=12){st:List (Pr×DT)}(t:Hp n st){fr:Int}{d:DT}(u:FE n d){s:List (Int×DT)×List Int}(hs:Hp n s.1)(m:Int):kj st fr d [m] s (E5 st fr d s m):=by
 obtain⟨v,k,-⟩:=E0 HI hn u (t.at (fr,m));obtain⟨o1,o,-⟩:=E0 JL hn (hs.at m) v;unfold E5;split
 .next q=>
  refine⟨λ_ _ h=>h,λy i c h1 j=>?_,λ_ _ h=>.inl h,λ_ h=>h,λz h=>absurd rfl h⟩;simp at i;subst i;rw[q];show(QL or _ (QL and _ _)).Ca c=true
  rw[o,k,h1,show(DW st (fr,y)).Ca c=true from j];simp
 .next q=>
  have Df:∀y,DW (C9 s.1 m (aF (DW s.1 m) (JH d (DW st (fr,m))))) y=if y=m then aF (DW s.1 m) (JH d (DW st (fr,m)))else DW s.1 y:=λy=>JE _ _ _ _;have g:∀c,(aF (DW s.1 m) (JH d (DW st (fr,m)))).Ca c=((DW s.1 m).Ca c||(d.Ca c&&(DW st (fr,m)).Ca c)):=λc=>by
   show(QL or _ (QL and _ _)).Ca c=_
   rw[o,k]
  refine⟨λy c h=>?_,λy i c h1 j=>?_,λy c h=>?_,λz h=>acm _ h,λz h=>?_⟩
  .simp[Df];split
   .next e=>subst e;rw[g,h];rfl
   .exact h
  .simp at i;subst i;simp[Df];rw[g,h1,show(DW st (fr,y)).Ca c=true from j];simp
  .simp[Df]at h;split at h
   .next e=>
    subst e;rw[g]at h;simp at h;exact h
   .exact .inl h
  .simp only[Df]at h;by_cases e:z=m
   .subst e;exact ac5 _ (by simp)
   .rw[ao e]at h;exact absurd rfl h
theorem LQ{n:Nat}(hn:n<=12){st:List (Pr×DT)}(j:Hp n st){fr:Int}{d:DT}(k:FE n d){ks:List Int}:∀(l:List Int) {s:List (Int×DT)×List Int},(∀m∈l,m∈ks)->Hp n s.1->kj st fr d l s (visitM st fr d l s)
 |[],_,_,_=>⟨λ_ _ h=>h,λ_ h=>absurd h (by simp),λ_ _ h=>.inl h,λ_ h=>h,λ_ h=>absurd rfl h⟩
 |m::l,s,q,t=>by
  have e:visitM st fr d (m::l) s=visitM st fr d l (E5 st fr d s m):=rfl;have h1:=ZI hn j (fr:=fr) k t m;have v:=(Ic hn j (fr:=fr) k (ks:=ks) [m] (s:=s) (λx i=>q x (by simp at i;simp[i])) t).1;have g:=LQ hn j (fr:=fr) k (ks:=ks) l (s:=E5 st fr d s m) (λx i=>q x (by simp[i])) v;rw[e];refine⟨λy c h=>g.mono y c (h1.mono y c h),λy o c a b=>?_,λy c h=>?_,λz h=>g.Dz z (h1.Dz z h),λz h=>?_⟩
  .rcases fi.1 o with rfl|o
   .exact g.mono _ c (h1.add _ (by simp) c a b)
   .exact g.add y o c a b
  .rcases g.sound y c h with h|h
   .exact h1.sound y c h
   .exact .inr h
  .by_cases u:DW (E5 st fr d s m).1 z=DW s.1 z
   .exact g.queue z (by rw[u];exact h)
   .exact g.Dz z (h1.queue z u)
structure RI(st:List (Pr×DT))(fam:DT)(i:Int)(rch:List (Int×DT))(q:List Int):Prop where
 sound:∀y c,(DW rch y).Ca c=true->fam.Ca c=true/\U2 (Sz st c) i y
 first:∀y c,fam.Ca c=true->Sz st c i y->(DW rch y).Ca c=true
 closed:∀x,x≠i->x∉q->∀y c,(DW rch x).Ca c=true->Sz st c x y->(DW rch y).Ca c=true
theorem OW(y:Int):DW ([]:List (Int×DT)) y=.leaf false:=rfl
abbrev yP:=@Classical.byContradiction
theorem RI.start{st:List (Pr×DT)}{fam:DT}{i:Int}{l:List Int}{g:List (Int×DT)×List Int}(k:∀y c,Sz st c i y->y∈l)(h:kj st i fam l ([],[]) g):RI st fam i g.1 g.2:=by
 refine⟨λy c m=>?_,λy c o j=>h.add y (k y c j) c o j,λx t q y c h1 _=>?_⟩
 .rcases h.sound y c m with h1|h1
  .simp only[OW,Ca]at h1;cases h1
  .exact⟨h1.1,.one h1.2⟩
 .have:DW g.1 x=DW [] x:=yP λs=>q (h.queue x s);rw[this,OW]at h1;simp[Ca]at h1
theorem RI.visit{st:List (Pr×DT)}{fam:DT}{i x:Int}{q l:List Int}{g:List (Int×DT)}{j:List (Int×DT)×List Int}(R:RI st fam i g (x::q))(s:x≠i)(t:∀y c,Sz st c x y->y∈l)
  (h:kj st x (DW g x) l (g,q) j):RI st fam i j.1 j.2:=by
 refine⟨λy c u=>?_,λy c v w=>h.mono y c (R.first y c v w),λz A o y c h1 k=>?_⟩
 .rcases h.sound y c u with h1|h1
  .exact R.sound y c h1
  .have:=R.sound x c h1.1;exact⟨this.1,.more this.2 s h1.2⟩
 .have m:z∉q:=λB=>o (h.Dz z B);have C:DW j.1 z=DW g z:=yP λE=>o (h.queue z E);rw[C]at h1;by_cases e:z=x
  .subst e;exact h.add y (t y c k) c h1 k
  .exact h.mono y c (R.closed z A (by simp[e,m]) y c h1 k)
theorem RI.pass{st:List (Pr×DT)}{fam:DT}{i:Int}{q:List Int}{g:List (Int×DT)}(R:RI st fam i g (i::q)):RI st fam i g q:=
 ⟨R.sound,R.first,λz h j=>R.closed z h (by simp[h,j])⟩
theorem RI.done{st:List (Pr×DT)}{fam:DT}{i:Int}{g:List (Int×DT)}(R:RI st fam i g [])(y:Int)(c:Int->Bool):(DW g y).Ca c=true↔fam.Ca c=true/\U2 (Sz st c) i y:=by
 refine⟨R.sound y c,?_⟩;rintro⟨h,j⟩;induction j with
 |one h1=>exact R.first _ c h h1
 |more _ k m o=>exact R.closed _ k (by simp) _ c o m
def ic(st:List (Pr×DT))(fam:DT)(k:Int)(c:Int->Bool):Prop:=fam.Ca c=true/\U2 (Sz st c) k k
structure OG(st:List (Pr×DT))(fam:DT)(i:Nat)(out:List (Int×DT)):Prop where
 sound:∀k c,(DW out k).Ca c=true->∃j:Nat,j<i/\k=j/\ic st fam k c
 full:∀j:Nat,j<i->∀c,ic st fam j c->(DW out j).Ca c=true
theorem OG.nil{st:List (Pr×DT)}{fam:DT}:OG st fam 0 []:=⟨λk c h=>(by simp only[OW,Ca]at h;cases h),λj h=>absurd h (by omega)⟩
theorem OG.skip{st:List (Pr×DT)}{fam:DT}{i:Nat}{out:List (Int×DT)}(h:OG st fam i out)(m:∀c y,¬Sz st c i y):OG st fam (i+1) out:=by
 refine⟨λk c o=>?_,λj hj c g=>?_⟩
 .obtain⟨j,h1,q⟩:=h.sound k c o;exact⟨j,by omega,q⟩
 .by_cases e:j=i
  .subst e;have:∀y,U2 (Sz st c) (j:Int) y->False:=λy s=>by
    induction s with
    |one h1=>exact m c _ h1
    |more _ _ _ t=>exact t
   exact(this _ g.2).elim
  .exact h.full j (by omega) c g
theorem OG.put{st:List (Pr×DT)}{fam:DT}{i:Nat}{out g:List (Int×DT)}(h:OG st fam i out)(R:RI st fam i g []):OG st fam (i+1) (C9 out i (DW g i)):=by
 refine⟨λk c m=>?_,λj hj c o=>?_⟩
 .rw[JE]at m;split at m
  .next e=>subst e;exact⟨i,by omega,rfl,(R.done _ c).1 m⟩
  .obtain⟨j,h1,q⟩:=h.sound k c m;exact⟨j,by omega,q⟩
 .rw[JE];split
  .next e=>exact(R.done _ c).2 (by rw[<-e];exact o)
  .next e=>
   have:j≠i:=λs=>e (by rw[s]);exact h.full j (by omega) c o
theorem OG.found{n:Nat}{st:List (Pr×DT)}{fam:DT}{i:Nat}{out:List (Int×DT)}(h:OG st fam i out)(u:Keyed out)(v:Hp n out):(∃q∈out,q.2≠.leaf false)↔∃j:Nat,j<i/\∃c,ic st fam j c:=by
 constructor
 .rintro⟨q,s,w⟩;obtain⟨c,o⟩:=TH (v q s).HD w;have m:DW out q.1=q.2:=by unfold DW;rw[u.look (k:=q.1) (x:=q.2) s];rfl
  obtain⟨j,h1,g,z⟩:=h.sound q.1 c (by rw[m];exact o);exact⟨j,h1,c,by rw[<-g];exact z⟩
 .rintro⟨j,h1,c,o⟩;have g:=h.full j h1 c o;unfold DW at g;cases m:look out (j:Int)with
  |none=>rw[m]at g;simp[Ca]at g
  |some t=>exact⟨_,Gk m,λe=>by simp only at e;rw[m,e]at g;simp[Ca]at g⟩
theorem pq(t:DT):JH t (.leaf false)=.leaf false:=Ol (t:=.leaf false) trivial λc=>by simp[Ca]
theorem ep(m:List (Int×DT)):∀l:List Symbol,JM m (.leaf false) l=.leaf false
 |[]=>rfl
 |s::l=>by
  have:stepT m (.leaf false) s=.leaf false:=by simp[stepT]
  unfold JM at *;rw[Fr,this];exact ep m l
def Da(l:List Symbol)(j:Nat):List Symbol:=l.take j++l.drop (j+1)
noncomputable def gz(m:List (Int×DT))(t:DT)(l:List Symbol)(j:Nat):DT:=if Bq (Da l j)then .leaf false else JM m t (Da l j)
theorem pI{n:Nat}(hn:n<=12){m:List (Int×DT)}(g:Hp n m){t:DT}(h:FE n t)(l:List Symbol)(j:Nat):FE n (gz m t l j):=by
 unfold gz;split
 .exact FE.leaf n false
 .exact KT hn g _ h
def VA(g:AE):Prop:=∀p∈g.AD,p.right≠[]/\∀s,p.right=[s]->s.token=true
theorem bQ{α β:Type}[DecidableEq α](l:List (α×β))(k:α)(x:β):(C9 l k x).length<=l.length+1:=by
 unfold C9;split<;>simp
theorem Hp.uH{α:Type}[DecidableEq α]{n:Nat}{m:List (α×DT)}(h:Hp n m)(k:α){t:DT}(i:FE n t):Hp n (C9 m k t):=by
 intro p g;unfold C9 at g;split at g
 .obtain⟨q,j,rfl⟩:=eo.1 g;split
  .exact i
  .exact h q j
 .rcases dl.1 g with g|g
  .exact h p g
  .simp only[cR]at g;subst g;exact i
def eY(l:List AO)(i:Nat):Nat:=((l.take i).map (·.right.length)).sum
theorem YH{l:List AO}{i:Nat}(hi:i<l.length):eY l (i+1)=eY l i+l[i].right.length:=by
 unfold eY;rw[pe hi,su,List.sum_append];rfl
def Jt(g:AE)(o:List DT)(m:List (Int×DT))(i j:Nat)(c:Int->Bool)(a b:Int):Prop:=
 ∃h k,(h<i\/h=i/\k<j)/\∃(h1:h<g.AD.length) (q:k<g.AD[h].right.length),g.AD[h].left=a/\g.AD[h].right[k].token=false/\g.AD[h].right[k].index=b/\(gz m (o.getD h (.leaf false)) g.AD[h].right k).Ca c=true
theorem Jt.succ{g:AE}{s:List DT}{m:List (Int×DT)}{i j:Nat}{c:Int->Bool}{a b:Int}(h1:i<g.AD.length){p:AO}(t:g.AD[i]=p)(u:j<p.right.length):
  Jt g s m i (j+1) c a b↔Jt g s m i j c a b\/p.left=a/\p.right[j].token=false/\p.right[j].index=b/\(gz m (s.getD i (.leaf false)) p.right j).Ca c=true:=by
 subst t;constructor
 .rintro⟨o,q,h,k1,k2,k3⟩;by_cases e:o=i/\q=j
  .obtain⟨rfl,rfl⟩:=e;exact .inr k3
  .exact .inl ⟨o,q,by omega,k1,k2,k3⟩
 .rintro(⟨o,q,h,k⟩|h)
  .exact⟨o,q,by omega,k⟩
  .exact⟨i,j,by omega,h1,u,h⟩
theorem Jt.row{g:AE}{q:List DT}{m:List (Int×DT)}{i:Nat}{c:Int->Bool}{a b:Int}(h1:i<g.AD.length):Jt g q m (i+1) 0 c a b↔Jt g q m i g.AD[i].right.length c a b:=by
 constructor
 .rintro⟨j,o,h,k1,k2,k3⟩;refine⟨j,o,?_,k1,k2,k3⟩;by_cases e:j=i
  .subst e;exact .inr ⟨rfl,k2⟩
  .exact .inl (by omega)
 .rintro⟨j,o,h,k⟩;exact⟨j,o,by omega,k⟩
structure Wf(n:Nat)(g:AE)(ps:List DT)(m:List (Int×DT))(i j:Nat)(st:List (Pr×DT)):Prop where
 ok:Hp n st
 len:st.length<=eY g.AD i+j
 Ca:∀c a b,Sz st c a b↔Jt g ps m i j c a b
theorem Wf.nil{n:Nat}{g:AE}{i:List DT}{m:List (Int×DT)}:Wf n g i m 0 0 []:=
 ⟨λ_ h=>absurd h (by simp),cq _,λc a b=>⟨λh=>(by simp[Sz,DW,DT.Ca]at h),λ⟨_,_,h,_⟩=>(by omega)⟩⟩
theorem Wf.row{n:Nat}{g:AE}{j:List DT}{m:List (Int×DT)}{i:Nat}{st:List (Pr×DT)}{p:AO}(h1:i<g.AD.length)(k:g.AD[i]=p)(h:Wf n g j m i p.right.length st):Wf n g j m (i+1) 0 st:=by
 subst k;exact⟨h.ok,by have:=h.len;rw[YH h1];omega,λc a b=>(h.Ca c a b).trans (Jt.row h1).symm⟩
theorem Wf.skip{n:Nat}{g:AE}{q:List DT}{m:List (Int×DT)}{i j:Nat}{st:List (Pr×DT)}{p:AO}(h:Wf n g q m i j st)(h1:i<g.AD.length)(s:g.AD[i]=p)(t:j<p.right.length)
  (o:p.right[j].token=true\/gz m (q.getD i (.leaf false)) p.right j=.leaf false):Wf n g q m i (j+1) st:=by
 refine⟨h.ok,by have:=h.len;omega,λc a b=>?_⟩;rw[h.Ca,Jt.succ h1 s t];refine⟨.inl,λu=>u.resolve_right λk=>?_⟩;rcases o with o|o
 .rw[o]at k;exact absurd k.2.1 (by simp)
 .rw[o]at k;exact absurd k.2.2.2 (by simp[DT.Ca])
theorem Wf.put{n:Nat}(hn:n<=12){g:AE}{o:List DT}{m:List (Int×DT)}{i j:Nat}{st:List (Pr×DT)}{p:AO}{y:Symbol}{X:DT}(h:Wf n g o m i j st)(h1:i<g.AD.length)(s:g.AD[i]=p)(t:j<p.right.length)
  (u:p.right[j]=y) (v:y.token=false) (w:gz m (o.getD i (.leaf false)) p.right j=X) (q:FE n X):Wf n g o m i (j+1) (C9 st (p.left,y.index) (QL or (DW st (p.left,y.index)) X)):=by
 obtain⟨o1,z,-⟩:=E0 JL hn (h.ok.at (p.left,y.index)) q;refine⟨h.ok.uH _ o1,by have:=h.len;have:=bQ st (p.left,y.index) (QL or (DW st (p.left,y.index)) X);omega,λc a b=>?_⟩;rw[Jt.succ h1 s t,<-h.Ca,u,w];unfold Sz;rw[JE];split
 .next e=>
  simp only[GE]at e;obtain⟨rfl,rfl⟩:=e;rw[z];simp[v]
 .next e=>
  refine⟨.inl,λA=>A.resolve_right λk=>e ?_⟩;rw[k.1,k.2.2.1]
def Fits(g:AE):Prop:=(g.AD.map (·.right.length)).sum<=2 ^ 16
theorem Tc{g:AE}(h:Fits g){p:AO}(i:p∈g.AD):p.right.length<=65536:=by
 have key:∀l:List AO,p∈l->p.right.length<=(l.map (·.right.length)).sum:=by
  intro l;induction l with
  |nil=>intro h;simp at h
  |cons q l j=>
   intro h;simp only[eP,adG];rcases fi.1 h with rfl|h
   .omega
   .have:=j h;omega
 exact ke (key _ i) h
def RN(g:AE)(h:List DT)(m:List (Int×DT))(st:List (Pr×DT)):Sg:=[Gn g h,mI m,m2 st,.row true 1 [.map 2]]
abbrev NX:=List (Int×(List Int×Nat))
def ag(v:List Int×Nat):V:=.row (v.2+6) v.1.length
def bc(g:NX):List (D×V):=Bg (D.int .i64) ag g
structure SS(st:List (Pr×DT))(vis:List Nat)(nx:NX)(R:Sg):Prop where
 rows:∀p∈nx,R[p.2.2]?=some (.row true 1 (p.2.1.map λx=>.d (.int .i64 x)))
 keyed:Keyed nx
 pos:(nx.map (·.2.2)).Nodup
 ks:∀p∈nx,∀x∈p.2.1,(p.1,x)∈st.map (·.1)
 len:∀p∈nx,p.2.1.length<=vis.length
 nd:vis.Nodup
 lt:∀i∈vis,i<st.length
 all:∀k∈vis,∀h:k<st.length,∃v,look nx st[k].1.1=some v/\st[k].1.2∈v.1
theorem SS.new{st:List (Pr×DT)}{vis:List Nat}{o:NX}{R:Sg}(h:SS st vis o R){i:Nat}(hi:i<st.length)(s:i∉vis){a x:Int}{Y:O}(A:st[i].1=(a,x))(B:look o a=none):
  SS st (vis++[i]) (C9 o a ([x],R.length+1)) (R++[Y,.row true 1 [.d (.int .i64 x)]]):=by
 have t:(a,x)∈st.map (·.1):=eo.2 ⟨st[i],b9 hi,A⟩;have C:∀k∈vis++[i],∀j:k<st.length,∃v,look (C9 o a ([x],R.length+1)) st[k].1.1=some v/\st[k].1.2∈v.1:=λk j G=>by
  rw[FR];rcases dl.1 j with j|j
  .obtain⟨v,w,H⟩:=h.all k j G;rw[ao (λe=>by rw[e,B]at w;cases w)];exact⟨v,w,H⟩
  .simp only[cR]at j;subst j;rw[A,ap rfl];exact⟨_,rfl,by simp⟩
 have E:=h.keyed.C9 a ([x],R.length+1);rw[L3 _ B]at E C⊢;have m:∀p∈o,p.2.2<R.length:=λp g=>AZ (h.rows p g);refine⟨λp g=>?_,E,?_,λp g=>?_,λp g=>?_,?_,λk j=>?_,C⟩
 .rcases dl.1 g with g|g
  .rw[ej (m p g)];exact h.rows p g
  .simp only[cR]at g;subst g;simp
 .rw[su,rt];refine⟨h.pos,by simp,λu z v s e=>?_⟩;obtain⟨p,g,rfl⟩:=eo.1 z;simp only[eP,zN,cR]at s;have:=m p g;omega
 .rcases dl.1 g with g|g
  .exact h.ks p g
  .simp only[cR]at g;subst g;intro y F;simp only[cR]at F;subst F;exact t
 .rcases dl.1 g with g|g
  .have:=h.len p g;simp;omega
  .simp only[cR]at g;subst g;simp
 .rw[rt];exact⟨h.nd,by simp,λu z v q e=>by simp only[cR]at q;subst e;subst q;exact s z⟩
 .rcases dl.1 j with j|j
  .exact h.lt k j
  .simp only[cR]at j;subst j;exact hi
theorem SS.more{st:List (Pr×DT)}{vis:List Nat}{m:NX}{R:Sg}(h:SS st vis m R){i:Nat}(hi:i<st.length)(z:i∉vis){a x:Int}{Y:O}(J:st[i].1=(a,x)){l:List Int}{j:Nat}(A:look m a=some (l,j)):
  SS st (vis++[i]) (C9 m a (l++[x],j)) ((R++[Y]).set j (.row true 1 ((l++[x]).map λx=>.d (.int .i64 x)))):=by
 have B:=Gk A;have E:=AZ (h.rows _ B);have F:(a,x)∈st.map (·.1):=eo.2 ⟨st[i],b9 hi,J⟩;have K:∀k∈vis++[i],∀g:k<st.length,∃v,look (C9 m a (l++[x],j)) st[k].1.1=some v/\st[k].1.2∈v.1:=λk g P=>by
  rw[FR];rcases dl.1 g with g|g
  .obtain⟨v,G,L⟩:=h.all k g P;split
   .next e=>
    rw[e,A]at G;cases G;exact⟨_,rfl,acm _ L⟩
   .exact⟨v,G,L⟩
  .simp only[cR]at g;subst g;rw[J,ap rfl];exact⟨_,rfl,ac5 _ (by simp)⟩
 have M:=h.keyed.C9 a (l++[x],j);have Q:C9 m a (l++[x],j)=m.map λp=>if p.1=a then(p.1,(l++[x],j))else p:=by simp[Koi.C9,A]
 have S:∀p∈m,p.1=a->p=(a,(l,j)):=λp o e=>by
  have:look m a=some p.2:=h.keyed.look (by rw[<-e];exact o);rw[A]at this;obtain⟨p1,p2⟩:=p;simp only[fd]at this e⊢;rw[e,<-this]
 have T:∀p∈m,p.1≠a->p.2.2≠j:=λp o H e=>by
  obtain⟨u,C,N⟩:=jp.1 o;obtain⟨v,z,ev⟩:=jp.1 B;have:(m.map (·.2.2))[u]'(by simpa using C)=(m.map (·.2.2))[v]'(by simpa using z):=by simp[N,ev,e]
  have:=IQ h.pos (by simpa using C) (by simpa using z) this;subst this;rw[N]at ev;exact H (by rw[ev])
 rw[Q]at M K⊢;refine⟨λp o=>?_,M,?_,λp o=>?_,λp o=>?_,?_,λk g=>?_,K⟩
 .obtain⟨q,s,rfl⟩:=eo.1 o;split
  .have U:j<(R++[Y]).length:=by simp only[eN,ea,j0];simp only at E;omega
   simp only[zl U]
  .next H=>
   have h1:=T q s H;rw[nt (le h1),ej (AZ (h.rows q s))];exact h.rows q s
 .have:(m.map λp=>if p.1=a then(p.1,(l++[x],j))else p).map (·.2.2)=m.map (·.2.2):=by
   rw[kv];apply rr;intro p o;simp only[Function.comp];split
   .next e=>rw[S p o e]
   .rfl
  rw[this];exact h.pos
 .obtain⟨q,s,rfl⟩:=eo.1 o;split
  .next e=>
   intro y t;rw[e];rcases dl.1 t with t|t
   .exact h.ks _ B y t
   .simp only[cR]at t;subst t;exact F
  .exact h.ks q s
 .obtain⟨q,s,rfl⟩:=eo.1 o;split
  .have:=h.len _ B;simp at this⊢;omega
  .have:=h.len q s;simp;omega
 .rw[rt];exact⟨h.nd,by simp,λu C v w e=>by simp only[cR]at w;subst e;subst w;exact z C⟩
 .rcases dl.1 g with g|g
  .exact h.lt k g
  .simp only[cR]at g;subst g;exact hi
theorem kA{P:Program}{n b:Nat}{tm:Tm}{st:List (Pr×DT)}{vis:List Nat}{g:NX}{R:Sg}(h:SS st vis g R){o0 o1 o2 o3 o5:O}(hb:b<=6)(h0:Ar 6 o0=true)(h1:Ar 6 o1=true)
  (w:Ar 6 o2=true) (z:Ar 6 o3=true) (A:Ar 6 o5=true):
  AJ P n b tm ([o0,o1,o2,o3,.map (bc g),o5]++R) (clean 6 tm) [o0,o1,o2,o3,.map (Bg (D.int .i64) vI (g.map λp=>(p.1,p.2.1))),o5]:=by
 have B:∀j,([o0,o1,o2,o3,.map (bc g),o5]++R)[j+6]?=R[j]?:=λj=>by simp
 have k:∀i,i<6->i∉(g.map λp=>(p.2.2+6,p.2.1.map (D.int .i64))).map (·.1):=λi hi o=>by
  rw[kv]at o;obtain⟨p,_,e⟩:=eo.1 o;simp only[Function.comp]at e;omega
 obtain⟨s,C,E,F,t⟩:=AJ.XP (P:=P) (n:=n) (b:=b) (tm:=tm) (g.map λp=>(p.2.2+6,p.2.1.map (D.int .i64))) (S:=[o0,o1,o2,o3,.map (bc g),o5]++R) (by
  have e:(g.map λp=>(p.2.2+6,p.2.1.map (D.int .i64))).map (·.1)=(g.map (·.2.2)).map (·+6):=by
   rw[kv,kv];rfl
  rw[e];exact ac8.2 (List.Pairwise.imp (λ{a b} G e=>G (by simpa using e)) h.pos)) (by
  intro p H;obtain⟨q,J,rfl⟩:=eo.1 H;refine⟨true,1,?_⟩;simp only;rw[B,h.rows q J,kv];rfl)
 have u:s[4]?=some (.map (bc g)):=by rw[t 4 (k 4 (by decide))];rfl
 have m:6<=s.length:=by rw[E];simp
 refine C.trans ((AJ.rh 4 (es':=Bg (D.int .i64) vI (g.map λp=>(p.1,p.2.1))) u (by simp[Bg,bc]) λi hi L=>?_).trans (a8 6 ?_ hb (by simpa using m) ?_))
 .have K:i<g.length:=by simpa[Bg,bc]using hi
  simp only[Bg,bc,kt];refine⟨trivial,.inr (.inr ⟨.sl (g[i].2.1.map (D.int .i64)),?_,rfl⟩)⟩;have v:=F (g[i].2.2+6,g[i].2.1.map (D.int .i64)) (eo.2 ⟨g[i],b9 K,rfl⟩);simp only at v;simp[ag,Ba,CF,v]
 .apply acp;intro i;rw[K1];split
  .next hi=>
   by_cases e:i=4
   .subst e;rw[zl (by omega)];rfl
   .rw[nt (le e),t i (k i hi),ej (by simpa using hi)];match i,hi,e with
    |0,_,_=>rfl
    |1,_,_=>rfl
    |2,_,_=>rfl
    |3,_,_=>rfl
    |5,_,_=>rfl
  .next hi=>exact(np (by simp;omega)).symm
 .have e:(s.set 4 (.map (Bg (D.int .i64) vI (g.map λp=>(p.1,p.2.1))))).take 6=[o0,o1,o2,o3,.map (Bg (D.int .i64) vI (g.map λp=>(p.1,p.2.1))),o5]:=by
   apply acp;intro i;rw[K1];split
   .next hi=>
    by_cases e:i=4
    .subst e;rw[zl (by omega)];rfl
    .rw[nt (le e),t i (k i hi),ej (by simpa using hi)];match i,hi,e with
     |0,_,_=>rfl
     |1,_,_=>rfl
     |2,_,_=>rfl
     |3,_,_=>rfl
     |5,_,_=>rfl
   .next hi=>exact(np (by simp;omega)).symm
  rw[e];have o:Ar 6 (.map (Bg (D.int .i64) vI (g.map λp=>(p.1,p.2.1))))=true:=eF _;simp only[List.all_cons,h0,h1,w,z,A,o,List.all_nil,ad1]
def XB(g:AE)(h:List DT)(m:List (Int×DT))(st:List (Pr×DT))(i:List (Int×List Int))(out:List (Int×DT)):Sg:=
 [Gn g h,mI m,m2 st,.row true 1 [.map 2],.map (Bg (D.int .i64) vI i),.row true 1 [.map 4],mI out]
theorem Jm(st:List (Pr×DT))(fr:Int)(d:DT):∀(l:List Int) {s:List (Int×DT)×List Int},(∀x∈s.2,(look s.1 x).isSome=true)->∀x∈(visitM st fr d l s).2,(look (visitM st fr d l s).1 x).isSome=true
 |[],_,h=>h
 |m::l,s,h=>by
  have e:visitM st fr d (m::l) s=visitM st fr d l (E5 st fr d s m):=rfl;rw[e];refine Jm st fr d l λx g=>?_;unfold E5 at g⊢;split
  .next i=>rw[ap i]at g;exact h x g
  .next i=>
   rw[ao i]at g;simp only[FR];split
   .rfl
   .next j=>
    rcases dl.1 g with g|g
    .exact h x g
    .simp only[cR]at g;exact absurd g j
def fE(n:Nat)(ks:List Int)(g:AE)(o:List DT)(m:List (Int×DT))(st:List (Pr×DT))(s:List (Int×List Int))(out:List (Int×DT))(i:Int)(k:Nat)(S:Sg):Prop:=
 ∃h q j,RI st (tr g.fam) i h q/\Hp n h/\(q≠[]->j=true)/\(∀x∈q,(look h x).isSome=true)/\q.length+mu n ks h<=2 ^ 29/\q.length+2 * mu n ks h<k/\S=XB g o m st s out++[mI h,.row true 1 [.map 7],.row j 1 (q.map λx=>.d (.int .i64 x)),.row true 1 [.row 9 q.length]]
theorem T1:∀n:Nat,(SV n).length=2 ^ n
 |0=>rfl
 |n+1=>by simp[SV,T1 n];omega
theorem eM{α:Type}[DecidableEq α](n:Nat)(m:List (α×DT)):∀ks:List α,mu n ks m<=ks.length * 2 ^ n
 |[]=>by simp[mu]
 |k::ks=>by
  have h1:=eM n m ks;have g:outs n (DW m k)<=2 ^ n:=by unfold outs;rw[<-T1 n];exact List.countP_le_length
  unfold mu at *;simp only[eP,adG,ea,nc,Nat.one_mul];omega
theorem YI{α β γ:Type}[DecidableEq α](f:β->γ)(l:List (α×β))(k:α):look (l.map λp=>(p.1,f p.2)) k=(look l k).map f:=by
 induction l with
 |nil=>rfl
 |cons p l g=>
  rw[eP,Cx,Cx,g];split<;>rfl
def cX(n:Nat)(g:AE)(h:List DT):Prop:=∃j:Nat,j<g.A2.length/\∃c,(tr g.fam).Ca c=true/\U2 (Jt g h (ph n true g h) g.AD.length 0 c) j j
theorem kM{n:Nat}{g:AE}{h:List DT}{st:List (Pr×DT)}(i:Wf n g h (ph n true g h) g.AD.length 0 st):(∃j:Nat,j<g.A2.length/\∃c,ic st (tr g.fam) j c)↔cX n g h:=by
 have h1:∀c (j y:Int),U2 (Sz st c) j y↔U2 (Jt g h (ph n true g h) g.AD.length 0 c) j y:=λc j y=>
  ⟨U2.mono λa b=>(i.Ca c a b).1,U2.mono λa b=>(i.Ca c a b).2⟩
 unfold cX ic;simp only[h1]
abbrev ol:=@List.map_drop
abbrev io:=@List.getD_eq_getElem?_getD
abbrev adj:=@List.any_cons
abbrev ad4:=@List.any_nil
theorem Zl{n:Nat}(hn:n<=12)(g:AE)(z:List DT)(hlen:z.length=g.AD.length)(zG:∀t∈z,FE n t)(zH:FE n (tr g.fam))(wh:Valid g.fam)(hfits:Fits g):
  BP prog 59 [.ptr 0 1 0 0] [Gn g z] λv S'=>∃out,Hp n out/\((∃q∈out,q.2≠.leaf false)↔cX n g z)/\v=.map 1/\S'=[Gn g z,mI out]:=by
 obtain⟨m,hm,hme,hder⟩:=Sv hn g z hlen zG true;refine BP.AK func59 (by kernel_rfl) rfl (by simp) λwf wfs=>?_;simp[Gn,OI,sQ,Hw,JQ,D4,DZ,Bs]at wfs;obtain⟨_,_,_,_,_,⟨a4,_⟩,⟨a1,a2⟩,_,_,_,_⟩:=wfs;have a3:∀p∈g.AD,p.right.length<=al:=λp hp=>by
  rw[Di]at a2;have:=a2 p hp;simp[AH,DZ,Bs]at this;exact this.2.2.1.1
 rw[ntmps59];unfold Gn;refine xW λK o=>?_;simp;apply o;refine FX λK o=>?_;refine xJ ?_;simp;refine xF (hder) [0] rfl ?_;simp[Gn];refine xJ ?_;simp;refine B6 (o _ _ ?_);refine xW λK o=>?_;simp;apply o;refine xS (xW λK o=>?_);simp[D4];apply o;refine Bx ?_;refine DV g.AD.length (λi tm S=>tm 0=.ptr 0 1 0 0/\tm 3=.map 1/\tm 4=.ptr 3 1 0 0/\tm 29=.d (Co g.AD)/\tm 30=.d (.int .i64 g.AD.length)/\tm 31=.d (.int .i64 i)/\∃st,Wf n g z m i 0 st/\S=RN g z m st) (i0:=0) (cq _) (by simp[RN,Gn,mI,m2,D4];exact⟨[],Wf.nil,rfl⟩) ?_;rintro i tm S hi ⟨t0,t3,t4,t29,t30,t31,st,U,rfl⟩;unfold RN Gn mI m2;refine xW λK o=>?_;simp[t30,t31];apply o;refine xC ?_;simp;refine⟨λQ=>?_,λvw=>?_⟩
 .have zi:i<z.length:=by omega
  have hp3:=a3 g.AD[i] (b9 Q);have zI:g.AD[i].right.length<=65536:=Tc hfits (b9 Q);generalize hp:g.AD[i]=p at *;refine xK ?_;refine xB ?_;refine xW λK o=>?_;simp[t29,t31,Q,hp];apply o;refine xW λK o=>?_;simp;apply o;refine Bx ?_;refine DV p.right.length (λj w S=>w 0=.ptr 0 1 0 0/\w 3=.map 1/\w 4=.ptr 3 1 0 0/\w 29=.d (Co g.AD)/\w 30=.d (.int .i64 g.AD.length)/\w 31=.d (.int .i64 i)/\w 5=.d (.int .i64 i)/\w 6=.ptr 4 1 0 0/\w 37=.d (Az p.right)/\w 38=.d (.int .i64 p.right.length)/\w 39=.d (.int .i64 j)/\∃st,Wf n g z m i j st/\S=RN g z m st++[.row true 13 [.d (AH p)]]) (i0:=0) (cq _) (by simp[RN,Gn,AH,t0,t3,t4,t29,t30,t31];exact⟨st,U,rfl⟩) ?_;rintro j w S hj ⟨s0,s3,s4,s29,s30,s31,s5,s6,s37,s38,s39,st,U,rfl⟩;unfold RN Gn mI m2;refine xW λK o=>?_;simp[s38,s39];apply o;refine xC ?_;simp;refine⟨λvM=>?_,λhge2=>?_⟩
  .refine xK ?_;refine xB ?_;refine xW λK o=>?_;simp[s37,s39,vM];apply o;refine xS (xW λK o=>?_);simp;apply o;refine AR ?_;simp;refine⟨λyR=>?_,λyR=>?_⟩
   .refine C7 ?_;refine xV λK o=>?_;simp[s39];apply o;refine⟨vM,_,_,ip 5 (by simp) (by simp) (by simp),?_⟩;simp[clean,s0,s3,s4,s29,s30,s31,s5,s6,s37,s38,AL vM hp3];exact⟨st,U.skip Q hp vM (.inl yR),rfl⟩
   .refine xK ?_;refine xD [0,2,4,6,8,12,14,16,18,20,11,23,24] (by kernel_rfl) λK o=>?_;simp;have hw:=AL vM hp3;have W:(j:Int)+1<=p.right.length:=by omega
    have yI:j+1=p.right.length\/(BN ((Option.map AI p.right[j+1]?).getD (D.bool false))).length=2/\CZ.oneD ((Option.map AI p.right[j+1]?).getD (D.bool false))=true:=by
     by_cases e:j+1=p.right.length
     .exact .inl e
     .right;rw[ci (show j+1<p.right.length by omega)];simp
    have hS0:Ah 2 (List.map (V.d ∘ AI) p.right):=by simp
    have hS1:Ah 2 (List.take j (List.map (V.d ∘ AI) p.right)):=λy hy=>hS0 y (W0 hy);have hS2:Ah 2 (List.drop (j+1) (List.map (V.d ∘ AI) p.right)):=λy hy=>hS0 y (acJ hy);have hj30:j<=1073741824:=by omega
    have hj31:j+(p.right.length - (j+1))<=1073741824:=by omega
    have we:List.take p.right.length (List.map AI p.right)=List.map AI p.right:=s9 (by simp);have N:List.take p.right.length (List.map (V.d ∘ AI) p.right)=List.map (V.d ∘ AI) p.right:=s9 (by simp);have zX:(Da p.right j).length=j+(p.right.length - (j+1)):=by simp[Da];omega
    have h0j:(0:Int)<=(j:Int)+1:=by omega
    (repeat(refine xG ?_ ?_;(·simp[s6,AH,hj,W,h0j]);simp[s6,AH,hw]));(repeat((refine xG ?_ ?_);(focus(simp[W,h0j,yI];done));simp[we]));((refine tS [false,false,false,false,false,true,false,false,false,true] (by kernel_rfl) ?_ ?_);(focus(simp[Ac,s6,hj,hw,W,h0j,yI,we,hj30,hS1];done));simp[hj]);refine xX 1 (by kernel_rfl) ?_;simp[Ac,s6,hj,hw,W,h0j,yI,we,hj31,hS1,hS2];refine xA 1 ?_;simp;refine xM (o _ _ ?_);refine ed (c9 6 (xs:=(Da p.right j).map AI) (by simp;exact⟨rfl,rfl,rfl⟩) ?_) ?_
    .have e:(List.take j (List.map (V.d ∘ AI) p.right)++List.drop (j+1) (List.map (V.d ∘ AI) p.right))=(Da p.right j).map λx=>V.d (AI x):=by
      simp[Da,kw]
     rw[e,Cy]
    simp;refine ed (AJ.qm 9 (d:=Az (Da p.right j)) ?_) ?_
    .simp[zX]
    have hD:=KT hn hm (Da p.right j) (zG _ (b9 zi));(repeat refine xS ?_);refine HA λK o=>?_;refine xJ ?_;simp[s0,s5,D4,zi];refine AV.El (fp hn m hm z[i] (zG _ (b9 zi)) (Da p.right j)) [1] rfl (by simp[mI,s3];try rfl) ?_;simp[mI,s3];(repeat((refine Cd ?_ ?_);(focus(simp;done));simp));refine B6 (o _ _ ?_);(try simp only[C4]);refine xS (xW λK o=>?_);simp;apply o;refine Bx ?_;have hr65:(Da p.right j).length<=al:=by rw[zX];simp only[al]at hp3⊢;omega
    have hdo:gz m z[i] p.right j=if Bq (Da p.right j)then .leaf false else JM m z[i] (Da p.right j):=rfl;have hdok:=pI hn hm (zG _ (b9 zi)) p.right j;have xy:gz m (z.getD i (.leaf false)) p.right j=gz m z[i] p.right j:=by rw[io,ci zi];rfl
    generalize hX:gz m z[i] p.right j=X at *;generalize hy:p.right[j]=y at *;generalize hR:Da p.right j=R at *;generalize hA:JM m z[i] R=A at *;refine DV R.length (λk w S=>w 0=.ptr 0 1 0 0/\w 3=.map 1/\w 4=.ptr 3 1 0 0/\w 29=.d (Co g.AD)/\w 30=.d (.int .i64 g.AD.length)/\w 31=.d (.int .i64 i)/\w 5=.d (.int .i64 i)/\w 6=.ptr 4 1 0 0/\w 37=.d (Az p.right)/\w 38=.d (.int .i64 p.right.length)/\w 39=.d (.int .i64 j)/\w 8=.ptr 5 1 0 0/\w 10=.ptr 7 1 0 0/\w 68=.d (Az R)/\w 69=.d (.int .i64 R.length)/\w 70=.d (.int .i64 k)/\S=RN g z m st++[.row true 13 [.d (AH p)],.row true 2 [.d (AI y)],.BY (R.map AI),.row true 2 [.d (AB (Cq (if Bq (R.take k)then .leaf false else A)))]]) (i0:=0) (cq _) (by simp[RN,Gn,mI,m2,AH,AI,D4,Bq,s0,s3,s4,s29,s30,s31,s5,s6,s37,s38,s39]) ?_;rintro k tm2 S hk ⟨r0,r3,r4,r29,r30,r31,r5,r6,r37,r38,r39,r8,r10,r68,r69,r70,rfl⟩;unfold RN Gn mI m2;refine xW λK o=>?_;simp[r69,r70];apply o;refine xC ?_;simp;refine⟨λym=>?_,λhge3=>?_⟩
    .have hany:Bq (R.take (k+1))=(Bq (R.take k)||R[k].token):=by
      unfold Bq;rw[pe ym,List.any_append];simp only[adj,ad4,PP]
     rw[hany];refine xK ?_;refine xB ?_;refine xW λK o=>?_;simp[r68,r70,ym];apply o;refine xW λK o=>?_;simp;apply o;refine AR ?_;simp;refine⟨λht=>?_,λht=>?_⟩
     .refine HA λK o=>?_;refine xJ ?_;simp;refine B9 (H7 false) rfl (by simp[xN]) ?_;simp;refine xJ ?_;simp[r10];refine B6 (o _ _ ?_);refine xV λK o=>?_;simp[r70];apply o;refine⟨ym,_,_,ip 8 (by simp) (by simp) (by simp),?_⟩;simp[clean,r0,r3,r4,r29,r30,r31,r5,r6,r37,r38,r39,r8,r10,r68,r69,AL ym hr65,ht,Gi,AB]
     .refine CT ?_;refine xV λK o=>?_;simp[r70];apply o;refine⟨ym,_,_,ip 8 (by simp) (by simp) (by simp),?_⟩;simp[clean,r0,r3,r4,r29,r30,r31,r5,r6,r37,r38,r39,r8,r10,r68,r69,AL ym hr65,ht]
    .have vZ:k=R.length:=by omega
     subst vZ;rw[ne,<-hdo];refine C7 ?_;refine xW λK o=>?_;simp[r10];apply o;refine AR ?_;simp;refine⟨λxc=>?_,λxc=>?_⟩
     .obtain⟨o1,o2,o3⟩:=E0 JL hn (U.ok.at (p.left,y.index)) hdok;have Df:=oG st p.left y.index;have hXf:X≠.leaf false:=λe=>xc ((Jr hdok.HD).2 e);generalize hB:DW st (p.left,y.index)=B at *;generalize hC:QL or B X=C at *;refine xW λK o=>?_;simp[r6,r8];apply o;refine xE [0,2,4,6,8,10,12,14,16,18,21] (by kernel_rfl) λK o=>?_;simp;refine xA 2 ?_;simp[r4];refine Ag.Sm (Df) [2] rfl (by simp[m2];try rfl) ?_;simp;refine xA 2 ?_;simp[r10];refine B5 (Xs (Cq B) (Cq X)) rfl (by simp[xN]) ?_;simp[o3];refine xA 2 ?_;simp;refine B5 (HC (Cq C)) rfl (by simp[xN]) ?_;simp;refine xX 1023 (by kernel_rfl) ?_;simp;refine xM (o _ _ ?_);refine xV λK o=>?_;simp[r39];apply o;refine⟨vM,_,_,ip 5 (by simp) (by simp) (by simp),?_⟩;simp[clean,r0,r3,r4,r29,r30,r31,r5,r6,r37,r38,AL vM hp3];exact⟨C9 st (p.left,y.index) C,by rw[<-hC,<-hB];exact U.put hn Q hp vM hy (by simpa using yR) xy hdok,rfl⟩
     .refine CT ?_;refine xV λK o=>?_;simp[r39];apply o;refine⟨vM,_,_,ip 5 (by simp) (by simp) (by simp),?_⟩;simp[clean,r0,r3,r4,r29,r30,r31,r5,r6,r37,r38,AL vM hp3];exact⟨st,U.skip Q hp vM (.inr (xy.trans ((Jr hdok.HD).1 (by simpa using xc)))),rfl⟩
  .have wP:j=p.right.length:=by omega
   subst wP;refine C7 ?_;refine xV λK o=>?_;simp[s31];apply o;refine⟨Q,_,_,ip 4 (by simp) (by simp) (by simp),?_⟩;simp[clean,s0,s3,s4,s29,s30,AL Q a1];exact⟨st,U.row Q hp,rfl⟩
 .have vP:i=g.AD.length:=by omega
  subst vP;have xm:st.length<=65536:=ke U.len (by unfold eY;rw[ne];exact hfits);refine C7 ?_;(repeat refine xS ?_);refine xV λK o=>?_;simp;refine o _ _ ?_;(try simp only[xQ,reduceIte]);have hSt:SS st [] [] []:=⟨by simp,by simp[Keyed],by simp,by simp,by simp,by simp,by simp,by simp⟩;refine xS ?_;refine AW.fI 2 100 (Bg I3 vT st) (λit vis tm S=>tm 0=.ptr 0 1 0 0/\tm 4=.ptr 3 1 0 0/\tm 14=.ptr 5 1 0 0/\tm 100=.d (.raw (.pointer (some ⟨it,0,none⟩)))/\∃M R,SS st vis M R/\S=RN g z m st++[.map (bc M),.row true 1 [.map 4]]++R) ?_ ⟨rfl,rfl,rfl,?_⟩ ⟨rfl,rfl,rfl,?_⟩ ?_ ?_ ?_ ?_
  .decide
  .simp
  .simp
  .rintro it vis tm S ⟨q0,q4,E,H,M,R,hI,rfl⟩;exact⟨by simp[RN,m2],H⟩
  .refine Kj.op ?_ ?_
   .simp[t4]
   simp[t4];refine Kj.range rfl ?_ λit=>?_
   .simp
   .simp[FP,t0,t4];exact⟨[],[],hSt,rfl⟩
  .rintro it vis tm S i hi ⟨q0,q4,E,H,M,R,hI,rfl⟩ hiv;have vP:i<st.length:=by simpa[Bg]using hi
   obtain⟨a,b',t,hsti⟩:∃a b t,st[i]=((a,b),t):=⟨_,_,_,rfl⟩;have vQ:(Bg I3 vT st)[i]=(I3 (a,b'),vT t):=by simp[Bg,hsti]
   have hbm:st[i].1=(a,b'):=by rw[hsti]
   unfold RN Gn mI m2 bc;simp[vQ];refine xJ ?_;simp;refine B6 ?_;simp[H];refine xJ ?_;simp[I3];refine B6 ?_;cases hl:look M a with
   |none=>
    refine xE [0,2,4,6,8,10,12,14,16,18,21,23] (by kernel_rfl) λK o=>?_;simp;have wY:Ek (Bg (D.int .i64) ag M) (.int .i64 a) (.row (R.length+1+1+1+1+1+1+1) 1)=Bg (D.int .i64) ag (C9 M a ([b'],R.length+1)):=EZ (ev:=ag) (by intro a b;rw[eg];simp[De]) M a ([b'],R.length+1);refine xA 1 ?_;simp[E,hl,al];refine xX 9 (by kernel_rfl) ?_;simp[Ac,E,hl,al];refine xX 255 (by kernel_rfl) ?_;simp[Ac,E,wY];refine xM (o _ _ ?_);refine⟨_,_,am,by simp[q0],by simp[q4],by simp[E],by simp[H],C9 M a ([b'],R.length+1),R++[.row true 2 [.d (.agg [.int .i64 a,.int .i64 b'])],.row true 1 [.d (.int .i64 b')]],?_,?_⟩
    .exact hI.new vP hiv hbm hl
    .simp
   |some v=>
    obtain⟨l,j⟩:=v;have wV:=Gk hl;have x8:=hI.rows _ wV;have wY:Ek (Bg (D.int .i64) ag M) (.int .i64 a) (.row (j+6) (l.length+1))=Bg (D.int .i64) ag (C9 M a (l++[b'],j)):=by
     have:=EZ (ek:=D.int .i64) (ev:=ag) (by intro a b;rw[eg];simp[De]) M a (l++[b'],j);simpa[ag]using this
    refine xE [0,2,4,6,8,10,12,14,16,18,21,23] (by kernel_rfl) λK o=>?_;simp;have yh:l.length<=65536:=by
     have h1:=hI.len _ wV;have h2:=Hb id hI.nd (n:=st.length) (λx hx=>hI.lt x hx) (λx _ y _ e=>e);simp only at h1;omega
    have hjR:=AZ x8;have hrow':∀X:List O,(R++X)[j]?=some (.row true 1 (l.map λx=>.d (.int .i64 x))):=λX=>by rw[ej hjR];exact x8
    have hYj:∀(X Y:O) (h:R.length<((R++[Y]).set j X).length),((R++[Y]).set j X)[R.length]'h=Y:=λX Y h=>by
     rw[acs (by simp only at hjR;omega)];simp
    have hl30:l.length+1<=1073741824:=by omega
    have hlm:l.length+1<=al:=by simp only[al];omega
    refine xA 1 ?_;simp[E,hl,al,ag];refine xX 9 (by kernel_rfl) ?_;simp[Ac,E,hl,al,ag,hrow',hl30,hYj];have hjS:j<R.length+1:=by simp only at hjR;omega
    refine xX 255 (by kernel_rfl) ?_;simp[Ac,E,hYj,wY];refine xM (o _ _ ?_);refine⟨_,_,am,by simp[q0],by simp[q4],by simp[E],by simp[H],C9 M a (l++[b'],j),(R++[O.row true 2 [V.d (.agg [.int .i64 a,.int .i64 b'])]]).set j (O.row true 1 ((l++[b']).map λx=>.d (.int .i64 x))),?_,?_⟩
    .exact hI.more vP hiv hbm hl
    .simp
  .rintro it vis tm S ⟨q0,q4,E,H,M,R,hI,rfl⟩ vk;refine xJ ?_;simp;refine B6 ⟨by simp,?_⟩;obtain⟨T,hnl⟩:∃T:List (Int×List Int),T=M.map λp=>(p.1,p.2.1):=⟨_,rfl⟩;refine ed (kA (o0:=Gn g z) (o1:=mI m) (o2:=m2 st) (o3:=.row true 1 [.map 2]) (o5:=.row true 1 [.map 4]) hI (by decide) (by simp[Gn]) (by simp) (by simp) (by simp) (by simp)) ?_;rw[<-hnl];have hnk:∀k,look T k=(look M k).map (·.1):=λk=>by rw[hnl];exact YI (·.1) M k
   have J:∀k x,x∈(look T k).getD []->x∈st.map (·.1.2):=λk x hx=>by
    rw[hnk]at hx;cases hk:look M k with
    |none=>rw[hk]at hx;simp at hx
    |some l=>
     rw[hk]at hx;obtain⟨q,hq,e⟩:=eo.1 (hI.ks _ (Gk hk) x (by simpa using hx));exact eo.2 ⟨q,hq,by rw[e]⟩
   have hny:∀c k x,Sz st c k x->x∈(look T k).getD []:=λc k x hs=>by
    obtain⟨q,hq,e⟩:=eo.1 (kZ hs);obtain⟨u,hu,eu⟩:=jp.1 hq;obtain⟨v,e1,e2⟩:=hI.all u (vk u (by simpa[Bg]using hu)) hu;rw[eu,e]at e1 e2;rw[hnk,e1];exact e2
   clear hI vk;generalize xu:clean 6 _=tmq;have u0:tmq 0=.ptr 0 1 0 0:=by rw[<-xu];simp[clean,q0]
   have u14:tmq 14=.ptr 5 1 0 0:=by rw[<-xu];simp[clean,E]
   have u4:tmq 4=.ptr 3 1 0 0:=by rw[<-xu];simp[clean,q4]
   have hfe:Cq (tr g.fam)=g.fam:=Ep wh;unfold Gn mI m2;refine xW λK o=>?_;simp;apply o;refine xS (xW λK o=>?_);simp[u0,D4];apply o;refine Bx ?_;refine DV g.A2.length (λi tm S=>tm 0=.ptr 0 1 0 0/\tm 4=.ptr 3 1 0 0/\tm 14=.ptr 5 1 0 0/\tm 16=.map 6/\tm 122=.d (.int .i64 g.A2.length)/\tm 123=.d (.int .i64 i)/\∃out,Hp n out/\Keyed out/\OG st (tr g.fam) i out/\S=XB g z m st T out) (i0:=0) (cq _) (by simp[u0,u14,u4,XB,Gn,mI,m2,D4];exact⟨[],λ_ h=>absurd h (by simp),Keyed.nil,OG.nil,rfl⟩) ?_;rintro i tm S hi ⟨t0,t4,t14,t16,t122,t123,out,P,hky,hon,rfl⟩;unfold XB Gn mI m2;refine xW λK o=>?_;simp[t122,t123];apply o;refine xC ?_;simp;refine⟨λQ=>?_,λvw=>?_⟩
   .refine xK ?_;refine xB ?_;(repeat refine xS ?_);refine xV λK o=>?_;simp[t123];refine o _ _ ?_;(try simp only[xQ,reduceIte]);cases hl:look T i with
    |none=>
     refine xS (xW λK o=>?_);simp[t14,hl];apply o;refine AR ?_;simp;refine C7 ?_;refine xV λK o=>?_;simp[t123];apply o;refine⟨Q,_,_,am,?_⟩;simp[t0,t4,t14,t16,t122,AL Q a4];exact⟨out,P,hky,hon.skip λc y hs=>(by have:=hny c _ y hs;rw[hl]at this;simp at this),rfl⟩
    |some l=>
     refine xS (xW λK o=>?_);simp[t14,hl,vI];apply o;refine AR ?_;simp;refine⟨λhe=>?_,λvh=>?_⟩
     .refine C7 ?_;refine xV λK o=>?_;simp[t123];apply o;refine⟨Q,_,_,am,?_⟩;simp[t0,t4,t14,t16,t122,AL Q a4];exact⟨out,P,hky,hon.skip λc y hs=>(by have:=hny c _ y hs;rw[hl]at this;have e:l=[]:=(by simpa using he);simp[e]at this),rfl⟩
     .refine xK ?_;refine xW λK o=>?_;simp;apply o;refine FX λK o=>?_;refine xO ?_;simp;refine sv (ll 132 1 (xs:=[]) (by simp)) ?_;simp;refine xJ ?_;simp;refine B6 (o _ _ ?_);(repeat refine xS ?_);refine xV λK o=>?_;simp[t14,t4];refine o _ _ ?_;(try simp only[xQ,reduceIte]);have yn:(look T (i:Int)).getD []=l:=by rw[hl];rfl
      obtain⟨wq1,vS,wm,hc⟩:=Qq hn T st U.ok [] (λ_ h=>absurd h (by simp)) false [] i (tr g.fam) zH (st.map (·.1.2)) (J i) (by
       have h1:=eM n ([]:List (Int×DT)) (st.map (·.1.2));have h2:2 ^ n<=2 ^ 12:=zn (by decide) hn;have h3:=Ot (show(st.map (·.1.2)).length<=65536 by simpa using xm) h2;simp only[j0];omega)
      have hvis:=Ic hn U.ok (fr:=i) zH (ks:=st.map (·.1.2)) l (s:=([],[])) (λx hx=>J i x (by rw[yn];exact hx)) (λ_ h=>absurd h (by simp));have hlk2:=Jm st i (tr g.fam) l (s:=([],[])) (by simp);rw[yn]at hc vS;have hri:=RI.start (fam:=tr g.fam) (i:=(i:Int)) (l:=l) (λy c hs=>by have:=hny c _ y hs;rwa [yn]at this) (LQ hn U.ok (fr:=(i:Int)) zH (ks:=st.map (·.1.2)) l (s:=([],[])) (λx hx=>J i x (by rw[yn];exact hx)) (λ_ h=>absurd h (by simp)));obtain⟨Y,hY⟩:∃Y,Y=visitM st i (tr g.fam) l ([],[]):=⟨_,rfl⟩;rw[<-hY]at hc vS hvis hlk2 hri;simp only[bB,hfe]at hc;refine FX λK o=>?_;refine xJ ?_;simp[t0,D4];refine sv (AJ.qm 140 (d:=AB g.fam) (by simp[AB])) ?_;refine xF (hc) [5,8,3,10,4,7,2,9] rfl ?_;simp;refine xJ ?_;simp;refine B6 (o _ _ ?_);refine xB ?_;generalize hks:st.map (·.1.2)=ks at *;have hmu:Y.2.length+mu n ks Y.1<=2 ^ 29:=by
       have h1:=eM n ([]:List (Int×DT)) ks;have h2:2 ^ n<=2 ^ 12:=zn (by decide) hn;have h3:=Ot (show ks.length<=65536 by rw[<-hks];simpa using xm) h2;have h4:=hvis.2.1;simp only[j0]at h4;omega
      have hne1:Y.2≠[]->wq1=true:=λvh=>by
       rcases vS with h|h
       .exact absurd (ab6.1 h) vh
       .exact h
      refine aeA (λk tm S=>tm 0=.ptr 0 1 0 0/\tm 4=.ptr 3 1 0 0/\tm 14=.ptr 5 1 0 0/\tm 16=.map 6/\tm 122=.d (.int .i64 g.A2.length)/\tm 123=.d (.int .i64 i)/\tm 17=.d (.int .i64 i)/\tm 18=.ptr 8 1 0 0/\tm 19=.ptr 10 1 0 0/\tm 20=.fn (.func 149) [] [.ptr 5 1 0 0,.ptr 8 1 0 0,.ptr 3 1 0 0,.ptr 10 1 0 0]/\fE n ks g z m st T out i k S) ⟨Y.2.length+2 * mu n ks Y.1+1,_,_,am,by simp[t0],by simp[t4],by simp[t14],by simp[t16],by simp[t122],by simp[t123],by simp,by simp,by simp,by simp,(by unfold fE;exact⟨Y.1,Y.2,wq1,hri,hvis.1,hne1,hlk2,hmu,Nat.lt_succ_self _,by simp[XB,Gn,D4,AB]⟩)⟩ ?_;rintro k tm S ⟨t0,t4,t14,t16,t122,t123,t17,t18,t19,t20,hQ⟩;unfold fE at hQ;obtain⟨G,q,wq,hR,L,hwq,zJ,yo,hqk,rfl⟩:=hQ;unfold XB Gn mI m2;cases q with
      |nil=>
       refine xS (xW λK o=>?_);simp[t19];apply o;refine AR ?_;simp;refine C7 ?_;have Df:=Xa G (i:Int);refine HA λK o=>?_;refine xJ ?_;simp[t16,t17,t18];refine xF (Df) [7] rfl ?_;simp[mI];refine xJ ?_;simp;refine B6 (o _ _ ?_);refine xV λK o=>?_;simp[t123];apply o;refine⟨Q,_,_,ip 7 (by simp) (by simp) (by simp),?_⟩;simp[clean,t0,t4,t14,t16,t122,AL Q a4];exact⟨C9 out i (DW G i),P.put _ (L.at _),hky.C9 _ _,hon.put hR,rfl⟩
      |cons x q=>
       have hwt:=hwq (by simp);subst hwt;refine xS (xW λK o=>?_);simp[t19];apply o;refine AR ?_;simp;refine xK ?_;refine Bx ?_;refine xW λK o=>?_;simp[t19];apply o;refine FX λK o=>?_;(repeat(refine Cd ?_ ?_;(·simp[t19]);simp[t19]));refine AV.J2 9 (q.length+1) 1 ((x::q).map λx=>.d (.int .i64 x)) 1 (q.length+1) rfl (by simp;omega) ?_;simp;refine xJ ?_;simp[t19];refine B6 (o _ _ ?_);refine ed (rx [0,1,2,3,4,5,6,7,8,11,10] (S0:=XB g z m st T out++[mI G,.row true 1 [.map 7],.row true 1 (q.map λx=>.d (.int .i64 x)),.row true 1 [.row 9 q.length]]) ?_ ?_ ?_) ?_
       .simp[XB,Gn,s9]
       .simp
       .rfl
       generalize yK:pick _ _=F;have r0:F 0=.ptr 0 1 0 0:=by rw[<-yK];simp[pick,t0];try decide
       have r4:F 4=.ptr 3 1 0 0:=by rw[<-yK];simp[pick,t4];try decide
       have r14:F 14=.ptr 5 1 0 0:=by rw[<-yK];simp[pick,t14];try decide
       have r16:F 16=.map 6:=by rw[<-yK];simp[pick,t16];try decide
       have r122:F 122=.d (.int .i64 g.A2.length):=by rw[<-yK];simp[pick,t122]
       have r123:F 123=.d (.int .i64 i):=by rw[<-yK];simp[pick,t123]
       have r17:F 17=.d (.int .i64 i):=by rw[<-yK];simp[pick,t17]
       have r18:F 18=.ptr 8 1 0 0:=by rw[<-yK];simp[pick,t18];try decide
       have r19:F 19=.ptr 10 1 0 0:=by rw[<-yK];simp[pick,t19];try decide
       have r20:F 20=.fn (.func 149) [] [.ptr 5 1 0 0,.ptr 8 1 0 0,.ptr 3 1 0 0,.ptr 10 1 0 0]:=by rw[<-yK];simp[pick,t20];try decide
       have r21:F 21=.d (.int .i64 x):=by rw[<-yK];simp[pick]
       obtain⟨dd,hdd⟩:=jw.1 (zJ x (by simp));have hddk:FE n dd:=L _ (Gk hdd);simp only[ea]at yo hqk;obtain⟨wq2,zZ,hw4,vu⟩:=Qq hn T st U.ok G L true q x dd hddk ks (J x) (by omega);have hvis2:=Ic hn U.ok (fr:=x) hddk (ks:=ks) ((look T x).getD []) (s:=(G,q)) (J x) L;have hlk3:=Jm st x dd ((look T x).getD []) (s:=(G,q)) (λy hy=>zJ y (by simp[hy]));have hvs:=LQ hn U.ok (fr:=x) hddk (ks:=ks) ((look T x).getD []) (s:=(G,q)) (J x) L;have hda:dd=DW G x:=by unfold DW;rw[hdd];rfl
       obtain⟨Z,hZ⟩:∃Z,Z=visitM st x dd ((look T x).getD []) (G,q):=⟨_,rfl⟩;rw[<-hZ]at vu zZ hvis2 hlk3 hvs;obtain⟨v1,v2,v3⟩:=hvis2;simp only at v2 v3;have hwq2:=hw4 rfl;subst hwq2;simp only[bB]at vu;unfold XB Gn mI m2;refine xW λK o=>?_;simp[r21,r17];apply o;refine AR ?_;simp;refine⟨λhne2=>?_,λhe2=>?_⟩
       .refine HA λK o=>?_;refine xJ ?_;simp[r20,r21,r18,hdd,vT];refine xF (vu) [5,8,3,10,4,7,2,9] rfl ?_;simp;refine xJ ?_;simp;refine B6 (o _ _ ?_);refine⟨k - 1,by omega,_,_,am,by simp[r0],by simp[r4],by simp[r14],by simp[r16],by simp[r122],by simp[r123],by simp[r17],by simp[r18],by simp[r19],by simp[r20],(by unfold fE;exact⟨Z.1,Z.2,true,hR.visit (by simpa using hne2) (λy c hs=>hny c x y hs) (hda▸hvs),v1,λ_=>rfl,hlk3,by omega,by omega,by simp[XB,Gn]⟩)⟩
       .refine CT ?_;refine⟨k - 1,by omega,_,_,am,by simp[r0],by simp[r4],by simp[r14],by simp[r16],by simp[r122],by simp[r123],by simp[r17],by simp[r18],by simp[r19],by simp[r20],(by unfold fE;exact⟨G,q,true,(by have e:x=(i:Int):=(by simpa using he2);rw[e]at hR;exact hR.pass),L,λ_=>rfl,λy hy=>zJ y (by simp[hy]),by omega,by omega,by simp[XB,Gn]⟩)⟩
   .have vP:i=g.A2.length:=by omega
    subst vP;refine C7 ?_;refine xW λK o=>?_;simp[t16];apply o;refine Af ?_;(try simp only[xQ,reduceIte]);refine⟨_,_,rx [0,6] (S0:=[.row true 10 [.d (D4 g z)],.map (Bg (D.int .i64) vT out)]) ?_ ?_ ?_,?_,_,_,⟨out,P,by simpa using(hon.found hky P).trans (kM (hme▸U)),rfl,rfl⟩,.inr ⟨?_,rfl⟩⟩
    .simp
    .simp
    .rfl
    .simp;try decide
    .simp[pick];try decide
end Go.Koi
