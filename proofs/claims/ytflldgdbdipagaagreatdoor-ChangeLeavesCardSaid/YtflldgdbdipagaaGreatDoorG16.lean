/-
  The law ChangeLeaves of the package koinelaw31 returns true for every input, and its arguments read afterwards as before; no condition beyond those of the given card.
-/
import Derived.Test.YtflldgdbdipagaaGreatDoorG15
import Derived.Deep.Slices
import Derived.Test.YtflldgdbdipagaaGreatDoorCards
import Derived.Test.YtflldgdbdipagaaGreatDoorTie
import Derived.ProofKit
import Derived.OpenShut
import Derived.Deep.DeepHandedRow
import Derived.Lib.LaidTab
import Derived.WideKeyArgs
set_option maxHeartbeats 64000000
set_option maxRecDepth 100000
open List renaming length->Z
open Bool renaming true->J,false->am
open Option renaming some->al
open Go.Proofs.Tryz renaming prog->a8
open Go renaming Value->cL
open Go.Proofs.Tryz
namespace Go.Koi
open Go.Proofs Tryz DT
theorem qp(P:Pure a8 4 [] (.bool J))(y:Input)(x:IL):AH a8 3 [.d (De y),.d (DC x)] [] (.d (.bool J)) []:=by
 refine zD func3 82 rfl λwf _=>?_;apply yW;simp;apply yS;apply yJ;simp;refine Bz (P) rfl (by simp) (yJ ?_);simp;(repeat apply xS);apply yT;apply yJ;simp;refine AY.Ih (dW y) [] rfl ?_ ?_ ?_
 .simp
 .rintro v C ⟨rfl,g,c,t,ok,kn,rfl,_⟩;simp
 rintro v C ⟨rfl,g,c,t,ok,kn,rfl,E,hc8,hcb,htu⟩;simp;apply yJ;simp;have q:=E.okF;have Q:=lj g x E.toMG (D5 q.1);(repeat apply xS);apply yT;apply yJ;simp;refine AY.Ih Q [] rfl ?_ ?_ ?_
 .simp
 .rintro v C ⟨rfl,c,rfl,_⟩;simp
 rintro v C ⟨rfl,ch,rfl,⟨T,z9,hk3⟩,hk4⟩;simp;apply yJ;simp;obtain⟨h,m,e,hap,G⟩:=nE g ch ⟨T,z9⟩ (by have:=E.c1;omega) (λp hp=>by have:=E.sh.p p hp;omega) (by omega) hk4;have j:=AK.eq_1 ch;have k:=Af.eq_1 t;have U:=AA.eq_1 g;(repeat apply xS);apply yT;apply yJ;simp;refine Bz (hap) rfl (by simp[xN]) (yJ ?_);simp;by_cases W:ok=J/\e=0/\Z t.nodes<=100;case neg=>
  by_cases H:ok=J
  .by_cases L:e=0
   .have hl:(100:Int)<Z t.nodes:=by
     have:¬Z t.nodes<=100:=λh=>W ⟨H,L,h⟩;omega
    have X:100<Z t.nodes:=by omega
    refine xS (yS ?_);apply yH;simp[H,L,k,hl];apply AQ;simp;(repeat apply xS);apply yV;simp;(apply Am;refine⟨_,_,_,ap,?_,?_,fi 0 (S':=[]) rfl (by simp)⟩<;>simp[BC])
   .refine xS (yS ?_);(repeat((first|refine FD rfl ?_ ?_;(·simp[L])|refine Ov rfl ?_ ?_;(·simp)|refine Cg ?_ ?_;(·simp[L]));simp[H]));apply CO;apply AQ;simp[L];(repeat apply xS);apply yV;simp;(apply Am;refine⟨_,_,_,ap,?_,?_,fi 0 (S':=[]) rfl (by simp)⟩<;>simp[BC])
  .have ho':ok=false:=by simpa using H
   refine xS (yS ?_);apply yH;simp[ho'];apply AQ;simp;(repeat apply xS);apply yV;simp;(apply Am;refine⟨_,_,_,ap,?_,?_,fi 0 (S':=[]) rfl (by simp)⟩<;>simp[BC])
 obtain⟨rfl,rfl,Y⟩:=W;obtain⟨u,hu,hf,_,hN,hr2,hr3⟩:=htu rfl;have F:=(G.resolve_left (λh=>h rfl)).2;have hcg:Z g.conds<=12:=by have:=E.c1;omega
 obtain⟨N,v,P1,hv1,hv2,hv3,hv4,hv5⟩:=lS F hcg t u g.start hu hf (by rw[<-hu];exact Y) (λn hn=>(hN n hn).1) hr2;have hl2:¬(100:Int)<Z t.nodes:=by omega
 have B:¬100<Z t.nodes:=by omega
 have hkp:=gy ch.kind ⟨T,z9⟩;obtain⟨s,w⟩:∃s:Term,s=⟨N,t.tail⟩:=⟨_,rfl⟩;rw[<-w]at P1;have A:=Af.eq_1 s;obtain⟨st,o,hst2⟩:∃st:Nat,g.start=st/\st<Z g.Ay:=by
  have h:=(Bt q.1).2.2.2.1;simp only[IF,b9,cR]at h;exact⟨g.start.toNat,by omega,by omega⟩
 have hck:MA ch.kind=J->Pure a8 10 [AA h,EH c,AF st,Af s] (AF 0):=λhk=>by
  have K:=F.kp hk;have i:ch.kind≠14:=λe=>by rw[e]at hk;cases hk
  refine SZ h F.kh F.c2 c (by omega) (iN K hcb) st (by have:=(Pc F.mp).2.2.2.1;omega) s v (by rw[w];exact hv1) (by rw[<-o];exact hv2) (by rw[w];show Z N<=1000;omega) (λz hz=>?_) (λn hn=>?_) (λn hn=>?_)
  .rw[w]at hz;exact Zc K E.vg (hr3 z hz)
  .rw[w]at hn;exact hv5 hk c (λn hn=>eT (hN n hn)) n hn
  .rw[w]at hn;exact XV K E.vg q.1 hf hN (by rw[<-hu];exact hv4 i) n hn
 have hsl:ch.kind≠14->Pure a8 11 [Af t,Af s] (.bool J):=λi=>Q2 t s (by rw[w];exact hv4 i) (by rw[w]) (by omega) (by rw[w];show Z N<=2 ^ 29;omega);refine xS (yS ?_);apply yH;simp[k,hl2];apply AQ;simp;apply xK;apply yS;apply yJ;simp;refine Bz (P1) rfl (by simp[k,xN]) (yJ ?_);simp;refine xS (yW ?_);simp;apply AQ;simp;apply xK;apply yS;apply yJ;simp[j];refine Bz (hkp) rfl (by simp[xN]) (yJ ?_);simp;refine nt (R:=λtm S=>tm 5=.d (.bool J)/\tm 8=.ptr 3 1 0 0/\tm 10=.ptr 4 1 0 0/\tm 14=.ptr 6 1 0 0/\S=[.row J 8 [.d (De y)],.row J 5 [.d (DC x)],.row J 9 [.d (AA g)],.row J 2 [.d (Af t)],.row J 31 [.d (AK ch)],.row J 9 [.d (AA h)],.row J 2 [.d (Af s)]]) ?_ ?_
 .cases M:MA ch.kind with
  |true=>
   have hct:=hck M;apply yS;apply yH;simp[U,o];refine nc (hct) rfl rfl (by simp[xN];try rfl) ?_;simp;apply yH;simp;apply AQ;simp;apply B8;simp[U,j,k,A,o]
  |false=>
   apply yS;apply yH;simp;apply AQ;simp;apply B8;simp[U,j,k,A]
 rintro tm S ⟨t5,t8,t10,t14,rfl⟩;by_cases i:ch.kind=14
 ·(repeat apply xS);apply yT;apply yH;simp[t10,t5,j,i];(apply Am;refine⟨_,_,_,ap,?_,?_,fi 0 (S':=[]) rfl (by simp)⟩<;>simp[BC])
 .have hsl':=hsl i;(repeat apply xS);apply yT;(repeat((first|refine FD rfl ?_ ?_;(·simp[i])|refine Ov rfl ?_ ?_;(·simp[t8,t14,i])|refine Cg ?_ ?_;(·simp[t10,j,i]));simp[t10,t8,t14,j]));refine nc (hsl') rfl rfl (by simp[i,k,A,xN];try rfl) ?_;simp[k,A];apply yH;simp[t5];(apply Am;refine⟨_,_,_,ap,?_,?_,fi 0 (S':=[]) rfl (by simp)⟩<;>simp[BC])
open Go.Proofs Tryz
abbrev IB(w:World):Nat->Prop:=λb=>b<w.heap.size
section
variable {H:Type} {enc:TypeId×cL->H} {w:World} {sp:Nat->Bool} {held:Bool}
theorem Oz{w:World}{a:Addr}{v:cL}(h:w.cell? a=al v):a.block<w.heap.size/\a.spot=none:=by
 unfold World.cell? at h;split at h
 .rename_i c t f hb;refine⟨?_,?_⟩
  .rcases x3 a.block w.heap.size with h1|h1
   .exact h1
   .simp[WF h1]at hb
  .split at h
   .cases h
   .rename_i i;cases g:a.spot<;>simp[g]at i⊢
 .cases h
theorem RM(a:Addr)(n:Nat):(a.add n).block=a.block/\(a.add n).off=a.off+n:=by
 unfold Addr.add;split
 .rename_i h;subst h;simp
 .simp
theorem mv{w:World}{a:Addr}{i j:Nat}{v:cL}(h:w.cell? ((a.add i).add j)=al v):w.cell? ⟨a.block,a.off+i+j,none⟩=al v:=by
 obtain⟨_,k⟩:=Oz h;have g:=RM (a.add i) j;have m:=RM a i;have:(a.add i).add j=⟨a.block,a.off+i+j,none⟩:=by
  cases q:(a.add i).add j with
  |mk b o s=>
   rw[q]at k g;simp only at k g;rw[k,g.1,g.2,m.1,m.2]
 rw[<-this];exact h
theorem HI{g:Nat}{j:List cL}{x:DataW H×List MemPlace}(h:DataW.trod enc a8 w 0 sp held g 5 j=al x):∃n:Nat,j=[.int .u8 n]/\IX .u8 n=true:=by
 obtain⟨n,rfl,rfl,i⟩:=DataW.trod_int Tryz.underlying5 h;rw[WU]at i;have h0:0<=n:=by simp[IX]at i;omega
 obtain⟨m,rfl⟩:=Int.eq_ofNat_of_zero_le h0;exact⟨m,rfl,i⟩
instance:Inhabited D:=⟨.bool am⟩
theorem fL{t e sz g:Nat}{q:List cL}{x:DataW H×List MemPlace}(U:prog.underlying t=al (.slice e))(N:prog.cellsOf e=sz)(P:0<sz)(Q:D->Prop)
  (G:∀n q x,DataW.trod enc a8 w 0 sp held n e q=al x->∃u v,v.cells.toList=q/\CD (IB w) w u v/\Q u)
  (h:DataW.trod enc a8 w 0 sp held g t q=al x):∃R v,q=[v]/\one v=J/\CD (IB w) w (.sl R) v/\∀u∈R,Q u:=by
 rcases Go.Deep.open_slice U h with⟨rfl,_⟩|⟨a,len,cap,m,n,DD,Pl,rfl,_,h1,h2,W,_,S⟩
 .exact⟨[],_,rfl,rfl,.nil _ _,by simp⟩
 .have X:len<=m:=by subst W;split<;>omega
  obtain⟨f,z⟩:=Go.Deep.choose_lt (α:=D×cL) (n:=len) (p:=λi p=>p.2.cells.size=sz/\(∀j,j<sz->w.cell? ⟨a.block,a.off+i * sz+j,none⟩=p.2.cells[j]?)/\CD (IB w) w p.1 p.2/\Q p.1) (λi hi=>by
   obtain⟨K,L,Y⟩:=S i (by omega);obtain⟨u,v,rfl,k1,k2⟩:=G _ _ _ Y;obtain⟨_,E,A⟩:=World.cells?_some L;rw[N]at E A;have F:v.cells.size=sz:=by simpa using E
   refine⟨(u,v),F,λj hj=>?_,k1,k2⟩;have T:=A j hj;have B:j<v.cells.size:=by omega
   rw[aci,nu B]at T;rw[mv T,nu B])
  refine⟨(List.range len).map λi=>(f i).1,_,rfl,rfl,?_,?_⟩
  .cases len with
   |zero=>exact .nil _ _
   |succ k=>
    have h0:=z 0 (by omega);have C:=h0.2.1 0 P;rw[nu (by omega)]at C;have y7:=(Oz C).1;obtain⟨K,L,_⟩:=S 0 (by omega);obtain⟨_,E,A⟩:=World.cells?_some L;rw[N]at E A;have F:=A 0 P;rw[dl (by omega)]at F;have M:=(Oz F).2;have ha:(a.add (0 * sz)).add 0=a:=by simp[Addr.add]
    rw[ha]at M;obtain⟨b,o,s⟩:=a;simp only at M;subst M;have:=CD.sl (I:=IB w) (w:=w) sz ((List.range (k+1)).map λi=>(f i).1) b o cap (λi=>(f i).2) y7 (by simp;omega) (by simpa using h1) (λi hi=>by simpa using(z i (by simpa using hi)).2.2.1) (λi hi=>⟨(z i (by simpa using hi)).1,(z i (by simpa using hi)).2.1⟩);simpa using this
  .intro u hu;obtain⟨i,hi,rfl⟩:=fd.1 hu;exact(z i (th.1 hi)).2.2.2
theorem all_map{α:Type}{xs:List D}{g:α->D}(h:∀u∈xs,∃k,u=g k):∃ks:List α,xs=ks.map g:=by
 induction xs with
 |nil=>exact⟨[],rfl⟩
 |cons x l i=>
  obtain⟨k,rfl⟩:=h x (by simp);obtain⟨ks,rfl⟩:=i λu j=>h u (by simp[j]);exact⟨k::ks,rfl⟩
theorem Jq{g:Nat}{i:List cL}{x:DataW H×List MemPlace}(h:DataW.trod enc a8 w 0 sp held g 22 i=al x):
  ∃(ks:List Nat) (v:cL),i=[v]/\one v=J/\CD (IB w) w (.sl (ks.map λ(k:Nat)=>D.int .u8 k)) v:=by
 obtain⟨q,v,rfl,h1,j,m⟩:=fL Tryz.underlying22 (sz:=1) (by kernel_rfl) (by decide) (λu=>∃k:Nat,u=D.int .u8 k) (λn i x h=>by
  obtain⟨n,rfl,o⟩:=HI h;exact⟨D.int .u8 n,.int .u8 n,rfl,.int _ _ o,n,rfl⟩) h
 obtain⟨ks,rfl⟩:=all_map m;exact⟨ks,v,rfl,h1,j⟩
theorem Kh{t g k:Nat}{fs:Array Field}{j:List cL}{x:DataW H×List MemPlace}(o:prog.underlying t=al (.struct fs))(u:prog.cellsOf t=k)(v:fs.size=k)
  (q:∀i (hi:i<fs.size),fs[i].offset=i/\prog.cellsOf fs[i].type=1) (h:DataW.trod enc a8 w 0 sp held g t j=al x):
  Z j=k/\∃n,∀i (hi:i<fs.size) (hj:i<Z j),∃y,DataW.trod enc a8 w 0 sp held n fs[i].type [j[i]]=al y:=by
 obtain⟨z,n,rfl,rfl,h1,A,s⟩:=DataW.trod_struct o h;refine⟨by omega,n,λi hi hj=>?_⟩;obtain⟨f1,f2⟩:=q i hi;have m:=s i fs[i] (by simp[hi]);rw[f1,f2,dl (by omega)]at m;rw[GE hj]at m;exact⟨_,m⟩
theorem wv{a b c d e:D}{x y z u v:cL}(h1:CD (IB w) w a x)(g:CD (IB w) w b y)(j:CD (IB w) w c z)(k:CD (IB w) w d u)(m:CD (IB w) w e v)(o:one x=J/\one y=J/\one z=J/\one u=J/\one v=J):
  CD (IB w) w (.agg [a,b,c,d,e]) (.agg #[x,y,z,u,v]):=
 .agg _ _ rfl (λi h=>by
  match i,h with
  |0,_=>exact h1
  |1,_=>exact g
  |2,_=>exact j
  |3,_=>exact k
  |4,_=>exact m) (λi h=>by
  obtain⟨o1,q,s,t,A⟩:=o;match i,h with
  |0,_=>exact o1
  |1,_=>exact q
  |2,_=>exact s
  |3,_=>exact t
  |4,_=>exact A)
theorem yd{a b c d:D}{x y z u:cL}(h1:CD (IB w) w a x)(g:CD (IB w) w b y)(j:CD (IB w) w c z)(k:CD (IB w) w d u)(m:one x=J/\one y=J/\one z=J/\one u=J):
  CD (IB w) w (.agg [a,b,c,d]) (.agg #[x,y,z,u]):=
 .agg _ _ rfl (λi h=>by
  match i,h with
  |0,_=>exact h1
  |1,_=>exact g
  |2,_=>exact j
  |3,_=>exact k) (λi h=>by
  obtain⟨o1,o,q,s⟩:=m;match i,h with
  |0,_=>exact o1
  |1,_=>exact o
  |2,_=>exact q
  |3,_=>exact s)
theorem wm{g:List cL}(h:Z g=4):∃a b c d,g=[a,b,c,d]:=by
 match g,h with
 |[a,b,c,d],_=>exact⟨a,b,c,d,rfl⟩
theorem rG{g:List cL}(h:Z g=5):∃a b c d e,g=[a,b,c,d,e]:=by
 match g,h with
 |[a,b,c,d,e],_=>exact⟨a,b,c,d,e,rfl⟩
theorem lT{g:Nat}{m:List cL}{x:DataW H×List MemPlace}(h:DataW.trod enc a8 w 0 sp held g 143 m=al x):∃l:Hq,CD (IB w) w (CY l) (.agg m.toArray):=by
 obtain⟨u,n,j⟩:=Kh Tryz.underlying143 (k:=4) (by kernel_rfl) rfl (λi hi=>by
  match i,hi with
  |0,_=>exact⟨rfl,by kernel_rfl⟩
  |1,_=>exact⟨rfl,by kernel_rfl⟩
  |2,_=>exact⟨rfl,by kernel_rfl⟩
  |3,_=>exact⟨rfl,by kernel_rfl⟩) h
 obtain⟨a,b,c,d,rfl⟩:=wm u;obtain⟨E,h0⟩:=j 0 (by decide) (by simp);obtain⟨F,h1⟩:=j 1 (by decide) (by simp);obtain⟨G,z⟩:=j 2 (by decide) (by simp);obtain⟨K,A⟩:=j 3 (by decide) (by simp);obtain⟨n0,o,B⟩:=HI h0;obtain⟨ks,v,q,o1,r1⟩:=Jq h1;obtain⟨n2,s,r2⟩:=HI z;obtain⟨n3,t,C⟩:=HI A;simp at o q s t;subst o q s t;exact⟨⟨n0,ks,n2,n3⟩,yd (.int _ _ B) r1 (.int _ _ r2) (.int _ _ C) ⟨rfl,o1,rfl,rfl⟩⟩
theorem nU{g:Nat}{m:List cL}{x:DataW H×List MemPlace}(h:DataW.trod enc a8 w 0 sp held g 146 m=al x):∃l:MQ,CD (IB w) w (Ce l) (.agg m.toArray):=by
 obtain⟨v,n,j⟩:=Kh Tryz.underlying146 (k:=5) (by kernel_rfl) rfl (λi hi=>by
  match i,hi with
  |0,_=>exact⟨rfl,by kernel_rfl⟩
  |1,_=>exact⟨rfl,by kernel_rfl⟩
  |2,_=>exact⟨rfl,by kernel_rfl⟩
  |3,_=>exact⟨rfl,by kernel_rfl⟩
  |4,_=>exact⟨rfl,by kernel_rfl⟩) h
 obtain⟨a,b,c,d,e,rfl⟩:=rG v;obtain⟨K,h0⟩:=j 0 (by decide) (by simp);obtain⟨L,h1⟩:=j 1 (by decide) (by simp);obtain⟨M,z⟩:=j 2 (by decide) (by simp);obtain⟨N,A⟩:=j 3 (by decide) (by simp);obtain⟨P,B⟩:=j 4 (by decide) (by simp);obtain⟨n0,o,C⟩:=HI h0;obtain⟨n1,q,r1⟩:=HI h1;obtain⟨n2,s,r2⟩:=HI z;obtain⟨n3,t,E⟩:=HI A;obtain⟨F,u,G⟩:=HI B;simp at o q s t u;subst o q s t u;exact⟨⟨n0,n1,n2,n3,F⟩,wv (.int _ _ C) (.int _ _ r1) (.int _ _ r2) (.int _ _ E) (.int _ _ G) ⟨rfl,rfl,rfl,rfl,rfl⟩⟩
theorem iE{g:Nat}{m:List cL}{x:DataW H×List MemPlace}(h:DataW.trod enc a8 w 0 sp held g 30 m=al x):∃l:IL,CD (IB w) w (DC l) (.agg m.toArray):=by
 obtain⟨z,n,j⟩:=Kh Tryz.underlying30 (k:=5) (by kernel_rfl) rfl (λi hi=>by
  match i,hi with
  |0,_=>exact⟨rfl,by kernel_rfl⟩
  |1,_=>exact⟨rfl,by kernel_rfl⟩
  |2,_=>exact⟨rfl,by kernel_rfl⟩
  |3,_=>exact⟨rfl,by kernel_rfl⟩
  |4,_=>exact⟨rfl,by kernel_rfl⟩) h
 obtain⟨a,b,c,d,e,rfl⟩:=rG z;obtain⟨L,h0⟩:=j 0 (by decide) (by simp);obtain⟨M,h1⟩:=j 1 (by decide) (by simp);obtain⟨N,A⟩:=j 2 (by decide) (by simp);obtain⟨P,B⟩:=j 3 (by decide) (by simp);obtain⟨Q,C⟩:=j 4 (by decide) (by simp);obtain⟨n0,o,E⟩:=HI h0;obtain⟨n1,q,r1⟩:=HI h1;obtain⟨n2,s,r2⟩:=HI A;obtain⟨n3,t,F⟩:=HI B;obtain⟨ks,v,u,G,K⟩:=Jq C;simp at o q s t u;subst o q s t u;exact⟨⟨n0,n1,n2,n3,ks⟩,wv (.int _ _ E) (.int _ _ r1) (.int _ _ r2) (.int _ _ F) K ⟨rfl,rfl,rfl,rfl,G⟩⟩
theorem jG{g:Nat}{i:List cL}{x:DataW H×List MemPlace}(h:DataW.trod enc a8 w 0 sp held g 23 i=al x):∃(j:List Hq) (v:cL),i=[v]/\one v=J/\CD (IB w) w (.sl (j.map CY)) v:=by
 obtain⟨s,v,rfl,h1,m,o⟩:=fL Tryz.underlying23 (sz:=4) (by kernel_rfl) (by decide) (λu=>∃k:Hq,u=CY k) (λn i x h=>by
  obtain⟨l,q⟩:=lT h;exact⟨_,.agg i.toArray,by simp[Value.cells],q,l,rfl⟩) h
 obtain⟨ks,rfl⟩:=all_map o;exact⟨ks,v,rfl,h1,m⟩
theorem fB{g:Nat}{i:List cL}{x:DataW H×List MemPlace}(h:DataW.trod enc a8 w 0 sp held g 24 i=al x):∃(j:List MQ) (v:cL),i=[v]/\one v=J/\CD (IB w) w (.sl (j.map Ce)) v:=by
 obtain⟨s,v,rfl,h1,m,o⟩:=fL Tryz.underlying24 (sz:=5) (by kernel_rfl) (by decide) (λu=>∃k:MQ,u=Ce k) (λn i x h=>by
  obtain⟨l,q⟩:=nU h;exact⟨_,.agg i.toArray,by simp[Value.cells],q,l,rfl⟩) h
 obtain⟨ks,rfl⟩:=all_map o;exact⟨ks,v,rfl,h1,m⟩
theorem qW{g:Nat}{m:List cL}{x:DataW H×List MemPlace}(h:DataW.trod enc a8 w 0 sp held g 26 m=al x):∃l:Raw,CD (IB w) w (HD l) (.agg m.toArray):=by
 obtain⟨v,n,j⟩:=Kh Tryz.underlying26 (k:=5) (by kernel_rfl) rfl (λi hi=>by
  match i,hi with
  |0,_=>exact⟨rfl,by kernel_rfl⟩
  |1,_=>exact⟨rfl,by kernel_rfl⟩
  |2,_=>exact⟨rfl,by kernel_rfl⟩
  |3,_=>exact⟨rfl,by kernel_rfl⟩
  |4,_=>exact⟨rfl,by kernel_rfl⟩) h
 obtain⟨a,b,c,d,e,rfl⟩:=rG v;obtain⟨M,h0⟩:=j 0 (by decide) (by simp);obtain⟨N,h1⟩:=j 1 (by decide) (by simp);obtain⟨P,z⟩:=j 2 (by decide) (by simp);obtain⟨Q,A⟩:=j 3 (by decide) (by simp);obtain⟨R,B⟩:=j 4 (by decide) (by simp);obtain⟨n0,o,C⟩:=HI h0;obtain⟨n1,q,r1⟩:=HI h1;obtain⟨k2,S,s,E,r2⟩:=Jq z;obtain⟨k3,T,t,F,G⟩:=jG A;obtain⟨k4,U,u,K,L⟩:=fB B;simp at o q s t u;subst o q s t u;exact⟨⟨n0,n1,k2,k3,k4⟩,wv (.int _ _ C) (.int _ _ r1) r2 G L ⟨rfl,rfl,E,F,K⟩⟩
theorem xt{j:List cL}(h:Z j=8):∃a b c d e f g i,j=[a,b,c,d,e,f,g,i]:=by
 match j,h with
 |[a,b,c,d,e,f,g,i],_=>exact⟨a,b,c,d,e,f,g,i,rfl⟩
theorem dQ{m:Nat}{A:List cL}{x:DataW H×List MemPlace}(h:DataW.trod enc a8 w 0 sp held m 28 A=al x):∃l:Input,CD (IB w) w (De l) (.agg A.toArray):=by
 obtain⟨B,n,rfl,rfl,h1,K,s⟩:=DataW.trod_struct Tryz.underlying28 h;have L:prog.cellsOf 28=8:=by kernel_rfl
 have t:prog.cellsOf 26=5:=by kernel_rfl
 have M:prog.cellsOf 5=1:=by kernel_rfl
 have u:prog.cellsOf 22=1:=by kernel_rfl
 rw[L]at h1;have v:Z B=4:=K;obtain⟨a,b,c,d,e,f,g,i,rfl⟩:=xt h1;match B,v with
 |[N,P,Q,R],_=>
  have C:DataW.trod enc a8 w 0 sp held n 26 (([a,b,c,d,e,f,g,i].drop 0).take (prog.cellsOf 26))=al N:=s 0 _ rfl;have k1:DataW.trod enc a8 w 0 sp held n 5 (([a,b,c,d,e,f,g,i].drop 5).take (prog.cellsOf 5))=al P:=s 1 _ rfl;have k2:DataW.trod enc a8 w 0 sp held n 22 (([a,b,c,d,e,f,g,i].drop 6).take (prog.cellsOf 22))=al Q:=s 2 _ rfl;have k3:DataW.trod enc a8 w 0 sp held n 22 (([a,b,c,d,e,f,g,i].drop 7).take (prog.cellsOf 22))=al R:=s 3 _ rfl;rw[t]at C;rw[M]at k1;rw[u]at k2 k3;obtain⟨r,z⟩:=qW C;obtain⟨n1,E,r1⟩:=HI k1;obtain⟨l2,X,F,S,r2⟩:=Jq k2;obtain⟨T,Y,G,U,W⟩:=Jq k3;simp at E F G;subst E F G;refine⟨⟨r,n1,l2.map λ(k:Nat)=>(k:Int),T.map λ(k:Nat)=>(k:Int)⟩,?_⟩;simp only[acp,ac8,List.take_zero]at z;unfold HD at z;cases z with
  |agg _ _ hs o q=>
   refine .agg _ _ rfl (λj hj=>?_) (λj hj=>?_)
   .match j,hj with
    |0,_=>exact o 0 (by simp)
    |1,_=>exact o 1 (by simp)
    |2,_=>exact o 2 (by simp)
    |3,_=>exact o 3 (by simp)
    |4,_=>exact o 4 (by simp)
    |5,_=>exact .int _ _ r1
    |6,_=>simpa[lm]using r2
    |7,_=>simpa[lm]using W
   .match j,hj with
    |0,_=>exact q 0 (by simp)
    |1,_=>exact q 1 (by simp)
    |2,_=>exact q 2 (by simp)
    |3,_=>exact q 3 (by simp)
    |4,_=>exact q 4 (by simp)
    |5,_=>rfl
    |6,_=>exact S
    |7,_=>exact U
end
end Go.Koi
namespace Go.Proofs.YtflldgdbdipagaaGreatDoor
open Go.ChangeShapes Go.WideShapes Go.ChangeAt Go.RowKit Go.Koi
theorem own:ownKnob Tryz.prog.godebug=none:=by kernel_rfl
theorem vS:Tryz.prog.globalNamed "math/bits.deBruijn64tab"=al 0:=by kernel_rfl
theorem ee:(Tryz.prog.globals[0]?).map (·.type)=al 346:=by kernel_rfl
theorem uu:((List.range Tryz.prog.globals.size).all λg=>decide (g=0)||!decide ((Tryz.prog.globals[g]?).map (·.name)=al "math/bits.deBruijn64tab"))=true:=by kernel_rfl
theorem uf{g:Nat}(h:(Tryz.prog.globals[g]?).map (·.name)=al "math/bits.deBruijn64tab"):g=0:=by
 have i:g<Tryz.prog.globals.size:=by
  rcases x3 g Tryz.prog.globals.size with h1|h1
  .exact h1
  .rw[WF h1]at h;cases h
 have j:=de.1 uu g (th.2 i);simpa[h]using j
theorem table{W:World}(h:laidMetH Tryz.prog Rows.changeLeavesRow.laid W):Lib.TabIs Tryz.prog W "math/bits.deBruijn64tab" .u8 B0:=
 Lib.tabIs_of_head (rest:=[]) vS ee Tryz.underlying346 Tryz.underlying5 (by kernel_rfl) (by kernel_rfl) h
noncomputable def gh(W:World):Gh:=⟨IB W,λ_=>0,λ_=>(0,0),λ_=>none⟩
theorem ua{W:World}(h:laidMetH Tryz.prog Rows.changeLeavesRow.laid W):Rel Tryz.prog (gh W) [] W where
 HU:=λg k=>by
  obtain rfl:=uf k;have i:∀j (hj:j<Z B0),W.cell? ⟨0,j,none⟩=al (.int .u8 B0[j]):=λj hj=>by
   have:=(table h).cell vS j hj;simpa[List.getD,hj]using this
  exact⟨(Oz (i 0 (by decide))).1,i⟩
 DX:=λr o h=>by simp at h
 inj:=λr m o q h=>by simp at h
 nI:=λb ⟨r,o,h,_⟩=>by simp at h
 Kf:=λb h=>h
 Ik:=λb ⟨r,o,h,_⟩=>by simp at h
theorem walk(r:Koi.Input)(x:IL){W:World}(h:laidMetH Tryz.prog Rows.changeLeavesRow.laid W){a b:cL}(ha:CD (IB W) W (De r) a)(hb:CD (IB W) W (DC x) b):
  Calls Tryz.prog 3 #[a,b] W λe g=>e=.returned (.bool J)/\g.os=W.os/\g.output=W.output/\W.heap.size<=g.heap.size/\∀k,k<W.heap.size->g.heap[k]?=W.heap[k]?:=by
 refine((qp bU r x).2 (gh W) W #[a,b] (ua h) rfl (λi h1 t=>by
  match i,h1 with
  |0,_=>exact .d _ _ ha
  |1,_=>exact .d _ _ hb)).mono ?_
 rintro e g ⟨cv,u,rfl,m,_,j,_⟩;refine⟨?_,j.os,j.out,j.size,λk q=>j.EV k q λ⟨r,o,h,_⟩=>by simp at h⟩;cases m with
 |d _ _ s=>cases s with|bool=>rfl
theorem Qg{P:Program}{W:World}{base:Nat}{t:TypeId}{fs:Array Field}{v:cL}(i:P.underlying t=al (.struct fs))(h:Value.okWide P W .any base t v):∃g,v=.agg g/\g.size=P.cellsOf t:=by
 unfold Value.okWide at h;rw[i]at h;obtain⟨g,h1,j,_⟩:=h;exact⟨g,h1,j⟩
theorem laidOut:laidOutB Tryz.prog=true:=by kernel_rfl
theorem uc:decide (30<Tryz.prog.types.size)=true:=by kernel_rfl
theorem rO(t:Nat)(h:t<=30):t<Tryz.prog.types.size:=by have:=adp uc;omega
theorem jt(H:Type)(enc:TypeId×cL->H)(W:World)(base:Nat)(args:Array cL)(ds P:List (DataW H))(k:List MemPlace)
  (z:∀(j:Nat) t v,Tryz.f3.params[j]?=al t->args[j]?=al v->Value.okWide Tryz.prog W .any base t v)
  (E:DataW.Whole enc Tryz.prog Tryz.f3.params.toList Rows.changeLeavesSpec.vars am W args.toList ds P k) (Q:laidMetH Tryz.prog Rows.changeLeavesRow.laid W):
  Calls Tryz.prog 3 args W λe u=>∃v,e=.returned v/\Rows.changeLeavesSpec.post enc Tryz.prog Tryz.f3 am J am am W args v u:=by
 have s:=E;obtain⟨p,q,A,hV,rfl,R,zG⟩:=E;have F:DataW.TrodAll enc Tryz.prog W 0 (λ_=>J) J Tryz.f3.params.toList args.toList ds p:=A;rw[Tryz.params3]at F z;obtain⟨G,S,d0,T,p0,q0,zd,rfl,rfl,h0,U⟩:=trodAll_cons F;obtain⟨K,X,d1,Y,p1,q1,rfl,rfl,rfl,h1,r1⟩:=trodAll_cons U;obtain⟨rfl,rfl,rfl⟩:=trodAll_nil r1;obtain rfl:args=#[G,K]:=by cases args;simp_all
 obtain⟨rfl,rfl⟩:=trodVars_none hV;have L:=λp g=>s.lt p g;obtain⟨c0,rfl,-⟩:=Qg Tryz.underlying28 (z 0 28 G rfl rfl);obtain⟨c1,rfl,-⟩:=Qg Tryz.underlying30 (z 1 30 K rfl rfl);obtain⟨f0,g0⟩:=id h0;obtain⟨f1,g1⟩:=id h1;obtain⟨r,M⟩:=dQ g0;obtain⟨x,k1⟩:=iE g1;simp only[Value.cells,Array.toArray_toList]at M k1;refine(walk r x Q M k1).mono λe u ⟨he,h3,h4,h5,B⟩=>?_;subst he;have hs:∀p:MemPlace,p.block<W.heap.size->W.sameAt u p:=λp g=>by
  cases p with
  |cell b o=>exact World.cell?_of_block (w:=W) (B b g)
  |map b=>exact B b g
 have st:∀{t:TypeId} {v:cL} {d:DataW H} {C:List MemPlace},t=28\/t=30->DataW.Trod enc Tryz.prog W 0 (λ_=>J) J t v d C->(∀p∈C,p.block<W.heap.size)->DataW.Trod enc Tryz.prog u 0 (λb=>decide (b<W.heap.size)) J t v d C:=λN h g=>by
  refine WideElems.Trod_stays laidOut ?_ ?_ h (λp m=>hs p (g p m)) (λp m=>by simpa using g p m)
  .rcases N with rfl|rfl<;>kernel_rfl
  .rcases N with rfl|rfl<;>exact rO _ (by decide)
 refine⟨_,rfl,_,_,_,[],p0++(p1++[]),[],s,trodAll_mk1 (shut_bool Tryz.underlying4 _),?_,rfl,?_,λh=>by cases h⟩
 .rw[Tryz.params3];exact trodAll_cons_mk (st (.inl rfl) h0 λp g=>L p (by simp[g])) (trodAll_cons_mk (st (.inr rfl) h1 λp g=>L p (by simp[g])) trodAll_mk0)
 .refine⟨h3,h4,λi hi=>?_⟩;rw[B i hi];split<;>simp_all
end Go.Proofs.YtflldgdbdipagaaGreatDoor
namespace Go.Proofs.YtflldgdbdipagaaGreatDoor
open Go.ChangeShapes Go.WideShapes Go.ChangeAt Go.RowKit Go.Koi
noncomputable def Nd(os:Os):World:=
 {World.holding Tryz.prog os ⟨#[],#[],[]⟩with heap:=(World.holding Tryz.prog os ⟨#[],#[],[]⟩).heap.modify 0 λ
   |.cells _ t frozen=>.cells (B0.map λz=>Value.int .u8 z).toArray t frozen
   |o=>o}
def EL:cL:=.agg #[.int .u8 0,.int .u8 0,.slice none 0 0,.slice none 0 0,.slice none 0 0,.int .u8 0,.slice none 0 0,.slice none 0 0]
def Fv:cL:=.agg #[.int .u8 0,.int .u8 0,.int .u8 0,.int .u8 0,.slice none 0 0]
theorem iJ(os:Os):laidMet Tryz.prog Rows.changeLeavesRow.laid ((Nd os).forCall (λ_ _=>0) ⟨#[],#[EL,Fv],[]⟩).memory:=
 laidMet_of_run' 8 (by kernel_rfl) (by kernel_rfl)
def xd{H:Type}:DataW H:=.agg [.agg [.lit (.int .u8 0),.lit (.int .u8 0),.nil,.nil,.nil],.lit (.int .u8 0),.nil,.nil]
def xm{H:Type}:DataW H:=.agg [.lit (.int .u8 0),.lit (.int .u8 0),.lit (.int .u8 0),.lit (.int .u8 0),.nil]
theorem reads(os:Os){H:Type}(enc:TypeId×cL->H):∃g,DataW.whole enc Tryz.prog ((Nd os).forCall (λ_ _=>0) ⟨#[],#[EL,Fv],[]⟩).memory Tryz.f3.params.toList Rows.changeLeavesSpec.vars am #[EL,Fv].toList 8=al ([xd,xm],[],g):=
 ⟨[],by kernel_rfl⟩
theorem lifted(os:Os)(g:os.Started)(H:Type)(enc:TypeId×cL->H)(F:Stop.Interp):
  ReturnsInHanded {} Tryz.checked os 3 .any ((OpenSpec.ofChange Rows.changeLeavesSpec).preRow enc Tryz.prog Tryz.f3 Rows.changeLeavesRow.domain am Rows.changeLeavesRow.laid) (((OpenSpec.ofChange Rows.changeLeavesSpec).at F).post enc Tryz.prog Tryz.f3 am J am am):=by
 obtain⟨i,j⟩:=reads os enc;refine returnsInHanded_of_row (C:=Tryz.checked) (s:=OpenSpec.ofChange Rows.changeLeavesSpec) own g (by kernel_rfl) Tryz.func3
  (witness_row_at (enc:=enc) (C:=Tryz.checked) am (Nd os) #[EL,Fv] rfl (by kernel_rfl) (by kernel_rfl) (by kernel_rfl)
   (OpenSpec.preRow_of_cond 8 j (by kernel_rfl) (λk m=>by cases m) (by kernel_rfl) (iJ os))) ?_
 intro W base args ds o h q t _ _ _ u _ _;exact jt H enc W base args ds o h q t u
theorem said:Rows.ChangeLeavesSaid:=
 OpenClaim.holds_of_cond 3 Tryz.f3 rfl rfl rfl rfl rfl rfl rfl ⟨rfl,rfl,rfl,rfl,rfl⟩ rfl rfl rfl rfl rfl (by kernel_rfl) Tryz.func3 (by kernel_rfl)
  (adp (by kernel_rfl)) (by unfold Func.isWrapper;first|(rw[b8 (by decide+kernel)];kernel_rfl)|(rw[a9 (by decide+kernel)];exact⟨rfl,rfl⟩))
  (λos g H h _ F=>by rw[OpenClaim.pre_eq_preRow];exact lifted os g H h F)
theorem plain(f:FuncId)(fn:Func)(i:Tryz.pinned.checked.prog.funcNamed "koine/koinelaw31.ChangeLeaves"=al f)(g:Tryz.pinned.checked.prog.funcs[f]?=al fn):
  J=Tryz.pinned.checked.prog.looks []/\∀(j:Nat) t,fn.params[j]?=al t->Tryz.pinned.checked.prog.wantsStandIn t=false:=by
 obtain rfl:f=3:=wa ((show Tryz.prog.funcNamed "koine/koinelaw31.ChangeLeaves"=al 3 by kernel_rfl).symm.trans i) |>.symm;obtain rfl:fn=Tryz.f3:=(wa (Tryz.func3.symm.trans g)).symm;refine⟨by kernel_rfl,λj t h=>?_⟩;rw[Tryz.params3]at h;have k:t∈[28,30]:=by
  have:=adt h;simp at this⊢;exact this
 have m:([28,30].all λu=>!Tryz.prog.wantsStandIn u)=true:=by kernel_rfl
 exact(show Tryz.prog.wantsStandIn t=am by simpa using de.1 m t k)
theorem card:Rows.ChangeLeavesCardSaid:=
 Claim7.holds_tied_plain_at .later [] _ _ _ _ said (λ_ h=>by cases h) (by kernel_rfl) (λ_ h=>by cases h) changeLeaves_row_tie rfl ⟨rfl,rfl⟩ (by kernel_rfl) rfl plain (by kernel_rfl)
#print axioms card
end Go.Proofs.YtflldgdbdipagaaGreatDoor
