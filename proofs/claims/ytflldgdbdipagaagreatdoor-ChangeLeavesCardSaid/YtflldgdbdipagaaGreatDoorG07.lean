/-
  Part 8 of the proof that the law ChangeLeaves returns true for every input.
-/
import Derived.Test.YtflldgdbdipagaaGreatDoorG06
set_option maxHeartbeats 64000000
set_option maxRecDepth 100000
open List renaming length->Z,map->q6
open Go.IntKind renaming wrap->bv,bits->ae6,signed->ae4,wrap->ae5
open Bool renaming true->J,false->am
open Go.Proofs.Tryz renaming prog->a8
open Go renaming maxLen->ao
open Go.Koi.DT renaming level->ae3
namespace Go.Koi
open Go.Proofs Tryz DT
def V3(x y z:Int):V:=.agg [.d (.int .i64 x),.d (.int .i64 y),.d (.int .i64 z)]
attribute [simp] V3
def kQ(x y z:Int):List V:=[V3 x y z,.ptr 0 1 0 0,.ptr 1 1 0 0,.ptr 2 1 0 0,.ptr 3 1 0 0,.ptr 4 1 0 0]
theorem Rr{f:FuncId}{g:Bool->Bool->Bool}(k:TC f g)(a b c:AO){x y z:Int}{N:List Al}{kn:List (Al×Int)}{memo:List (ca×Int)}
  (h:x<2) (i:y<2) (j:z<2):
  AH a8 279 (kQ x y z) (Nf f a b c N kn memo) (.d (AF (if g (x==1) (y==1)then 1 else 0))) (Nf f a b c N kn memo):=by
 unfold kQ;refine zC func279 97 rfl λwf m=>?_;unfold Nf;apply yW;simp;refine xS (yW ?_);simp[h,i,j];apply AQ;simp;refine xS (yS ?_);apply yJ;simp;refine xF (Xd k (x==1) (y==1) (z==1)) [9] rfl ?_;simp;apply yJ;simp;cases o:g (x==1) (y==1)with
 |true=>
  apply AQ;simp;apply yW;simp;apply Am;refine⟨_,k6 10 (by simp),?_⟩;simp[At,clean]
 |false=>
  apply AQ;simp;apply xK;apply yW;simp;apply Am;refine⟨_,k6 10 (by simp),?_⟩;simp[At,clean]
theorem ZM{f:FuncId}(a b c:AO){x y z r:Int}{N:List Al}{kn:List (Al×Int)}{memo:List (ca×Int)}
  (hn:¬(x<2/\y<2/\z<2)) (g:look memo (x,y,z)=some r):
  AH a8 279 (kQ x y z) (Nf f a b c N kn memo) (.d (AF r)) (Nf f a b c N kn memo):=by
 unfold kQ;refine zC func279 97 rfl λwf h=>?_;unfold Nf;apply yW;simp;refine xS (yS ?_);apply yJ;simp;apply AQ;simp;refine⟨λh1 i j=>absurd ⟨h1,i,j⟩ hn,λ_=>?_⟩
 .apply xK;refine xS (yW ?_);simp;apply yW;simp[g];apply AQ;simp;apply yW;simp;apply Am;refine⟨_,k6 10 (by simp),?_⟩;simp[At,clean]
def qU(i j l:Int):Int:=if l<(if j<i then j else i)then l else(if j<i then j else i)
theorem dw{f:FuncId}(a b c:AO){x y z:Int}{N q j:List Al}{kn k g:List (Al×Int)}{memo s m2:List (ca×Int)}{r1 r2 v:Int}
  (hn:¬(x<2/\y<2/\z<2)) (t:look memo (x,y,z)=none)
  (u:x<2+Z a.nodes) (w:y<2+Z b.nodes) (A:z<2+Z c.nodes) (B:qU (a.level x) (b.level y) (c.level z)=v) (h:v<64) (m:Z j<2 ^ 30)
  (c1:AH a8 279 (kQ (a.Hk x v) (b.Hk y v) (c.Hk z v)) (Nf f a b c N kn memo) (.d (AF r1)) (Nf f a b c q k s))
  (c2:AH a8 279 (kQ (a.Hf x v) (b.Hf y v) (c.Hf z v)) (Nf f a b c q k s) (.d (AF r2)) (Nf f a b c j g m2)):
  AH a8 279 (kQ x y z) (Nf f a b c N kn memo) (.d (AF (Ob j g v r1 r2).2.2)) (Nf f a b c (Ob j g v r1 r2).1 (Ob j g v r1 r2).2.1 (Cu m2 (x,y,z) (Ob j g v r1 r2).2.2)):=by
 unfold kQ at c1 c2⊢;refine zC func279 97 rfl λwf C=>?_;unfold Nf;apply yW;simp;refine xS (yS ?_);apply yJ;simp;apply AQ;simp;refine⟨λh1 E F=>absurd ⟨h1,E,F⟩ hn,λ_=>?_⟩
 .apply xK;refine xS (yW ?_);simp;apply yW;simp[t];apply AQ;simp;apply xK;refine yD (A3 17 []) (by kernel_rfl) ?_;simp;apply yA 2;simp;apply yA 0;simp;refine kt (I7 a x u) rfl (by simp[xN]) ?_;simp;apply yA 0;simp;refine kt (I7 b y w) rfl (by simp[xN]) ?_;simp;apply yA 0;simp;refine kt (I7 c z A) rfl (by simp[xN]) ?_;simp;apply yA 0;simp;(repeat apply xS);apply yV;simp;have o:(if c.level z<(if b.level y<a.level x then b.level y else a.level x)then c.level z else(if b.level y<a.level x then b.level y else a.level x))=v:=B;simp[o];refine xS (yW ?_);simp;apply Bp;refine FH 3 (λi tm S=>tm 1=.ptr 0 1 0 0/\tm 2=.ptr 1 1 0 0/\tm 3=.ptr 2 1 0 0/\tm 4=.ptr 3 1 0 0/\tm 5=.ptr 4 1 0 0/\tm 6=.ptr 10 1 0 0/\tm 10=.d (AF v)/\tm 11=.ptr 11 1 0 0/\tm 12=.ptr 12 1 0 0/\tm 64=.d (AF i)/\S=Nf f a b c N kn memo++[.row J 3 [V3 x y z],.row J 3 [V3 (if 0<i then a.Hk x v else 0) (if 1<i then b.Hk y v else 0) (if 2<i then c.Hk z v else 0)],.row J 3 [V3 (if 0<i then a.Hf x v else 0) (if 1<i then b.Hf y v else 0) (if 2<i then c.Hf z v else 0)]]) (i0:=0) (by omega) (by simp[Nf]) ?_;rintro i tm S hi ⟨t1,t2,t3,t4,t5,t6,t10,t11,t12,t64,rfl⟩;unfold Nf;rcases(by omega:i=0\/i=1\/i=2\/i=3)with rfl|rfl|rfl|rfl
  .apply yW;simp[t64];apply xC;simp;apply xK;apply xB;apply yW;simp[t64];refine yE (A3 14 [29,30,33]) (by kernel_rfl) ?_;simp;apply yA 2;simp[t3,t6,t10];refine kt (QK a x v u h) rfl (by simp[xN]) ?_;simp;apply yA 2;simp[t11];apply xX 12285 (by kernel_rfl);simp;apply yA 2;simp[t12];apply xX 7 (by kernel_rfl);simp;apply xM;apply yV;simp[t64];refine⟨_,_,ap,?_⟩;simp[t1,t2,t3,t4,t5,t6,t10,t11,t12,ae5,ae6,ae4]
  .apply yW;simp[t64];apply xC;simp;apply xK;apply xB;apply yW;simp[t64];refine yE (A3 14 [29,30,33]) (by kernel_rfl) ?_;simp;apply yA 2;simp[t3,t6,t10];refine kt (QK b y v w h) rfl (by simp[xN]) ?_;simp;apply yA 2;simp[t11];apply xX 12285 (by kernel_rfl);simp;apply yA 2;simp[t12];apply xX 7 (by kernel_rfl);simp;apply xM;apply yV;simp[t64];refine⟨_,_,ap,?_⟩;simp[t1,t2,t3,t4,t5,t6,t10,t11,t12,ae5,ae6,ae4]
  .apply yW;simp[t64];apply xC;simp;apply xK;apply xB;apply yW;simp[t64];refine yE (A3 14 [29,30,33]) (by kernel_rfl) ?_;simp;apply yA 2;simp[t3,t6,t10];refine kt (QK c z v A h) rfl (by simp[xN]) ?_;simp;apply yA 2;simp[t11];apply xX 12285 (by kernel_rfl);simp;apply yA 2;simp[t12];apply xX 7 (by kernel_rfl);simp;apply xM;apply yV;simp[t64];refine⟨_,_,ap,?_⟩;simp[t1,t2,t3,t4,t5,t6,t10,t11,t12,ae5,ae6,ae4]
  .apply yW;simp[t64];apply xC;simp;apply Co;apply yS;apply yJ;simp[t4,t11];refine xY (c1) _ rfl rfl ?_;simp[Nf];apply yJ;simp;refine yD (A3 5 [11,13,14]) (by kernel_rfl) ?_;simp;apply yA 2;simp[t4,t5,t10,t12];refine xL 3 _ (c2) (by kernel_rfl) rfl rfl ?_;simp[Nf];refine AC (xT [1,1,1]) (ax j g v r1 r2 m) [5,7,8] (by kernel_rfl) rfl (by simp[fT];try rfl) ?_;simp[fT];apply yA 2;simp;apply yW;simp[t2,t6];apply yW;simp;apply Am;refine⟨_,k6 10 (by simp),?_⟩;simp[At,clean]
theorem og(i j l:Int):qU i j l=min i (min j l):=by unfold qU;split<;>split<;>omega
theorem oX{f:FuncId}{g:Bool->Bool->Bool}(hf:TC f g)(a b c:AO)(hbox:(Z a.nodes+2) * (Z b.nodes+2) * (Z c.nodes+2)<2 ^ 30):
  ∀(m:Nat) (i j o:DT) (x y z:Int) (N:List Al) (kn:List (Al×Int)) (memo:List (ca×Int)),i.size+j.size+o.size<=m->BZ a.nodes i x->BZ b.nodes j y->BZ c.nodes o z->i.Good->j.Good->o.Good->CI g a b c N kn memo->∃Y W u r t,CI g a b c Y W u/\(∃M,Y=N++M)/\UU g i j o Y r t/\AH a8 279 (kQ x y z) (Nf f a b c N kn memo) (.d (AF r)) (Nf f a b c Y W u):=by
 intro m;induction m with
 |zero=>
  intro i j o x y z N kn memo hm h0 h1 w E F G T;obtain⟨C,rfl⟩:=Dv (t:=i) (by omega);obtain⟨s,rfl⟩:=Dv (t:=j) (by omega);obtain⟨b2,rfl⟩:=Dv (t:=o) (by omega);have hx:=h0.FW.2 ⟨C,rfl⟩;have hy:=h1.FW.2 ⟨s,rfl⟩;have H:=w.FW.2 ⟨b2,rfl⟩;have U:(x==1)=C:=by simp[BZ]at h0;subst h0;cases C<;>rfl
  have S:(y==1)=s:=by simp[BZ]at h1;subst h1;cases s<;>rfl
  have hb:=Rr hf a b c (N:=N) (kn:=kn) (memo:=memo) hx hy H;rw[U,S]at hb;exact⟨N,kn,memo,_,.leaf (g C s),T,⟨[],by simp⟩,⟨by simp[BZ],trivial,λc=>rfl,by simp[ae3]⟩,hb⟩
 |succ m ih=>
  intro i j o x y z N kn memo hm h0 h1 w E F G T;by_cases H:i.size=0/\j.size=0/\o.size=0
  .obtain⟨C,rfl⟩:=Dv H.1;obtain⟨s,rfl⟩:=Dv H.2.1;obtain⟨b2,rfl⟩:=Dv H.2.2;have hx:=h0.FW.2 ⟨C,rfl⟩;have hy:=h1.FW.2 ⟨s,rfl⟩;have H:=w.FW.2 ⟨b2,rfl⟩;have U:(x==1)=C:=by simp[BZ]at h0;subst h0;cases C<;>rfl
   have S:(y==1)=s:=by simp[BZ]at h1;subst h1;cases s<;>rfl
   have hb:=Rr hf a b c (N:=N) (kn:=kn) (memo:=memo) hx hy H;rw[U,S]at hb;exact⟨N,kn,memo,_,.leaf (g C s),T,⟨[],by simp⟩,⟨by simp[BZ],trivial,λc=>rfl,by simp[ae3]⟩,hb⟩
  .have hn:¬(x<2/\y<2/\z<2):=λ⟨a1,a2,a3⟩=>by
    obtain⟨C,rfl⟩:=h0.FW.1 a1;obtain⟨s,rfl⟩:=h1.FW.1 a2;obtain⟨b2,rfl⟩:=w.FW.1 a3;exact H ⟨rfl,rfl,rfl⟩
   cases hl:look memo (x,y,z)with
   |some r=>
    obtain⟨t,X⟩:=T.memo x y z r hl i j o h0 h1 w E F G;exact⟨N,kn,memo,r,t,T,⟨[],by simp⟩,X,ZM a b c hn hl⟩
   |none=>
    obtain⟨v,hv⟩:∃v,v=min i.level (min j.level o.level):=⟨_,rfl⟩;have hl0:=PL E;have hl1:=PL F;have hl2:=PL G;have A:∀t:DT,t.Good->0<=t.level:=λt X=>by
     by_cases e:t.size=0
     .obtain⟨b,rfl⟩:=Dv e;simp[ae3]
     .exact(FY X e).1
    have h:v<=63:=by
     by_cases U:i.size=0
     .by_cases S:j.size=0
      .have:=FY G (λe2=>H ⟨U,S,e2⟩);omega
      .have:=FY F S;omega
     .have:=FY E U;omega
    have hv0:0<=v:=by have:=A i E;have:=A j F;have:=A o G;omega
    have d0:=ND i v;have d1:=ND j v;have d2:=ND o v;have u0:=MI i v;have u1:=MI j v;have u2:=MI o v;have q:i.level=v\/j.level=v\/o.level=v:=by omega
    have hdl:(i.lo v).size+(j.lo v).size+(o.lo v).size<=m:=by
     rcases q with e|e|e
     .have:=He e (by omega);omega
     .have:=He e (by omega);omega
     .have:=He e (by omega);omega
    have hdh:(i.hi v).size+(j.hi v).size+(o.hi v).size<=m:=by
     rcases q with e|e|e
     .have:=Hp e (by omega);omega
     .have:=Hp e (by omega);omega
     .have:=Hp e (by omega);omega
    obtain⟨N1,kn1,m1,r1,t1,hI1,⟨M1,S⟩,K,c1⟩:=ih (i.lo v) (j.lo v) (o.lo v) _ _ _ N kn memo hdl (h0.Hk (by omega)) (h1.Hk (by omega)) (w.Hk (v:=v) (by omega)) (MB E v) (MB F v) (MB G v) T;obtain⟨N2,kn2,m2,r2,t2,L,⟨M2,e2⟩,P,c2⟩:=ih (i.hi v) (j.hi v) (o.hi v) _ _ _ N1 kn1 m1 hdh (h0.Hf (by omega)) (h1.Hf (by omega)) (w.Hf (v:=v) (by omega)) (Mz E v) (Mz F v) (Mz G v) hI1;have hN2:Z N2<2 ^ 30:=by have:=L.len;omega
    have k1:v<t1.level:=by
     have:=K.yG;have:=PC E (v:=v) (by omega) h;have:=PC F (v:=v) (by omega) h;have:=PC G (v:=v) (by omega) h;omega
    have k2:v<t2.level:=by
     have:=P.yG;have:=QS E (v:=v) (by omega) h;have:=QS F (v:=v) (by omega) h;have:=QS G (v:=v) (by omega) h;omega
    have hb:=gm L.toBK hv0 h K.G9 P.G9 k1 k2 (e2▸K.SQ.mono M2) P.SQ;have hc:=dw (f:=f) a b c hn hl h0.lt h1.lt w.lt (by rw[og,h0.level,h1.level,w.level,<-hv]) (by omega) hN2 c1 c2;generalize Ob N2 kn2 v r1 r2=R at hb hc;obtain⟨N3,kn3,r3⟩:=R;simp only at hb hc;obtain⟨s,⟨M3,e3⟩,b3,b4,b5⟩:=hb;have B:UU g i j o N3 r3 (DT.mk v t1 t2):=by
     refine⟨b3,b4,λcc=>?_,?_⟩
     .rw[sg,K.B9,P.B9,RK (t:=i) v,RK (t:=j) v];cases cc v<;>rfl
     .rw[<-hv];exact jq k1
    refine⟨N3,kn3,_,r3,_,⟨s,λx' y' z' r' Q u0 u1 u2 q0 q1 q2 w0 w1 w2=>?_,λk hk=>?_⟩,⟨M1++M2++M3,by rw[e3,e2,S];simp⟩,B,hc⟩
    .rw[Fj]at Q;split at Q
     .next e=>
      cases Q;simp at e;obtain⟨rfl,rfl,rfl⟩:=e;rw[q0.uniq h0,q1.uniq h1,q2.uniq w];exact⟨_,B⟩
     .obtain⟨t,X⟩:=L.memo x' y' z' r' Q u0 u1 u2 q0 q1 q2 w0 w1 w2;exact⟨t,e3▸X.mono M3⟩
    .by_cases z9:k<Z N2
     .obtain⟨x',y',z',u0,u1,u2,t,q0,q1,q2,q3⟩:=L.src k z9;exact⟨x',y',z',u0,u1,u2,t,q0,q1,q2,e3▸q3.mono M3⟩
     .have:=b5 k (by omega) hk;subst this;exact⟨x,y,z,i,j,o,_,h0,h1,w,B⟩
theorem T7(N:List Al)(kn:List (Al×Int))(g:N.Nodup)(h:Z N<=2 ^ 30)(t:DT)(n:Int)(i:BZ N t n):
  AH a8 167 [.ptr 0 1 0 0,.d (AF n)] (fT N kn) (.d (AB (Ch t))) [.row J 2 [.agg [.d (AX N),.any]],.BQ (N.map AZ),.map (BT AZ (λx=>.d (.int .i64 x)) kn)]:=by
 refine AH.pre (λn=>(fc 1 (xs:=N.map AZ) rfl (by simp)).trans (AJ.TD 0 (sz:=2) (els:=[.agg [.row 1 (Z N),.map 2]]) [.agg [.d (AX N),.any]] (by simp[fT]) (by simp[fT]))) ?_;simp[fT,List.set];exact(QD N g h J t n i).Nv _ rfl (by simp) (by simp) (by simp) (by simp)
def Valid(d:AO):Prop:=∃t:DT,t.Good/\d=Ch t
theorem PY{f:FuncId}{g:Bool->Bool->Bool}(v:TC f g)(i j:DT)(w:i.Good)(A:j.Good)
  (m:(Z (Ch i).nodes+2) * (Z (Ch j).nodes+2) * 2<2 ^ 30):
  ∃t:DT,t.Good/\(∀c,t.B9 c=g (i.B9 c) (j.B9 c))/\AH a8 260 [.agg [.d (AX (Ch i).nodes),.d (AF (Ch i).root),.d (AX (Ch j).nodes),.d (AF (Ch j).root),.full [],.d (AF 0)],.fn (.func 261) [] [.ptr 0 1 0 0]]
    [.row J 1 [.fn (.func f) [] []]] (.d (AB (Ch t))) [.row J 1 [.fn (.func f) [] []]]:=by
 have r2:BZ (⟨[],0⟩:AO).nodes (.leaf am) 0:=by simp[BZ]
 obtain⟨N,kn,memo,r,t,s,-,o,u⟩:=oX v (Ch i) (Ch j) ⟨[],0⟩ (by simpa using m) _ i j (.leaf am) (Ch i).root (Ch j).root 0 [] [] [] (ci _) (Fw i) (Fw j) r2 w A trivial
  ⟨BK.nil,λx y z r h=>by simp at h,λk B=>absurd B (by simp)⟩
 refine⟨t,o.G9,o.B9,?_⟩;unfold kQ at u;have q:Z N<=2 ^ 30:=by have:=s.len;simp at this;omega
 refine zD func260 25 rfl λwf C=>?_;apply yW;simp;apply yS;apply yJ;simp;refine xF (Q8) [] rfl ?_;simp;apply yJ;simp;apply yW;simp;apply yW;simp;apply yW;simp;refine io (AJ.TD 1 (sz:=6) [.d (.agg [AX (Ch i).nodes,AF (Ch i).root,AX (Ch j).nodes,AF (Ch j).root,.sl [],AF 0])] rfl (by simp)) ?_;simp;(repeat apply xS);refine yE (A3 12 [25,27,29]) (by kernel_rfl) ?_;simp;apply yA 2;simp;refine AC (xT [1,0,0,0,0,0,0,0,0,0,1,0]) (u) [2,9,1,10,7,6,8,5,4,0] (by kernel_rfl) rfl (by simp[Nf];try rfl) ?_;simp[Nf];refine AC (xT [0,0,0,0,0,0,0,0,0,1]) (T7 N kn s.mM.nodup q t r o.SQ) [6,5,4] (by kernel_rfl) rfl (by simp[fT];try rfl) ?_;simp;apply xX 511 (by kernel_rfl);simp;apply xM;apply Am;refine⟨_,_,_,ap,by simp,by simp,k6 1 (by simp)⟩
open Go.Proofs DT
def Pb(L:List DT)(k:Nat)(t:DT):Prop:=(∃b,t=.leaf b)\/∃j,j<k/\L[j]?=some t
def Ord(L:List DT):Prop:=∀(k:Nat) v l h,L[k]?=some (.node v l h)->Pb L k l/\Pb L k h
theorem Pb.mono{L:List DT}{k:Nat}{t:DT}(h:Pb L k t)(i:k<=Z L)(M:List DT):Pb (L++M) k t:=by
 rcases h with h|⟨j,h1,g⟩
 .exact .inl h
 .exact .inr ⟨j,h1,by rw[i5 (by omega)];exact g⟩
theorem HN.yK{L:List DT}{t:DT}(h:HN L t):Pb L (Z L) t:=by
 rcases h with h|h
 .exact .inl h
 .obtain⟨j,hj,e⟩:=oi.1 h;exact .inr ⟨j,hj,by rw[dl hj,e]⟩
theorem Ord.nil:Ord []:=λk v l h e=>by simp at e
theorem fm(t:DT):∀L,Ord L->Ord (emit t L):=by
 induction t with
 |leaf b=>intro L h;exact h
 |node v l h j m=>
  intro L o;unfold emit;split
  .exact o
  .have h1:=m _ (j L o);intro k w a b g;by_cases q:k<Z (emit h (emit l L))
   .rw[i5 q]at g;have:=h1 k w a b g;exact⟨this.1.mono (by omega) _,this.2.mono (by omega) _⟩
   .have i:=(er.1 g).1;simp at i;have s:k=Z (emit h (emit l L)):=by omega
    subst s;simp[DT.node.injEq]at g;obtain⟨rfl,rfl,rfl⟩:=g;exact⟨(Ny h (IS l L)).yK.mono (ci _) _,(IS h _).yK.mono (ci _) _⟩
theorem Y6(t:DT):t.Good->∀L,(∀x∈L,x.Good)->∀x∈emit t L,x.Good:=by
 induction t with
 |leaf b=>intro _ L h;exact h
 |node v l h i j=>
  intro k L m;unfold emit;split
  .exact m
  .intro x g;rcases gc.1 g with g|g
   .exact j k.2.2.2.2.2.2 _ (i k.2.2.2.2.2.1 L m) x g
   .simp at g;subst g;exact k
theorem WN(t:DT):∀L:List DT,L.Nodup->(emit t L).Nodup:=by
 induction t with
 |leaf b=>intro L h;exact h
 |node v l h g i=>
  intro L j;unfold emit;split
  .exact j
  .next hi=>
   rw[L2];refine⟨i _ (g L j),by simp,?_⟩;intro a ha b hb e;simp at hb;subst e;subst hb;rcases Mm _ _ _ ha with ha|ha
   .rcases Mm _ _ _ ha with ha|ha
    .exact hi ha
    .simp[DT.size]at ha;omega
   .simp[DT.size]at ha;omega
theorem Zu(t:DT):∀L,(∀x∈L,∃v l h,x=DT.node v l h)->∀x∈emit t L,∃v l h,x=DT.node v l h:=by
 induction t with
 |leaf b=>intro L h;exact h
 |node v l h i j=>
  intro L k;unfold emit;split
  .exact k
  .intro x g;rcases gc.1 g with g|g
   .exact j _ (i L k) x g
   .simp at g;exact⟨v,l,h,g⟩
def NL(d:AO)(k:Nat)(b:Al):Prop:=
 0<=b.var/\b.var<=63/\0<=b.low/\0<=b.high/\b.low<=k+1/\b.high<=k+1/\b.low≠b.high/\b.var<d.level b.low/\b.var<d.level b.high
theorem X8{L:List DT}{k:Nat}{t:DT}(g:L.Nodup)(h:Pb L k t):num L t<=k+1:=by
 cases t with
 |leaf b=>simp[num];cases b<;>simp<;>omega
 |node v l r=>
  rcases h with⟨b,hb⟩|⟨j,h1,i⟩
  .exact absurd hb (by simp)
  .obtain⟨hj,e⟩:=er.1 i;have:L.idxOf (DT.node v l r)=j:=by
    have:=g.idxOf_getElem j hj;rwa [e]at this
   simp[num,this];omega
theorem fu{t:DT}(B:t.Good):(Ch t).nodes.Nodup/\(∀k b,(Ch t).nodes[k]?=some b->NL (Ch t) k b)/\0<=(Ch t).root/\(Ch t).root<=Z (Ch t).nodes+1:=by
 have o:=KD t [] Ie.nil;have C:=fm t [] Ord.nil;have E:=Y6 t B [] (λx h=>absurd h (by simp));have q:=WN t [] ac4;have hn:=Zu t [] (λx h=>absurd h (by simp));have F:=Ns (IS t []);have i:(Ch t).nodes=(emit t []).map (dA (emit t [])):=rfl;have u:(Ch t).root=num (emit t []) t:=rfl;rw[u];have g:∀s,HN (emit t []) s->BZ (Ch t).nodes s (num (emit t []) s):=λs G=>by rw[i];exact Ri o G
 refine⟨?_,λk b z=>?_,F.1,by rw[i,oj];omega⟩
 .rw[i];refine ac1.2 (q.imp_of_mem λ{x y} j A H e=>H ?_);obtain⟨v,l,h,rfl⟩:=hn x j;obtain⟨Q,K,L,rfl⟩:=hn y A;simp[dA,Al.mk.injEq]at e;obtain⟨rfl,M,N⟩:=e;have c1:=o _ _ _ j;have c2:=o _ _ _ A;have:=(g l c1.1).uniq (M▸g K c2.1);have:=(g h c1.2).uniq (N▸g L c2.2);subst_vars;rfl
 .rw[i,L1,WP]at z;obtain⟨x,j,rfl⟩:=z;have w:=pu j;obtain⟨v,l,h,rfl⟩:=hn x w;have c1:=o _ _ _ w;have o1:=C _ _ _ _ j;have m:=E _ w;have r1:=Ns c1.1;have r2:=Ns c1.2;refine⟨m.1,m.2.1,r1.1,r2.1,X8 q o1.1,X8 q o1.2,λe=>m.2.2.1 ((g l c1.1).uniq ?_),?_,?_⟩
  .have P:num (emit t []) l=num (emit t []) h:=e;rw[P];exact g h c1.2
  .simp[dA];rw[(g l c1.1).level];exact m.2.2.2.1
  .simp[dA];rw[(g h c1.2).level];exact m.2.2.2.2.1
theorem RE{d:AO}(i:d.nodes.Nodup)(m:∀k b,d.nodes[k]?=some b->NL d k b):QZ d.nodes:=by
 refine⟨i,λk=>?_⟩;induction k using Nat.strongRecOn with
 |_ k o=>
  intro j;obtain⟨f1,f2,f3,f4,f5,f6,f7,f8,f9⟩:=m k _ (dl j);have get:∀n:Int,0<=n->n<=k+1->∃s,s.Good/\BZ d.nodes s n:=λn h0 h1=>by
   by_cases q:n=0
   .subst q;exact⟨.leaf am,trivial,by simp[BZ]⟩
   by_cases u:n=1
   .subst u;exact⟨.leaf J,trivial,by simp[BZ]⟩
   have:=o (n - 2).toNat (by omega) (by omega);rwa [show(((n - 2).toNat:Int)+2)=n by omega]at this
  obtain⟨s,v,g⟩:=get _ f3 f5;obtain⟨t,w,h⟩:=get _ f4 f6;refine⟨.node d.nodes[k].var s t,⟨f1,f2,λe=>f7 ?_,?_,?_,v,w⟩,⟨k,rfl,_,_,dl j,g,h⟩⟩
  .subst e;exact g.inj i h
  .rw[<-g.level];exact f8
  .rw[<-h.level];exact f9
open Classical in
noncomputable def HL(d:AO):Int:=if Z d.nodes>4096 then 2 else if Valid d then 0 else 20
theorem PH{t:DT}(h:HL (Ch t)=0):Z (Ch t).nodes<=4096:=by
 unfold HL at h;split at h
 .simp at h
 .omega
theorem NQ{d:AO}(h:HL d=0):Valid d:=by
 unfold HL at h;split at h
 .simp at h
 .split at h
  .assumption
  .simp at h
theorem PE{d:AO}(h:Valid d):QZ d.nodes/\(∀k b,d.nodes[k]?=some b->NL d k b)/\0<=d.root/\d.root<=Z d.nodes+1:=by
 obtain⟨t,i,rfl⟩:=h;obtain⟨h1,g,j,m⟩:=fu i;exact⟨RE h1 g,g,j,m⟩
theorem ZP{α:Type}[DecidableEq α](l:List α)(b:α):(look (l.map λb=>(b,J)) b).getD am=J↔b∈l:=by
 induction l with
 |nil=>simp
 |cons x l g=>
  rw[ii,Cl];by_cases h:x=b
  .subst h;simp
  .have i:¬b=x:=λe=>h e.symm;simp[h,g,i,false_or]
theorem PQ{α:Type}[DecidableEq α]{l:List α}{b:α}(h:b∉l):look (l.map λb=>(b,J)) b=none:=by
 rw[Rh];simp;exact h
abbrev o4:=@List.map_take
theorem Zd{α:Type}[DecidableEq α]{l:List α}{i:Nat}(hi:i<Z l)(h:l[i]∉l.take i):
  Cu ((l.map λb=>(b,J)).take i) l[i] J=(l.map λb=>(b,J)).take (i+1):=by
 rw[L5 _ (by rw[<-o4];exact PQ h)];rw[<-o4,<-o4 (i:=i+1),vj hi,xv];rfl
theorem Mc(d:AO):Pure a8 85 [AB d] (AF (HL d)):=by
 refine ip func85 (by kernel_rfl) rfl (by simp) λwf=>?_;simp[Bq,Dh,Da]at wf;rw[ntmps85];refine xW λK m=>?_;simp;apply m;refine xS (xW λK m=>?_);simp;apply m;refine AQ ?_;simp;refine⟨λh=>?_,λh=>?_⟩
 .refine xW λK m=>?_;simp;apply m;refine Am ⟨_,_,ap,?_⟩;(try simp);have:Z d.nodes>4096:=by omega
  simp[HL,this]
 .have H:¬Z d.nodes>4096:=by omega
  have o:∀p:Prop,(Valid d↔p)->(p->HL d=0)/\(¬p->HL d=20):=λp Q=>⟨λq=>by simp only[HL,a9 H];rw[b8 (Q.2 q)],λq=>by simp only[HL,a9 H];rw[a9 (λw=>q (Q.1 w))]⟩;refine xK ?_;refine xW λK m=>?_;simp;apply m;refine xS (xW λK m=>?_);simp;apply m;refine Bp ?_;refine FH (Z d.nodes) (λi tm S=>tm 1=.ptr 0 1 0 0/\tm 3=.map 1/\tm 13=.d (AX d.nodes)/\tm 14=.d (AF (Z d.nodes))/\tm 15=.d (AF i)/\S=[.row J 2 [.d (AB d)],.map (BT AZ (λx=>.d (.bool x)) ((d.nodes.map λb=>(b,J)).take i))]/\(d.nodes.take i).Nodup/\∀k b,k<i->d.nodes[k]?=some b->NL d k b) (ed _) (by simp) ?_;rintro i tm S hi ⟨t1,t3,t13,t14,t15,rfl,F,B⟩;refine xW λK m=>?_;simp[t14,t15];apply m;refine xC ?_;simp;refine⟨λA=>?_,λzf=>?_⟩
  .have hb:d.nodes[i]?=some d.nodes[i]:=dl A;refine xK ?_;refine xB ?_;(repeat refine xS ?_);refine xV λK m=>?_;simp[t13,t15,A];refine m _ _ ?_;(try simp only[xQ,reduceIte]);have G:bv .i64 ((i:Int)+1)=i+1:=wrap_i64 (by omega) (by omega);refine xS (xW λK m=>?_);simp[t3,G];apply m;have zH:i<Z (d.nodes.map λb=>(b,J)):=by simpa using A
   have s:(look ((d.nodes.map λb=>(b,J)).take i) ⟨d.nodes[i].var,d.nodes[i].low,d.nodes[i].high⟩).getD am=J↔d.nodes[i]∈d.nodes.take i:=by
    rw[<-o4];exact ZP _ _
   have R:¬NL d i d.nodes[i]\/d.nodes[i]∈d.nodes.take i->HL d=20:=λq=>(o False ⟨λw=>by
    obtain⟨h1,h2,_⟩:=PE w;rcases q with q|q
    .exact q (h2 i _ hb)
    .obtain⟨j,hj,e⟩:=oi.1 q;rw[List.getElem_take]at e;have hj':j<i:=by simp at hj;omega
     have:=(List.getElem_inj h1.nodup).1 e;omega,False.elim⟩).2 id
   refine AQ ?_;simp;refine⟨λC=>?_,λc1 c2 c3 c4 c5 c6 c7 T=>?_⟩
   .refine xW λK m=>?_;simp;apply m;refine Am ⟨_,_,ap,?_⟩;(try simp);refine(R ?_).symm;rcases C with C|C
    .left;rintro⟨f1,f2,f3,f4,f5,f6,f7,f8,f9⟩;omega
    .right;exact s.1 C
   .refine B8 ?_;have n1:d.nodes[i].low<2+Z d.nodes:=by omega
    have n2:d.nodes[i].high<2+Z d.nodes:=by omega
    refine xS ?_;refine xD (A3 16 []) (by kernel_rfl) λK m=>?_;simp;refine xA 0 ?_;simp[t1];refine kt (I7 d _ n1) rfl (by simp[xN]) ?_;simp;(repeat(refine H3 ?_ ?_;(·simp);simp));(repeat((refine H3 ?_ ?_);(focus(simp[t1];done));simp[t1]));refine Ad.Dr (g:=!decide (d.level d.nodes[i].low<=d.nodes[i].var)) (ds:=[AB d,AF d.nodes[i].high]) rfl rfl (by simp<;>rfl) (λ_=>I7 d _ n2) (by simp[AB]) ?_;simp;refine xA 0 ?_;simp;refine xM (m _ _ ?_);(try simp only[xQ,reduceIte]);have v:d.nodes[i]∉d.nodes.take i:=λhm=>by rw[s.2 hm]at T;cases T
    refine AQ ?_;simp;refine⟨λzB=>?_,λL U=>?_⟩
    .refine xW λK m=>?_;simp;apply m;refine Am ⟨_,_,ap,?_⟩;(try simp);refine(R (.inl ?_)).symm;rintro⟨f1,f2,f3,f4,f5,f6,f7,f8,f9⟩;omega
    .have E:Cu ((d.nodes.map λb=>(b,J)).take i) ⟨d.nodes[i].var,d.nodes[i].low,d.nodes[i].high⟩ J=(d.nodes.map λb=>(b,J)).take (i+1):=Zd A v;refine xK ?_;refine xV λK m=>?_;simp[t3,E];apply m;refine xV λK m=>?_;simp[t15];apply m;refine⟨A,_,_,ne 2 (by simp),?_⟩;simp[clean,t1,t3,t13,t14];refine⟨G,?_,λk b M z=>?_⟩
     .rw[vj A,L2];refine⟨F,by simp,λa ha b W N=>?_⟩;simp only[eN]at W;subst N;subst W;exact v ha
     .by_cases ek:k=i
      .subst ek;rw[hb]at z;cases z;exact⟨c1,c2,c3,c4,c5,c6,c7,L,U⟩
      .exact B k b (by omega) z
  .have P:i=Z d.nodes:=by omega
   subst P;rw[s9]at F;have hf:∀k b,d.nodes[k]?=some b->NL d k b:=λk b M=>B k b (er.1 M).1 M;have hB:=RE F hf;have G:bv .i64 ((Z d.nodes:Int)+1)=Z d.nodes+1:=wrap_i64 (by omega) (by omega);refine Co ?_;refine xS (xW λK m=>?_);simp[t1,G];apply m;refine AQ ?_;simp;refine⟨λC=>?_,λL U=>?_⟩
   .refine xW λK m=>?_;simp;apply m;refine Am ⟨_,_,ap,?_⟩;(try simp);exact((o False ⟨λw=>by obtain⟨_,_,h3,H⟩:=PE w;omega,False.elim⟩).2 id).symm
   .obtain⟨t,gt,X⟩:=hB.get (n:=d.root) L (by omega);refine xK ?_;refine Gb λK m=>?_;refine xJ ?_;simp[t1];refine z0 (AJ.TD 2 (sz:=2) [.agg [.d (AX d.nodes),.any]] rfl (by simp)) ?_;simp;refine xF (QD d.nodes F (by omega) J t d.root X) [2] rfl ?_;simp;refine xJ ?_;simp;refine CO (m _ _ ?_);refine xS (Gb λK m=>?_);refine xJ ?_;simp[t1];refine Bz (Ox (Ch t) d) rfl (by simp[xN]) ?_;simp;refine xJ ?_;simp;refine CO (m _ _ ?_);(try simp only[xQ,reduceIte]);refine AQ ?_;simp;refine⟨λy9=>?_,λhe=>?_⟩
    .refine xW λK m=>?_;simp;apply m;refine Am ⟨_,_,ap,?_⟩;(try simp);refine((o False ⟨λw=>?_,False.elim⟩).2 id).symm;obtain⟨u,gu,Y⟩:=w;have:t=u:=X.uniq (by rw[Y];exact Fw u);subst this;exact y9 Y.symm
    .refine xK ?_;refine xW λK m=>?_;simp;apply m;refine Am ⟨_,_,ap,?_⟩;(try simp);exact((o True ⟨λ_=>trivial,λ_=>⟨t,gt,he.symm⟩⟩).1 trivial).symm
noncomputable def Lf:List AO->Int
 |[]=>0
 |d::ds=>if HL d≠0 then HL d else Lf ds
theorem RP:∀{ds:List AO},(∀k (h:k<Z ds),HL ds[k]=0)->Lf ds=0
 |[],_=>rfl
 |d::ds,h=>by
  have h0:=h 0 (by simp);simp at h0;simp[Lf,h0,ne_eq];exact RP λk g=>by have:=h (k+1) (by simp;omega);simpa using this
theorem Ve:∀{ds:List AO} {i:Nat} (hi:i<Z ds),(∀k (h:k<i),HL (ds[k]'(by omega))=0)->HL ds[i]≠0->Lf ds=HL ds[i]
 |d::ds,0,_,_,hn=>by
  simp at hn⊢;simp[Lf,hn]
 |d::ds,i+1,hi,h,hn=>by
  have h0:=h 0 (by omega);simp at h0;simp at hn⊢;simp[Lf,h0,ne_eq];exact Ve (by simpa using hi) (λk g=>by have:=h (k+1) (by omega);simpa using this) hn
theorem kA(ds:List AO):Pure a8 258 [.sl (ds.map AB)] (AF (Lf ds)):=by
 refine ip func258 rfl rfl (by simp) λwf=>?_;have q:Z ds<=maxLen:=by have:=wf.1;simp[Da]at this;simpa using this.1
 rw[ntmps258];apply yW;simp;refine xS (yW ?_);simp;apply Bp;refine FH (Z ds) (λi tm S=>tm 6=.d (.sl (ds.map AB))/\tm 7=.d (AF (Z ds))/\tm 8=.d (AF i)/\S=[]/\∀k (h:k<i) (u:k<Z ds),HL ds[k]=0) (ed _) (by simp) ?_;rintro i tm S hi ⟨t6,t7,t8,rfl,m⟩;apply yW;simp[t7,t8];apply xC;simp;refine⟨λg=>?_,λv=>?_⟩
 .apply xK;apply xB;apply yW;simp[t6,t8,g];apply yS;apply yJ;simp;refine Bz (Mc ds[i]) rfl (by simp[xN]) (yJ ?_);simp;apply yW;simp;apply AQ;simp;refine⟨λs=>?_,λt=>?_⟩
  .apply yW;simp;refine Am ⟨_,_,ap,?_⟩;(try simp);exact(Ve g (λk j=>m k j (by omega)) s).symm
  .apply B8;apply yV;simp[t8];refine⟨g,_,_,ne 0 (by simp),?_⟩;simp[clean,t6,t7,AL g q];intro k j o;by_cases e:k=i
   .subst e;exact t
   .exact m k (by omega) o
 .apply Co;apply yW;simp;apply zT;(try simp);exact(RP λk j=>m k (by omega) j).symm
open Classical in
noncomputable def wS(f:(Int->Bool)->Bool):DT:=if h:∃t:DT,t.Good/\∀c,t.B9 c=f c then h.choose else .leaf am
theorem Pa{f:(Int->Bool)->Bool}{t:DT}(g:t.Good)(i:∀c,t.B9 c=f c):wS f=t:=by
 have h:∃t:DT,t.Good/\∀c,t.B9 c=f c:=⟨t,g,i⟩;unfold wS;rw[adV h];exact DT.unique h.choose_spec.1 g λc=>by rw[h.choose_spec.2,i]
open Classical in
noncomputable def tr(d:AO):DT:=if h:Valid d then h.choose else .leaf am
theorem Ko(d:AO):(tr d).Good:=by
 unfold tr;split
 .next h=>exact h.choose_spec.1
 .trivial
theorem EB{d:AO}(h:Valid d):Ch (tr d)=d:=by
 unfold tr;rw[adV h];exact h.choose_spec.2.symm
theorem Sk{t:DT}(h:t.Good):tr (Ch t)=t:=Oy (EB ⟨t,h,rfl⟩)
noncomputable def pQ(g:Bool->Bool->Bool)(a b:AO):AO:=Ch (wS λc=>g ((tr a).B9 c) ((tr b).B9 c))
noncomputable def Dn(g:Bool->Bool->Bool)(a b:AO):AO×Int:=
 if Lf [a,b]≠0 then(⟨[],0⟩,Lf [a,b])else if Z (pQ g a b).nodes>4096 then(⟨[],0⟩,2)else(pQ g a b,0)
theorem No{f:FuncId}{g:Bool->Bool->Bool}(s:TC f g)(a b:AO):
  AH a8 210 [.d (AB a),.d (AB b),.fn (.func f) [] []] [] (.d (.CA [AB (Dn g a b).1,AF (Dn g a b).2])) []:=by
 refine zD func210 26 rfl λwf u=>?_;apply yW;simp;refine xS (yS ?_);apply yJ;simp[maxLen];refine Bz (kA [a,b]) rfl (by simp[xN]) (yJ ?_);simp;apply yW;simp;apply AQ;simp;refine⟨λv=>?_,λi=>?_⟩
 .apply yW;simp;apply Am;refine⟨_,_,_,ap,by simp,by simp[Dn,v];rfl,k6 0 (by simp)⟩
 .have ha:HL a=0:=by
   simp only[Lf]at i;split at i
   .assumption
   .next h=>simpa using h
  have hb:HL b=0:=by
   simp only[Lf,ha,ne_eq,not_true,li]at i;split at i
   .assumption
   .next h=>simpa using h
  have m:=NQ ha;have o:=NQ hb;have C:Z (Ch (tr a)).nodes<=4096:=PH (by rw[EB m];exact ha);have E:Z (Ch (tr b)).nodes<=4096:=PH (by rw[EB o];exact hb);have j:(Z (Ch (tr a)).nodes+2) * (Z (Ch (tr b)).nodes+2) * 2<2 ^ 30:=by
   have h1:=acA (show Z (Ch (tr a)).nodes+2<=4098 by omega) (show Z (Ch (tr b)).nodes+2<=4098 by omega);omega
  obtain⟨t,w,z,q⟩:=PY s (tr a) (tr b) (Ko a) (Ko b) j;have A:pQ g a b=Ch t:=by unfold pQ;rw[Pa w z]
  rw[EB m,EB o]at q;apply xK;(repeat apply xS);apply yT;apply yJ;simp;refine xF (q) [2] rfl ?_;simp;apply yJ;simp;refine Bz (Xa (Ch t)) rfl (by simp[xN]) (yJ ?_);simp;apply Am;refine⟨_,_,_,ap,by simp,?_,k6 0 (by simp)⟩;simp[Dn,i,ne_eq,A];by_cases B:Z (Ch t).nodes>4096
  .simp[B,AB]
  .have k:¬4096<Z (Ch t).nodes:=by omega
   simp[k,AB]
theorem Nj(a b:AO):Pure a8 154 [AB a,AB b] (.CA [AB (Dn and a b).1,AF (Dn and a b).2]):=by
 refine zD func154 11 rfl λwf g=>?_;apply yW;simp;(repeat apply xS);apply yT;apply yJ;simp;refine AY.Uw (No GZ a b) rfl (by simp;try rfl) (yJ ?_);simp;apply Am;refine⟨_,_,_,ap,by simp,by simp,k6 0 (by simp)⟩
theorem Xy(a b:AO):Pure a8 158 [AB a,AB b] (.CA [AB (Dn or a b).1,AF (Dn or a b).2]):=by
 refine zD func158 11 rfl λwf g=>?_;apply yW;simp;(repeat apply xS);apply yT;apply yJ;simp;refine AY.Uw (No JJ a b) rfl (by simp;try rfl) (yJ ?_);simp;apply Am;refine⟨_,_,_,ap,by simp,by simp,k6 0 (by simp)⟩
def DT.Below(n:Nat):DT->Prop
 |.leaf _=>True
 |.node v l h=>v<n/\l.Below n/\h.Below n
structure FV(n:Nat)(t:DT):Prop where
 G9:t.Good
 below:t.Below n
theorem FV.leaf(n:Nat)(b:Bool):FV n (.leaf b):=⟨trivial,trivial⟩
abbrev abq:=@Nat.pow_le_pow_right
theorem WK{n:Nat}:∀{t:DT},t.Good->t.Below n->∀k:Nat,(k:Int)<=t.level->k<=n->t.size+1<=2 ^ (n - k):=by
 intro t;induction t with
 |leaf b=>intro _ _ k _ _;simp[DT.size];exact Nat.one_le_two_pow
 |node v l h i j=>
  intro g hb k m o;simp[ae3]at m;have q:=g.1;have s:=hb.1;have w:=i g.2.2.2.2.2.1 hb.2.1 (v.toNat+1) (by have:=g.2.2.2.1;omega) (by omega);have z:=j g.2.2.2.2.2.2 hb.2.2 (v.toNat+1) (by have:=g.2.2.2.2.1;omega) (by omega);have u:n - k=(n - (v.toNat+1))+(v.toNat+1 - k):=by omega
  have A:2 ^ (n - (v.toNat+1)) * 2<=2 ^ (n - k):=by
   rw[u,Nat.pow_add];refine Nat.mul_le_mul_left _ ?_;have:2 ^ 1<=2 ^ (v.toNat+1 - k):=abq (by omega) (by omega);simpa using this
  simp[DT.size];omega
theorem FV.size{n:Nat}{t:DT}(h:FV n t)(hn:n<=12):t.size<=4095:=by
 have g:(0:Int)<=t.level:=by
  by_cases e:t.size=0
  .obtain⟨b,rfl⟩:=Dv e;simp[ae3]
  .exact(FY h.G9 e).1
 have:=WK h.G9 h.below 0 (by simpa using g) (by omega);have i:2 ^ (n - 0)<=2 ^ 12:=abq (by omega) (by omega);have j:2 ^ 12=4096:=rfl;omega
theorem VX(t:DT):∀L:List DT,Z (emit t L)<=Z L+t.size:=by
 induction t with
 |leaf b=>intro L;simp[emit]
 |node v l h g i=>
  intro L;unfold emit;split
  .simp
  .have h1:=g L;have j:=i (emit l L);simp[DT.size];omega
theorem XR(t:DT):Z (Ch t).nodes<=t.size:=by
 have:=VX t [];simp[Ch,tA];simpa using this
theorem FV.len{n:Nat}{t:DT}(h:FV n t)(hn:n<=12):Z (Ch t).nodes<=4095:=oq (XR t) (h.size hn)
theorem FV.HL{n:Nat}{t:DT}(h:FV n t)(hn:n<=12):Koi.HL (Ch t)=0:=by
 have:=h.len hn;unfold Koi.HL;rw[a9 (by omega),b8 ⟨t,h.G9,rfl⟩]
theorem iG{n:Nat}:∀{t:DT},t.Good->(∀c (v:Int) b,(n:Int)<=v->t.B9 (DT.ER c v b)=t.B9 c)->t.Below n:=by
 intro t;induction t with
 |leaf b=>intro _ _;trivial
 |node v l h s u=>
  intro i hi;have j:∀c,l.B9 c=(DT.node v l h).B9 (DT.ER c v am):=λc=>by
   have:=Wx i (v:=v) (H1 _) c;simpa[DT.lo]using this
  have m:∀c,h.B9 c=(DT.node v l h).B9 (DT.ER c v J):=λc=>by
   have:=XH i (v:=v) (H1 _) c;simpa[DT.hi]using this
  have B:v<n:=by
   by_cases z:v<n
   .exact z
   .exact absurd (DT.unique i.2.2.2.2.2.1 i.2.2.2.2.2.2 λc=>by rw[j,m,hi _ _ _ (by omega),hi _ _ _ (by omega)]) i.2.2.1
  have g:∀(c:Int->Bool) (w:Int) (x y:Bool),w≠v->DT.ER (DT.ER c w x) v y=DT.ER (DT.ER c v y) w x:=λc w x y o=>by
   funext k;simp[DT.ER];by_cases A:k=v
   .subst A;rw[b8 rfl,a9 (λe=>o e.symm),b8 rfl]
   .rw[a9 A];by_cases q:k=w
    .rw[b8 q,b8 q]
    .rw[a9 q,a9 q,a9 A]
  refine⟨B,s i.2.2.2.2.2.1 λc w b o=>?_,u i.2.2.2.2.2.2 λc w b o=>?_⟩
  .rw[j,j,g _ _ _ _ (by omega),hi _ _ _ o]
  .rw[m,m,g _ _ _ _ (by omega),hi _ _ _ o]
theorem FV.indep{n:Nat}{t:DT}(h:FV n t)(c:Int->Bool)(v:Int)(b:Bool)(m:(n:Int)<=v):t.B9 (DT.ER c v b)=t.B9 c:=by
 obtain⟨j,hb⟩:=h;induction t with
 |leaf b=>rfl
 |node w l r g i=>
  have k:DT.ER c v b w=c w:=by have:=hb.1;simp only[DT.ER];rw[a9 (by omega)]
  simp[DT.B9,k];rw[g j.2.2.2.2.2.1 hb.2.1,i j.2.2.2.2.2.2 hb.2.2]
noncomputable def Qr(g:Bool->Bool->Bool)(s t:DT):DT:=wS λc=>g (s.B9 c) (t.B9 c)
theorem Eo{f:FuncId}{g:Bool->Bool->Bool}(w:TC f g){n:Nat}{s t:DT}(hn:n<=12)(h:FV n s)(i:FV n t):
  FV n (Qr g s t)/\(∀c,(Qr g s t).B9 c=g (s.B9 c) (t.B9 c))/\Dn g (Ch s) (Ch t)=(Ch (Qr g s t),0):=by
 have B:=h.len hn;have lt:=i.len hn;have j:(Z (Ch s).nodes+2) * (Z (Ch t).nodes+2) * 2<2 ^ 30:=by
  have h1:=acA (show Z (Ch s).nodes+2<=4098 by omega) (show Z (Ch t).nodes+2<=4098 by omega);omega
 obtain⟨u,m,k,_⟩:=PY w s t h.G9 i.G9 j;have e:Qr g s t=u:=Pa m k;have o:FV n u:=⟨m,iG m λc v b q=>by rw[k,k,h.indep c v b q,i.indep c v b q]⟩;refine⟨e▸o,by rw[e];exact k,?_⟩;have z:Lf [Ch s,Ch t]=0:=by simp[Lf,h.HL hn,i.HL hn]
 have A:pQ g (Ch s) (Ch t)=Ch u:=by
  unfold pQ;rw[Sk h.G9,Sk i.G9];exact mn Ch e
 have C:=o.len hn;simp only[Dn,z,ne_eq,not_true,li,A,e];rw[a9 (by omega)]
noncomputable def Ij:=Qr and
noncomputable def cM:=Qr or
theorem J5{t:DT}(g:t.Good):(Ch t).root=0↔t=.leaf false:=by
 constructor
 .intro h;have:=Fw t;rw[h]at this;exact this.zero
 .rintro rfl;rfl
theorem HR(d:AO):Pure a8 153 [AB d,AF 0] (AB d):=by
 refine zD func153 11 rfl λwf g=>?_;apply yW;simp;refine xS (yW ?_);simp;apply AQ;simp;apply xK;apply yW;simp;apply Am;refine⟨_,_,_,ap,by simp,by simp,k6 0 (by simp)⟩
def vT(t:DT):V:=.d (AB (Ch t))
def mI(m:List (Int×DT)):O:=.map (BT (D.int .i64) vT m)
noncomputable def DP{α:Type}[DecidableEq α](m:List (α×DT))(k:α):DT:=(look m k).getD (.leaf am)
def H5{α:Type}(n:Nat)(m:List (α×DT)):Prop:=∀p∈m,FV n p.2
theorem H5.at{α:Type}[DecidableEq α]{n:Nat}{m:List (α×DT)}(h:H5 n m)(k:α):FV n (DP m k):=by
 unfold DP;cases g:look m k with
 |none=>exact FV.leaf n am
 |some t=>exact h _ (Gu g)
@[simp] theorem uY{α:Type}[DecidableEq α]{ek:α->D}{k:Nat}(l:List (α×DT)):(BT ek vT l).all (λe=>AP k e.2)=true:=Wz (λ_=>rfl) l
@[simp] theorem yB{α:Type}(ρ:Nat->Nat)(ek:α->D)(l:List (α×DT)):(BT ek vT l).map (λp=>(p.1,BU ρ p.2))=BT ek vT l:=by
 unfold BT;rw[md];rfl
@[simp] theorem wI(l:List (Int×DT))(k:Int)(t:DT):Ej (BT (D.int .i64) vT l) (.int .i64 k) (.d (AB (Ch t)))=BT (D.int .i64) vT (Cu l k t):=EA (ev:=vT) (by intro a b;rw[gI];simp[DY]) l k t
theorem X4(m:List (Int×DT))(k:Int):AH a8 161 [.map 0,.d (AF k)] [mI m] (.d (AB (Ch (DP m k)))) [mI m]:=by
 refine zD func161 16 rfl λwf h=>?_;unfold mI;(repeat apply xS);apply yV;simp;cases g:look m k with
 |some t=>
  have e:DP m k=t:=by simp[DP,g]
  rw[e];refine xS (yW ?_);simp[g,vT];apply yW;simp;apply AQ;simp;apply yW;simp;apply Am;refine⟨_,_,_,ap,by simp,by simp,k6 1 (by simp)⟩
 |none=>
  have e:DP m k=.leaf false:=by simp[DP,g]
  rw[e];refine xS (yW ?_);simp[g];apply yW;simp;apply AQ;simp;apply xK;(repeat apply xS);apply yT;apply yJ;simp;refine Bz (II am) rfl (by simp) (yJ ?_);simp;apply Am;refine⟨_,_,_,ap,by simp,by simp[Iq,AB],k6 1 (by simp)⟩
noncomputable def stepT(m:List (Int×DT))(t:DT)(s:Symbol):DT:=if s.token=am/\t≠.leaf am then Ij t (DP m s.index)else t
noncomputable def IA(m:List (Int×DT))(t:DT)(l:List Symbol):DT:=l.foldl (stepT m) t
theorem jN{n:Nat}{m:List (Int×DT)}{t:DT}(hn:n<=12)(h:H5 n m)(g:FV n t)(s:Symbol):FV n (stepT m t s):=by
 unfold stepT;split
 .exact(Eo GZ hn g (h.at _)).1
 .exact g
theorem Kr{n:Nat}{m:List (Int×DT)}(hn:n<=12)(g:H5 n m)(l:List Symbol):∀{t:DT},FV n t->FV n (IA m t l):=by
 induction l with
 |nil=>intro t h;exact h
 |cons s l i=>intro t h;exact i (jN hn g h s)
abbrev abX:=@List.foldl_append
theorem Y3(m:List (Int×DT))(t:DT)(l:List Symbol){i:Nat}(hi:i<Z l):IA m t (l.take (i+1))=stepT m (IA m t (l.take i)) l[i]:=by
 unfold IA;rw[vj hi,abX];rfl
theorem fV{n:Nat}(hn:n<=12)(m:List (Int×DT))(o:H5 n m)(t:DT)(w:FV n t)(l:List Symbol):
  AH a8 156 [.d (AB (Ch t)),.d (As l),.map 0] [mI m] (.d (AB (Ch (IA m t l)))) [mI m]:=by
 refine AH.F8 func156 rfl rfl (by simp) λwf z=>?_;have q:Z l<=maxLen:=by have:=wf.2.1;simp[K0,Da]at this;simpa using this.1
 rw[ntmps156];unfold mI;apply yW;simp;refine xS (yW ?_);simp;apply Bp;refine zL (Z l) (λi tm S=>tm 2=.map 0/\tm 3=.ptr 1 1 0 0/\tm 6=.ptr 2 1 0 0/\tm 9=.d (As l)/\tm 10=.d (AF (Z l))/\tm 11=.d (AF i)/\S=[mI m,.row J 2 [.d (AB (Ch (IA m t (l.take i))))],.row J 2 [.agg [.full [],.d (.int .i64 0)]]]) (by simp[mI,IA]) ?_;rintro i tm S hi ⟨t2,t3,t6,t9,t10,t11,rfl⟩;unfold mI;apply yW;simp[t10,t11];apply xC;simp;refine⟨λj=>?_,λF=>?_⟩
 .have s:=Kr hn o (l.take i) w;generalize A:IA m t (l.take i)=X at *;have g:=J5 s.G9;have B:IA m t (l.take (i+1))=stepT m X l[i]:=by rw[Y3 m t l j,A]
  rw[B];apply xK;apply xB;apply yW;simp[t9,t11,j];apply yW;simp[t3];apply AQ;simp;refine⟨λh1 C=>?_,λh=>?_⟩
  .have k:stepT m X l[i]=Ij X (DP m l[i].index):=by
    unfold stepT;rw[b8 ⟨h1,λe=>C (g.2 e)⟩]
   obtain⟨o1,G,u⟩:=Eo GZ hn s (o.at l[i].index);rw[k];refine yE (A3 9 [19]) (by kernel_rfl) ?_;simp;apply yA 0;simp[t2,t3];refine Ad.qS _ (X4 m l[i].index) rfl rfl (by simp[mI];try rfl) ?_;simp;apply yA 0;simp;refine kt (Nj (Ch X) (Ch (DP m l[i].index))) rfl (by simp[xN]) ?_;simp[u];apply yA 0;simp;refine kt (HR (Ch (Qr and X (DP m l[i].index)))) rfl (by simp[xN]) ?_;simp;apply xX 511 (by kernel_rfl);simp[t3];apply xM;apply yV;simp[t11];refine⟨j,_,_,ne 3 (by simp),?_⟩;simp[clean,t2,t3,t6,t9,t10,AL j q,Ij]
  .have k:stepT m X l[i]=X:=by
    unfold stepT;rw[a9 (λv=>v.2 (g.1 (h v.1)))]
   rw[k];apply B8;apply yV;simp[t11];refine⟨j,_,_,ne 3 (by simp),?_⟩;simp[clean,t2,t3,t6,t9,t10,AL j q]
 .have E:i=Z l:=by omega
  subst E;rw[s9];apply Co;apply yW;simp[t3,t6];apply Am;refine⟨_,_,_,ap,by simp[t6],by simp[t6],k6 1 (by simp)⟩
attribute [simp] mI
open Classical in
noncomputable def KB(m:List (Int×DT))(ch:Bool)(k:Int)(d:DT):List (Int×DT)×Bool:=
 if d=.leaf am then(m,ch)else if DP m k=cM (DP m k) d then(m,ch)else(Cu m k (cM (DP m k) d),J)
def vQ(m:List (Int×DT))(ch:Bool):Sg:=[.row J 1 [.map 2],.row J 1 [.d (.bool ch)],mI m]
theorem H5.put{n:Nat}{m:List (Int×DT)}(h:H5 n m)(k:Int){t:DT}(i:FV n t):H5 n (Cu m k t):=by
 intro p g;unfold Cu at g;split at g
 .obtain⟨q,j,rfl⟩:=fd.1 g;split
  .exact i
  .exact h q j
 .rcases gc.1 g with g|g
  .exact h p g
  .simp at g;subst g;exact i
theorem nY{n:Nat}(hn:n<=12){m:List (Int×DT)}(g:H5 n m)(ch:Bool)(k:Int){d:DT}(h:FV n d):H5 n (KB m ch k d).1:=by
 unfold KB;split
 .exact g
 .split
  .exact g
  .exact g.put k (Eo JJ hn (g.at k) h).1
theorem rA{n:Nat}(hn:n<=12)(m:List (Int×DT))(q:H5 n m)(ch:Bool)(k:Int)(d:DT)(j:FV n d):
  AH prog 262 [.d (AF k),.d (AB (Ch d)),.ptr 0 1 0 0,.ptr 1 1 0 0] (vQ m ch) (.CA []) (vQ (KB m ch k d).1 (KB m ch k d).2):=by
 have g:=J5 j.G9;obtain⟨o1,v,o⟩:=Eo JJ hn (q.at k) j;refine zC func262 27 rfl λwf s=>?_;unfold vQ mI;apply yW;simp;refine xS (yW ?_);simp;apply AQ;simp;refine⟨λh=>?_,λh=>?_⟩
 .have e:KB m ch k d=(m,ch):=by unfold KB;rw[b8 (g.1 h)]
  rw[e];apply Am;refine⟨_,k6 3 (by simp),?_⟩;simp[At]
 .have i:¬d=.leaf false:=λe=>h (g.2 e);apply xK;apply yS;apply yJ;simp;refine xF (X4 m k) [2] rfl ?_;simp[mI];apply yJ;simp;apply yS;apply yJ;simp;refine Bz (Xy (Ch (DP m k)) (Ch d)) rfl (by simp[xN]) (yJ ?_);simp[o];refine Bz (HR (Ch (Qr or (DP m k) d))) rfl (by simp[xN]) (yJ ?_);simp;apply yS;apply yJ;simp;refine Bz (Ox (Ch (DP m k)) (Ch (Qr or (DP m k) d))) rfl (by simp[xN]) (yJ ?_);simp;apply AQ;simp;refine⟨λt=>?_,λu=>?_⟩
  .have e:KB m ch k d=(Cu m k (cM (DP m k) d),J):=by
    unfold KB;rw[a9 i,a9 (λe:DP m k=cM (DP m k) d=>t (mn Ch e))]
   rw[e];apply yW;simp;apply yV;simp;refine⟨_,ea 3 (by simp;rfl) (by simp) (by simp) (by simp),?_⟩;simp[At]
  .have e:KB m ch k d=(m,ch):=by
    unfold KB;rw[a9 i,b8 (show DP m k=cM (DP m k) d from Oy u)]
   rw[e];apply B8;refine⟨_,k6 3 (by simp),?_⟩;simp[At]
def D0(g:AD)(h:List DT):D:=.agg (BE (AA g)++[.sl (h.map λt=>AB (Ch t))])
def DL(l:List Symbol):Bool:=l.any (·.token)
noncomputable def GB(empty:Bool)(s:List (Int×DT)×Bool)(p:AM×DT):List (Int×DT)×Bool:=
 if empty&&DL p.1.right then s else KB s.1 s.2 p.1.left (IA s.1 p.2 p.1.right)
noncomputable def D3(empty:Bool)(l:List (AM×DT))(s:List (Int×DT)×Bool):List (Int×DT)×Bool:=l.foldl (GB empty) s
def wH{α:Type}(n:Nat)(l:List (α×DT)):Prop:=∀p∈l,FV n p.2
theorem Vn{n:Nat}(hn:n<=12)(empty:Bool){s:List (Int×DT)×Bool}(g:H5 n s.1){p:AM×DT}(h:FV n p.2):H5 n (GB empty s p).1:=by
 unfold GB;split
 .exact g
 .exact nY hn g _ _ (Kr hn g _ h)
theorem Kn{n:Nat}(hn:n<=12)(empty:Bool):∀(l:List (AM×DT)) {s:List (Int×DT)×Bool},H5 n s.1->wH n l->H5 n (D3 empty l s).1
 |[],_,g,_=>g
 |p::l,_,g,h=>Kn hn empty l (Vn hn empty g (h p (by simp))) λq i=>h q (by simp[i])
theorem Up(empty:Bool)(l:List (AM×DT))(s:List (Int×DT)×Bool){i:Nat}(hi:i<Z l):D3 empty (l.take (i+1)) s=GB empty (D3 empty (l.take i) s) l[i]:=by
 unfold D3;rw[vj hi,abX];rfl
def Zl(g:AD)(h:List DT)(empty:Bool)(m:List (Int×DT))(ch:Bool):Sg:=
 [.row J 1 [.ptr 6 1 0 0],.row J 1 [.d (.bool empty)],.row J 1 [.map 5],.row J 1 [.map 5],.row J 1 [.d (.bool ch)],mI m,.row J 10 [.d (D0 g h)]]
def addFn:V:=.fn (.func 262) [] [.ptr 3 1 0 0,.ptr 4 1 0 0]
abbrev adN:=@List.of_mem_zip
abbrev abr:=@List.mem_of_mem_take
abbrev vq:=@List.take_of_length_le
theorem jD{n:Nat}(hn:n<=12)(g:AD)(q:List DT)(hlen:Z q=Z g.AE)(w:∀t∈q,FV n t)(empty:Bool)(m:List (Int×DT))(hm:H5 n m)(ch:Bool):
  AH prog 213 [addFn,.ptr 0 1 0 0,.ptr 1 1 0 0,.ptr 2 1 0 0] (Zl g q empty m ch) (.CA [])
   (Zl g q empty (D3 empty (g.AE.zip q) (m,ch)).1 (D3 empty (g.AE.zip q) (m,ch)).2):=by
 unfold addFn;have hL:wH n (g.AE.zip q):=λp z=>w _ (adN z).2;refine j0 func213 rfl rfl (by simp) λwf H=>?_;simp[Zl,mI,Ln,vz,HC,K0,D0,Da,Bq]at H;obtain⟨_,_,_,_,_,_,_,_,⟨a1,a2⟩,_⟩:=H;have a3:∀p∈g.AE,Z p.right<=maxLen:=λp z=>by
  rw[Dh]at a2;have:=a2 p z;simp[AG,Da,Bq]at this;exact this.2.2.1.1
 rw[ntmps213];unfold Zl mI;apply AW.scope;apply xS;apply AW.label;simp[C8];apply yS;apply yJ;simp[D0];apply Bp;refine zL (Z g.AE) (λi tm S=>tm 0=.fn (.func 262) [] [.ptr 3 1 0 0,.ptr 4 1 0 0]/\tm 1=.ptr 0 1 0 0/\tm 2=.ptr 1 1 0 0/\tm 3=.ptr 2 1 0 0/\tm 13=.d (Cd g.AE)/\tm 14=.d (AF (Z g.AE))/\tm 15=.d (AF i)/\S=Zl g q empty (D3 empty ((g.AE.zip q).take i) (m,ch)).1 (D3 empty ((g.AE.zip q).take i) (m,ch)).2) (by simp[Zl,mI,D0,D3]) ?_;rintro i tm S hi ⟨t0,t1,t2,t3,t13,t14,t15,rfl⟩;generalize P:D3 empty ((g.AE.zip q).take i) (m,ch)=R;apply yW;simp[t14,t15];apply xC;simp;refine⟨λE=>?_,λzf=>?_⟩
 .have X:i<Z (g.AE.zip q):=by simp;omega
  have s:i<Z q:=by omega
  have u:H5 n R.1:=by rw[<-P];exact Kn hn empty _ hm λp z=>hL p (abr z)
  have zn:D3 empty ((g.AE.zip q).take (i+1)) (m,ch)=GB empty R (g.AE[i],q[i]):=by
   rw[Up empty _ _ X,P];simp
  have Y:=a3 g.AE[i] (cF E);rw[zn];generalize z:g.AE[i]=p at *;apply xK;apply xB;apply yW;simp[t13,t15,E,z];refine xS (yW ?_);simp;apply Bp;refine zL (Z p.right) (λj o S=>o 0=.fn (.func 262) [] [.ptr 3 1 0 0,.ptr 4 1 0 0]/\o 1=.ptr 0 1 0 0/\o 2=.ptr 1 1 0 0/\o 3=.ptr 2 1 0 0/\o 13=.d (Cd g.AE)/\o 14=.d (AF (Z g.AE))/\o 15=.d (AF i)/\o 5=.d (AF i)/\o 6=.ptr 7 1 0 0/\o 21=.d (As p.right)/\o 22=.d (AF (Z p.right))/\o 23=.d (AF j)/\S=Zl g q empty R.1 R.2++[.row J 13 [.d (AG p)]]/\∀k (h:k<j) (h':k<Z p.right),¬(p.right[k].token=J/\empty=J)) (by simp[Zl,mI,D0,AG,t0,t1,t2,t3,t13,t14,t15]) ?_;rintro j o S hj ⟨F,Q,K,T,A,B,v,s5,s6,L,M,C,rfl,zm⟩;apply yW;simp[M,C];apply xC;simp;refine⟨λU=>?_,λhge2=>?_⟩
  .apply xK;apply xB;unfold Zl;apply yW;simp[L,C,U];(repeat apply xS);apply yV;simp[K];by_cases G:p.right[j].token=J/\empty=J
   .have W:GB empty R (p,q[i])=R:=by
     unfold GB;rw[b8];simp[DL];exact⟨G.2,_,cF U,G.1⟩
    rw[W];apply AQ;simp[G.1,G.2];apply Co;apply yV;simp[v];refine⟨E,_,_,ne 7 (by simp),?_⟩;simp[clean,F,Q,K,T,A,B,AL E a1]
   .apply AQ;simp;refine⟨λh1 h2=>absurd ⟨h1,h2⟩ G,λ_=>?_⟩;apply B8;apply yV;simp[C];refine⟨U,_,_,ne 8 (by simp),?_⟩;simp[clean,F,Q,K,T,A,B,v,s5,s6,L,M,AL U Y];intro k hk hk';by_cases e:k=j
    .subst e;intro h1;cases N:empty with
     |false=>rfl
     |true=>exact absurd ⟨h1,N⟩ G
    .intro h1;cases N:empty with
     |false=>rfl
     |true=>exact absurd ⟨h1,N⟩ (zm k (by omega) hk')
  .have W:GB empty R (p,q[i])=KB R.1 R.2 p.left (IA R.1 q[i] p.right):=by
    unfold GB;rw[a9];simp only[b9,DL,Hs];rintro⟨N,x,hx,hxt⟩;obtain⟨k,hk,rfl⟩:=oi.1 hx;exact zm k (by omega) hk ⟨hxt,N⟩
   have za:=Kr hn u p.right (w _ (cF s));rw[W];unfold Zl mI;apply Co;refine yE (A3 14 [29]) (by kernel_rfl) ?_;simp;apply yA 2;simp[F,Q,T,s5,s6,D0,s];refine Ad.S9 (fV hn R.1 u q[i] (w _ (cF s)) p.right) [5] rfl (by simp[mI];try rfl) ?_;simp;refine AC (xT [1,0,0,0,0,0,0,0,0,0,0,1,0,1]) (rA hn R.1 u R.2 p.left _ za) [3,4,5] (by kernel_rfl) rfl (by simp[vQ,mI];try rfl) ?_;simp[vQ,mI];apply xM;apply yV;simp[v];refine⟨E,_,_,ne 7 (by simp),?_⟩;simp[clean,F,Q,K,T,A,B,AL E a1]
 .have X:i=Z g.AE:=by omega
  subst X;have zp:(g.AE.zip q).take (Z g.AE)=g.AE.zip q:=vq (by simp;omega);rw[zp]at P;apply Co;refine⟨λl h=>(by cases h),_,rr (by rw[P];rfl),?_⟩;simp[At]
def Se:Nat->List (Int->Bool)
 |0=>[λ_=>am]
 |n+1=>Se n++(Se n).map λc=>DT.ER c n J
abbrev acX:=@List.mem_append_right
theorem UT(c:Int->Bool):∀n:Nat,∃i∈Se n,∀v:Int,0<=v->v<n->i v=c v
 |0=>⟨λ_=>am,by simp[Se],λv h0 h1=>absurd h1 (by omega)⟩
 |n+1=>by
  obtain⟨i,j,h⟩:=UT c n;by_cases e:c n=J
  .refine⟨DT.ER i n J,acX _ (fd.2 ⟨i,j,rfl⟩),λv h0 h1=>?_⟩;simp only[DT.ER];by_cases ev:v=n
   .subst ev;rw[b8 rfl,e]
   .rw[a9 ev];exact h v h0 (by omega)
  .have o:∀(k:Nat),∀x∈Se k,∀v:Int,(k:Int)<=v->x v=false:=by
    intro k;induction k with
    |zero=>intro x g v _;simp[Se]at g;subst g;rfl
    |succ k m=>
     intro x g v t;rcases gc.1 g with g|g
     .exact m x g v (by omega)
     .obtain⟨y,q,rfl⟩:=fd.1 g;simp only[DT.ER];rw[a9 (by omega)];exact m y q v (by omega)
   refine⟨i,acn _ j,λv h0 h1=>?_⟩;by_cases ev:v=n
   .subst ev;rw[o n i j n (H1 _)];cases s:c n with
    |false=>rfl
    |true=>exact absurd s e
   .exact h v h0 (by omega)
theorem RX{n:Nat}{t:DT}(h:FV n t){c k:Int->Bool}(m:∀v:Int,0<=v->v<n->k v=c v):t.B9 k=t.B9 c:=by
 obtain⟨g,hb⟩:=h;induction t with
 |leaf b=>rfl
 |node w l r i j=>
  simp only[DT.B9];rw[m w g.1 hb.1,i g.2.2.2.2.2.1 hb.2.1,j g.2.2.2.2.2.2 hb.2.2]
abbrev adx:=@List.countP_mono_left
abbrev acM:=@List.countP_cons
theorem Rb{α:Type}{p q:α->Bool}:∀{l:List α},(∀x∈l,p x=J->q x=J)->(∃x∈l,q x=J/\p x=am)->l.countP p<l.countP q
 |[],_,h=>by obtain⟨x,j,_⟩:=h;simp at j
 |x::l,h1,m=>by
  have o:l.countP p<=l.countP q:=adx λy g i=>h1 y (by simp[g]) i;rw[acM,acM];obtain⟨y,g,k,i⟩:=m;rcases ge.1 g with rfl|g
  .simp only[k,i,kw];simp;omega
  .have:=Rb (λz s=>h1 z (by simp[s])) ⟨y,g,k,i⟩;have j:=h1 x (by simp);by_cases e:p x=J
   .simp only[e,j e,kw];omega
   .rw[a9 e];split<;>omega
def outs(n:Nat)(t:DT):Nat:=(Se n).countP λc=>!t.B9 c
theorem nj{n:Nat}{s t:DT}(j:FV n s)(k:FV n t)(h:∀c,s.B9 c=J->t.B9 c=J)(m:s≠t):outs n t<outs n s:=by
 refine Rb (λc _ g=>?_) ?_
 .simp only[rx]at g⊢;cases e:s.B9 c with
  |false=>rfl
  |true=>rw[h c e]at g;cases g
 .have:¬∀c,s.B9 c=t.B9 c:=λo=>m (DT.unique j.G9 k.G9 o);obtain⟨c,g⟩:=Classical.not_forall.1 this;obtain⟨q,u,ha⟩:=UT c n;refine⟨q,u,?_⟩;rw[RX j ha,RX k ha];cases i:s.B9 c with
  |true=>exact absurd (i.trans (h c i).symm) g
  |false=>cases v:t.B9 c with
   |true=>simp
   |false=>exact absurd (i.trans v.symm) g
theorem ou{n:Nat}{s t:DT}(h:∀c,s.B9 c=J->t.B9 c=J):outs n t<=outs n s:=
 adx λc _ g=>by
  simp only[rx]at g⊢;cases e:s.B9 c with
  |false=>rfl
  |true=>rw[h c e]at g;cases g
noncomputable def mu{α:Type}[DecidableEq α](n:Nat)(ks:List α)(m:List (α×DT)):Nat:=(ks.map λk=>outs n (DP m k)).sum
theorem JP{α:Type}[DecidableEq α](m:List (α×DT))(k:α)(t:DT)(j:α):DP (Cu m k t) j=if j=k then t else DP m j:=by
 unfold DP;rw[Fj];split<;>rfl
abbrev adh:=@List.sum_cons
theorem jk{α:Type}{f g:α->Nat}:∀{l:List α},(∀x∈l,f x<=g x)->(l.map f).sum<=(l.map g).sum
 |[],_=>ci _
 |x::l,h=>by
  have h1:=h x (by simp);have j:=jk (l:=l) λy i=>h y (by simp[i]);simp only[ii,adh];omega
theorem gf{α:Type}{f g:α->Nat}:∀{l:List α},(∀x∈l,f x<=g x)->(∃x∈l,f x<g x)->(l.map f).sum<(l.map g).sum
 |[],_,h=>by obtain⟨x,j,_⟩:=h;simp at j
 |x::l,h,k=>by
  have h1:=h x (by simp);have o:=jk (l:=l) λy i=>h y (by simp[i]);simp only[ii,adh];obtain⟨y,i,m⟩:=k;rcases ge.1 i with rfl|i
  .omega
  .have:=gf (l:=l) (λy i=>h y (by simp[i])) ⟨y,i,m⟩;omega
theorem eZ{α:Type}[DecidableEq α]{n:Nat}{ks:List α}{m:List (α×DT)}{k:α}{t:DT}(g:k∈ks)(i:FV n (DP m k))(o:FV n t)(h:∀c,(DP m k).B9 c=J->t.B9 c=J)(q:DP m k≠t):
  mu n ks (Cu m k t)<mu n ks m:=by
 refine gf (λj _=>?_) ⟨k,g,?_⟩
 .rw[JP];split
  .next e=>subst e;exact ou h
  .exact ci _
 .rw[JP,b8 rfl];exact nj i o h q
theorem mL{n:Nat}(hn:n<=12){ks:List Int}{m:List (Int×DT)}(g:H5 n m)(ch:Bool){k:Int}(h:k∈ks){d:DT}(i:FV n d):
  KB m ch k d=(m,ch)\/((KB m ch k d).2=J/\mu n ks (KB m ch k d).1<mu n ks m):=by
 obtain⟨o1,j,_⟩:=Eo JJ hn (g.at k) i;unfold KB;split
 .exact .inl rfl
 .split
  .exact .inl rfl
  .next o=>exact .inr ⟨rfl,eZ h (g.at k) o1 (λc q=>by show(Qr or (DP m k) d).B9 c=J;rw[j,q];rfl) o⟩
theorem Ra{n:Nat}(hn:n<=12)(empty:Bool){ks:List Int}:∀(l:List (AM×DT)) (s:List (Int×DT)×Bool),H5 n s.1->wH n l->(∀p∈l,p.1.left∈ks)->mu n ks (D3 empty l s).1<=mu n ks s.1/\((D3 empty l s).2=J->s.2=J\/mu n ks (D3 empty l s).1<mu n ks s.1)
 |[],s,_,_,_=>⟨ci _,λh=>.inl h⟩
 |p::l,s,g,k,m=>by
  have o:=k p (by simp);obtain⟨t,u⟩:=Ra hn empty l (GB empty s p) (Vn hn empty g o) (λq i=>k q (by simp[i])) (λq i=>m q (by simp[i]));have e:D3 empty (p::l) s=D3 empty l (GB empty s p):=rfl;rw[e];have j:GB empty s p=s\/((GB empty s p).2=J/\mu n ks (GB empty s p).1<mu n ks s.1):=by
   unfold GB;split
   .exact .inl rfl
   .exact mL hn g s.2 (m p (by simp)) (Kr hn g _ o)
  rcases j with j|⟨h1,v⟩
  .rw[j]at t u⊢;exact⟨t,u⟩
  .exact⟨by omega,λ_=>.inr (by omega)⟩
noncomputable def Qt(empty:Bool)(l:List (AM×DT)):Nat->List (Int×DT)->List (Int×DT)
 |0,m=>m
 |f+1,m=>if(D3 empty l (m,am)).2 then Qt empty l f (D3 empty l (m,am)).1 else(D3 empty l (m,am)).1
def dr(g:AD)(h:List DT)(empty:Bool)(m:List (Int×DT)):Sg:=
 [.row J 1 [.ptr 4 1 0 0],.row J 1 [.d (.bool empty)],.row J 1 [.map 3],mI m,.row J 10 [.d (D0 g h)]]
theorem iy{n:Nat}(hn:n<=12)(g:AD)(i:List DT)(v:Z i=Z g.AE)(w:∀t∈i,FV n t)(empty:Bool)(m:List (Int×DT))(H:H5 n m):
  ∃j,H5 n j/\j=Qt empty (g.AE.zip i) (mu n (g.AE.map (·.left)) m+1) m/\AH prog 212 [.map 3,.fn (.func 213) [] [.ptr 0 1 0 0,.ptr 1 1 0 0,.ptr 2 1 0 0]] (dr g i empty m) (.CA []) (dr g i empty j):=by
 have B:wH n (g.AE.zip i):=λp C=>w _ (adN C).2;have E:∀p∈g.AE.zip i,p.1.left∈g.AE.map (·.left):=λp C=>fd.2 ⟨p.1,(adN C).1,rfl⟩;obtain⟨F,G⟩:∃F,F=Qt empty (g.AE.zip i) (mu n (g.AE.map (·.left)) m+1) m:=⟨_,rfl⟩;have z:∀(f:Nat) m,H5 n m->H5 n (Qt empty (g.AE.zip i) f m):=by
  intro f;induction f with
  |zero=>intro m h;exact h
  |succ f N=>
   intro m h;have:=Kn hn empty (g.AE.zip i) (s:=(m,am)) h B;simp only[Qt];split
   .exact N _ this
   .exact this
 refine⟨F,G▸z _ _ H,G,?_⟩;refine j0 func212 (by kernel_rfl) rfl (by simp) λwf P=>?_;rw[ntmps212];unfold dr;apply yW;simp;apply yW;simp;apply Bp;refine aew (λk tm S=>tm 1=.fn (.func 213) [] [.ptr 0 1 0 0,.ptr 1 1 0 0,.ptr 2 1 0 0]/\tm 2=.ptr 5 1 0 0/\tm 4=.ptr 6 1 0 0/\∃j ch,H5 n j/\S=dr g i empty j++[.row J 1 [.map 3],.row J 1 [.d (.bool ch)]]/\((ch=J/\mu n (g.AE.map (·.left)) j<k/\Qt empty (g.AE.zip i) k j=F)\/(ch=am/\j=F))) ⟨mu n (g.AE.map (·.left)) m+1,_,_,ap,by simp,by simp,by simp,m,J,H,rfl,.inl ⟨rfl,Nat.lt_succ_self _,G.symm⟩⟩ ?_;rintro k tm S ⟨t1,t2,t4,j,ch,o,rfl,q⟩;rcases q with⟨rfl,U,A⟩|⟨rfl,rfl⟩
 .obtain⟨k,rfl⟩:∃Q,k=Q+1:=⟨k - 1,by omega⟩;obtain⟨T,K⟩:=Ra hn empty (ks:=g.AE.map (·.left)) (g.AE.zip i) (j,am) o B E;have L:=Kn hn empty (g.AE.zip i) (s:=(j,am)) o B;have M:=jD hn g i v w empty j o am;simp only[Qt]at A;generalize D3 empty (g.AE.zip i) (j,am)=R at T K L M A;unfold dr;refine xS (yW ?_);simp[t4];apply AQ;simp;apply xK;apply xB;apply yW;simp[t4];apply yT;apply yJ;simp[t1,t2,t4];refine xF (M) [0,1,2,5,6,3,4] rfl ?_;simp[Zl,addFn];apply yJ;simp;apply yW;simp[t4];apply yV;simp;refine⟨if R.2 then k else 0,?_,_,_,C4 [0,1,2,3,4,5,7] (S0:=dr g i empty R.1++[.row J 1 [.map 3],.row J 1 [.d (.bool R.2)]]) ?_ ?_ ?_,?_⟩
  .split<;>omega
  .simp[dr]
  .simp
  .rfl
  .simp[pick,t1,t2];refine⟨⟨by decide,by decide⟩,by decide,by decide,R.1,L,?_⟩;cases u:R.2 with
   |false=>exact .inl ⟨by simp[dr],by simpa[u]using A⟩
   |true=>
    have W:mu n (g.AE.map (·.left)) R.1<mu n (g.AE.map (·.left)) j:=by
     rcases K u with h|h
     .cases h
     .exact h
    exact .inr ⟨by simp[dr],by simp;omega,by simpa[u]using A⟩
 .unfold dr;refine xS (yW ?_);simp[t4];apply AQ;simp;apply Co;refine⟨_,k6 5 (by simp),?_⟩;simp[At]
def Gy(g:AD)(h:List DT):O:=.row J 10 [.d (D0 g h)]
noncomputable def sI(n:Nat)(empty:Bool)(g:AD)(h:List DT):List (Int×DT):=Qt empty (g.AE.zip h) (mu n (g.AE.map (·.left)) []+1) []
theorem SJ{n:Nat}(hn:n<=12)(g:AD)(h:List DT)(i:Z h=Z g.AE)(j:∀t∈h,FV n t)(empty:Bool):
  ∃m,H5 n m/\m=sI n empty g h/\AH prog 155 [.ptr 0 1 0 0,.d (.bool empty)] [Gy g h] (.map 1) [Gy g h,mI m]:=by
 obtain⟨m,k,o,q⟩:=iy hn g h i j empty [] (λp s=>absurd s (by simp));refine⟨m,k,o,?_⟩;refine j0 func155 (by kernel_rfl) rfl (by simp) λwf u=>?_;rw[ntmps155];unfold Gy;apply yW;simp;apply yW;simp;apply yS;apply yJ;simp;refine xF (q) [1,2,4,3,0] rfl ?_;simp[dr];apply yJ;simp;apply yW;simp;apply Am;refine⟨_,C4 [0,3] ?_ ?_ ?_,?_⟩
 .simp
 .simp
 .rfl
 .simp[At,pick];try decide
abbrev Pr:=Int×Int
def Iw(t:Pr):D:=.agg [.int .i64 t.1,.int .i64 t.2]
theorem pO(a b:Pr):DY (Iw a) (Iw b)=decide (a=b):=by
 obtain⟨g,h⟩:=a;obtain⟨i,j⟩:=b;rw[gI];simp[DY,CS,Iw]
section
variable {β:Type} {ev:β->V}
@[simp] theorem wW(l:List (Pr×β))(a b:Int):Cq (BT Iw ev l) (.agg [.int .i64 a,.int .i64 b])=(look l (a,b)).map ev:=Fe pO l (a,b)
@[simp] theorem xh(l:List (Pr×DT))(a b:Int)(t:DT):Ej (BT Iw vT l) (.agg [.int .i64 a,.int .i64 b]) (.d (AB (Ch t)))=BT Iw vT (Cu l (a,b) t):=EA (ev:=vT) pO l (a,b) t
@[simp] theorem sY(l:List (Pr×β)):BW (.cells [.int .i64,.int .i64]) (BT Iw ev l)=True:=eq_true (FJ (by intro a;simp[B1,Bx,B3,Iw]) l)
end
def m2(m:List (Pr×DT)):O:=.map (BT Iw vT m)
attribute [simp] m2
theorem rn(m:List (Pr×DT))(a b:Int):AH prog 159 [.map 0,.agg [.d (.int .i64 a),.d (.int .i64 b)]] [m2 m] (.d (AB (Ch (DP m (a,b))))) [m2 m]:=by
 refine zD func159 16 rfl λwf h=>?_;unfold m2;(repeat apply xS);apply yV;simp;cases g:look m (a,b)with
 |some t=>
  have e:DP m (a,b)=t:=by simp[DP,g]
  rw[e];refine xS (yW ?_);simp[g,vT];apply yW;simp;apply AQ;simp;apply yW;simp;apply Am;refine⟨_,_,_,ap,by simp,by simp,k6 1 (by simp)⟩
 |none=>
  have e:DP m (a,b)=.leaf false:=by simp[DP,g]
  rw[e];refine xS (yW ?_);simp[g];apply yW;simp;apply AQ;simp;apply xK;(repeat apply xS);apply yT;apply yJ;simp;refine Bz (II am) rfl (by simp) (yJ ?_);simp;apply Am;refine⟨_,_,_,ap,by simp,by simp[Iq,AB],k6 1 (by simp)⟩
theorem VM:∀{xs:List V},HC xs↔∀x∈xs,K0 x
 |[]=>by simp[HC]
 |x::xs=>by simp[HC,VM (xs:=xs)]
open Classical in
noncomputable def FO(st:List (Pr×DT))(fr:Int)(d:DT)(s:List (Int×DT)×List Int)(m:Int):List (Int×DT)×List Int:=
 if DP s.1 m=cM (DP s.1 m) (Ij d (DP st (fr,m)))then s else(Cu s.1 m (cM (DP s.1 m) (Ij d (DP st (fr,m)))),s.2++[m])
noncomputable def visitM(st:List (Pr×DT))(fr:Int)(d:DT)(l:List Int)(s:List (Int×DT)×List Int):List (Int×DT)×List Int:=l.foldl (FO st fr d) s
theorem Vq(st:List (Pr×DT))(fr:Int)(d:DT)(l:List Int)(s:List (Int×DT)×List Int){i:Nat}(hi:i<Z l):visitM st fr d (l.take (i+1)) s=FO st fr d (visitM st fr d (l.take i) s) l[i]:=by
 unfold visitM;rw[vj hi,abX];rfl
theorem aG(st:List (Pr×DT))(fr:Int)(d:DT)(s:List (Int×DT)×List Int)(m:Int):Z s.2<=Z (FO st fr d s m).2:=by
 unfold FO;split
 .exact ci _
 .simp
theorem Lq(st:List (Pr×DT))(fr:Int)(d:DT):∀(l:List Int) (s:List (Int×DT)×List Int),Z s.2<=Z (visitM st fr d l s).2
 |[],_=>ci _
 |m::l,s=>oq (aG st fr d s m) (Lq st fr d l _)
theorem eJ{n:Nat}(hn:n<=12){st:List (Pr×DT)}(h:H5 n st){fr:Int}{d:DT}(i:FV n d){s:List (Int×DT)×List Int}(g:H5 n s.1){m:Int}{ks:List Int}(j:m∈ks):
  H5 n (FO st fr d s m).1/\Z (FO st fr d s m).2+mu n ks (FO st fr d s m).1<=Z s.2+mu n ks s.1/\Z (FO st fr d s m).2+2 * mu n ks (FO st fr d s m).1<=Z s.2+2 * mu n ks s.1:=by
 obtain⟨k,u,_⟩:=Eo GZ hn i (h.at (fr,m));obtain⟨o1,o,_⟩:=Eo JJ hn (g.at m) k;unfold FO;split
 .exact⟨g,ci _,ci _⟩
 .next q=>
  have h1:=eZ (ks:=ks) j (g.at m) o1 (λc t=>by rw[o,t];rfl) q;refine⟨g.put m o1,?_,?_⟩
  .simp;have:mu n ks (Cu s.1 m (cM (DP s.1 m) (Ij d (DP st (fr,m)))))<mu n ks s.1:=h1;omega
  .simp;have:mu n ks (Cu s.1 m (cM (DP s.1 m) (Ij d (DP st (fr,m)))))<mu n ks s.1:=h1;omega
theorem I6{n:Nat}(hn:n<=12){st:List (Pr×DT)}(h:H5 n st){fr:Int}{d:DT}(i:FV n d){ks:List Int}:∀(l:List Int) {s:List (Int×DT)×List Int},(∀m∈l,m∈ks)->H5 n s.1->H5 n (visitM st fr d l s).1/\Z (visitM st fr d l s).2+mu n ks (visitM st fr d l s).1<=Z s.2+mu n ks s.1/\Z (visitM st fr d l s).2+2 * mu n ks (visitM st fr d l s).1<=Z s.2+2 * mu n ks s.1
 |[],_,_,g=>⟨g,ci _,ci _⟩
 |m::l,s,j,g=>by
  obtain⟨h1,q,t⟩:=eJ hn h (fr:=fr) i g (j m (by simp));obtain⟨k,u,v⟩:=I6 hn h (fr:=fr) i (ks:=ks) l (λx o=>j x (by simp[o])) h1;have e:visitM st fr d (m::l) s=visitM st fr d l (FO st fr d s m):=rfl;rw[e];exact⟨k,by omega,by omega⟩
def vI(l:List Int):V:=.d (.sl (l.map (D.int .i64)))
def bn(h:List (Int×List Int))(st:List (Pr×DT))(g:List (Int×DT))(i:Bool)(q:List Int):Sg:=
 [.row J 1 [.map 4],.row J 1 [.map 5],.row J 1 [.map 6],.row J 1 [.row 7 (Z q)],.map (BT (D.int .i64) vI h),mI g,m2 st,.row i 1 (q.map λx=>.d (.int .i64 x))]
@[simp] theorem jz{α:Type}{ek:α->D}{k:Nat}(l:List (α×List Int)):(BT ek vI l).all (λe=>AP k e.2)=true:=by
 rw[de];intro p g;simp only[BT,fd]at g;obtain⟨q,_,rfl⟩:=g;rfl
@[simp] theorem wh{α:Type}(ρ:Nat->Nat)(ek:α->D)(l:List (α×List Int)):(BT ek vI l).map (λp=>(p.1,BU ρ p.2))=BT ek vI l:=by
 unfold BT;rw[md];rfl
theorem Rq{n:Nat}(hn:n<=12)(v:List (Int×List Int))(st:List (Pr×DT))(zb:H5 n st)(g:List (Int×DT))(hr:H5 n g)(F:Bool)(q:List Int)(fr:Int)(d:DT)(hd:FV n d)
  (ks:List Int) (B:∀m∈(look v fr).getD [],m∈ks) (hq:Z q+mu n ks g<=2 ^ 29):
  ∃C,(Z (visitM st fr d ((look v fr).getD []) (g,q)).2=Z q\/C=J)/\(F=J->C=J)/\AH prog 160 [.d (AF fr),.d (AB (Ch d)),.ptr 0 1 0 0,.ptr 1 1 0 0,.ptr 2 1 0 0,.ptr 3 1 0 0] (bn v st g F q) (.CA [])
   (bn v st (visitM st fr d ((look v fr).getD []) (g,q)).1 C (visitM st fr d ((look v fr).getD []) (g,q)).2):=by
 cases P:look v fr with
 |none=>
  refine⟨F,.inl rfl,id,?_⟩;have e:visitM st fr d ((none:Option (List Int)).getD []) (g,q)=(g,q):=rfl;rw[e];refine zC func160 50 rfl λwf H=>?_;unfold bn mI m2;apply yW;simp;apply yW;simp[P];apply Bp;refine FH 0 (λi tm S=>tm 15=.d (AF 0)/\tm 16=.d (AF 0)/\i=0/\S=bn v st g F q++[.row J 2 [.d (AB (Ch d))]]) (i0:=0) (ci _) (by simp[bn]) ?_;rintro i tm S hi ⟨t15,t16,rfl,rfl⟩;unfold bn mI m2;apply yW;simp[t15,t16];apply xC;simp;apply Co;refine⟨_,k6 8 (by simp),?_⟩;simp[At]
 |some l=>
  rw[P]at B;simp only[K2]at B⊢;refine⟨F||decide (Z q<Z (visitM st fr d l (g,q)).2),?_,λh=>by simp[h],?_⟩
  .rcases x3 (Z q) (Z (visitM st fr d l (g,q)).2) with h|h
   .right;simp[h]
   .left;have:=Lq st fr d l (g,q);simp only at this;omega
  refine zC func160 50 rfl λwf H=>?_;have Q:Z l<=maxLen:=by
   have h:=H.2.2.2.2.1;simp[vz]at h;have h2:=(VM.1 h.2) (vI l) (by simp only[BT,fd];exact⟨(.int .i64 fr,vI l),⟨(fr,l),Gu P,rfl⟩,rfl⟩);simpa[vI,K0,Da]using h2.1
  unfold bn mI m2;apply yW;simp;apply yW;simp[P,vI];apply Bp;refine zL (Z l) (λi tm S=>tm 0=.d (AF fr)/\tm 3=.ptr 1 1 0 0/\tm 4=.ptr 2 1 0 0/\tm 5=.ptr 3 1 0 0/\tm 7=.ptr 8 1 0 0/\tm 14=.d (.sl (l.map (D.int .i64)))/\tm 15=.d (AF (Z l))/\tm 16=.d (AF i)/\S=bn v st (visitM st fr d (l.take i) (g,q)).1 (F||decide (Z q<Z (visitM st fr d (l.take i) (g,q)).2)) (visitM st fr d (l.take i) (g,q)).2++[.row J 2 [.d (AB (Ch d))]]) (by simp[bn,visitM]) ?_;rintro i tm S hi ⟨t0,t3,t4,t5,t7,t14,t15,t16,rfl⟩;generalize K:visitM st fr d (l.take i) (g,q)=R;obtain⟨k1,k2,k3⟩:=I6 hn zb (fr:=fr) hd (ks:=ks) (l.take i) (s:=(g,q)) (λm hm=>B m (abr hm)) hr;rw[K]at k1 k2 k3;simp only at k2 k3;have k4:Z q<=Z R.2:=by rw[<-K];exact Lq st fr d (l.take i) (g,q)
  unfold bn mI m2;apply yW;simp[t15,t16];apply xC;simp;refine⟨λt=>?_,λzf=>?_⟩
  .have zn:visitM st fr d (l.take (i+1)) (g,q)=FO st fr d R l[i]:=by rw[Vq _ _ _ _ _ t,K]
   obtain⟨X,hX⟩:∃X,X=Qr and d (DP st (fr,l[i])):=⟨_,rfl⟩;obtain⟨A,T⟩:∃A,A=DP R.1 l[i]:=⟨_,rfl⟩;obtain⟨Y,hY⟩:∃Y,Y=Qr or A X:=⟨_,rfl⟩;obtain⟨L,a2',k⟩:=Eo GZ hn hd (zb.at (fr,l[i]));rw[<-hX]at L k;obtain⟨o1,o2,M⟩:=Eo JJ hn (k1.at l[i]) L;rw[<-T,<-hY]at M;have w:FO st fr d R l[i]=if A=Y then R else(Cu R.1 l[i] Y,R.2++[l[i]]):=by
    unfold FO;rw[hY,T,hX];rfl
   have N:Z R.2<=1073741823:=by omega
   rw[zn,w];have Dj:=X4 R.1 l[i];rw[<-T]at Dj;apply xK;apply xB;apply yW;simp[t14,t16,t];(repeat apply xS);apply yT;apply yJ;simp[t3];refine xF (Dj) [5] rfl ?_;simp[mI];apply yJ;simp;cases j:look st (fr,l[i])with
   |none=>
    have G:DP st (fr,l[i])=.leaf false:=by simp[DP,j]
    have z:Dn and (Ch d) ⟨[],0⟩=(Ch X,0):=by rw[<-k,G];rfl
    refine yD (A3 15 [31,33]) (by kernel_rfl) ?_;simp;apply yA 1;simp[t7,t4,t0,j];refine Bs (Nj (Ch d) (Ch (DP st (fr,l[i])))) rfl (by simp[G,Iq,xN]) ?_;simp[G,z,Iq];apply yA 1;simp;refine Bs (HR (Ch X)) rfl (by simp[xN]) ?_;simp;apply yA 1;simp;refine Bs (Xy (Ch A) (Ch X)) rfl (by simp[xN]) ?_;simp[M];apply yA 1;simp;refine Bs (HR (Ch Y)) rfl (by simp[xN]) ?_;simp;apply xX 0 (by kernel_rfl);simp[Aa,Ag,t7,t4,t0,j];apply xX 32767 (by kernel_rfl);simp;apply xM;apply yS;apply yJ;simp;refine Bz (Ox (Ch A) (Ch Y)) rfl (by simp[xN]) (yJ ?_);simp;apply AQ;simp;refine⟨λU=>?_,λW=>?_⟩
    .have o:¬A=Y:=λe=>U (mn Ch e);rw[a9 o];apply yW;simp[t3];apply yV;simp[t5,maxLen,N];apply yV;simp[t16];refine⟨t,_,_,ne 9 (by simp),?_⟩;simp[clean,t0,t3,t4,t5,t7,t14,t15,AL t Q];exact Or.inr (by omega)
    .have E:A=Y:=Oy W;rw[b8 E];apply B8;apply yV;simp[t16];refine⟨t,_,_,ne 9 (by simp),?_⟩;simp[clean,t0,t3,t4,t5,t7,t14,t15,AL t Q]
   |some u=>
    have G:DP st (fr,l[i])=u:=by simp[DP,j]
    rw[G]at k;refine yD (A3 15 [31,33]) (by kernel_rfl) ?_;simp;apply yA 1;simp[t7,t4,t0,j,vT];refine Bs (Nj (Ch d) (Ch u)) rfl (by simp[xN]) ?_;simp[k];apply yA 1;simp;refine Bs (HR (Ch X)) rfl (by simp[xN]) ?_;simp;apply yA 1;simp;refine Bs (Xy (Ch A) (Ch X)) rfl (by simp[xN]) ?_;simp[M];apply yA 1;simp;refine Bs (HR (Ch Y)) rfl (by simp[xN]) ?_;simp;apply xX 0 (by kernel_rfl);simp[Aa,Ag,t7,t4,t0,j,vT];apply xX 32767 (by kernel_rfl);simp;apply xM;apply yS;apply yJ;simp;refine Bz (Ox (Ch A) (Ch Y)) rfl (by simp[xN]) (yJ ?_);simp;apply AQ;simp;refine⟨λU=>?_,λW=>?_⟩
    .have o:¬A=Y:=λe=>U (mn Ch e);rw[a9 o];apply yW;simp[t3];apply yV;simp[t5,maxLen,N];apply yV;simp[t16];refine⟨t,_,_,ne 9 (by simp),?_⟩;simp[clean,t0,t3,t4,t5,t7,t14,t15,AL t Q];exact Or.inr (by omega)
    .have E:A=Y:=Oy W;rw[b8 E];apply B8;apply yV;simp[t16];refine⟨t,_,_,ne 9 (by simp),?_⟩;simp[clean,t0,t3,t4,t5,t7,t14,t15,AL t Q]
  .have zs:i=Z l:=by omega
   subst zs;rw[s9]at K;rw[K];apply Co;refine⟨_,k6 8 (by simp),?_⟩;simp[At]
inductive Vx(st:Int->Int->Prop)(i:Int):Int->Prop
 |one {y:Int}:st i y->Vx st i y
 |more {x y:Int}:Vx st i x->x≠i->st x y->Vx st i y
theorem Vx.mono{st g:Int->Int->Prop}{i:Int}(h:∀a b,st a b->g a b):∀{y:Int},Vx st i y->Vx g i y:=by
 intro y j;induction j with
 |one h1=>exact .one (h _ _ h1)
 |more _ k m o=>exact .more o k (h _ _ m)
theorem U8{t:DT}(i:t.Good)(h:t≠.leaf am):∃c,t.B9 c=true:=by
 by_cases g:∃c,t.B9 c=J
 .exact g
 .refine absurd (DT.unique i (t:=.leaf am) trivial λc=>?_) h;have:¬t.B9 c=true:=λh=>g ⟨c,h⟩;simpa[B9]using this
def T1(st:List (Pr×DT))(c:Int->Bool)(a b:Int):Prop:=(DP st (a,b)).B9 c=J
theorem mc{st:List (Pr×DT)}{c:Int->Bool}{a b:Int}(h:T1 st c a b):(a,b)∈st.map (·.1):=by
 unfold T1 DP at h;cases g:look st (a,b)with
 |none=>rw[g]at h;simp[B9]at h
 |some t=>exact fd.2 ⟨_,Gu g,rfl⟩
structure mo(st:List (Pr×DT))(fr:Int)(d:DT)(l:List Int)(s s':List (Int×DT)×List Int):Prop where
 mono:∀y c,(DP s.1 y).B9 c=J->(DP s'.1 y).B9 c=J
 add:∀y∈l,∀c,d.B9 c=J->T1 st c fr y->(DP s'.1 y).B9 c=J
 sound:∀y c,(DP s'.1 y).B9 c=J->(DP s.1 y).B9 c=J\/d.B9 c=J/\T1 st c fr y
 EV:∀z∈s.2,z∈s'.2
 queue:∀z,DP s'.1 z≠DP s.1 z->z∈s'.2
abbrev pw:=@Bool.or_eq_true
theorem aJ{n:Nat}(hn:n<=12){st:List (Pr×DT)}(t:H5 n st){fr:Int}{d:DT}(u:FV n d){s:List (Int×DT)×List Int}(v:H5 n s.1)(m:Int):mo st fr d [m] s (FO st fr d s m):=by
 obtain⟨w,k,-⟩:=Eo GZ hn u (t.at (fr,m));obtain⟨o1,o,-⟩:=Eo JJ hn (v.at m) w;unfold FO;split
 .next q=>
  refine⟨λ_ _ h=>h,λy i c h1 j=>?_,λ_ _ h=>.inl h,λ_ h=>h,λz h=>absurd rfl h⟩;simp at i;subst i;rw[q];show(Qr or _ (Qr and _ _)).B9 c=J
  rw[o,k,h1,show(DP st (fr,y)).B9 c=J from j];simp
 .next q=>
  have Dj:∀y,DP (Cu s.1 m (cM (DP s.1 m) (Ij d (DP st (fr,m))))) y=if y=m then cM (DP s.1 m) (Ij d (DP st (fr,m)))else DP s.1 y:=λy=>JP _ _ _ _;have g:∀c,(cM (DP s.1 m) (Ij d (DP st (fr,m)))).B9 c=((DP s.1 m).B9 c||(d.B9 c&&(DP st (fr,m)).B9 c)):=λc=>by
   show(Qr or _ (Qr and _ _)).B9 c=_
   rw[o,k]
  refine⟨λy c h=>?_,λy i c h1 j=>?_,λy c h=>?_,λz h=>acn _ h,λz h=>?_⟩
  .simp[Dj];split
   .next e=>subst e;rw[g,h];rfl
   .exact h
  .simp at i;subst i;simp[Dj];rw[g,h1,show(DP st (fr,y)).B9 c=J from j];simp
  .simp[Dj]at h;split at h
   .next e=>
    subst e;rw[g]at h;simp at h;exact h
   .exact .inl h
  .simp only[Dj]at h;by_cases e:z=m
   .subst e;exact acX _ (by simp)
   .rw[a9 e]at h;exact absurd rfl h
theorem Lk{n:Nat}(hn:n<=12){st:List (Pr×DT)}(j:H5 n st){fr:Int}{d:DT}(k:FV n d){ks:List Int}:∀(l:List Int) {s:List (Int×DT)×List Int},(∀m∈l,m∈ks)->H5 n s.1->mo st fr d l s (visitM st fr d l s)
 |[],_,_,_=>⟨λ_ _ h=>h,λ_ h=>absurd h (by simp),λ_ _ h=>.inl h,λ_ h=>h,λ_ h=>absurd rfl h⟩
 |m::l,s,t,u=>by
  have e:visitM st fr d (m::l) s=visitM st fr d l (FO st fr d s m):=rfl;have h1:=aJ hn j (fr:=fr) k u m;have o:=(I6 hn j (fr:=fr) k (ks:=ks) [m] (s:=s) (λx i=>t x (by simp at i;simp[i])) u).1;have g:=Lk hn j (fr:=fr) k (ks:=ks) l (s:=FO st fr d s m) (λx i=>t x (by simp[i])) o;rw[e];refine⟨λy c h=>g.mono y c (h1.mono y c h),λy q c a b=>?_,λy c h=>?_,λz h=>g.EV z (h1.EV z h),λz h=>?_⟩
  .rcases ge.1 q with rfl|q
   .exact g.mono _ c (h1.add _ (by simp) c a b)
   .exact g.add y q c a b
  .rcases g.sound y c h with h|h
   .exact h1.sound y c h
   .exact .inr h
  .by_cases v:DP (FO st fr d s m).1 z=DP s.1 z
   .exact g.queue z (by rw[v];exact h)
   .exact g.EV z (h1.queue z v)
structure RI(st:List (Pr×DT))(fam:DT)(i:Int)(rch:List (Int×DT))(q:List Int):Prop where
 sound:∀y c,(DP rch y).B9 c=J->fam.B9 c=J/\Vx (T1 st c) i y
 first:∀y c,fam.B9 c=J->T1 st c i y->(DP rch y).B9 c=J
 closed:∀x,x≠i->x∉q->∀y c,(DP rch x).B9 c=J->T1 st c x y->(DP rch y).B9 c=J
theorem Ow(y:Int):DP ([]:List (Int×DT)) y=.leaf false:=rfl
abbrev abk:=@Classical.byContradiction
theorem RI.start{st:List (Pr×DT)}{fam:DT}{i:Int}{l:List Int}{g:List (Int×DT)×List Int}(k:∀y c,T1 st c i y->y∈l)(h:mo st i fam l ([],[]) g):RI st fam i g.1 g.2:=by
 refine⟨λy c m=>?_,λy c o j=>h.add y (k y c j) c o j,λx t q y c h1 _=>?_⟩
 .rcases h.sound y c m with h1|h1
  .simp only[Ow,B9]at h1;cases h1
  .exact⟨h1.1,.one h1.2⟩
 .have:DP g.1 x=DP [] x:=abk λs=>q (h.queue x s);rw[this,Ow]at h1;simp[B9]at h1
theorem RI.visit{st:List (Pr×DT)}{fam:DT}{i x:Int}{q l:List Int}{g:List (Int×DT)}{j:List (Int×DT)×List Int}(R:RI st fam i g (x::q))(s:x≠i)(t:∀y c,T1 st c x y->y∈l)
  (h:mo st x (DP g x) l (g,q) j):RI st fam i j.1 j.2:=by
 refine⟨λy c u=>?_,λy c v w=>h.mono y c (R.first y c v w),λz A o y c h1 k=>?_⟩
 .rcases h.sound y c u with h1|h1
  .exact R.sound y c h1
  .have:=R.sound x c h1.1;exact⟨this.1,.more this.2 s h1.2⟩
 .have m:z∉q:=λB=>o (h.EV z B);have C:DP j.1 z=DP g z:=abk λE=>o (h.queue z E);rw[C]at h1;by_cases e:z=x
  .subst e;exact h.add y (t y c k) c h1 k
  .exact h.mono y c (R.closed z A (by simp[e,m]) y c h1 k)
theorem RI.pass{st:List (Pr×DT)}{fam:DT}{i:Int}{q:List Int}{g:List (Int×DT)}(R:RI st fam i g (i::q)):RI st fam i g q:=
 ⟨R.sound,R.first,λz h j=>R.closed z h (by simp[h,j])⟩
theorem RI.done{st:List (Pr×DT)}{fam:DT}{i:Int}{g:List (Int×DT)}(R:RI st fam i g [])(y:Int)(c:Int->Bool):(DP g y).B9 c=J↔fam.B9 c=J/\Vx (T1 st c) i y:=by
 refine⟨R.sound y c,?_⟩;rintro⟨h,j⟩;induction j with
 |one h1=>exact R.first _ c h h1
 |more _ k m o=>exact R.closed _ k (by simp) _ c o m
def gv(st:List (Pr×DT))(fam:DT)(k:Int)(c:Int->Bool):Prop:=fam.B9 c=J/\Vx (T1 st c) k k
structure Oi(st:List (Pr×DT))(fam:DT)(i:Nat)(out:List (Int×DT)):Prop where
 sound:∀k c,(DP out k).B9 c=J->∃j:Nat,j<i/\k=j/\gv st fam k c
 full:∀j:Nat,j<i->∀c,gv st fam j c->(DP out j).B9 c=J
theorem Oi.nil{st:List (Pr×DT)}{fam:DT}:Oi st fam 0 []:=⟨λk c h=>(by simp only[Ow,B9]at h;cases h),λj h=>absurd h (by omega)⟩
theorem Oi.skip{st:List (Pr×DT)}{fam:DT}{i:Nat}{out:List (Int×DT)}(h:Oi st fam i out)(m:∀c y,¬T1 st c i y):Oi st fam (i+1) out:=by
 refine⟨λk c o=>?_,λj hj c g=>?_⟩
 .obtain⟨j,h1,q⟩:=h.sound k c o;exact⟨j,by omega,q⟩
 .by_cases e:j=i
  .subst e;have:∀y,Vx (T1 st c) (j:Int) y->False:=λy s=>by
    induction s with
    |one h1=>exact m c _ h1
    |more _ _ _ t=>exact t
   exact(this _ g.2).elim
  .exact h.full j (by omega) c g
theorem Oi.put{st:List (Pr×DT)}{fam:DT}{i:Nat}{out g:List (Int×DT)}(h:Oi st fam i out)(R:RI st fam i g []):Oi st fam (i+1) (Cu out i (DP g i)):=by
 refine⟨λk c m=>?_,λj hj c o=>?_⟩
 .rw[JP]at m;split at m
  .next e=>subst e;exact⟨i,by omega,rfl,(R.done _ c).1 m⟩
  .obtain⟨j,h1,q⟩:=h.sound k c m;exact⟨j,by omega,q⟩
 .rw[JP];split
  .next e=>exact(R.done _ c).2 (by rw[<-e];exact o)
  .next e=>
   have:j≠i:=λs=>e (by rw[s]);exact h.full j (by omega) c o
theorem Oi.found{n:Nat}{st:List (Pr×DT)}{fam:DT}{i:Nat}{out:List (Int×DT)}(h:Oi st fam i out)(u:Keyed out)(v:H5 n out):(∃q∈out,q.2≠.leaf am)↔∃j:Nat,j<i/\∃c,gv st fam j c:=by
 constructor
 .rintro⟨q,s,w⟩;obtain⟨c,o⟩:=U8 (v q s).G9 w;have m:DP out q.1=q.2:=by unfold DP;rw[u.look (k:=q.1) (x:=q.2) s];rfl
  obtain⟨j,h1,g,z⟩:=h.sound q.1 c (by rw[m];exact o);exact⟨j,h1,c,by rw[<-g];exact z⟩
 .rintro⟨j,h1,c,o⟩;have g:=h.full j h1 c o;unfold DP at g;cases m:look out (j:Int)with
  |none=>rw[m]at g;simp[B9]at g
  |some t=>exact⟨_,Gu m,λe=>by simp only at e;rw[m,e]at g;simp[B9]at g⟩
end Go.Koi
open Go.Koi.D renaming int->bi
namespace Go.Koi
open Go.Proofs Tryz DT
theorem qY(t:DT):Ij t (.leaf am)=.leaf false:=Pa (t:=.leaf am) trivial λc=>by simp[B9]
theorem db(m:List (Int×DT)):∀l:List Symbol,IA m (.leaf am) l=.leaf am
 |[]=>rfl
 |s::l=>by
  have:stepT m (.leaf am) s=.leaf false:=by simp[stepT]
  unfold IA at *;rw[acj,this];exact db m l
def Dq(l:List Symbol)(j:Nat):List Symbol:=l.take j++l.drop (j+1)
noncomputable def dX(m:List (Int×DT))(t:DT)(l:List Symbol)(j:Nat):DT:=if DL (Dq l j)then .leaf am else IA m t (Dq l j)
theorem tC{n:Nat}(hn:n<=12){m:List (Int×DT)}(g:H5 n m){t:DT}(h:FV n t)(l:List Symbol)(j:Nat):FV n (dX m t l j):=by
 unfold dX;split
 .exact FV.leaf n am
 .exact Kr hn g _ h
def XY(g:AD):Prop:=∀p∈g.AE,p.right≠[]/\∀s,p.right=[s]->s.token=J
theorem iR{α β:Type}[DecidableEq α](l:List (α×β))(k:α)(x:β):Z (Cu l k x)<=Z l+1:=by
 unfold Cu;split<;>simp
theorem H5.xg{α:Type}[DecidableEq α]{n:Nat}{m:List (α×DT)}(h:H5 n m)(k:α){t:DT}(i:FV n t):H5 n (Cu m k t):=by
 intro p g;unfold Cu at g;split at g
 .obtain⟨q,j,rfl⟩:=fd.1 g;split
  .exact i
  .exact h q j
 .rcases gc.1 g with g|g
  .exact h p g
  .simp only[eN]at g;subst g;exact i
def e8(l:List AM)(i:Nat):Nat:=((l.take i).map (·.right.length)).sum
theorem aE{l:List AM}{i:Nat}(hi:i<Z l):e8 l (i+1)=e8 l i+Z l[i].right:=by
 unfold e8;rw[vj hi,xv,List.sum_append];rfl
def Jw(g:AD)(o:List DT)(m:List (Int×DT))(i j:Nat)(c:Int->Bool)(a b:Int):Prop:=
 ∃h k,(h<i\/h=i/\k<j)/\∃(h1:h<Z g.AE) (q:k<Z g.AE[h].right),g.AE[h].left=a/\g.AE[h].right[k].token=am/\g.AE[h].right[k].index=b/\(dX m (o.getD h (.leaf am)) g.AE[h].right k).B9 c=J
theorem Jw.succ{g:AD}{s:List DT}{m:List (Int×DT)}{i j:Nat}{c:Int->Bool}{a b:Int}(h1:i<Z g.AE){p:AM}(t:g.AE[i]=p)(u:j<Z p.right):
  Jw g s m i (j+1) c a b↔Jw g s m i j c a b\/p.left=a/\p.right[j].token=am/\p.right[j].index=b/\(dX m (s.getD i (.leaf am)) p.right j).B9 c=true:=by
 subst t;constructor
 .rintro⟨o,q,h,k1,k2,k3⟩;by_cases e:o=i/\q=j
  .obtain⟨rfl,rfl⟩:=e;exact .inr k3
  .exact .inl ⟨o,q,by omega,k1,k2,k3⟩
 .rintro(⟨o,q,h,k⟩|h)
  .exact⟨o,q,by omega,k⟩
  .exact⟨i,j,by omega,h1,u,h⟩
theorem Jw.row{g:AD}{q:List DT}{m:List (Int×DT)}{i:Nat}{c:Int->Bool}{a b:Int}(h1:i<Z g.AE):Jw g q m (i+1) 0 c a b↔Jw g q m i (Z g.AE[i].right) c a b:=by
 constructor
 .rintro⟨j,o,h,k1,k2,k3⟩;refine⟨j,o,?_,k1,k2,k3⟩;by_cases e:j=i
  .subst e;exact .inr ⟨rfl,k2⟩
  .exact .inl (by omega)
 .rintro⟨j,o,h,k⟩;exact⟨j,o,by omega,k⟩
structure Wr(n:Nat)(g:AD)(ps:List DT)(m:List (Int×DT))(i j:Nat)(st:List (Pr×DT)):Prop where
 ok:H5 n st
 len:Z st<=e8 g.AE i+j
 B9:∀c a b,T1 st c a b↔Jw g ps m i j c a b
theorem Wr.nil{n:Nat}{g:AD}{i:List DT}{m:List (Int×DT)}:Wr n g i m 0 0 []:=
 ⟨λ_ h=>absurd h (by simp),ed _,λc a b=>⟨λh=>(by simp[T1,DP,DT.B9]at h),λ⟨_,_,h,_⟩=>(by omega)⟩⟩
theorem Wr.row{n:Nat}{g:AD}{j:List DT}{m:List (Int×DT)}{i:Nat}{st:List (Pr×DT)}{p:AM}(h1:i<Z g.AE)(k:g.AE[i]=p)(h:Wr n g j m i (Z p.right) st):Wr n g j m (i+1) 0 st:=by
 subst k;exact⟨h.ok,by have:=h.len;rw[aE h1];omega,λc a b=>(h.B9 c a b).trans (Jw.row h1).symm⟩
theorem Wr.skip{n:Nat}{g:AD}{q:List DT}{m:List (Int×DT)}{i j:Nat}{st:List (Pr×DT)}{p:AM}(h:Wr n g q m i j st)(h1:i<Z g.AE)(s:g.AE[i]=p)(t:j<Z p.right)
  (o:p.right[j].token=J\/dX m (q.getD i (.leaf am)) p.right j=.leaf am):Wr n g q m i (j+1) st:=by
 refine⟨h.ok,by have:=h.len;omega,λc a b=>?_⟩;rw[h.B9,Jw.succ h1 s t];refine⟨.inl,λu=>u.resolve_right λk=>?_⟩;rcases o with o|o
 .rw[o]at k;exact absurd k.2.1 (by simp)
 .rw[o]at k;exact absurd k.2.2.2 (by simp[DT.B9])
theorem Wr.put{n:Nat}(hn:n<=12){g:AD}{o:List DT}{m:List (Int×DT)}{i j:Nat}{st:List (Pr×DT)}{p:AM}{y:Symbol}{X:DT}(h:Wr n g o m i j st)(h1:i<Z g.AE)(s:g.AE[i]=p)(t:j<Z p.right)
  (u:p.right[j]=y) (v:y.token=am) (w:dX m (o.getD i (.leaf am)) p.right j=X) (q:FV n X):Wr n g o m i (j+1) (Cu st (p.left,y.index) (Qr or (DP st (p.left,y.index)) X)):=by
 obtain⟨o1,z,-⟩:=Eo JJ hn (h.ok.at (p.left,y.index)) q;refine⟨h.ok.xg _ o1,by have:=h.len;have:=iR st (p.left,y.index) (Qr or (DP st (p.left,y.index)) X);omega,λc a b=>?_⟩;rw[Jw.succ h1 s t,<-h.B9,u,w];unfold T1;rw[JP];split
 .next e=>
  simp only[acY]at e;obtain⟨rfl,rfl⟩:=e;rw[z];simp[v]
 .next e=>
  refine⟨.inl,λA=>A.resolve_right λk=>e ?_⟩;rw[k.1,k.2.2.1]
def Fits(g:AD):Prop:=(g.AE.map (·.right.length)).sum<=2 ^ 16
theorem UY{g:AD}(h:Fits g){p:AM}(i:p∈g.AE):Z p.right<=65536:=by
 have key:∀l:List AM,p∈l->Z p.right<=(l.map (·.right.length)).sum:=by
  intro l;induction l with
  |nil=>intro h;simp at h
  |cons q l j=>
   intro h;simp only[ii,adh];rcases ge.1 h with rfl|h
   .omega
   .have:=j h;omega
 exact oq (key _ i) h
def R3(g:AD)(h:List DT)(m:List (Int×DT))(st:List (Pr×DT)):Sg:=[Gy g h,mI m,m2 st,.row J 1 [.map 2]]
abbrev NX:=List (Int×(List Int×Nat))
def cB(v:List Int×Nat):V:=.row (v.2+6) (Z v.1)
def iU(g:NX):List (D×V):=BT (bi .i64) cB g
structure Ss(st:List (Pr×DT))(vis:List Nat)(nx:NX)(R:Sg):Prop where
 rows:∀p∈nx,R[p.2.2]?=some (.row J 1 (p.2.1.map λx=>.d (.int .i64 x)))
 keyed:Keyed nx
 pos:(nx.map (·.2.2)).Nodup
 ks:∀p∈nx,∀x∈p.2.1,(p.1,x)∈st.map (·.1)
 len:∀p∈nx,Z p.2.1<=Z vis
 nd:vis.Nodup
 lt:∀i∈vis,i<Z st
 all:∀k∈vis,∀h:k<Z st,∃v,look nx st[k].1.1=some v/\st[k].1.2∈v.1
theorem Ss.new{st:List (Pr×DT)}{vis:List Nat}{q:NX}{R:Sg}(h:Ss st vis q R){i:Nat}(hi:i<Z st)(t:i∉vis){a x:Int}{Y:O}(B:st[i].1=(a,x))(C:look q a=none):
  Ss st (vis++[i]) (Cu q a ([x],Z R+1)) (R++[Y,.row J 1 [.d (.int .i64 x)]]):=by
 have w:(a,x)∈st.map (·.1):=fd.2 ⟨st[i],cF hi,B⟩;have E:∀k∈vis++[i],∀j:k<Z st,∃v,look (Cu q a ([x],Z R+1)) st[k].1.1=some v/\st[k].1.2∈v.1:=λk j G=>by
  rw[Fj];rcases gc.1 j with j|j
  .obtain⟨v,z,H⟩:=h.all k j G;rw[a9 (λe=>by rw[e,C]at z;cases z)];exact⟨v,z,H⟩
  .simp only[eN]at j;subst j;rw[B,b8 rfl];exact⟨_,rfl,by simp⟩
 have m:=h.keyed.Cu a ([x],Z R+1);rw[L5 _ C]at m E⊢;have o:∀p∈q,p.2.2<Z R:=λp g=>Ai (h.rows p g);refine⟨λp g=>?_,m,?_,λp g=>?_,λp g=>?_,?_,λk j=>?_,E⟩
 .rcases gc.1 g with g|g
  .rw[i5 (o p g)];exact h.rows p g
  .simp only[eN]at g;subst g;simp
 .rw[xv,L2];refine⟨h.pos,by simp,λu A v t e=>?_⟩;obtain⟨p,g,rfl⟩:=fd.1 A;simp only[ii,aco,eN]at t;have:=o p g;omega
 .rcases gc.1 g with g|g
  .exact h.ks p g
  .simp only[eN]at g;subst g;intro y F;simp only[eN]at F;subst F;exact w
 .rcases gc.1 g with g|g
  .have:=h.len p g;simp;omega
  .simp only[eN]at g;subst g;simp
 .rw[L2];exact⟨h.nd,by simp,λu A v s e=>by simp only[eN]at s;subst e;subst s;exact t A⟩
 .rcases gc.1 j with j|j
  .exact h.lt k j
  .simp only[eN]at j;subst j;exact hi
theorem Ss.more{st:List (Pr×DT)}{vis:List Nat}{o:NX}{R:Sg}(h:Ss st vis o R){i:Nat}(hi:i<Z st)(E:i∉vis){a x:Int}{Y:O}(Q:st[i].1=(a,x)){l:List Int}{j:Nat}(F:look o a=some (l,j)):
  Ss st (vis++[i]) (Cu o a (l++[x],j)) ((R++[Y]).set j (.row J 1 ((l++[x]).map λx=>.d (.int .i64 x)))):=by
 have g:=Gu F;have H:=Ai (h.rows _ g);have K:(a,x)∈st.map (·.1):=fd.2 ⟨st[i],cF hi,Q⟩;have S:∀k∈vis++[i],∀m:k<Z st,∃v,look (Cu o a (l++[x],j)) st[k].1.1=some v/\st[k].1.2∈v.1:=λk m W=>by
  rw[Fj];rcases gc.1 m with m|m
  .obtain⟨v,L,T⟩:=h.all k m W;split
   .next e=>
    rw[e,F]at L;cases L;exact⟨_,rfl,acn _ T⟩
   .exact⟨v,L,T⟩
  .simp only[eN]at m;subst m;rw[Q,b8 rfl];exact⟨_,rfl,acX _ (by simp)⟩
 have t:=h.keyed.Cu a (l++[x],j);have M:Cu o a (l++[x],j)=o.map λp=>if p.1=a then(p.1,(l++[x],j))else p:=by simp[Koi.Cu,F]
 have A:∀p∈o,p.1=a->p=(a,(l,j)):=λp s e=>by
  have:look o a=some p.2:=h.keyed.look (by rw[<-e];exact s);rw[F]at this;obtain⟨p1,p2⟩:=p;simp only[i9]at this e⊢;rw[e,<-this]
 have B:∀p∈o,p.1≠a->p.2.2≠j:=λp s N e=>by
  obtain⟨u,G,U⟩:=oi.1 s;obtain⟨v,E,ev⟩:=oi.1 g;have:(o.map (·.2.2))[u]'(by simpa using G)=(o.map (·.2.2))[v]'(by simpa using E):=by simp[U,ev,e]
  have:=Ku h.pos (by simpa using G) (by simpa using E) this;subst this;rw[U]at ev;exact N (by rw[ev])
 rw[M]at t S⊢;refine⟨λp s=>?_,t,?_,λp s=>?_,λp s=>?_,?_,λk m=>?_,S⟩
 .obtain⟨q,w,rfl⟩:=fd.1 s;split
  .have P:j<Z (R++[Y]):=by simp only[i6,gr,rc];simp only at H;omega
   simp only[abf P]
  .next N=>
   have h1:=B q w N;rw[sn (ru h1),i5 (Ai (h.rows q w))];exact h.rows q w
 .have:(o.map λp=>if p.1=a then(p.1,(l++[x],j))else p).map (·.2.2)=o.map (·.2.2):=by
   rw[md];apply y4;intro p s;simp only[Function.comp];split
   .next e=>rw[A p s e]
   .rfl
  rw[this];exact h.pos
 .obtain⟨q,w,rfl⟩:=fd.1 s;split
  .next e=>
   intro y z;rw[e];rcases gc.1 z with z|z
   .exact h.ks _ g y z
   .simp only[eN]at z;subst z;exact K
  .exact h.ks q w
 .obtain⟨q,w,rfl⟩:=fd.1 s;split
  .have:=h.len _ g;simp at this⊢;omega
  .have:=h.len q w;simp;omega
 .rw[L2];exact⟨h.nd,by simp,λu G v C e=>by simp only[eN]at C;subst e;subst C;exact E G⟩
 .rcases gc.1 m with m|m
  .exact h.lt k m
  .simp only[eN]at m;subst m;exact hi
theorem n9{P:Program}{n b:Nat}{tm:Tm}{st:List (Pr×DT)}{vis:List Nat}{g:NX}{R:Sg}(h:Ss st vis g R){o0 o1 o2 o3 o5:O}(hb:b<=6)(h0:Ao 6 o0=J)(h1:Ao 6 o1=J)
  (z:Ao 6 o2=J) (A:Ao 6 o3=J) (B:Ao 6 o5=J):
  AJ P n b tm ([o0,o1,o2,o3,.map (iU g),o5]++R) (clean 6 tm) [o0,o1,o2,o3,.map (BT (bi .i64) vI (g.map λp=>(p.1,p.2.1))),o5]:=by
 have C:∀j,([o0,o1,o2,o3,.map (iU g),o5]++R)[j+6]?=R[j]?:=λj=>by simp
 have k:∀i,i<6->i∉(g.map λp=>(p.2.2+6,p.2.1.map (bi .i64))).map (·.1):=λi hi o=>by
  rw[md]at o;obtain⟨p,_,e⟩:=fd.1 o;simp only[Function.comp]at e;omega
 obtain⟨s,E,F,G,t⟩:=AJ.Xq (P:=P) (n:=n) (b:=b) (tm:=tm) (g.map λp=>(p.2.2+6,p.2.1.map (bi .i64))) (S:=[o0,o1,o2,o3,.map (iU g),o5]++R) (by
  have e:(g.map λp=>(p.2.2+6,p.2.1.map (bi .i64))).map (·.1)=(g.map (·.2.2)).map (·+6):=by
   rw[md,md];rfl
  rw[e];exact ac1.2 (List.Pairwise.imp (λ{a b} u e=>u (by simpa using e)) h.pos)) (by
  intro p H;obtain⟨q,K,rfl⟩:=fd.1 H;refine⟨J,1,?_⟩;simp only;rw[C,h.rows q K,md];rfl)
 have v:s[4]?=some (.map (iU g)):=by rw[t 4 (k 4 (by decide))];rfl
 have m:6<=Z s:=by rw[F];simp
 refine E.trans ((AJ.ud 4 (es':=BT (bi .i64) vI (g.map λp=>(p.1,p.2.1))) v (by simp[BT,iU]) λi hi M=>?_).trans (ea 6 ?_ hb (by simpa using m) ?_))
 .have L:i<Z g:=by simpa[BT,iU]using hi
  simp only[BT,iU,rg];refine⟨trivial,.inr (.inr ⟨.sl (g[i].2.1.map (bi .i64)),?_,rfl⟩)⟩;have w:=G (g[i].2.2+6,g[i].2.1.map (bi .i64)) (fd.2 ⟨g[i],cF L,rfl⟩);simp only at w;simp[cB,BC,CZ,w]
 .apply acr;intro i;rw[ab1];split
  .next hi=>
   by_cases e:i=4
   .subst e;rw[abf (by omega)];rfl
   .rw[sn (ru e),t i (k i hi),i5 (by simpa using hi)];match i,hi,e with
    |0,_,_=>rfl
    |1,_,_=>rfl
    |2,_,_=>rfl
    |3,_,_=>rfl
    |5,_,_=>rfl
  .next hi=>exact(ut (by simp;omega)).symm
 .have e:(s.set 4 (.map (BT (bi .i64) vI (g.map λp=>(p.1,p.2.1))))).take 6=[o0,o1,o2,o3,.map (BT (bi .i64) vI (g.map λp=>(p.1,p.2.1))),o5]:=by
   apply acr;intro i;rw[ab1];split
   .next hi=>
    by_cases e:i=4
    .subst e;rw[abf (by omega)];rfl
    .rw[sn (ru e),t i (k i hi),i5 (by simpa using hi)];match i,hi,e with
     |0,_,_=>rfl
     |1,_,_=>rfl
     |2,_,_=>rfl
     |3,_,_=>rfl
     |5,_,_=>rfl
   .next hi=>exact(ut (by simp;omega)).symm
  rw[e];have o:Ao 6 (.map (BT (bi .i64) vI (g.map λp=>(p.1,p.2.1))))=true:=jz _;simp only[List.all_cons,h0,h1,z,A,B,o,List.all_nil,ad0]
def Ya(g:AD)(h:List DT)(m:List (Int×DT))(st:List (Pr×DT))(nl:List (Int×List Int))(out:List (Int×DT)):Sg:=
 [Gy g h,mI m,m2 st,.row J 1 [.map 2],.map (BT (bi .i64) vI nl),.row J 1 [.map 4],mI out]
theorem Js(st:List (Pr×DT))(fr:Int)(d:DT):∀(l:List Int) {s:List (Int×DT)×List Int},(∀x∈s.2,(look s.1 x).isSome=J)->∀x∈(visitM st fr d l s).2,(look (visitM st fr d l s).1 x).isSome=J
 |[],_,h=>h
 |m::l,s,h=>by
  have e:visitM st fr d (m::l) s=visitM st fr d l (FO st fr d s m):=rfl;rw[e];refine Js st fr d l λx g=>?_;unfold FO at g⊢;split
  .next i=>rw[b8 i]at g;exact h x g
  .next i=>
   rw[a9 i]at g;simp only[Fj];split
   .rfl
   .next j=>
    rcases gc.1 g with g|g
    .exact h x g
    .simp only[eN]at g;exact absurd g j
def iX(n:Nat)(ks:List Int)(g:AD)(o:List DT)(m:List (Int×DT))(st:List (Pr×DT))(nl:List (Int×List Int))(out:List (Int×DT))(i:Int)(k:Nat)(S:Sg):Prop:=
 ∃h q j,RI st (tr g.fam) i h q/\H5 n h/\(q≠[]->j=J)/\(∀x∈q,(look h x).isSome=J)/\Z q+mu n ks h<=2 ^ 29/\Z q+2 * mu n ks h<k/\S=Ya g o m st nl out++[mI h,.row J 1 [.map 7],.row j 1 (q.map λx=>.d (.int .i64 x)),.row J 1 [.row 9 (Z q)]]
theorem VH:∀n:Nat,Z (Se n)=2 ^ n
 |0=>rfl
 |n+1=>by simp[Se,VH n];omega
theorem gO{α:Type}[DecidableEq α](n:Nat)(m:List (α×DT)):∀ks:List α,mu n ks m<=Z ks * 2 ^ n
 |[]=>by simp[mu]
 |k::ks=>by
  have h1:=gO n m ks;have g:outs n (DP m k)<=2 ^ n:=by unfold outs;rw[<-VH n];exact List.countP_le_length
  unfold mu at *;simp only[ii,adh,gr,sw,Nat.one_mul];omega
theorem bR{α β γ:Type}[DecidableEq α](f:β->γ)(l:List (α×β))(k:α):look (l.map λp=>(p.1,f p.2)) k=(look l k).map f:=by
 induction l with
 |nil=>rfl
 |cons p l g=>
  rw[ii,Cl,Cl,g];split<;>rfl
def gp(n:Nat)(g:AD)(h:List DT):Prop:=∃j:Nat,j<Z g.Ay/\∃c,(tr g.fam).B9 c=J/\Vx (Jw g h (sI n J g h) (Z g.AE) 0 c) j j
theorem mj{n:Nat}{g:AD}{h:List DT}{st:List (Pr×DT)}(i:Wr n g h (sI n J g h) (Z g.AE) 0 st):(∃j:Nat,j<Z g.Ay/\∃c,gv st (tr g.fam) j c)↔gp n g h:=by
 have h1:∀c (j y:Int),Vx (T1 st c) j y↔Vx (Jw g h (sI n J g h) (Z g.AE) 0 c) j y:=λc j y=>
  ⟨Vx.mono λa b=>(i.B9 c a b).1,Vx.mono λa b=>(i.B9 c a b).2⟩
 unfold gp gv;simp only[h1]
abbrev va:=@List.map_drop
abbrev ll:=@List.getD_eq_getElem?_getD
abbrev ad1:=@List.any_cons
theorem bQ{n:Nat}(hn:n<=12)(g:AD)(E:List DT)(hlen:Z E=Z g.AE)(hps:∀t∈E,FV n t)(hfam:FV n (tr g.fam))(zF:Valid g.fam)(hfits:Fits g):
  BL prog 66 [.ptr 0 1 0 0] [Gy g E] λv S'=>∃out,H5 n out/\((∃q∈out,q.2≠.leaf am)↔gp n g E)/\v=.map 1/\S'=[Gy g E,mI out]:=by
 obtain⟨m,hm,hme,hder⟩:=SJ hn g E hlen hps J;refine Ks func66 (by kernel_rfl) rfl (by simp) λwf wfs=>?_;simp[Gy,Ln,vz,HC,K0,D0,Da,Bq]at wfs;obtain⟨_,_,_,_,_,⟨a4,_⟩,⟨a1,a2⟩,_,_,_,_⟩:=wfs;have a3:∀p∈g.AE,Z p.right<=ao:=λp hp=>by
  rw[Dh]at a2;have:=a2 p hp;simp[AG,Da,Bq]at this;exact this.2.2.1.1
 rw[ntmps66];unfold Gy;refine xW λK o=>?_;simp;apply o;refine Gb λK o=>?_;refine xJ ?_;simp;refine xF (hder) [0] rfl ?_;simp[Gy];refine xJ ?_;simp;refine CO (o _ _ ?_);refine xW λK o=>?_;simp;apply o;refine xS (xW λK o=>?_);simp[D0];apply o;refine Bp ?_;refine FH (Z g.AE) (λi tm S=>tm 0=.ptr 0 1 0 0/\tm 3=.map 1/\tm 4=.ptr 3 1 0 0/\tm 29=.d (Cd g.AE)/\tm 30=.d (AF (Z g.AE))/\tm 31=.d (AF i)/\∃st,Wr n g E m i 0 st/\S=R3 g E m st) (i0:=0) (ed _) (by simp[R3,Gy,mI,m2,D0];exact⟨[],Wr.nil,rfl⟩) ?_;rintro i tm S hi ⟨t0,t3,t4,t29,t30,t31,st,zb,rfl⟩;unfold R3 Gy mI m2;refine xW λK o=>?_;simp[t30,t31];apply o;refine xC ?_;simp;refine⟨λy7=>?_,λzf=>?_⟩
 .have U:i<Z E:=by omega
  have hp3:=a3 g.AE[i] (cF y7);have hm1:Z g.AE[i].right<=65536:=UY hfits (cF y7);generalize hp:g.AE[i]=p at *;refine xK ?_;refine xB ?_;refine xW λK o=>?_;simp[t29,t31,y7,hp];apply o;refine xW λK o=>?_;simp;apply o;refine Bp ?_;refine FH (Z p.right) (λj w S=>w 0=.ptr 0 1 0 0/\w 3=.map 1/\w 4=.ptr 3 1 0 0/\w 29=.d (Cd g.AE)/\w 30=.d (AF (Z g.AE))/\w 31=.d (AF i)/\w 5=.d (AF i)/\w 6=.ptr 4 1 0 0/\w 37=.d (As p.right)/\w 38=.d (AF (Z p.right))/\w 39=.d (AF j)/\∃st,Wr n g E m i j st/\S=R3 g E m st++[.row J 13 [.d (AG p)]]) (i0:=0) (ed _) (by simp[R3,Gy,AG,t0,t3,t4,t29,t30,t31];exact⟨st,zb,rfl⟩) ?_;rintro j w S hj ⟨s0,s3,s4,s29,s30,s31,s5,s6,s37,s38,s39,st,zb,rfl⟩;unfold R3 Gy mI m2;refine xW λK o=>?_;simp[s38,s39];apply o;refine xC ?_;simp;refine⟨λzq=>?_,λhge2=>?_⟩
  .refine xK ?_;refine xB ?_;refine xW λK o=>?_;simp[s37,s39,zq];apply o;refine xS (xW λK o=>?_);simp;apply o;refine AQ ?_;simp;refine⟨λhtok=>?_,λhtok=>?_⟩
   .refine Co ?_;refine xV λK o=>?_;simp[s39];apply o;refine⟨zq,_,_,ne 5 (by simp),?_⟩;simp[clean,s0,s3,s4,s29,s30,s31,s5,s6,s37,s38,AL zq hp3];exact⟨st,zb.skip y7 hp zq (.inl htok),rfl⟩
   .refine xK ?_;refine xD (A3 5 [12,14,16,18,20,11,23,24]) (by kernel_rfl) λK o=>?_;simp;have hw:=AL zq hp3;have hle:(j:Int)+1<=Z p.right:=by omega
    have F:j+1=Z p.right\/Z (BE ((Option.map AI p.right[j+1]?).getD (D.bool am)))=2/\CR.oneD ((Option.map AI p.right[j+1]?).getD (D.bool am))=true:=by
     by_cases e:j+1=Z p.right
     .exact .inl e
     .right;rw[dl (show j+1<Z p.right by omega)];simp
    have hS0:Ac 2 (q6 (V.d ∘ AI) p.right):=by simp
    have hS1:Ac 2 (List.take j (q6 (V.d ∘ AI) p.right)):=λy hy=>hS0 y (abr hy);have hS2:Ac 2 (List.drop (j+1) (q6 (V.d ∘ AI) p.right)):=λy hy=>hS0 y (ab7 hy);have hj30:j<=1073741824:=by omega
    have hj31:j+(Z p.right - (j+1))<=1073741824:=by omega
    have zp:List.take (Z p.right) (q6 AI p.right)=q6 AI p.right:=vq (by simp);have W:List.take (Z p.right) (q6 (V.d ∘ AI) p.right)=q6 (V.d ∘ AI) p.right:=vq (by simp);have hlr:Z (Dq p.right j)=j+(Z p.right - (j+1)):=by simp[Dq];omega
    have h0j:(0:Int)<=(j:Int)+1:=by omega
    (repeat(refine xG ?_ ?_;(·simp[s6,AG,hj,hle,h0j]);simp[s6,AG,hw]));(repeat((refine xG ?_ ?_);(focus(simp[hle,h0j,F];done));simp[zp]));((refine xp [am,am,am,am,am,J,am,am,am,J] (by kernel_rfl) ?_ ?_);(focus(simp[Aa,s6,hj,hw,hle,h0j,F,zp,hj30,hS1];done));simp[hj]);refine xX 1 (by kernel_rfl) ?_;simp[Aa,s6,hj,hw,hle,h0j,F,zp,hj31,hS1,hS2];refine xA 1 ?_;simp;refine xM (o _ _ ?_);refine io (fc 6 (xs:=(Dq p.right j).map AI) (by simp;exact⟨rfl,rfl,rfl⟩) ?_) ?_
    .have e:(List.take j (q6 (V.d ∘ AI) p.right)++List.drop (j+1) (q6 (V.d ∘ AI) p.right))=(Dq p.right j).map λx=>V.d (AI x):=by
      simp[Dq,lm]
     rw[e,Ck]
    simp;refine io (AJ.te 9 (d:=As (Dq p.right j)) ?_) ?_
    .simp[hlr]
    have hD:=Kr hn hm (Dq p.right j) (hps _ (cF U));(repeat refine xS ?_);refine H9 λK o=>?_;refine xJ ?_;simp[s0,s5,D0,U];refine AY.Ei (fV hn m hm E[i] (hps _ (cF U)) (Dq p.right j)) [1] rfl (by simp[mI,s3];try rfl) ?_;simp[mI,s3];(repeat((refine Cg ?_ ?_);(focus(simp;done));simp));refine CO (o _ _ ?_);(try simp only[C8]);refine xS (xW λK o=>?_);simp;apply o;refine Bp ?_;have hr65:Z (Dq p.right j)<=ao:=by rw[hlr];simp only[ao]at hp3⊢;omega
    have hdo:dX m E[i] p.right j=if DL (Dq p.right j)then .leaf am else IA m E[i] (Dq p.right j):=rfl;have hdok:=tC hn hm (hps _ (cF U)) p.right j;have hgd:dX m (E.getD i (.leaf am)) p.right j=dX m E[i] p.right j:=by rw[ll,dl U];rfl
    generalize hX:dX m E[i] p.right j=X at *;generalize hy:p.right[j]=y at *;generalize hR:Dq p.right j=R at *;generalize hA:IA m E[i] R=A at *;refine FH (Z R) (λk w S=>w 0=.ptr 0 1 0 0/\w 3=.map 1/\w 4=.ptr 3 1 0 0/\w 29=.d (Cd g.AE)/\w 30=.d (AF (Z g.AE))/\w 31=.d (AF i)/\w 5=.d (AF i)/\w 6=.ptr 4 1 0 0/\w 37=.d (As p.right)/\w 38=.d (AF (Z p.right))/\w 39=.d (AF j)/\w 8=.ptr 5 1 0 0/\w 10=.ptr 7 1 0 0/\w 68=.d (As R)/\w 69=.d (AF (Z R))/\w 70=.d (AF k)/\S=R3 g E m st++[.row J 13 [.d (AG p)],.row J 2 [.d (AI y)],.BQ (R.map AI),.row J 2 [.d (AB (Ch (if DL (R.take k)then .leaf am else A)))]]) (i0:=0) (ed _) (by simp[R3,Gy,mI,m2,AG,AI,D0,DL,s0,s3,s4,s29,s30,s31,s5,s6,s37,s38,s39]) ?_;rintro k tm2 S hk ⟨r0,r3,r4,r29,r30,r31,r5,r6,r37,r38,r39,r8,r10,r68,r69,r70,rfl⟩;unfold R3 Gy mI m2;refine xW λK o=>?_;simp[r69,r70];apply o;refine xC ?_;simp;refine⟨λM=>?_,λhge3=>?_⟩
    .have hany:DL (R.take (k+1))=(DL (R.take k)||R[k].token):=by
      unfold DL;rw[vj M,List.any_append];simp only[ad1,List.any_nil,ade]
     rw[hany];refine xK ?_;refine xB ?_;refine xW λK o=>?_;simp[r68,r70,M];apply o;refine xW λK o=>?_;simp;apply o;refine AQ ?_;simp;refine⟨λht=>?_,λht=>?_⟩
     .refine H9 λK o=>?_;refine xJ ?_;simp;refine Bz (II am) rfl (by simp[xN]) ?_;simp;refine xJ ?_;simp[r10];refine CO (o _ _ ?_);refine xV λK o=>?_;simp[r70];apply o;refine⟨M,_,_,ne 8 (by simp),?_⟩;simp[clean,r0,r3,r4,r29,r30,r31,r5,r6,r37,r38,r39,r8,r10,r68,r69,AL M hr65,ht,Iq,AB]
     .refine B8 ?_;refine xV λK o=>?_;simp[r70];apply o;refine⟨M,_,_,ne 8 (by simp),?_⟩;simp[clean,r0,r3,r4,r29,r30,r31,r5,r6,r37,r38,r39,r8,r10,r68,r69,AL M hr65,ht]
    .have zA:k=Z R:=by omega
     subst zA;rw[s9,<-hdo];refine Co ?_;refine xW λK o=>?_;simp[r10];apply o;refine AQ ?_;simp;refine⟨λhroot=>?_,λhroot=>?_⟩
     .obtain⟨o1,o2,o3⟩:=Eo JJ hn (zb.ok.at (p.left,y.index)) hdok;have Dj:=rn st p.left y.index;have hXf:X≠.leaf false:=λe=>hroot ((J5 hdok.G9).2 e);generalize hB:DP st (p.left,y.index)=B at *;generalize hC:Qr or B X=C at *;refine xW λK o=>?_;simp[r6,r8];apply o;refine xE (A3 10 [21]) (by kernel_rfl) λK o=>?_;simp;refine xA 2 ?_;simp[r4];refine Ad.S9 (Dj) [2] rfl (by simp[m2];try rfl) ?_;simp;refine xA 2 ?_;simp[r10];refine Bs (Xy (Ch B) (Ch X)) rfl (by simp[xN]) ?_;simp[o3];refine xA 2 ?_;simp;refine Bs (HR (Ch C)) rfl (by simp[xN]) ?_;simp;refine xX 1023 (by kernel_rfl) ?_;simp;refine xM (o _ _ ?_);refine xV λK o=>?_;simp[r39];apply o;refine⟨zq,_,_,ne 5 (by simp),?_⟩;simp[clean,r0,r3,r4,r29,r30,r31,r5,r6,r37,r38,AL zq hp3];exact⟨Cu st (p.left,y.index) C,by rw[<-hC,<-hB];exact zb.put hn y7 hp zq hy (by simpa using htok) hgd hdok,rfl⟩
     .refine B8 ?_;refine xV λK o=>?_;simp[r39];apply o;refine⟨zq,_,_,ne 5 (by simp),?_⟩;simp[clean,r0,r3,r4,r29,r30,r31,r5,r6,r37,r38,AL zq hp3];exact⟨st,zb.skip y7 hp zq (.inr (hgd.trans ((J5 hdok.G9).1 (by simpa using hroot)))),rfl⟩
  .have hjl:j=Z p.right:=by omega
   subst hjl;refine Co ?_;refine xV λK o=>?_;simp[s31];apply o;refine⟨y7,_,_,ne 4 (by simp),?_⟩;simp[clean,s0,s3,s4,s29,s30,AL y7 a1];exact⟨st,zb.row y7 hp,rfl⟩
 .have zs:i=Z g.AE:=by omega
  subst zs;have hst2:Z st<=65536:=oq zb.len (by unfold e8;rw[s9];exact hfits);refine Co ?_;(repeat refine xS ?_);refine xV λK o=>?_;simp;refine o _ _ ?_;(try simp only[xQ,reduceIte]);have hSt:Ss st [] [] []:=⟨by simp,by simp[Keyed],by simp,by simp,by simp,by simp,by simp,by simp⟩;refine xS ?_;refine AW.SD 2 100 ?_ ⟨rfl,rfl,rfl,?_⟩ ⟨rfl,rfl,rfl,?_⟩ λK o=>?_
  .decide
  .simp
  .simp
  refine GW.op ?_ ?_
  .simp[t4]
  simp[t4];refine GW.range (es:=BT Iw vT st) rfl ?_ λit=>?_
  .simp
  refine o (BT Iw vT st) (λit vis tm S=>tm 0=.ptr 0 1 0 0/\tm 4=.ptr 3 1 0 0/\tm 14=.ptr 5 1 0 0/\tm 100=.d (.raw (.pointer (some ⟨it,0,none⟩)))/\∃T R,Ss st vis T R/\S=R3 g E m st++[.map (iU T),.row J 1 [.map 4]]++R) it _ _ ?_ ⟨?_,?_,?_⟩
  .simp[ER,t0,t4];exact⟨[],[],hSt,rfl⟩
  .rintro it vis tm S ⟨q0,q4,G,N,T,R,hI,rfl⟩;exact⟨by simp[R3,m2],N⟩
  .rintro it vis tm S i hi ⟨q0,q4,G,N,T,R,hI,rfl⟩ hiv;have zs:i<Z st:=by simpa[BT]using hi
   obtain⟨a,b',t,hsti⟩:∃a b t,st[i]=((a,b),t):=⟨_,_,_,rfl⟩;have zw:(BT Iw vT st)[i]=(Iw (a,b'),vT t):=by simp[BT,hsti]
   have hbm:st[i].1=(a,b'):=by rw[hsti]
   unfold R3 Gy mI m2 iU;simp[zw];refine xJ ?_;simp;refine CO ?_;simp[N];refine xJ ?_;simp[Iw];refine CO ?_;cases hl:look T a with
   |none=>
    refine xE (A3 10 [21,23]) (by kernel_rfl) λK o=>?_;simp;have hput:Ej (BT (bi .i64) cB T) (.int .i64 a) (.row (Z R+1+1+1+1+1+1+1) 1)=BT (bi .i64) cB (Cu T a ([b'],Z R+1)):=EA (ev:=cB) (by intro a b;rw[gI];simp[DY]) T a ([b'],Z R+1);refine xA 1 ?_;simp[G,hl,ao];refine xX 9 (by kernel_rfl) ?_;simp[Aa,G,hl,ao];refine xX 255 (by kernel_rfl) ?_;simp[Aa,G,hput];refine xM (o _ _ ?_);refine⟨_,_,ap,by simp[q0],by simp[q4],by simp[G],by simp[N],Cu T a ([b'],Z R+1),R++[.row J 2 [.d (.agg [.int .i64 a,.int .i64 b'])],.row J 1 [.d (.int .i64 b')]],?_,?_⟩
    .exact hI.new zs hiv hbm hl
    .simp
   |some v=>
    obtain⟨l,j⟩:=v;have hmem:=Gu hl;have hrow:=hI.rows _ hmem;have hput:Ej (BT (bi .i64) cB T) (.int .i64 a) (.row (j+6) (Z l+1))=BT (bi .i64) cB (Cu T a (l++[b'],j)):=by
     have:=EA (ek:=bi .i64) (ev:=cB) (by intro a b;rw[gI];simp[DY]) T a (l++[b'],j);simpa[cB]using this
    refine xE (A3 10 [21,23]) (by kernel_rfl) λK o=>?_;simp;have hll:Z l<=65536:=by
     have h1:=hI.len _ hmem;have h2:=JR id hI.nd (n:=Z st) (λx hx=>hI.lt x hx) (λx _ y _ e=>e);simp only at h1;omega
    have hjR:=Ai hrow;have hrow':∀X:List O,(R++X)[j]?=some (.row J 1 (l.map λx=>.d (.int .i64 x))):=λX=>by rw[i5 hjR];exact hrow
    have hYj:∀(X Y:O) (h:Z R<Z ((R++[Y]).set j X)),((R++[Y]).set j X)[Z R]'h=Y:=λX Y h=>by
     rw[acu (by simp only at hjR;omega)];simp
    have hl30:Z l+1<=1073741824:=by omega
    have hlm:Z l+1<=ao:=by simp only[ao];omega
    refine xA 1 ?_;simp[G,hl,ao,cB];refine xX 9 (by kernel_rfl) ?_;simp[Aa,G,hl,ao,cB,hrow',hl30,hYj];have hjS:j<Z R+1:=by simp only at hjR;omega
    refine xX 255 (by kernel_rfl) ?_;simp[Aa,G,hYj,hput];refine xM (o _ _ ?_);refine⟨_,_,ap,by simp[q0],by simp[q4],by simp[G],by simp[N],Cu T a (l++[b'],j),(R++[O.row J 2 [V.d (.agg [.int .i64 a,.int .i64 b'])]]).set j (O.row J 1 ((l++[b']).map λx=>.d (.int .i64 x))),?_,?_⟩
    .exact hI.more zs hiv hbm hl
    .simp
  .rintro it vis tm S ⟨q0,q4,G,N,T,R,hI,rfl⟩ za;refine xJ ?_;simp;refine CO ⟨by simp,?_⟩;obtain⟨nl,hnl⟩:∃nl:List (Int×List Int),nl=T.map λp=>(p.1,p.2.1):=⟨_,rfl⟩;refine io (n9 (o0:=Gy g E) (o1:=mI m) (o2:=m2 st) (o3:=.row J 1 [.map 2]) (o5:=.row J 1 [.map 4]) hI (by decide) (by simp[Gy]) (by simp) (by simp) (by simp) (by simp)) ?_;rw[<-hnl];have hnk:∀k,look nl k=(look T k).map (·.1):=λk=>by rw[hnl];exact bR (·.1) T k
   have P:∀k x,x∈(look nl k).getD []->x∈st.map (·.1.2):=λk x hx=>by
    rw[hnk]at hx;cases hk:look T k with
    |none=>rw[hk]at hx;simp at hx
    |some l=>
     rw[hk]at hx;obtain⟨q,hq,e⟩:=fd.1 (hI.ks _ (Gu hk) x (by simpa using hx));exact fd.2 ⟨q,hq,by rw[e]⟩
   have hny:∀c k x,T1 st c k x->x∈(look nl k).getD []:=λc k x hs=>by
    obtain⟨q,hq,e⟩:=fd.1 (mc hs);obtain⟨u,hu,eu⟩:=oi.1 hq;obtain⟨v,e1,e2⟩:=hI.all u (za u (by simpa[BT]using hu)) hu;rw[eu,e]at e1 e2;rw[hnk,e1];exact e2
   clear hI za;generalize htm:clean 6 _=tmq;have u0:tmq 0=.ptr 0 1 0 0:=by rw[<-htm];simp[clean,q0]
   have u14:tmq 14=.ptr 5 1 0 0:=by rw[<-htm];simp[clean,G]
   have u4:tmq 4=.ptr 3 1 0 0:=by rw[<-htm];simp[clean,q4]
   have hfe:Ch (tr g.fam)=g.fam:=EB zF;unfold Gy mI m2;refine xW λK o=>?_;simp;apply o;refine xS (xW λK o=>?_);simp[u0,D0];apply o;refine Bp ?_;refine FH (Z g.Ay) (λi tm S=>tm 0=.ptr 0 1 0 0/\tm 4=.ptr 3 1 0 0/\tm 14=.ptr 5 1 0 0/\tm 16=.map 6/\tm 122=.d (AF (Z g.Ay))/\tm 123=.d (AF i)/\∃out,H5 n out/\Keyed out/\Oi st (tr g.fam) i out/\S=Ya g E m st nl out) (i0:=0) (ed _) (by simp[u0,u14,u4,Ya,Gy,mI,m2,D0];exact⟨[],λ_ h=>absurd h (by simp),Keyed.nil,Oi.nil,rfl⟩) ?_;rintro i tm S hi ⟨t0,t4,t14,t16,t122,t123,out,hout,hky,hon,rfl⟩;unfold Ya Gy mI m2;refine xW λK o=>?_;simp[t122,t123];apply o;refine xC ?_;simp;refine⟨λy7=>?_,λzf=>?_⟩
   .refine xK ?_;refine xB ?_;(repeat refine xS ?_);refine xV λK o=>?_;simp[t123];refine o _ _ ?_;(try simp only[xQ,reduceIte]);cases hl:look nl i with
    |none=>
     refine xS (xW λK o=>?_);simp[t14,hl];apply o;refine AQ ?_;simp;refine Co ?_;refine xV λK o=>?_;simp[t123];apply o;refine⟨y7,_,_,ap,?_⟩;simp[t0,t4,t14,t16,t122,AL y7 a4];exact⟨out,hout,hky,hon.skip λc y hs=>(by have:=hny c _ y hs;rw[hl]at this;simp at this),rfl⟩
    |some l=>
     refine xS (xW λK o=>?_);simp[t14,hl,vI];apply o;refine AQ ?_;simp;refine⟨λhe=>?_,λy9=>?_⟩
     .refine Co ?_;refine xV λK o=>?_;simp[t123];apply o;refine⟨y7,_,_,ap,?_⟩;simp[t0,t4,t14,t16,t122,AL y7 a4];exact⟨out,hout,hky,hon.skip λc y hs=>(by have:=hny c _ y hs;rw[hl]at this;have e:l=[]:=(by simpa using he);simp[e]at this),rfl⟩
     .refine xK ?_;refine xW λK o=>?_;simp;apply o;refine Gb λK o=>?_;refine xO ?_;simp;refine z0 (tv 132 1 (xs:=[]) (by simp)) ?_;simp;refine xJ ?_;simp;refine CO (o _ _ ?_);(repeat refine xS ?_);refine xV λK o=>?_;simp[t14,t4];refine o _ _ ?_;(try simp only[xQ,reduceIte]);have hlk:(look nl (i:Int)).getD []=l:=by rw[hl];rfl
      obtain⟨wq1,zx,zN,hc⟩:=Rq hn nl st zb.ok [] (λ_ h=>absurd h (by simp)) am [] i (tr g.fam) hfam (st.map (·.1.2)) (P i) (by
       have h1:=gO n ([]:List (Int×DT)) (st.map (·.1.2));have h2:2 ^ n<=2 ^ 12:=abq (by decide) hn;have h3:=acA (show Z (st.map (·.1.2))<=65536 by simpa using hst2) h2;simp only[rc];omega)
      have hvis:=I6 hn zb.ok (fr:=i) hfam (ks:=st.map (·.1.2)) l (s:=([],[])) (λx hx=>P i x (by rw[hlk];exact hx)) (λ_ h=>absurd h (by simp));have hlk2:=Js st i (tr g.fam) l (s:=([],[])) (by simp);rw[hlk]at hc zx;have hri:=RI.start (fam:=tr g.fam) (i:=(i:Int)) (l:=l) (λy c hs=>by have:=hny c _ y hs;rwa [hlk]at this) (Lk hn zb.ok (fr:=(i:Int)) hfam (ks:=st.map (·.1.2)) l (s:=([],[])) (λx hx=>P i x (by rw[hlk];exact hx)) (λ_ h=>absurd h (by simp)));obtain⟨Y,hY⟩:∃Y,Y=visitM st i (tr g.fam) l ([],[]):=⟨_,rfl⟩;rw[<-hY]at hc zx hvis hlk2 hri;simp only[bn,hfe]at hc;refine Gb λK o=>?_;refine xJ ?_;simp[t0,D0];refine z0 (AJ.te 140 (d:=AB g.fam) (by simp[AB])) ?_;refine xF (hc) [5,8,3,10,4,7,2,9] rfl ?_;simp;refine xJ ?_;simp;refine CO (o _ _ ?_);refine xB ?_;generalize hks:st.map (·.1.2)=ks at *;have hmu:Z Y.2+mu n ks Y.1<=2 ^ 29:=by
       have h1:=gO n ([]:List (Int×DT)) ks;have h2:2 ^ n<=2 ^ 12:=abq (by decide) hn;have h3:=acA (show Z ks<=65536 by rw[<-hks];simpa using hst2) h2;have h4:=hvis.2.1;simp only[rc]at h4;omega
      have hne1:Y.2≠[]->wq1=true:=λy9=>by
       rcases zx with h|h
       .exact absurd (abO.1 h) y9
       .exact h
      refine aew (λk tm S=>tm 0=.ptr 0 1 0 0/\tm 4=.ptr 3 1 0 0/\tm 14=.ptr 5 1 0 0/\tm 16=.map 6/\tm 122=.d (AF (Z g.Ay))/\tm 123=.d (AF i)/\tm 17=.d (AF i)/\tm 18=.ptr 8 1 0 0/\tm 19=.ptr 10 1 0 0/\tm 20=.fn (.func 160) [] [.ptr 5 1 0 0,.ptr 8 1 0 0,.ptr 3 1 0 0,.ptr 10 1 0 0]/\iX n ks g E m st nl out i k S) ⟨Z Y.2+2 * mu n ks Y.1+1,_,_,ap,by simp[t0],by simp[t4],by simp[t14],by simp[t16],by simp[t122],by simp[t123],by simp,by simp,by simp,by simp,(by unfold iX;exact⟨Y.1,Y.2,wq1,hri,hvis.1,hne1,hlk2,hmu,Nat.lt_succ_self _,by simp[Ya,Gy,D0,AB]⟩)⟩ ?_;rintro k tm S ⟨t0,t4,t14,t16,t122,t123,t17,t18,t19,t20,hQ⟩;unfold iX at hQ;obtain⟨L,q,wq,hR,Q,hwq,hqs,hqm,hqk,rfl⟩:=hQ;unfold Ya Gy mI m2;cases q with
      |nil=>
       refine xS (xW λK o=>?_);simp[t19];apply o;refine AQ ?_;simp;refine Co ?_;have Dj:=X4 L (i:Int);refine H9 λK o=>?_;refine xJ ?_;simp[t16,t17,t18];refine xF (Dj) [7] rfl ?_;simp[mI];refine xJ ?_;simp;refine CO (o _ _ ?_);refine xV λK o=>?_;simp[t123];apply o;refine⟨y7,_,_,ne 7 (by simp),?_⟩;simp[clean,t0,t4,t14,t16,t122,AL y7 a4];exact⟨Cu out i (DP L i),hout.put _ (Q.at _),hky.Cu _ _,hon.put hR,rfl⟩
      |cons x q=>
       have hwt:=hwq (by simp);subst hwt;refine xS (xW λK o=>?_);simp[t19];apply o;refine AQ ?_;simp;refine xK ?_;refine Bp ?_;refine xW λK o=>?_;simp[t19];apply o;refine Gb λK o=>?_;(repeat(refine Cg ?_ ?_;(·simp[t19]);simp[t19]));refine AY.KZ 9 (Z q+1) 1 ((x::q).map λx=>.d (.int .i64 x)) 1 (Z q+1) rfl (by simp;omega) ?_;simp;refine xJ ?_;simp[t19];refine CO (o _ _ ?_);refine io (C4 [0,1,2,3,4,5,6,7,8,11,10] (S0:=Ya g E m st nl out++[mI L,.row J 1 [.map 7],.row J 1 (q.map λx=>.d (.int .i64 x)),.row J 1 [.row 9 (Z q)]]) ?_ ?_ ?_) ?_
       .simp[Ya,Gy,vq]
       .simp
       .rfl
       generalize z:pick _ _=H;have r0:H 0=.ptr 0 1 0 0:=by rw[<-z];simp[pick,t0];try decide
       have r4:H 4=.ptr 3 1 0 0:=by rw[<-z];simp[pick,t4];try decide
       have r14:H 14=.ptr 5 1 0 0:=by rw[<-z];simp[pick,t14];try decide
       have r16:H 16=.map 6:=by rw[<-z];simp[pick,t16];try decide
       have r122:H 122=.d (AF (Z g.Ay)):=by rw[<-z];simp[pick,t122]
       have r123:H 123=.d (AF i):=by rw[<-z];simp[pick,t123]
       have r17:H 17=.d (AF i):=by rw[<-z];simp[pick,t17]
       have r18:H 18=.ptr 8 1 0 0:=by rw[<-z];simp[pick,t18];try decide
       have r19:H 19=.ptr 10 1 0 0:=by rw[<-z];simp[pick,t19];try decide
       have r20:H 20=.fn (.func 160) [] [.ptr 5 1 0 0,.ptr 8 1 0 0,.ptr 3 1 0 0,.ptr 10 1 0 0]:=by rw[<-z];simp[pick,t20];try decide
       have r21:H 21=.d (AF x):=by rw[<-z];simp[pick]
       obtain⟨dd,hdd⟩:=ol.1 (hqs x (by simp));have hddk:FV n dd:=Q _ (Gu hdd);simp only[gr]at hqm hqk;obtain⟨wq2,hw3,hw4,zj⟩:=Rq hn nl st zb.ok L Q J q x dd hddk ks (P x) (by omega);have hvis2:=I6 hn zb.ok (fr:=x) hddk (ks:=ks) ((look nl x).getD []) (s:=(L,q)) (P x) Q;have hlk3:=Js st x dd ((look nl x).getD []) (s:=(L,q)) (λy hy=>hqs y (by simp[hy]));have hvs:=Lk hn zb.ok (fr:=x) hddk (ks:=ks) ((look nl x).getD []) (s:=(L,q)) (P x) Q;have hda:dd=DP L x:=by unfold DP;rw[hdd];rfl
       obtain⟨zQ0,hZ⟩:∃zQ0,zQ0=visitM st x dd ((look nl x).getD []) (L,q):=⟨_,rfl⟩;rw[<-hZ]at zj hw3 hvis2 hlk3 hvs;obtain⟨v1,v2,v3⟩:=hvis2;simp only at v2 v3;have hwq2:=hw4 rfl;subst hwq2;simp only[bn]at zj;unfold Ya Gy mI m2;refine xW λK o=>?_;simp[r21,r17];apply o;refine AQ ?_;simp;refine⟨λhne2=>?_,λhe2=>?_⟩
       .refine H9 λK o=>?_;refine xJ ?_;simp[r20,r21,r18,hdd,vT];refine xF (zj) [5,8,3,10,4,7,2,9] rfl ?_;simp;refine xJ ?_;simp;refine CO (o _ _ ?_);refine⟨k - 1,by omega,_,_,ap,by simp[r0],by simp[r4],by simp[r14],by simp[r16],by simp[r122],by simp[r123],by simp[r17],by simp[r18],by simp[r19],by simp[r20],(by unfold iX;exact⟨zQ0.1,zQ0.2,J,hR.visit (by simpa using hne2) (λy c hs=>hny c x y hs) (hda▸hvs),v1,λ_=>rfl,hlk3,by omega,by omega,by simp[Ya,Gy]⟩)⟩
       .refine B8 ?_;refine⟨k - 1,by omega,_,_,ap,by simp[r0],by simp[r4],by simp[r14],by simp[r16],by simp[r122],by simp[r123],by simp[r17],by simp[r18],by simp[r19],by simp[r20],(by unfold iX;exact⟨L,q,J,(by have e:x=(i:Int):=(by simpa using he2);rw[e]at hR;exact hR.pass),Q,λ_=>rfl,λy hy=>hqs y (by simp[hy]),by omega,by omega,by simp[Ya,Gy]⟩)⟩
   .have zs:i=Z g.Ay:=by omega
    subst zs;refine Co ?_;refine xW λK o=>?_;simp[t16];apply o;refine Am ?_;(try simp only[xQ,reduceIte]);refine⟨_,_,C4 [0,6] (S0:=[.row J 10 [.d (D0 g E)],.map (BT (bi .i64) vT out)]) ?_ ?_ ?_,?_,_,_,⟨out,hout,by simpa using(hon.found hky hout).trans (mj (hme▸zb)),rfl,rfl⟩,.inr ⟨?_,rfl⟩⟩
    .simp
    .simp
    .rfl
    .simp;try decide
    .simp[pick];try decide
end Go.Koi
