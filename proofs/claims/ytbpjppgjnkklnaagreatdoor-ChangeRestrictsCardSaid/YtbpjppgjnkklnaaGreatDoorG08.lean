/-
  Part 9 of the proof that the law ChangeRestricts returns true for every input.
-/
import Derived.Test.YtbpjppgjnkklnaaGreatDoorG07
set_option maxHeartbeats 64000000
set_option maxRecDepth 100000
open List renaming length->Z,map->o4
open Go.IntKind renaming wrap->b8,bits->pi,signed->pm,wrap->pn
open Nat renaming eq_of_mul_eq_mul_right->ae2
open Bool renaming true->J,false->ap
open Go.Proofs.Tryz renaming prog->ao
open Go.Koi.DT renaming level->Ok
namespace Go.Koi
open Go renaming FuncId->eN,maxLen->a8
open Go.Proofs Tryz
def firstIdx{α:Type}(p:α->Bool)(xs:List α):Int:=match xs.findIdx? p with|some i=>i|none=>-1
abbrev adb:=@List.findIdx?_eq_some_iff_getElem
theorem Cw{α:Type}{p:α->Bool}{xs:List α}{i:Nat}(h:i<Z xs)(g:p xs[i]=J)(k:∀j (hj:j<i),p (xs[j]'(by omega))=ap):firstIdx p xs=i:=by
 have:xs.findIdx? p=some i:=by
  rw[adb];exact⟨h,g,λj hj=>by simp[k j hj]⟩
 simp[firstIdx,this]
theorem firstIdx_none{α:Type}{p:α->Bool}{xs:List α}(g:∀j (hj:j<Z xs),p xs[j]=ap):firstIdx p xs= -1:=by
 have:xs.findIdx? p=none:=by
  rw[List.findIdx?_eq_none_iff];intro x h;obtain⟨i,hi,rfl⟩:=lm.1 h;exact g i hi
 simp[firstIdx,this]
abbrev tg:=@List.any_eq_false
abbrev abT:=@List.any_eq_true
theorem DA{α:Type}(p:α->Bool)(xs:List α):decide (firstIdx p xs≥0)=xs.any p:=by
 unfold firstIdx;cases h:xs.findIdx? p with
 |none=>
  rw[List.findIdx?_eq_none_iff]at h;have:xs.any p=false:=by rw[tg];intro x g;simp[h x g]
  simp[this]
 |some i=>
  rw[adb]at h;obtain⟨j,k,_⟩:=h;have:xs.any p=true:=abT.2 ⟨_,cL j,k⟩;rw[this];simp
theorem Mp(xs:List Ai)(p:Ai->Bool)(k:eN)(caps:List V)(S0:Sg)(u:∀x∈xs,AG ao k (.d (AU x)::caps) S0 (.d (.bool (p x))) S0):
  AG ao 280 [.d (.sl (xs.map AU)),.fn (.func k) [] caps] S0 (.d (encI (firstIdx p xs))) S0:=by
 refine oF func280 rfl rfl (by simp) λwf _=>?_;have w:Z xs<=a8:=by have:=wf.1;simp[Ij,DY]at this;simpa using this.1
 rw[ntmps280];apply yW;simp;refine xS (yW ?_);simp;apply Bo;refine FO (Z xs) (λi tm S=>tm 0=.d (.sl (xs.map AU))/\tm 1=.fn (.func k) [] caps/\tm 8=.d (encI i)/\tm 7=.d (encI (Z xs))/\S=S0/\∀j (_:j<i) (h:j<Z xs),p xs[j]=ap) (er _) (by simp) ?_;rintro i tm S hi ⟨t0,t1,t8,t7,rfl,m⟩;apply yW;simp[t8,t7];apply xC;simp;refine⟨λg=>?_,λA=>?_⟩
 .apply xK;apply xB;apply yW;simp[t8];apply yS;apply yJ;simp[t0,t1,g];refine i9 (v:=.d (.bool (p xs[i]))) rfl rfl (by simp) (f:=k) (args:=.d (AU xs[i])::caps) (by simp;try rfl) (by simp) (u _ (cL g)) ?_;simp;apply BY;apply AP;simp;refine⟨λo=>?_,λo=>?_⟩
  .apply yW;simp;apply Aj;refine⟨_,a9,?_⟩;simp[Aq];exact .inl (Cw g o λj hj=>m j hj (by omega)).symm
  .apply CF;apply yV;simp[t8];refine⟨g,_,_,a9,?_⟩;simp[t0,t1,t7,AK g w];intro j hj q;by_cases e:j=i
   .subst e;exact o
   .exact m j (by omega) q
 .apply Ci;apply yW;simp;apply Aj;refine⟨_,a9,?_⟩;simp[Aq];exact .inl (firstIdx_none λj hj=>m j (by omega) hj).symm
theorem Ka(xs:List Ai)(p:Ai->Bool)(k:eN)(caps:List V)(S0:Sg)(g:∀x∈xs,AG ao k (.d (AU x)::caps) S0 (.d (.bool (p x))) S0):
  AG ao 242 [.d (.sl (xs.map AU)),.fn (.func k) [] caps] S0 (.d (.bool (xs.any p))) S0:=by
 refine zC func242 9 rfl λwf _=>?_;apply yW;simp;(repeat apply xS);apply yT;apply yJ;simp;refine i9 rfl rfl (by simp) (f:=280) (args:=[.d (.sl (xs.map AU)),.fn (.func k) [] caps]) (by simp[callee]) (by simp) (Mp xs p k caps S0 g) (yJ ?_);simp;apply Aj;refine⟨_,a9,?_⟩;simp[Aq];have:=DA p xs;simp at this;simp[this]
theorem P8(xs:List AO)(p:AO->Bool)(k:eN)(caps:List V)(S0:Sg)(u:∀x∈xs,AG ao k (.d (AF x)::caps) S0 (.d (.bool (p x))) S0):
  AG ao 240 [.d (.sl (xs.map AF)),.fn (.func k) [] caps] S0 (.d (encI (firstIdx p xs))) S0:=by
 refine oF func240 rfl rfl (by simp) λwf _=>?_;have w:Z xs<=a8:=by have:=wf.1;simp[Ij,DY]at this;simpa using this.1
 rw[ntmps240];apply yW;simp;refine xS (yW ?_);simp;apply Bo;refine FO (Z xs) (λi tm S=>tm 0=.d (.sl (xs.map AF))/\tm 1=.fn (.func k) [] caps/\tm 8=.d (encI i)/\tm 7=.d (encI (Z xs))/\S=S0/\∀j (_:j<i) (h:j<Z xs),p xs[j]=ap) (er _) (by simp) ?_;rintro i tm S hi ⟨t0,t1,t8,t7,rfl,m⟩;apply yW;simp[t8,t7];apply xC;simp;refine⟨λg=>?_,λA=>?_⟩
 .apply xK;apply xB;apply yW;simp[t8];apply yS;apply yJ;simp[t0,t1,g];refine i9 (v:=.d (.bool (p xs[i]))) rfl rfl (by simp) (f:=k) (args:=.d (AF xs[i])::caps) (by simp;try rfl) (by simp) (u _ (cL g)) ?_;simp;apply BY;apply AP;simp;refine⟨λo=>?_,λo=>?_⟩
  .apply yW;simp;apply Aj;refine⟨_,a9,?_⟩;simp[Aq];exact .inl (Cw g o λj hj=>m j hj (by omega)).symm
  .apply CF;apply yV;simp[t8];refine⟨g,_,_,a9,?_⟩;simp[t0,t1,t7,AK g w];intro j hj q;by_cases e:j=i
   .subst e;exact o
   .exact m j (by omega) q
 .apply Ci;apply yW;simp;apply Aj;refine⟨_,a9,?_⟩;simp[Aq];exact .inl (firstIdx_none λj hj=>m j (by omega) hj).symm
theorem Lm(xs:List AO)(p:AO->Bool)(k:eN)(caps:List V)(S0:Sg)(g:∀x∈xs,AG ao k (.d (AF x)::caps) S0 (.d (.bool (p x))) S0):
  AG ao 185 [.d (.sl (xs.map AF)),.fn (.func k) [] caps] S0 (.d (.bool (xs.any p))) S0:=by
 refine zC func185 9 rfl λwf _=>?_;apply yW;simp;(repeat apply xS);apply yT;apply yJ;simp;refine i9 rfl rfl (by simp) (f:=240) (args:=[.d (.sl (xs.map AF)),.fn (.func k) [] caps]) (by simp[callee]) (by simp) (P8 xs p k caps S0 g) (yJ ?_);simp;apply Aj;refine⟨_,a9,?_⟩;simp[Aq];have:=DA p xs;simp at this;simp[this]
theorem M6(xs:List Symbol)(p:Symbol->Bool)(k:eN)(caps:List V)(S0:Sg)(u:∀x∈xs,AG ao k (.d (AH x)::caps) S0 (.d (.bool (p x))) S0):
  AG ao 249 [.d (.sl (xs.map AH)),.fn (.func k) [] caps] S0 (.d (encI (firstIdx p xs))) S0:=by
 refine oF func249 rfl rfl (by simp) λwf _=>?_;have w:Z xs<=a8:=by have:=wf.1;simp[Ij,DY]at this;simpa using this.1
 rw[ntmps249];apply yW;simp;refine xS (yW ?_);simp;apply Bo;refine FO (Z xs) (λi tm S=>tm 0=.d (.sl (xs.map AH))/\tm 1=.fn (.func k) [] caps/\tm 8=.d (encI i)/\tm 7=.d (encI (Z xs))/\S=S0/\∀j (_:j<i) (h:j<Z xs),p xs[j]=ap) (er _) (by simp) ?_;rintro i tm S hi ⟨t0,t1,t8,t7,rfl,m⟩;apply yW;simp[t8,t7];apply xC;simp;refine⟨λg=>?_,λA=>?_⟩
 .apply xK;apply xB;apply yW;simp[t8];apply yS;apply yJ;simp[t0,t1,g];refine i9 (v:=.d (.bool (p xs[i]))) rfl rfl (by simp) (f:=k) (args:=.d (AH xs[i])::caps) (by simp;try rfl) (by simp) (u _ (cL g)) ?_;simp;apply BY;apply AP;simp;refine⟨λo=>?_,λo=>?_⟩
  .apply yW;simp;apply Aj;refine⟨_,a9,?_⟩;simp[Aq];exact .inl (Cw g o λj hj=>m j hj (by omega)).symm
  .apply CF;apply yV;simp[t8];refine⟨g,_,_,a9,?_⟩;simp[t0,t1,t7,AK g w];intro j hj q;by_cases e:j=i
   .subst e;exact o
   .exact m j (by omega) q
 .apply Ci;apply yW;simp;apply Aj;refine⟨_,a9,?_⟩;simp[Aq];exact .inl (firstIdx_none λj hj=>m j (by omega) hj).symm
theorem Ki(xs:List Symbol)(p:Symbol->Bool)(k:eN)(caps:List V)(S0:Sg)(g:∀x∈xs,AG ao k (.d (AH x)::caps) S0 (.d (.bool (p x))) S0):
  AG ao 194 [.d (.sl (xs.map AH)),.fn (.func k) [] caps] S0 (.d (.bool (xs.any p))) S0:=by
 refine zC func194 9 rfl λwf _=>?_;apply yW;simp;(repeat apply xS);apply yT;apply yJ;simp;refine i9 rfl rfl (by simp) (f:=249) (args:=[.d (.sl (xs.map AH)),.fn (.func k) [] caps]) (by simp[callee]) (by simp) (M6 xs p k caps S0 g) (yJ ?_);simp;apply Aj;refine⟨_,a9,?_⟩;simp[Aq];have:=DA p xs;simp at this;simp[this]
theorem OP(xs:List Level)(p:Level->Bool)(k:eN)(caps:List V)(S0:Sg)(u:∀x∈xs,AG ao k (.d (Af x)::caps) S0 (.d (.bool (p x))) S0):
  AG ao 275 [.d (.sl (xs.map Af)),.fn (.func k) [] caps] S0 (.d (encI (firstIdx p xs))) S0:=by
 refine oF func275 rfl rfl (by simp) λwf _=>?_;have w:Z xs<=a8:=by have:=wf.1;simp[Ij,DY]at this;simpa using this.1
 rw[ntmps275];apply yW;simp;refine xS (yW ?_);simp;apply Bo;refine FO (Z xs) (λi tm S=>tm 0=.d (.sl (xs.map Af))/\tm 1=.fn (.func k) [] caps/\tm 8=.d (encI i)/\tm 7=.d (encI (Z xs))/\S=S0/\∀j (_:j<i) (h:j<Z xs),p xs[j]=ap) (er _) (by simp) ?_;rintro i tm S hi ⟨t0,t1,t8,t7,rfl,m⟩;apply yW;simp[t8,t7];apply xC;simp;refine⟨λg=>?_,λA=>?_⟩
 .apply xK;apply xB;apply yW;simp[t8];apply yS;apply yJ;simp[t0,t1,g];refine i9 (v:=.d (.bool (p xs[i]))) rfl rfl (by simp) (f:=k) (args:=.d (Af xs[i])::caps) (by simp;try rfl) (by simp) (u _ (cL g)) ?_;simp;apply BY;apply AP;simp;refine⟨λo=>?_,λo=>?_⟩
  .apply yW;simp;apply Aj;refine⟨_,a9,?_⟩;simp[Aq];exact .inl (Cw g o λj hj=>m j hj (by omega)).symm
  .apply CF;apply yV;simp[t8];refine⟨g,_,_,a9,?_⟩;simp[t0,t1,t7,AK g w];intro j hj q;by_cases e:j=i
   .subst e;exact o
   .exact m j (by omega) q
 .apply Ci;apply yW;simp;apply Aj;refine⟨_,a9,?_⟩;simp[Aq];exact .inl (firstIdx_none λj hj=>m j (by omega) hj).symm
theorem LC(xs:List Level)(p:Level->Bool)(k:eN)(caps:List V)(S0:Sg)(g:∀x∈xs,AG ao k (.d (Af x)::caps) S0 (.d (.bool (p x))) S0):
  AG ao 229 [.d (.sl (xs.map Af)),.fn (.func k) [] caps] S0 (.d (.bool (xs.any p))) S0:=by
 refine zC func229 9 rfl λwf _=>?_;apply yW;simp;(repeat apply xS);apply yT;apply yJ;simp;refine i9 rfl rfl (by simp) (f:=275) (args:=[.d (.sl (xs.map Af)),.fn (.func k) [] caps]) (by simp[callee]) (by simp) (OP xs p k caps S0 g) (yJ ?_);simp;apply Aj;refine⟨_,a9,?_⟩;simp[Aq];have:=DA p xs;simp at this;simp[this]
theorem NY(xs:List Filter)(p:Filter->Bool)(k:eN)(caps:List V)(S0:Sg)(u:∀x∈xs,AG ao k (.d (AM x)::caps) S0 (.d (.bool (p x))) S0):
  AG ao 276 [.d (.sl (xs.map AM)),.fn (.func k) [] caps] S0 (.d (encI (firstIdx p xs))) S0:=by
 refine oF func276 rfl rfl (by simp) λwf _=>?_;have w:Z xs<=a8:=by have:=wf.1;simp[Ij,DY]at this;simpa using this.1
 rw[ntmps276];apply yW;simp;refine xS (yW ?_);simp;apply Bo;refine FO (Z xs) (λi tm S=>tm 0=.d (.sl (xs.map AM))/\tm 1=.fn (.func k) [] caps/\tm 8=.d (encI i)/\tm 7=.d (encI (Z xs))/\S=S0/\∀j (_:j<i) (h:j<Z xs),p xs[j]=ap) (er _) (by simp) ?_;rintro i tm S hi ⟨t0,t1,t8,t7,rfl,m⟩;apply yW;simp[t8,t7];apply xC;simp;refine⟨λg=>?_,λA=>?_⟩
 .apply xK;apply xB;apply yW;simp[t8];apply yS;apply yJ;simp[t0,t1,g];refine i9 (v:=.d (.bool (p xs[i]))) rfl rfl (by simp) (f:=k) (args:=.d (AM xs[i])::caps) (by simp;try rfl) (by simp) (u _ (cL g)) ?_;simp;apply BY;apply AP;simp;refine⟨λo=>?_,λo=>?_⟩
  .apply yW;simp;apply Aj;refine⟨_,a9,?_⟩;simp[Aq];exact .inl (Cw g o λj hj=>m j hj (by omega)).symm
  .apply CF;apply yV;simp[t8];refine⟨g,_,_,a9,?_⟩;simp[t0,t1,t7,AK g w];intro j hj q;by_cases e:j=i
   .subst e;exact o
   .exact m j (by omega) q
 .apply Ci;apply yW;simp;apply Aj;refine⟨_,a9,?_⟩;simp[Aq];exact .inl (firstIdx_none λj hj=>m j (by omega) hj).symm
theorem Gu(xs:List Filter)(p:Filter->Bool)(k:eN)(caps:List V)(S0:Sg)(g:∀x∈xs,AG ao k (.d (AM x)::caps) S0 (.d (.bool (p x))) S0):
  AG ao 231 [.d (.sl (xs.map AM)),.fn (.func k) [] caps] S0 (.d (.bool (xs.any p))) S0:=by
 refine zC func231 9 rfl λwf _=>?_;apply yW;simp;(repeat apply xS);apply yT;apply yJ;simp;refine i9 rfl rfl (by simp) (f:=276) (args:=[.d (.sl (xs.map AM)),.fn (.func k) [] caps]) (by simp[callee]) (by simp) (NY xs p k caps S0 g) (yJ ?_);simp;apply Aj;refine⟨_,a9,?_⟩;simp[Aq];have:=DA p xs;simp at this;simp[this]
theorem QW(xs:List Int)(p:Int->Bool)(k:eN)(caps:List V)(S0:Sg)(u:∀x∈xs,AG ao k (.d ((D.int .i64) x)::caps) S0 (.d (.bool (p x))) S0):
  AG ao 234 [.d (.sl (xs.map (D.int .i64))),.fn (.func k) [] caps] S0 (.d (encI (firstIdx p xs))) S0:=by
 refine oF func234 rfl rfl (by simp) λwf _=>?_;have w:Z xs<=a8:=by have:=wf.1;simp[Ij,DY]at this;simpa using this.1
 rw[ntmps234];apply yW;simp;refine xS (yW ?_);simp;apply Bo;refine FO (Z xs) (λi tm S=>tm 0=.d (.sl (xs.map (D.int .i64)))/\tm 1=.fn (.func k) [] caps/\tm 8=.d (encI i)/\tm 7=.d (encI (Z xs))/\S=S0/\∀j (_:j<i) (h:j<Z xs),p xs[j]=ap) (er _) (by simp) ?_;rintro i tm S hi ⟨t0,t1,t8,t7,rfl,m⟩;apply yW;simp[t8,t7];apply xC;simp;refine⟨λg=>?_,λA=>?_⟩
 .apply xK;apply xB;apply yW;simp[t8];apply yS;apply yJ;simp[t0,t1,g];refine i9 (v:=.d (.bool (p xs[i]))) rfl rfl (by simp) (f:=k) (args:=.d ((D.int .i64) xs[i])::caps) (by simp;try rfl) (by simp) (u _ (cL g)) ?_;simp;apply BY;apply AP;simp;refine⟨λo=>?_,λo=>?_⟩
  .apply yW;simp;apply Aj;refine⟨_,a9,?_⟩;simp[Aq];exact .inl (Cw g o λj hj=>m j hj (by omega)).symm
  .apply CF;apply yV;simp[t8];refine⟨g,_,_,a9,?_⟩;simp[t0,t1,t7,AK g w];intro j hj q;by_cases e:j=i
   .subst e;exact o
   .exact m j (by omega) q
 .apply Ci;apply yW;simp;apply Aj;refine⟨_,a9,?_⟩;simp[Aq];exact .inl (firstIdx_none λj hj=>m j (by omega) hj).symm
theorem IN(xs:List Int)(p:Int->Bool)(k:eN)(caps:List V)(S0:Sg)(g:∀x∈xs,AG ao k (.d ((D.int .i64) x)::caps) S0 (.d (.bool (p x))) S0):
  AG ao 171 [.d (.sl (xs.map (D.int .i64))),.fn (.func k) [] caps] S0 (.d (.bool (xs.any p))) S0:=by
 refine zC func171 9 rfl λwf _=>?_;apply yW;simp;(repeat apply xS);apply yT;apply yJ;simp;refine i9 rfl rfl (by simp) (f:=234) (args:=[.d (.sl (xs.map (D.int .i64))),.fn (.func k) [] caps]) (by simp[callee]) (by simp) (QW xs p k caps S0 g) (yJ ?_);simp;apply Aj;refine⟨_,a9,?_⟩;simp[Aq];have:=DA p xs;simp at this;simp[this]
theorem Ls(xs:List Rewrite)(p:Rewrite->Bool)(k:eN)(caps:List V)(S0:Sg)(u:∀x∈xs,AG ao k (.d (Aa x)::caps) S0 (.d (.bool (p x))) S0):
  AG ao 236 [.d (.sl (xs.map Aa)),.fn (.func k) [] caps] S0 (.d (encI (firstIdx p xs))) S0:=by
 refine oF func236 rfl rfl (by simp) λwf _=>?_;have w:Z xs<=a8:=by have:=wf.1;simp[Ij,DY]at this;simpa using this.1
 rw[ntmps236];apply yW;simp;refine xS (yW ?_);simp;apply Bo;refine FO (Z xs) (λi tm S=>tm 0=.d (.sl (xs.map Aa))/\tm 1=.fn (.func k) [] caps/\tm 8=.d (encI i)/\tm 7=.d (encI (Z xs))/\S=S0/\∀j (_:j<i) (h:j<Z xs),p xs[j]=ap) (er _) (by simp) ?_;rintro i tm S hi ⟨t0,t1,t8,t7,rfl,m⟩;apply yW;simp[t8,t7];apply xC;simp;refine⟨λg=>?_,λA=>?_⟩
 .apply xK;apply xB;apply yW;simp[t8];apply yS;apply yJ;simp[t0,t1,g];refine i9 (v:=.d (.bool (p xs[i]))) rfl rfl (by simp) (f:=k) (args:=.d (Aa xs[i])::caps) (by simp;try rfl) (by simp) (u _ (cL g)) ?_;simp;apply BY;apply AP;simp;refine⟨λo=>?_,λo=>?_⟩
  .apply yW;simp;apply Aj;refine⟨_,a9,?_⟩;simp[Aq];exact .inl (Cw g o λj hj=>m j hj (by omega)).symm
  .apply CF;apply yV;simp[t8];refine⟨g,_,_,a9,?_⟩;simp[t0,t1,t7,AK g w];intro j hj q;by_cases e:j=i
   .subst e;exact o
   .exact m j (by omega) q
 .apply Ci;apply yW;simp;apply Aj;refine⟨_,a9,?_⟩;simp[Aq];exact .inl (firstIdx_none λj hj=>m j (by omega) hj).symm
theorem JT(xs:List Rewrite)(p:Rewrite->Bool)(k:eN)(caps:List V)(S0:Sg)(g:∀x∈xs,AG ao k (.d (Aa x)::caps) S0 (.d (.bool (p x))) S0):
  AG ao 182 [.d (.sl (xs.map Aa)),.fn (.func k) [] caps] S0 (.d (.bool (xs.any p))) S0:=by
 refine zC func182 9 rfl λwf _=>?_;apply yW;simp;(repeat apply xS);apply yT;apply yJ;simp;refine i9 rfl rfl (by simp) (f:=236) (args:=[.d (.sl (xs.map Aa)),.fn (.func k) [] caps]) (by simp[callee]) (by simp) (Ls xs p k caps S0 g) (yJ ?_);simp;apply Aj;refine⟨_,a9,?_⟩;simp[Aq];have:=DA p xs;simp at this;simp[this]
theorem B8(x:Bool):Pure ao 41 [.bool x] (AB ⟨[],if x then 1 else 0⟩):=by
 refine zP func41 6 rfl λwf=>?_;apply yW;simp;refine xS (yW ?_);simp;apply AP;simp;refine⟨λg=>?_,λg=>?_⟩
 .apply yW;simp;refine Aj ⟨_,_,a9,?_⟩;simp[g,AB]
 .apply xK;apply yW;simp;apply zT;simp[g,AB]
theorem If(d:AL)(e:Int)(m:e<2+Z d.nodes):Pure ao 266 [AB d,encI e] (encI (d.level e)):=by
 refine hW func266 rfl rfl (by simp) λwf=>?_;simp[Bm,Di,DY]at wf;rw[ntmps266];apply yW;simp;refine xS (yW ?_);simp;apply AP;simp;refine⟨λg=>?_,λg=>?_⟩
 .apply yW;simp;refine Aj ⟨_,_,a9,?_⟩;simp[AL.level,g]
 .have i:b8 .i64 (e - 2)=e - 2:=wrap_i64 (by omega) (by omega);have h:(e - 2).toNat<Z d.nodes:=by omega
  have j:e - 2<(Z d.nodes:Int):=by omega
  have k:¬e<2:=by omega
  apply xK;apply yW;simp[i,h,j,g];apply zT;simp[AL.level,k,h]
theorem Ds(i:Int):Pure ao 42 [encI i] (AH ⟨J,i⟩):=by
 refine zP func42 5 rfl λwf=>?_;apply yW;simp;apply yW;simp;apply zT;simp[AH]
theorem E9(i:Int):Pure ao 43 [encI i] (AH ⟨ap,i⟩):=by
 refine zP func43 5 rfl λwf=>?_;apply yW;simp;apply yW;simp;apply zT;simp[AH]
theorem Bn(n:ByteArray)(l:Int)(r:List Symbol):Pure ao 45 [BQ n,encI l,Ax r] (AF ⟨n,l,r,⟨[],1⟩,ap,0,[],⟨ap,0,0,0,0⟩⟩):=by
 refine zP func45 12 rfl λwf=>?_;apply yW;simp;(repeat apply xS);apply yT;apply yJ;simp;refine Bq (B8 J) rfl (by simp) (yJ ?_);simp;apply zT;simp[AF,AB]
def Ar(v:Int):AL:=if v<0\/v>63 then⟨[],0⟩else⟨[⟨v,0,1⟩],2⟩
def Rs(v:Int):Int:=if v<0\/v>63 then 1 else 0
theorem Xh(v:Int):Pure ao 152 [encI v] (.CX [AB (Ar v),encI (Rs v)]):=by
 refine zP func152 15 rfl λwf=>?_;apply yW;simp;refine xS (yW ?_);simp;apply AP;simp;refine⟨λg=>?_,λh i=>?_⟩
 .apply yW;simp;refine Aj ⟨_,_,a9,?_⟩;have:v<0\/v>63:=by omega
  simp[Ar,Rs,this,AB]
 .apply xK;apply yW;simp[a8];apply zT;have:¬(v<0\/v>63):=by omega
  simp[Ar,Rs,this,AB,AU]
theorem qf(v:Int):Pure ao 165 [encI v] (.CX [AB (Ar v),encI (Rs v)]):=by
 refine zP func165 15 rfl λwf=>?_;apply yW;simp;refine xS (yW ?_);simp;apply AP;simp;refine⟨λg=>?_,λh i=>?_⟩
 .apply yW;simp;refine Aj ⟨_,_,a9,?_⟩;have:v<0\/v>63:=by omega
  simp[Ar,Rs,this,AB]
 .apply xK;apply yW;simp[a8];apply zT;have:¬(v<0\/v>63):=by omega
  simp[Ar,Rs,this,AB,AU]
theorem CU(v:Int):Pure ao 53 [encI v] (AB (Ar v)):=by
 refine zP func53 11 rfl λwf=>?_;apply yW;simp;apply yS;apply yJ;simp;refine Bq (Xh v) rfl (by simp) (yJ ?_);simp;apply yW;simp;apply zT;try simp
theorem HC(a c:Int):Pure ao 211 [encI a,encI c] (AQ ⟨1,a,c,0,0⟩):=by
 refine zP func211 8 rfl λwf=>?_;apply yW;simp;apply yW;simp;apply zT;simp[AQ]
theorem EW(k a c:Int):Pure ao 212 [encI k,encI a,encI c] (AQ ⟨k,0,0,a,c⟩):=by
 refine zP func212 11 rfl λwf=>?_;apply yW;simp;apply yW;simp;apply zT;simp[AQ]
@[simp] def vw:V:=.fn (.func 200) [] [.ptr 0 1 0 0,.ptr 1 1 0 0,.ptr 2 1 0 0,.ptr 3 1 0 0]
def P1(N:List Ai)(g:Bool)(L:List DT)(es:List (Int×Int)):Sg:=
 [.row J 1 [.map 4],.row J 1 [.ptr 5 1 0 0],.row J 1 [vw],.row J 2 [.agg [.row 6 (Z L),.d (.int .i64 0)]],.map (BV (D.int .i64) (λx=>.d (.int .i64 x)) es),.row g 2 [.agg [.d (AV N),.any]],.row (!L.isEmpty) 3 (L.map λt=>.d (AU (ar L t)))]
def nM(N:List Ai)(L:List DT)(es:List (Int×Int)):Prop:=∀n u,Bf N u n->(HE L u->look es n=some (num L u))/\(¬HE L u->look es n=none)
structure o6(N:List Ai)(L:List DT):Prop where
 closed:IA L
 nodup:L.Nodup
 TA:∀t∈L,∃v l h,t=.node v l h/\∃n,Bf N t n
theorem o6.nil(N:List Ai):o6 N []:=⟨IA.nil,ac0,λt h=>absurd h (by simp)⟩
open Classical in
theorem o6.len{N:List Ai}{L:List DT}(h:o6 N L):Z L<=Z N:=by
 let f:DT->Nat:=λt=>if h:∃n,Bf N t n then(h.choose - 2).toNat else 0;have k:∀t∈L,∃n:Int,2<=n/\n<Z N+2/\Bf N t n/\(f t:Int)=n - 2:=λt g=>by
  obtain⟨v,l,r,e,j⟩:=h.TA t g;have i:=j.choose_spec;have o:=i.range;have q:¬j.choose<2:=λu=>by
   obtain⟨b,hb⟩:=i.FQ.1 u;rw[e]at hb;exact absurd hb (by simp)
  refine⟨j.choose,by omega,o.2,i,?_⟩;simp[f,j,NE];omega
 refine It f h.nodup (λt g=>?_) λs w t g e=>?_
 .obtain⟨n,i,o,_,q⟩:=k t g;omega
 .obtain⟨n,i,o,q,B⟩:=k s w;obtain⟨m,C,E,A,F⟩:=k t g;have:n=m:=by omega
  subst this;exact q.uniq A
theorem Lf(t:DT):∀L x,x∈emit t L->x∈L\/x.size<=t.size:=by
 induction t with
 |leaf b=>intro L x h;exact .inl h
 |node v l r g i=>
  intro L x h;unfold emit at h;split at h
  .exact .inl h
  .rcases fi.1 h with h|h
   .rcases i _ x h with h|h
    .rcases g _ x h with h|h
     .exact .inl h
     .right;simp[DT.size];omega
    .right;simp[DT.size];omega
   .simp at h;subst h;exact .inr (c9 _)
theorem Nz{N:List Ai}(h:Bool){t:DT}{n:Int}{L:List DT}{es:List (Int×Int)}(i:Bf N t n)(j:nM N L es)(hi:HE L t):
  AG ao 200 [.d (encI n),.ptr 0 1 0 0,.ptr 1 1 0 0,.ptr 2 1 0 0,.ptr 3 1 0 0] (P1 N h L es) (.d (encI (num L t))) (P1 N h L es):=by
 have g:look es n=some (num L t):=(j n _ i).1 hi;refine zC func200 55 rfl λwf k=>?_;unfold P1;apply yW;simp;refine xS (yW ?_);simp;apply yW;simp[g];apply AP;simp;apply yW;simp;apply Aj;refine⟨_,a9,?_⟩;simp[Aq]
theorem gn(N:List Ai)(R:N.Nodup)(hN:Z N<=2 ^ 30)(P:Bool):∀(t:DT) (n:Int) (L:List DT) (m:List (Int×Int)),Bf N t n->o6 N L->nM N L m->∃F,nM N (emit t L) F/\o6 N (emit t L)/\AG ao 200 [.d (encI n),.ptr 0 1 0 0,.ptr 1 1 0 0,.ptr 2 1 0 0,.ptr 3 1 0 0] (P1 N P L m) (.d (encI (num (emit t L) t))) (P1 N P (emit t L) F):=by
 intro t;induction t with
 |leaf b=>exact λn L m o G B=>⟨m,B,G,Nz P o B (.inl ⟨b,rfl⟩)⟩
 |node v l r S T=>
  intro n L m o G B;by_cases hi:DT.node v l r∈L
  .have e:emit (.node v l r) L=L:=by simp[emit,hi]
   rw[e];exact⟨m,B,G,Nz P o B (.inr hi)⟩
  .obtain⟨k,U,lo,W,X,Y,rr⟩:=o;obtain⟨es1,hE1,hL1,c1⟩:=S lo L m Y G B;obtain⟨es2,H,C,c2⟩:=T W (emit l L) es1 rr hL1 hE1;have hl:look m n=none:=(B n (.node v l r) ⟨k,U,lo,W,X,Y,rr⟩).2 (by rintro(⟨b,hb⟩|h);exact absurd hb (by simp);exact hi h);have e:emit (.node v l r) L=emit r (emit l L)++[.node v l r]:=by simp[emit,hi]
   rw[e];generalize i:emit r (emit l L)=g at *;have o:Bf N (.node v l r) n:=⟨k,U,lo,W,X,Y,rr⟩;have q:DT.node v l r∉g:=by
    intro j;rw[<-i]at j;rcases Lf _ _ _ j with j|j
    .rcases Lf _ _ _ j with j|j
     .exact hi j
     .simp[DT.size]at j;omega
    .simp[DT.size]at j;omega
   have K:o6 N (g++[.node v l r]):=by
    refine⟨e▸J3 (.node v l r) L G.closed,?_,?_⟩
    .rw[Ks];refine⟨C.nodup,by simp,?_⟩;intro a ha b hb eab;simp at hb;subst eab;subst hb;exact q ha
    .intro t E;rcases fi.1 E with E|E
     .exact C.TA t E
     .simp at E;subst E;exact⟨v,l,r,rfl,n,o⟩
   have hlen:Z g+1<=Z N:=by have:=K.len;simpa using this
   have w:num (g++[.node v l r]) (.node v l r)=Z g+2:=by
    simp[num];rw[List.idxOf_append,bv q];simp
   refine⟨Cx es2 n (Z g+2),?_,K,?_⟩
   .intro n' u Q;rw[Fc];by_cases en:n'=n
    .subst en;have:u=.node v l r:=Q.uniq o;subst this;refine⟨λ_=>by rw[ca rfl,w],λzw=>absurd (.inr (by simp)) zw⟩
    .have zi:u≠.node v l r:=λeu=>by subst eu;exact en (Q.inj R o)
     rw[bv en];have A:HE (g++[.node v l r]) u->HE g u:=by
      rintro(h|h)
      .exact .inl h
      .rcases fi.1 h with h|h
       .exact .inr h
       .simp at h;exact absurd h zi
     refine⟨λh=>?_,λh=>(H n' u Q).2 λh'=>h (h'.mono _)⟩;rw[GJ (A h)];exact(H n' u Q).1 (A h)
   .obtain⟨hkl,hke⟩:=gq.1 X;refine zC func200 55 rfl λwf wfs=>?_;unfold P1;apply yW;simp;refine xS (yW ?_);simp;apply yW;simp[hl];apply AP;simp;apply CF;have hw:b8 .i64 (k:Int)=k:=wrap_i64 (by omega) (by omega);have hw2:b8 .i64 ((Z g:Int)+1+1)=Z g+2:=wrap_i64 (by omega) (by omega);subst U;apply yW;simp[hw,hkl,hke];apply yS;apply yJ;simp;refine xY (c1) _ rfl rfl ?_;simp[P1];apply yJ;simp;(repeat apply xS);apply yT;apply yJ;simp;refine xY (c2) _ rfl rfl ?_;simp[P1];apply yJ;simp;have hl2:Z g<=1073741823:=by omega
    apply yS;apply yJ;simp[a8,hl2];apply yW;simp[hw2];(repeat apply xS);apply yV;simp;have il:HE (emit l L) l:=H6 l L;have il2:HE g l:=by rw[<-i];exact Mt r il
    have ir:HE g r:=by rw[<-i];exact H6 r _
    have e1:num (g++[DT.node v l r]) l=num (emit l L) l:=by
     rw[GJ il2,<-i];obtain⟨M,hM⟩:=N7 r (emit l L);rw[hM,GJ il]
    have e2:num (g++[DT.node v l r]) r=num g r:=GJ ir _;apply Aj;refine⟨_,fd 7 ?_ (by simp) (by simp) (by simp),?_⟩
    .simp;refine⟨λa ha=>by rw[XH C.closed ha],?_⟩;simp[ar,e1,e2,AU,encI]
    .simp[Aq,clean,Fc,w]
theorem Bf.fz{N:List Ai}{u:DT}{n:Int}(h:Bf N u n):HE [] u↔n<2:=by
 rw[h.FQ];simp[HE]
theorem Oz(N:List Ai)(j:N.Nodup)(A:Z N<=2 ^ 30)(k:Bool)(t:DT)(n:Int)(B:Bf N t n):
  AG ao 125 [.ptr 0 1 0 0,.d (encI n)] [.row k 2 [.agg [.d (AV N),.any]]] (.d (AB (Ce t))) [.row k 2 [.agg [.d (AV N),.any]]]:=by
 have o:nM N [] [(0,0),(1,1)]:=by
  intro m u i;have w:=i.fz;refine⟨λh=>?_,λh=>?_⟩
  .have C:=w.1 h;have:=i.range;have q:m=0\/m=1:=by omega
   rcases q with rfl|rfl
   .rw[i.zero];rfl
   .rw[i.one];rfl
  .have C:¬m<2:=λE=>h (w.2 E);rw[Cn,bv (by simp only;omega),Cn,bv (by simp only;omega)];rfl
 obtain⟨G,H,L,c⟩:=gn N j A k t n [] _ B (o6.nil N) o;refine AG.Gp func125 (by kernel_rfl) rfl (by simp) λwf F=>?_;rw[ntmps125];refine xW λK g=>?_;simp;apply g;refine E5 λK g=>?_;refine xO ?_;simp;refine vb (AI.dM 8 0 3 rfl rfl) ?_;simp;refine xJ ?_;simp;refine BY (g _ _ ?_);refine xW λK g=>?_;simp[Cz,Ep];apply g;refine xW λK g=>?_;simp;apply g;refine xW λK g=>?_;simp;apply g;(repeat refine xS ?_);refine FG λK g=>?_;refine xJ ?_;simp;refine AS.E0 (c) [6,1,7,4,5,0,3] rfl (by simp[P1];try rfl) ?_;simp[P1];(repeat((refine Cc ?_ ?_);(focus(simp;done));simp));refine BY (g _ _ ?_);(try simp only[B5]);refine xW λK g=>?_;simp;apply g;refine Aj ?_;(try simp only[xQ,reduceIte]);refine⟨_,_,_,gl 3 (xs:=(emit t []).map λv=>AU (ar (emit t []) v)) rfl (by simp),by simp,by simp[AB,Ce,kz],j1 1 (by simp)⟩
theorem Hf(a b:Ai):DZ (AU a) (AU b)=decide (a=b):=by
 cases a;cases b;rw[gI];simp[DZ,CT,AU]
section
variable {β:Type} {ev:β->V}
@[simp] theorem nQ(l:List (Ai×β))(a b c:Int):Cz (BV AU ev l) (.agg [.int .i64 a,.int .i64 b,.int .i64 c])=(look l ⟨a,b,c⟩).map ev:=FR Hf l ⟨a,b,c⟩
@[simp] theorem kD(l:List (Ai×β))(x:Ai):Cz (BV AU ev l) (AU x)=(look l x).map ev:=FR Hf l x
@[simp] theorem p9(l:List (Ai×Int))(a b c x:Int):Ep (BV AU (λx=>.d (.int .i64 x)) l) (.agg [.int .i64 a,.int .i64 b,.int .i64 c]) (.d (.int .i64 x))=BV AU (λx=>.d (.int .i64 x)) (Cx l ⟨a,b,c⟩ x):=EA (ev:=λx=>V.d (.int .i64 x)) Hf l ⟨a,b,c⟩ x
@[simp] theorem na(l:List (Ai×Bool))(a b c:Int)(x:Bool):Ep (BV AU (λx=>.d (.bool x)) l) (.agg [.int .i64 a,.int .i64 b,.int .i64 c]) (.d (.bool x))=BV AU (λx=>.d (.bool x)) (Cx l ⟨a,b,c⟩ x):=EA (ev:=λx=>V.d (.bool x)) Hf l ⟨a,b,c⟩ x
@[simp] theorem j6(l:List (Ai×Bool))(y:Ai)(x:Bool):Ep (BV AU (λx=>.d (.bool x)) l) (AU y) (.d (.bool x))=BV AU (λx=>.d (.bool x)) (Cx l y x):=EA (ev:=λx=>V.d (.bool x)) Hf l y x
@[simp] theorem bc(l:List (Ai×β)):Bh (.cells [.int .i64,.int .i64,.int .i64]) (BV AU ev l)=True:=eq_true (FH (by intro a;simp[Bz,Bv,CC,AU]) l)
@[simp] theorem kN(y:Ai):Bz (.cells [.int .i64,.int .i64,.int .i64]) (AU y)=true:=by simp[Bz,Bv,CC,AU]
end
def AL.Hk(d:AL)(n v:Int):Int:=if d.level n=v then(match d.nodes[(n - 2).toNat]? with|some x=>x.low|none=>0)else n
def AL.Hb(d:AL)(n v:Int):Int:=if d.level n=v then(match d.nodes[(n - 2).toNat]? with|some x=>x.high|none=>0)else n
theorem QK(d:AL)(n v:Int)(j:n<2+Z d.nodes)(q:v<64):Pure ao 297 [AB d,encI n,encI v] (.CX [encI (d.Hk n v),encI (d.Hb n v)]):=by
 refine hW func297 rfl rfl (by simp) λwf=>?_;simp[Bm,Di,DY]at wf;rw[ntmps297];apply yW;simp;refine xS (yS ?_);apply yJ;simp;refine Bq (IM d n j) rfl (by simp[xN]) (yJ ?_);simp;apply AP;simp;refine⟨λh=>?_,λh=>?_⟩
 .apply yW;simp;refine Aj ⟨_,_,a9,?_⟩;simp[AL.Hk,AL.Hb,h]
 .have g:¬n<2:=by intro g;simp[AL.level,g]at h;omega
  have k:b8 .i64 (n - 2)=n - 2:=wrap_i64 (by omega) (by omega);have i:(n - 2).toNat<Z d.nodes:=by omega
  have m:n - 2<(Z d.nodes:Int):=by omega
  have o:2<=n:=by omega
  apply xK;(repeat apply xS);refine yE (A7 16 []) (by kernel_rfl) ?_;simp;apply yA 0;simp[k,i,m,o];apply zT;simp[AL.Hk,AL.Hb,h,i]
def SP(f:eN)(g:Bool->Bool->Bool):Prop:=∀x y,Pure ao f [.bool x,.bool y] (.bool (g x y))
theorem G5:SP 224 and:=λx y=>by
 refine zP func224 9 rfl λwf=>?_;apply yW;simp;apply yW;simp;apply zT;try simp
theorem Ir:SP 227 or:=λx y=>by
 refine zP func227 9 rfl λwf=>?_;apply yW;simp;apply yW;simp;apply zT;try simp
theorem XZ:SP 228 (λx _=>!x):=λx y=>by
 refine zP func228 7 rfl λwf=>?_;apply yW;simp;apply yW;simp;apply zT;try simp
theorem V1{f:eN}{g:Bool->Bool->Bool}(h:SP f g)(x y z:Bool):AG ao 273 [.d (.bool x),.d (.bool y),.d (.bool z),.ptr 0 1 0 0] [.row J 1 [.fn (.func f) [] []]] (.d (.bool (g x y))) [.row J 1 [.fn (.func f) [] []]]:=by
 refine zC func273 12 rfl λwf i=>?_;apply yW;simp;(repeat apply xS);apply yT;apply yJ;simp;refine Bq (h x y) rfl (by simp) (yJ ?_);simp;apply Aj;refine⟨_,a9,?_⟩;simp[Aq]
theorem VS(d:AL):Pure ao 271 [AB d] (.CX [AB (if Z d.nodes>4096 then⟨[],0⟩else d),encI (if Z d.nodes>4096 then 2 else 0)]):=by
 refine zP func271 10 rfl λwf=>?_;apply yW;simp;refine xS (yW ?_);simp;apply AP;simp;refine⟨λh=>?_,λh=>?_⟩
 .have h:Z d.nodes>4096:=by omega
  apply yW;simp;refine Aj ⟨_,_,a9,?_⟩;simp[h,AB]
 .have h:¬Z d.nodes>4096:=by omega
  apply xK;apply yW;simp;apply zT;(try simp);have e:(if 4096<Z d.nodes then(⟨[],0⟩:AL)else d)=d:=bv (by omega);rw[e];exact⟨rfl,by omega⟩
def gX(N:List Ai)(kn:List (Ai×Int)):Sg:=
 [.row J 2 [.agg [.row 1 (Z N),.map 2]],.row (!N.isEmpty) 3 (N.map λx=>.d (AU x)),.map (BV AU (λx=>.d (.int .i64 x)) kn)]
theorem Qd:AG ao 295 [] [] (.ptr 2 1 0 0) [.map [],.row ap 3 [],.row J 2 [.agg [.row 1 0,.map 0]]]:=by
 refine zC func295 4 rfl λwf g=>?_;apply yW;simp;(repeat apply xS);apply yT;apply xO;simp;apply xO;simp;refine vb (AI.dM 2 0 3 rfl rfl) ?_;simp;apply yJ;simp;apply Aj;refine⟨_,a9,?_⟩;simp[Aq]
def Nw(N:List Ai)(kn:List (Ai×Int))(v lo hi:Int):List Ai×List (Ai×Int)×Int:=
 if lo=hi then(N,kn,lo)else match look kn ⟨v,lo,hi⟩with
  |some n=>(N,kn,n)
  |none=>(N++[⟨v,lo,hi⟩],Cx kn ⟨v,lo,hi⟩ (Z N+2),Z N+2)
theorem Zd(N:List Ai)(kn:List (Ai×Int))(v lo hi:Int)(m:Z N<2 ^ 30):
  AG ao 298 [.ptr 0 1 0 0,.d (encI v),.d (encI lo),.d (encI hi)] (gX N kn) (.d (encI (Nw N kn v lo hi).2.2)) (gX (Nw N kn v lo hi).1 (Nw N kn v lo hi).2.1):=by
 refine oF func298 (by kernel_rfl) rfl (by simp) λwf j=>?_;rw[ntmps298];unfold gX;apply yW;simp;refine xS (yW ?_);simp;refine AP ?_;simp;refine⟨λh=>?_,λh=>?_⟩
 .apply yW;simp;refine Aj ?_;(try simp only[yQ,reduceIte]);refine⟨_,rc (by simp[Nw,h]),?_⟩;simp[Aq,Nw,h]
 .refine xK ?_;apply yW;simp;refine yD (A7 11 []) (by kernel_rfl) ?_;simp;refine yA 0 ?_;simp;refine xS (yW ?_);simp;cases g:look kn ⟨v,lo,hi⟩with
  |some n=>
   refine AP ?_;simp;refine xK ?_;apply yW;simp;refine Aj ?_;(try simp only[yQ,reduceIte]);refine⟨_,fd 3 (by simp[Nw,h,g]) (by simp) (by simp) (by simp),?_⟩;simp[Aq,clean,Nw,h,g]
  |none=>
   have i:Z N<=1073741823:=by omega
   have k:b8 .i64 ((Z N:Int)+1+1)=Z N+2:=wrap_i64 (by omega) (by omega);refine AP ?_;simp;refine yD (A7 7 [15,16,18,21]) (by kernel_rfl) ?_;simp;(repeat(refine Ab.qI ?_ ?_;(·simp);simp));(repeat((refine Hs ?_ ?_);(focus(simp[a8];done));simp[a8]));((refine xr [J,ap,J,ap,ap,ap,ap] (by kernel_rfl) ?_ ?_);(focus(simp[i];done));simp);refine yA 2 ?_;simp;refine xX 125 (by kernel_rfl) ?_;simp;apply xM;apply yW;simp[k];refine yE (A7 6 [13]) (by kernel_rfl) ?_;simp;refine yA 0 ?_;simp;refine xX 63 (by kernel_rfl) ?_;simp;apply xM;apply yW;simp;refine Aj ?_;(try simp only[yQ,reduceIte]);refine⟨_,fd 3 (by simp[Nw,h,g,AU]) (by simp) (by simp) (by simp),?_⟩;simp[Aq,clean,Nw,h,g]
open Go.Proofs DT
structure BK(N:List Ai)(kn:List (Ai×Int)):Prop where
 oB:Pn N
 kn:∀b n,look kn b=some n↔∃k:Nat,N[k]?=some b/\n=k+2
theorem BK.nil:BK [] []:=⟨Pn.nil,λb n=>by simp⟩
theorem eC{N:List Ai}{kn:List (Ai×Int)}(h:BK N kn){v lo hi:Int}{s t:DT}(h0:0<=v)(m:v<=63)(A:s.Good)(F:t.Good)(G:v<s.level)(lt:v<t.level)
  (rs:Bf N s lo) (u:Bf N t hi):BK (Nw N kn v lo hi).1 (Nw N kn v lo hi).2.1/\(∃M,(Nw N kn v lo hi).1=N++M)/\Bf (Nw N kn v lo hi).1 (DT.mk v s t) (Nw N kn v lo hi).2.2/\(DT.mk v s t).Good/\∀k:Nat,Z N<=k->k<Z (Nw N kn v lo hi).1->(Nw N kn v lo hi).2.2=k+2:=by
 by_cases o:lo=hi
 .subst o;have e:s=t:=rs.uniq u;subst e;have em:DT.mk v s s=s:=by simp[DT.mk]
  simp only[Nw,ip];rw[em];exact⟨h,⟨[],by simp⟩,rs,A,λk m q=>absurd q (by omega)⟩
 .have H:s≠t:=λe=>by subst e;exact o (rs.inj h.oB.nodup u)
  have em:DT.mk v s t=.node v s t:=by simp[DT.mk,H]
  cases w:look kn ⟨v,lo,hi⟩with
  |some n=>
   have e:Nw N kn v lo hi=(N,kn,n):=by simp[Nw,o,w]
   rw[e,em];obtain⟨k,g,L⟩:=(h.kn _ _).1 w;exact⟨h,⟨[],by simp⟩,⟨k,L,lo,hi,g,rs,u⟩,⟨h0,m,H,G,lt,A,F⟩,λk m q=>absurd q (by simp only;omega)⟩
  |none=>
   have e:Nw N kn v lo hi=(N++[⟨v,lo,hi⟩],Cx kn ⟨v,lo,hi⟩ (Z N+2),(Z N:Int)+2):=by simp[Nw,o,w]
   rw[e,em];have i:(⟨v,lo,hi⟩:Ai)∉N:=λP=>by
    obtain⟨k,g,B⟩:=lm.1 P;have:=(h.kn ⟨v,lo,hi⟩ (k+2)).2 ⟨k,by rw[ej g,B],rfl⟩;rw[w]at this;cases this
   obtain⟨Q,R,S⟩:=h.oB.snoc h0 m A F G lt rs u o i;refine⟨⟨Q,λb n=>?_⟩,⟨_,rfl⟩,R,S,λk m q=>?_⟩
   .rw[Fc];by_cases C:b=⟨v,lo,hi⟩
    .subst C;rw[ca rfl];constructor
     .intro K;simp at K;exact⟨Z N,by simp,K.symm⟩
     .rintro⟨k,g,rfl⟩;by_cases E:k<Z N
      .rw[io E]at g;exact absurd (oj g) i
      .have j:=(gq.1 g).1;simp at j;have:k=Z N:=by omega
       subst this;rfl
    .rw[bv C,h.kn];constructor
     .rintro⟨k,g,rfl⟩;refine⟨k,?_,rfl⟩;rw[io (gq.1 g).1];exact g
     .rintro⟨k,g,rfl⟩;refine⟨k,?_,rfl⟩;by_cases E:k<Z N
      .rw[io E]at g;exact g
      .have j:=(gq.1 g).1;simp at j;have:k=Z N:=by omega
       subst this;simp at g;exact absurd g.symm C
   .simp at q;simp only;omega
theorem Bf.level{d:AL}{s:DT}{n:Int}(h:Bf d.nodes s n):d.level n=s.level:=by
 cases s with
 |leaf b=>have:=h.FQ.2 ⟨b,rfl⟩;simp[AL.level,this,Ok]
 |node v l r=>
  obtain⟨k,i,lo,hi,e,_,_⟩:=h;have:¬n<2:=by omega
  have g:(n - 2).toNat=k:=by omega
  simp[AL.level,this,g,e,Ok]
theorem Bf.lt{N:List Ai}{s:DT}{n:Int}(h:Bf N s n):n<2+Z N:=by have:=h.range;omega
theorem Bf.Hk{d:AL}{s:DT}{n v:Int}(h:Bf d.nodes s n)(m:v<64):Bf d.nodes (s.lo v) (d.Hk n v):=by
 unfold AL.Hk;rw[h.level];split
 .next e=>
  cases s with
  |leaf b=>simp[Ok]at e;omega
  |node w l r=>
   obtain⟨k,o,lo,hi,g,i,q⟩:=h;simp[Ok]at e;subst e;have j:(n - 2).toNat=k:=by omega
   simp[j,g,DT.lo];exact i
 .next e=>rw[Rr e];exact h
theorem Bf.Hb{d:AL}{s:DT}{n v:Int}(h:Bf d.nodes s n)(m:v<64):Bf d.nodes (s.hi v) (d.Hb n v):=by
 unfold AL.Hb;rw[h.level];split
 .next e=>
  cases s with
  |leaf b=>simp[Ok]at e;omega
  |node w l r=>
   obtain⟨k,o,lo,hi,g,q,i⟩:=h;simp[Ok]at e;subst e;have j:(n - 2).toNat=k:=by omega
   simp[j,g,DT.hi];exact i
 .next e=>rw[SK e];exact h
abbrev bG:=Int×Int×Int
def SM(t:bG):D:=.agg [.int .i64 t.1,.int .i64 t.2.1,.int .i64 t.2.2]
theorem pL(a b:bG):DZ (SM a) (SM b)=decide (a=b):=by
 obtain⟨g,h,i⟩:=a;obtain⟨b1,j,k⟩:=b;rw[gI];simp[DZ,CT,SM]
section
variable {β:Type} {ev:β->V}
@[simp] theorem wV(l:List (bG×β))(a b c:Int):Cz (BV SM ev l) (.agg [.int .i64 a,.int .i64 b,.int .i64 c])=(look l (a,b,c)).map ev:=FR pL l (a,b,c)
@[simp] theorem yM(l:List (bG×Int))(a b c x:Int):Ep (BV SM (λx=>.d (.int .i64 x)) l) (.agg [.int .i64 a,.int .i64 b,.int .i64 c]) (.d (.int .i64 x))=BV SM (λx=>.d (.int .i64 x)) (Cx l (a,b,c) x):=EA (ev:=λx=>V.d (.int .i64 x)) pL l (a,b,c) x
@[simp] theorem qJ(l:List (bG×β)):Bh (.cells [.int .i64,.int .i64,.int .i64]) (BV SM ev l)=True:=eq_true (FH (by intro a;simp[Bz,Bv,CC,SM]) l)
end
def uh:V:=.fn (.func 296) [] [.ptr 0 1 0 0,.ptr 1 1 0 0,.ptr 2 1 0 0,.ptr 3 1 0 0,.ptr 4 1 0 0]
def u9:V:=.fn (.func 273) [] [.ptr 9 1 0 0]
attribute [simp] uh u9
def Mw(f:eN)(a b c:AL)(N:List Ai)(kn:List (Ai×Int))(memo:List (bG×Int)):Sg:=
 [.row J 1 [u9],.row J 1 [.map 6],.row J 6 [.d (.agg [AV a.nodes,encI a.root,AV b.nodes,encI b.root,AV c.nodes,encI c.root])],.row J 1 [uh],.row J 1 [.ptr 5 1 0 0],.row J 2 [.agg [.row 7 (Z N),.map 8]],.map (BV SM (λx=>.d (.int .i64 x)) memo),.row (!N.isEmpty) 3 (N.map λx=>.d (AU x)),.map (BV AU (λx=>.d (.int .i64 x)) kn),.row J 1 [.fn (.func f) [] []]]
structure UT(g:Bool->Bool->Bool)(s0 s1 s2:DT)(N:List Ai)(r:Int)(t:DT):Prop where
 TA:Bf N t r
 HF:t.Good
 CG:∀c,t.CG c=g (s0.CG c) (s1.CG c)
 wx:min s0.level (min s1.level s2.level)<=t.level
structure CI(g:Bool->Bool->Bool)(a b c:AL)(N:List Ai)(kn:List (Ai×Int))(memo:List (bG×Int)):Prop extends BK N kn where
 memo:∀x y z r,look memo (x,y,z)=some r->∀s0 s1 s2,Bf a.nodes s0 x->Bf b.nodes s1 y->Bf c.nodes s2 z->s0.Good->s1.Good->s2.Good->∃t,UT g s0 s1 s2 N r t
 src:∀k:Nat,k<Z N->∃x y z s0 s1 s2 t,Bf a.nodes s0 x/\Bf b.nodes s1 y/\Bf c.nodes s2 z/\UT g s0 s1 s2 N (k+2) t
theorem UT.mono{g:Bool->Bool->Bool}{i j k t:DT}{N:List Ai}{r:Int}(h:UT g i j k N r t)(M:List Ai):UT g i j k (N++M) r t:=⟨h.TA.mono M,h.HF,h.CG,h.wx⟩
open Classical in
theorem CI.len{g:Bool->Bool->Bool}{a b c:AL}{N:List Ai}{kn:List (Ai×Int)}{memo:List (bG×Int)}(h:CI g a b c N kn memo):
  Z N<=(Z a.nodes+2) * (Z b.nodes+2) * (Z c.nodes+2):=by
 let f:Nat->Nat:=λk=>if i:k<Z N then
  ((h.src k i).choose.toNat * (Z b.nodes+2)+(h.src k i).choose_spec.choose.toNat) * (Z c.nodes+2)+(h.src k i).choose_spec.choose_spec.choose.toNat else 0
 have K:∀k,k<Z N->∃x y z o q u t,Bf a.nodes o x/\Bf b.nodes q y/\Bf c.nodes u z/\UT g o q u N (k+2) t/\f k=(x.toNat * (Z b.nodes+2)+y.toNat) * (Z c.nodes+2)+z.toNat:=λk i=>by
  obtain⟨o,q,u,t,v,w,F,E⟩:=(h.src k i).choose_spec.choose_spec.choose_spec;exact⟨_,_,_,o,q,u,t,v,w,F,E,by simp[f,i,NE]⟩
 have key:=It f (l:=List.range (Z N)) (n:=(Z a.nodes+2) * (Z b.nodes+2) * (Z c.nodes+2)) List.nodup_range (λk i=>?_) (λk i k' L e=>?_)
 .simpa using key
 .obtain⟨x,y,z,o,q,u,t,v,w,F,E,M⟩:=K k (by simpa using i);have r1:=v.range;have r2:=w.range;have r3:=F.range;rw[M];have h1:x.toNat+1<=Z a.nodes+2:=by omega
  have h2:y.toNat+1<=Z b.nodes+2:=by omega
  have h3:z.toNat+1<=Z c.nodes+2:=by omega
  generalize x.toNat=X at *;generalize y.toNat=Y at *;generalize z.toNat=zQ0 at *;generalize Z a.nodes+2=A at *;generalize Z b.nodes+2=B at *;generalize Z c.nodes+2=C at *;have P:X * B+Y+1<=A * B:=by
   have:=At B h1;rw[oE]at this;omega
  have:=At C P;rw[oE]at this;omega
 .obtain⟨x,y,z,o,q,u,t,v,w,F,E,M⟩:=K k (by simpa using i);obtain⟨Q,R,z',s0',s1',s2',t',G,H,S,j,T⟩:=K k' (by simpa using L);have r1:=v.range;have r2:=w.range;have r3:=F.range;have r1':=G.range;have r2':=H.range;have r3':=S.range;rw[M,T]at e;have ez:z.toNat=z'.toNat:=by
   have:=l5 (·% (Z c.nodes+2)) e;simp[acM _ (Z c.nodes+2)]at this;rwa [sw (by omega),sw (by omega)]at this
  rw[ez]at e;have W:x.toNat * (Z b.nodes+2)+y.toNat=Q.toNat * (Z b.nodes+2)+R.toNat:=ae2 (m:=Z c.nodes+2) (by omega) (by omega);have U:y.toNat=R.toNat:=by
   have:=l5 (·% (Z b.nodes+2)) W;simp[acM _ (Z b.nodes+2)]at this;rwa [sw (by omega),sw (by omega)]at this
  rw[U]at W;have ex:x.toNat=Q.toNat:=ae2 (m:=Z b.nodes+2) (by omega) (by omega);have ex:x=Q:=by omega
  have U:y=R:=by omega
  subst ex;subst U;have e0:=v.uniq G;have P:=w.uniq H;subst e0;subst P;have et:t=t':=DT.unique E.HF j.HF λc=>by rw[E.CG,j.CG]
  subst et;have:=E.TA.inj h.oB.nodup j.TA;omega
end Go.Koi
open Go.Koi.DT renaming level->Ok
namespace Go.Koi
open Go.Proofs Tryz DT
def V3(x y z:Int):V:=.agg [.d (.int .i64 x),.d (.int .i64 y),.d (.int .i64 z)]
attribute [simp] V3
def kW(x y z:Int):List V:=[V3 x y z,.ptr 0 1 0 0,.ptr 1 1 0 0,.ptr 2 1 0 0,.ptr 3 1 0 0,.ptr 4 1 0 0]
theorem Q9{f:FuncId}{g:Bool->Bool->Bool}(k:SP f g)(a b c:AL){x y z:Int}{N:List Ai}{kn:List (Ai×Int)}{memo:List (bG×Int)}
  (h:x<2) (i:y<2) (j:z<2):
  AG ao 296 (kW x y z) (Mw f a b c N kn memo) (.d (encI (if g (x==1) (y==1)then 1 else 0))) (Mw f a b c N kn memo):=by
 unfold kW;refine zC func296 97 rfl λwf m=>?_;unfold Mw;apply yW;simp;refine xS (yW ?_);simp[h,i,j];apply AP;simp;refine xS (yS ?_);apply yJ;simp;refine xF (V1 k (x==1) (y==1) (z==1)) [9] rfl ?_;simp;apply yJ;simp;cases o:g (x==1) (y==1)with
 |true=>
  apply AP;simp;apply yW;simp;apply Aj;refine⟨_,j1 10 (by simp),?_⟩;simp[Aq,clean]
 |false=>
  apply AP;simp;apply xK;apply yW;simp;apply Aj;refine⟨_,j1 10 (by simp),?_⟩;simp[Aq,clean]
theorem Z1{f:FuncId}(a b c:AL){x y z r:Int}{N:List Ai}{kn:List (Ai×Int)}{memo:List (bG×Int)}
  (h:¬(x<2/\y<2/\z<2)) (g:look memo (x,y,z)=some r):
  AG ao 296 (kW x y z) (Mw f a b c N kn memo) (.d (encI r)) (Mw f a b c N kn memo):=by
 unfold kW;refine zC func296 97 rfl λwf i=>?_;unfold Mw;apply yW;simp;refine xS (yS ?_);apply yJ;simp;apply AP;simp;refine⟨λj k m=>absurd ⟨j,k,m⟩ h,λ_=>?_⟩
 .apply xK;refine xS (yW ?_);simp;apply yW;simp[g];apply AP;simp;apply yW;simp;apply Aj;refine⟨_,j1 10 (by simp),?_⟩;simp[Aq,clean]
def sv(i j l:Int):Int:=if l<(if j<i then j else i)then l else(if j<i then j else i)
theorem cx{f:FuncId}(a b c:AL){x y z:Int}{N q j:List Ai}{kn k g:List (Ai×Int)}{memo u m2:List (bG×Int)}{r1 r2 v:Int}
  (F:¬(x<2/\y<2/\z<2)) (w:look memo (x,y,z)=none)
  (A:x<2+Z a.nodes) (B:y<2+Z b.nodes) (C:z<2+Z c.nodes) (G:sv (a.level x) (b.level y) (c.level z)=v) (h:v<64) (m:Z j<2 ^ 30)
  (c1:AG ao 296 (kW (a.Hk x v) (b.Hk y v) (c.Hk z v)) (Mw f a b c N kn memo) (.d (encI r1)) (Mw f a b c q k u))
  (E:AG ao 296 (kW (a.Hb x v) (b.Hb y v) (c.Hb z v)) (Mw f a b c q k u) (.d (encI r2)) (Mw f a b c j g m2)):
  AG ao 296 (kW x y z) (Mw f a b c N kn memo) (.d (encI (Nw j g v r1 r2).2.2)) (Mw f a b c (Nw j g v r1 r2).1 (Nw j g v r1 r2).2.1 (Cx m2 (x,y,z) (Nw j g v r1 r2).2.2)):=by
 unfold kW at c1 E⊢;refine zC func296 97 rfl λwf H=>?_;unfold Mw;apply yW;simp;refine xS (yS ?_);apply yJ;simp;apply AP;simp;refine⟨λK L M=>absurd ⟨K,L,M⟩ F,λ_=>?_⟩
 .apply xK;refine xS (yW ?_);simp;apply yW;simp[w];apply AP;simp;apply xK;refine yD (A7 17 []) (by kernel_rfl) ?_;simp;apply yA 2;simp;apply yA 0;simp;refine j0 (IM a x A) rfl (by simp[xN]) ?_;simp;apply yA 0;simp;refine j0 (IM b y B) rfl (by simp[xN]) ?_;simp;apply yA 0;simp;refine j0 (IM c z C) rfl (by simp[xN]) ?_;simp;apply yA 0;simp;(repeat apply xS);apply yV;simp;have o:(if c.level z<(if b.level y<a.level x then b.level y else a.level x)then c.level z else(if b.level y<a.level x then b.level y else a.level x))=v:=G;simp[o];refine xS (yW ?_);simp;apply Bo;refine FO 3 (λi tm S=>tm 1=.ptr 0 1 0 0/\tm 2=.ptr 1 1 0 0/\tm 3=.ptr 2 1 0 0/\tm 4=.ptr 3 1 0 0/\tm 5=.ptr 4 1 0 0/\tm 6=.ptr 10 1 0 0/\tm 10=.d (encI v)/\tm 11=.ptr 11 1 0 0/\tm 12=.ptr 12 1 0 0/\tm 64=.d (encI i)/\S=Mw f a b c N kn memo++[.row J 3 [V3 x y z],.row J 3 [V3 (if 0<i then a.Hk x v else 0) (if 1<i then b.Hk y v else 0) (if 2<i then c.Hk z v else 0)],.row J 3 [V3 (if 0<i then a.Hb x v else 0) (if 1<i then b.Hb y v else 0) (if 2<i then c.Hb z v else 0)]]) (i0:=0) (by omega) (by simp[Mw]) ?_;rintro i tm S hi ⟨t1,t2,t3,t4,t5,t6,t10,t11,t12,t64,rfl⟩;unfold Mw;rcases(by omega:i=0\/i=1\/i=2\/i=3)with rfl|rfl|rfl|rfl
  .apply yW;simp[t64];apply xC;simp;apply xK;apply xB;apply yW;simp[t64];refine yE (A7 14 [29,30,33]) (by kernel_rfl) ?_;simp;apply yA 2;simp[t3,t6,t10];refine j0 (QK a x v A h) rfl (by simp[xN]) ?_;simp;apply yA 2;simp[t11];apply xX 12285 (by kernel_rfl);simp;apply yA 2;simp[t12];apply xX 7 (by kernel_rfl);simp;apply xM;apply yV;simp[t64];refine⟨_,_,a9,?_⟩;simp[t1,t2,t3,t4,t5,t6,t10,t11,t12,pn,pi,pm]
  .apply yW;simp[t64];apply xC;simp;apply xK;apply xB;apply yW;simp[t64];refine yE (A7 14 [29,30,33]) (by kernel_rfl) ?_;simp;apply yA 2;simp[t3,t6,t10];refine j0 (QK b y v B h) rfl (by simp[xN]) ?_;simp;apply yA 2;simp[t11];apply xX 12285 (by kernel_rfl);simp;apply yA 2;simp[t12];apply xX 7 (by kernel_rfl);simp;apply xM;apply yV;simp[t64];refine⟨_,_,a9,?_⟩;simp[t1,t2,t3,t4,t5,t6,t10,t11,t12,pn,pi,pm]
  .apply yW;simp[t64];apply xC;simp;apply xK;apply xB;apply yW;simp[t64];refine yE (A7 14 [29,30,33]) (by kernel_rfl) ?_;simp;apply yA 2;simp[t3,t6,t10];refine j0 (QK c z v C h) rfl (by simp[xN]) ?_;simp;apply yA 2;simp[t11];apply xX 12285 (by kernel_rfl);simp;apply yA 2;simp[t12];apply xX 7 (by kernel_rfl);simp;apply xM;apply yV;simp[t64];refine⟨_,_,a9,?_⟩;simp[t1,t2,t3,t4,t5,t6,t10,t11,t12,pn,pi,pm]
  .apply yW;simp[t64];apply xC;simp;apply Ci;apply yS;apply yJ;simp[t4,t11];refine xY (c1) _ rfl rfl ?_;simp[Mw];apply yJ;simp;refine yD (A7 5 [11,13,14]) (by kernel_rfl) ?_;simp;apply yA 2;simp[t4,t5,t10,t12];refine xL 3 _ (E) (by kernel_rfl) rfl rfl ?_;simp[Mw];refine ul (xT [1,1,1]) (Zd j g v r1 r2 m) [5,7,8] (by kernel_rfl) rfl (by simp[gX];try rfl) ?_;simp[gX];apply yA 2;simp;apply yW;simp[t2,t6];apply yW;simp;apply Aj;refine⟨_,j1 10 (by simp),?_⟩;simp[Aq,clean]
theorem nv(i j l:Int):sv i j l=min i (min j l):=by unfold sv;split<;>split<;>omega
theorem nY{f:FuncId}{g:Bool->Bool->Bool}(hf:SP f g)(a b c:AL)(hbox:(Z a.nodes+2) * (Z b.nodes+2) * (Z c.nodes+2)<2 ^ 30):
  ∀(m:Nat) (i j o:DT) (x y z:Int) (N:List Ai) (kn:List (Ai×Int)) (memo:List (bG×Int)),i.size+j.size+o.size<=m->Bf a.nodes i x->Bf b.nodes j y->Bf c.nodes o z->i.Good->j.Good->o.Good->CI g a b c N kn memo->∃Y W w r t,CI g a b c Y W w/\(∃M,Y=N++M)/\UT g i j o Y r t/\AG ao 296 (kW x y z) (Mw f a b c N kn memo) (.d (encI r)) (Mw f a b c Y W w):=by
 intro m;induction m with
 |zero=>
  intro i j o x y z N kn memo hm h0 q A F G H U;obtain⟨E,rfl⟩:=Dx (t:=i) (by omega);obtain⟨b1,rfl⟩:=Dx (t:=j) (by omega);obtain⟨b2,rfl⟩:=Dx (t:=o) (by omega);have hx:=h0.FQ.2 ⟨E,rfl⟩;have hy:=q.FQ.2 ⟨b1,rfl⟩;have K:=A.FQ.2 ⟨b2,rfl⟩;have e0:(x==1)=E:=by simp[Bf]at h0;subst h0;cases E<;>rfl
  have T:(y==1)=b1:=by simp[Bf]at q;subst q;cases b1<;>rfl
  have hb:=Q9 hf a b c (N:=N) (kn:=kn) (memo:=memo) hx hy K;rw[e0,T]at hb;exact⟨N,kn,memo,_,.leaf (g E b1),U,⟨[],by simp⟩,⟨by simp[Bf],trivial,λc=>rfl,by simp[Ok]⟩,hb⟩
 |succ m ih=>
  intro i j o x y z N kn memo hm h0 q A F G H U;by_cases K:i.size=0/\j.size=0/\o.size=0
  .obtain⟨E,rfl⟩:=Dx K.1;obtain⟨b1,rfl⟩:=Dx K.2.1;obtain⟨b2,rfl⟩:=Dx K.2.2;have hx:=h0.FQ.2 ⟨E,rfl⟩;have hy:=q.FQ.2 ⟨b1,rfl⟩;have K:=A.FQ.2 ⟨b2,rfl⟩;have e0:(x==1)=E:=by simp[Bf]at h0;subst h0;cases E<;>rfl
   have T:(y==1)=b1:=by simp[Bf]at q;subst q;cases b1<;>rfl
   have hb:=Q9 hf a b c (N:=N) (kn:=kn) (memo:=memo) hx hy K;rw[e0,T]at hb;exact⟨N,kn,memo,_,.leaf (g E b1),U,⟨[],by simp⟩,⟨by simp[Bf],trivial,λc=>rfl,by simp[Ok]⟩,hb⟩
  .have hn:¬(x<2/\y<2/\z<2):=λ⟨a1,a2,a3⟩=>by
    obtain⟨E,rfl⟩:=h0.FQ.1 a1;obtain⟨b1,rfl⟩:=q.FQ.1 a2;obtain⟨b2,rfl⟩:=A.FQ.1 a3;exact K ⟨rfl,rfl,rfl⟩
   cases hl:look memo (x,y,z)with
   |some r=>
    obtain⟨t,X⟩:=U.memo x y z r hl i j o h0 q A F G H;exact⟨N,kn,memo,r,t,U,⟨[],by simp⟩,X,Z1 a b c hn hl⟩
   |none=>
    obtain⟨v,hv⟩:∃v,v=min i.level (min j.level o.level):=⟨_,rfl⟩;have hl0:=Pc F;have hl1:=Pc G;have hl2:=Pc H;have B:∀t:DT,t.Good->0<=t.level:=λt X=>by
     by_cases e:t.size=0
     .obtain⟨b,rfl⟩:=Dx e;simp[Ok]
     .exact(FV X e).1
    have h:v<=63:=by
     by_cases e0:i.size=0
     .by_cases T:j.size=0
      .have:=FV H (λe2=>K ⟨e0,T,e2⟩);omega
      .have:=FV G T;omega
     .have:=FV F e0;omega
    have hv0:0<=v:=by have:=B i F;have:=B j G;have:=B o H;omega
    have d0:=Lg i v;have d1:=Lg j v;have d2:=Lg o v;have u0:=L7 i v;have u1:=L7 j v;have u2:=L7 o v;have u:i.level=v\/j.level=v\/o.level=v:=by omega
    have hdl:(i.lo v).size+(j.lo v).size+(o.lo v).size<=m:=by
     rcases u with e|e|e
     .have:=HS e (by omega);omega
     .have:=HS e (by omega);omega
     .have:=HS e (by omega);omega
    have hdh:(i.hi v).size+(j.hi v).size+(o.hi v).size<=m:=by
     rcases u with e|e|e
     .have:=HO e (by omega);omega
     .have:=HO e (by omega);omega
     .have:=HO e (by omega);omega
    obtain⟨N1,kn1,m1,r1,t1,hI1,⟨M1,T⟩,L,c1⟩:=ih (i.lo v) (j.lo v) (o.lo v) _ _ _ N kn memo hdl (h0.Hk (by omega)) (q.Hk (by omega)) (A.Hk (v:=v) (by omega)) (MZ F v) (MZ G v) (MZ H v) U;obtain⟨N2,kn2,m2,r2,t2,P,⟨M2,e2⟩,Q,c2⟩:=ih (i.hi v) (j.hi v) (o.hi v) _ _ _ N1 kn1 m1 hdh (h0.Hb (by omega)) (q.Hb (by omega)) (A.Hb (v:=v) (by omega)) (Mi F v) (Mi G v) (Mi H v) hI1;have hN2:Z N2<2 ^ 30:=by have:=P.len;omega
    have k1:v<t1.level:=by
     have:=L.wx;have:=Ov F (v:=v) (by omega) h;have:=Ov G (v:=v) (by omega) h;have:=Ov H (v:=v) (by omega) h;omega
    have k2:v<t2.level:=by
     have:=Q.wx;have:=PE F (v:=v) (by omega) h;have:=PE G (v:=v) (by omega) h;have:=PE H (v:=v) (by omega) h;omega
    have hb:=eC P.toBK hv0 h L.HF Q.HF k1 k2 (e2▸L.TA.mono M2) Q.TA;have hc:=cx (f:=f) a b c hn hl h0.lt q.lt A.lt (by rw[nv,h0.level,q.level,A.level,<-hv]) (by omega) hN2 c1 c2;generalize Nw N2 kn2 v r1 r2=R at hb hc;obtain⟨N3,kn3,r3⟩:=R;simp only at hb hc;obtain⟨b1,⟨M3,e3⟩,b3,b4,b5⟩:=hb;have C:UT g i j o N3 r3 (DT.mk v t1 t2):=by
     refine⟨b3,b4,λcc=>?_,?_⟩
     .rw[rL,L.CG,Q.CG,RD (t:=i) v,RD (t:=j) v];cases cc v<;>rfl
     .rw[<-hv];exact fO k1
    refine⟨N3,kn3,_,r3,_,⟨b1,λx' y' z' r' S u0 u1 u2 q0 q1 q2 w0 w1 w2=>?_,λk hk=>?_⟩,⟨M1++M2++M3,by rw[e3,e2,T];simp⟩,C,hc⟩
    .rw[Fc]at S;split at S
     .next e=>
      cases S;simp at e;obtain⟨rfl,rfl,rfl⟩:=e;rw[q0.uniq h0,q1.uniq q,q2.uniq A];exact⟨_,C⟩
     .obtain⟨t,X⟩:=P.memo x' y' z' r' S u0 u1 u2 q0 q1 q2 w0 w1 w2;exact⟨t,e3▸X.mono M3⟩
    .by_cases hk2:k<Z N2
     .obtain⟨x',y',z',u0,u1,u2,t,q0,q1,q2,q3⟩:=P.src k hk2;exact⟨x',y',z',u0,u1,u2,t,q0,q1,q2,e3▸q3.mono M3⟩
     .have:=b5 k (by omega) hk;subst this;exact⟨x,y,z,i,j,o,_,h0,q,A,C⟩
theorem UJ(N:List Ai)(kn:List (Ai×Int))(g:N.Nodup)(h:Z N<=2 ^ 30)(t:DT)(n:Int)(i:Bf N t n):
  AG ao 125 [.ptr 0 1 0 0,.d (encI n)] (gX N kn) (.d (AB (Ce t))) [.row J 2 [.agg [.d (AV N),.any]],.BT (N.map AU),.map (BV AU (λx=>.d (.int .i64 x)) kn)]:=by
 refine AG.pre (λn=>(gl 1 (xs:=N.map AU) rfl (by simp)).trans (AI.SQ 0 (sz:=2) (els:=[.agg [.row 1 (Z N),.map 2]]) [.agg [.d (AV N),.any]] (by simp[gX]) (by simp[gX]))) ?_;simp[gX,List.set];exact(Oz N g h J t n i).Mv _ rfl (by simp) (by simp) (by simp) (by simp)
def Valid(d:AL):Prop:=∃t:DT,t.Good/\d=Ce t
theorem Oj{f:FuncId}{g:Bool->Bool->Bool}(w:SP f g)(i j:DT)(A:i.Good)(B:j.Good)
  (m:(Z (Ce i).nodes+2) * (Z (Ce j).nodes+2) * 2<2 ^ 30):
  ∃t:DT,t.Good/\(∀c,t.CG c=g (i.CG c) (j.CG c))/\AG ao 272 [.agg [.d (AV (Ce i).nodes),.d (encI (Ce i).root),.d (AV (Ce j).nodes),.d (encI (Ce j).root),.full [],.d (encI 0)],.fn (.func 273) [] [.ptr 0 1 0 0]]
    [.row J 1 [.fn (.func f) [] []]] (.d (AB (Ce t))) [.row J 1 [.fn (.func f) [] []]]:=by
 have r2:Bf (⟨[],0⟩:AL).nodes (.leaf ap) 0:=by simp[Bf]
 obtain⟨N,kn,memo,r,t,u,-,o,v⟩:=nY w (Ce i) (Ce j) ⟨[],0⟩ (by simpa using m) _ i j (.leaf ap) (Ce i).root (Ce j).root 0 [] [] [] (c9 _) (Fp i) (Fp j) r2 A B trivial
  ⟨BK.nil,λx y z r h=>by simp at h,λk C=>absurd C (by simp)⟩
 refine⟨t,o.HF,o.CG,?_⟩;unfold kW at v;have q:Z N<=2 ^ 30:=by have:=u.len;simp at this;omega
 refine zD func272 25 rfl λwf E=>?_;apply yW;simp;apply yS;apply yJ;simp;refine xF (Qd) [] rfl ?_;simp;apply yJ;simp;apply yW;simp;apply yW;simp;apply yW;simp;refine gs (AI.SQ 1 (sz:=6) [.d (.agg [AV (Ce i).nodes,encI (Ce i).root,AV (Ce j).nodes,encI (Ce j).root,.sl [],encI 0])] rfl (by simp)) ?_;simp;(repeat apply xS);refine yE (A7 12 [25,27,29]) (by kernel_rfl) ?_;simp;apply yA 2;simp;refine ul (xT [1,0,0,0,0,0,0,0,0,0,1,0]) (v) [2,9,1,10,7,6,8,5,4,0] (by kernel_rfl) rfl (by simp[Mw];try rfl) ?_;simp[Mw];refine ul (xT [0,0,0,0,0,0,0,0,0,1]) (UJ N kn u.oB.nodup q t r o.TA) [6,5,4] (by kernel_rfl) rfl (by simp[gX];try rfl) ?_;simp;apply xX 511 (by kernel_rfl);simp;apply xM;apply Aj;refine⟨_,_,_,a9,by simp,by simp,j1 1 (by simp)⟩
open Go.Proofs DT
def PR(L:List DT)(k:Nat)(t:DT):Prop:=(∃b,t=.leaf b)\/∃j,j<k/\L[j]?=some t
def Ord(L:List DT):Prop:=∀(k:Nat) v l h,L[k]?=some (.node v l h)->PR L k l/\PR L k h
theorem PR.mono{L:List DT}{k:Nat}{t:DT}(h:PR L k t)(m:k<=Z L)(M:List DT):PR (L++M) k t:=by
 rcases h with h|⟨j,g,i⟩
 .exact .inl h
 .exact .inr ⟨j,g,by rw[io (by omega)];exact i⟩
theorem HE.yr{L:List DT}{t:DT}(h:HE L t):PR L (Z L) t:=by
 rcases h with h|h
 .exact .inl h
 .obtain⟨j,hj,e⟩:=lm.1 h;exact .inr ⟨j,hj,by rw[ej hj,e]⟩
theorem Ord.nil:Ord []:=λk v l h e=>by simp at e
theorem jO(t:DT):∀L,Ord L->Ord (emit t L):=by
 induction t with
 |leaf b=>intro L h;exact h
 |node v l h j m=>
  intro L o;unfold emit;split
  .exact o
  .have q:=m _ (j L o);intro k w a b g;by_cases u:k<Z (emit h (emit l L))
   .rw[io u]at g;have:=q k w a b g;exact⟨this.1.mono (by omega) _,this.2.mono (by omega) _⟩
   .have i:=(gq.1 g).1;simp at i;have A:k=Z (emit h (emit l L)):=by omega
    subst A;simp[DT.node.injEq]at g;obtain⟨rfl,rfl,rfl⟩:=g;exact⟨(Mt h (H6 l L)).yr.mono (c9 _) _,(H6 h _).yr.mono (c9 _) _⟩
theorem ZJ(t:DT):t.Good->∀L,(∀x∈L,x.Good)->∀x∈emit t L,x.Good:=by
 induction t with
 |leaf b=>intro _ L h;exact h
 |node v l h i j=>
  intro k L m;unfold emit;split
  .exact m
  .intro x g;rcases fi.1 g with g|g
   .exact j k.2.2.2.2.2.2 _ (i k.2.2.2.2.2.1 L m) x g
   .simp at g;subst g;exact k
theorem V9(t:DT):∀L:List DT,L.Nodup->(emit t L).Nodup:=by
 induction t with
 |leaf b=>intro L h;exact h
 |node v l h g i=>
  intro L j;unfold emit;split
  .exact j
  .next hi=>
   rw[Ks];refine⟨i _ (g L j),by simp,?_⟩;intro a ha b hb e;simp at hb;subst e;subst hb;rcases Lf _ _ _ ha with ha|ha
   .rcases Lf _ _ _ ha with ha|ha
    .exact hi ha
    .simp[DT.size]at ha;omega
   .simp[DT.size]at ha;omega
theorem RX(t:DT):∀L,(∀x∈L,∃v l h,x=DT.node v l h)->∀x∈emit t L,∃v l h,x=DT.node v l h:=by
 induction t with
 |leaf b=>intro L h;exact h
 |node v l h i j=>
  intro L k;unfold emit;split
  .exact k
  .intro x g;rcases fi.1 g with g|g
   .exact j _ (i L k) x g
   .simp at g;exact⟨v,l,h,g⟩
def NB(d:AL)(k:Nat)(b:Ai):Prop:=
 0<=b.var/\b.var<=63/\0<=b.low/\0<=b.high/\b.low<=k+1/\b.high<=k+1/\b.low≠b.high/\b.var<d.level b.low/\b.var<d.level b.high
theorem XP{L:List DT}{k:Nat}{t:DT}(g:L.Nodup)(h:PR L k t):num L t<=k+1:=by
 cases t with
 |leaf b=>simp[num];cases b<;>simp<;>omega
 |node v l r=>
  rcases h with⟨b,hb⟩|⟨j,m,i⟩
  .exact absurd hb (by simp)
  .obtain⟨hj,e⟩:=gq.1 i;have:L.idxOf (DT.node v l r)=j:=by
    have:=g.idxOf_getElem j hj;rwa [e]at this
   simp[num,this];omega
theorem dT{t:DT}(F:t.Good):(Ce t).nodes.Nodup/\(∀k b,(Ce t).nodes[k]?=some b->NB (Ce t) k b)/\0<=(Ce t).root/\(Ce t).root<=Z (Ce t).nodes+1:=by
 have o:=J3 t [] IA.nil;have G:=jO t [] Ord.nil;have H:=ZJ t F [] (λx h=>absurd h (by simp));have q:=V9 t [] ac0;have u:=RX t [] (λx h=>absurd h (by simp));have K:=Mz (H6 t []);have i:(Ce t).nodes=(emit t []).map (ar (emit t [])):=rfl;have w:(Ce t).root=num (emit t []) t:=rfl;rw[w];have g:∀s,HE (emit t []) s->Bf (Ce t).nodes s (num (emit t []) s):=λs L=>by rw[i];exact RQ o L
 refine⟨?_,λk b B=>?_,K.1,by rw[i,y3];omega⟩
 .rw[i];refine acW.2 (q.imp_of_mem λ{x y} j C M e=>M ?_);obtain⟨v,l,h,rfl⟩:=u x j;obtain⟨T,N,P,rfl⟩:=u y C;simp[ar,Ai.mk.injEq]at e;obtain⟨rfl,Q,R⟩:=e;have c1:=o _ _ _ j;have E:=o _ _ _ C;have:=(g l c1.1).uniq (Q▸g N E.1);have:=(g h c1.2).uniq (R▸g P E.2);subst_vars;rfl
 .rw[i,abL,In]at B;obtain⟨x,j,rfl⟩:=B;have A:=oj j;obtain⟨v,l,h,rfl⟩:=u x A;have c1:=o _ _ _ A;have o1:=G _ _ _ _ j;have m:=H _ A;have r1:=Mz c1.1;have r2:=Mz c1.2;refine⟨m.1,m.2.1,r1.1,r2.1,XP q o1.1,XP q o1.2,λe=>m.2.2.1 ((g l c1.1).uniq ?_),?_,?_⟩
  .have S:num (emit t []) l=num (emit t []) h:=e;rw[S];exact g h c1.2
  .simp[ar];rw[(g l c1.1).level];exact m.2.2.2.1
  .simp[ar];rw[(g h c1.2).level];exact m.2.2.2.2.1
theorem Qu{d:AL}(h:d.nodes.Nodup)(j:∀k b,d.nodes[k]?=some b->NB d k b):Pn d.nodes:=by
 refine⟨h,λk=>?_⟩;induction k using Nat.strongRecOn with
 |_ k m=>
  intro i;obtain⟨f1,f2,f3,f4,f5,f6,f7,f8,f9⟩:=j k _ (ej i);have get:∀n:Int,0<=n->n<=k+1->∃s,s.Good/\Bf d.nodes s n:=λn h0 v=>by
   by_cases e0:n=0
   .subst e0;exact⟨.leaf ap,trivial,by simp[Bf]⟩
   by_cases o:n=1
   .subst o;exact⟨.leaf J,trivial,by simp[Bf]⟩
   have:=m (n - 2).toNat (by omega) (by omega);rwa [show(((n - 2).toNat:Int)+2)=n by omega]at this
  obtain⟨s,q,rs⟩:=get _ f3 f5;obtain⟨t,u,g⟩:=get _ f4 f6;refine⟨.node d.nodes[k].var s t,⟨f1,f2,λe=>f7 ?_,?_,?_,q,u⟩,⟨k,rfl,_,_,ej i,rs,g⟩⟩
  .subst e;exact rs.inj h g
  .rw[<-rs.level];exact f8
  .rw[<-g.level];exact f9
open Classical in
noncomputable def F7(d:AL):Int:=if Z d.nodes>4096 then 2 else if Valid d then 0 else 20
theorem Om{t:DT}(h:F7 (Ce t)=0):Z (Ce t).nodes<=4096:=by
 unfold F7 at h;split at h
 .simp at h
 .omega
theorem NM{d:AL}(h:F7 d=0):Valid d:=by
 unfold F7 at h;split at h
 .simp at h
 .split at h
  .assumption
  .simp at h
theorem Og{d:AL}(h:Valid d):Pn d.nodes/\(∀k b,d.nodes[k]?=some b->NB d k b)/\0<=d.root/\d.root<=Z d.nodes+1:=by
 obtain⟨t,i,rfl⟩:=h;obtain⟨j,g,m,o⟩:=dT i;exact⟨Qu j g,g,m,o⟩
theorem Z3{α:Type}[DecidableEq α](l:List α)(b:α):(look (l.map λb=>(b,J)) b).getD ap=J↔b∈l:=by
 induction l with
 |nil=>simp
 |cons x l g=>
  rw[ii,Cn];by_cases h:x=b
  .subst h;simp
  .have i:¬b=x:=λe=>h e.symm;simp[h,g,i,false_or]
theorem PM{α:Type}[DecidableEq α]{l:List α}{b:α}(h:b∉l):look (l.map λb=>(b,J)) b=none:=by
 rw[Q0];simp;exact h
abbrev pb:=@List.map_take
theorem ZR{α:Type}[DecidableEq α]{l:List α}{i:Nat}(hi:i<Z l)(h:l[i]∉l.take i):
  Cx ((l.map λb=>(b,J)).take i) l[i] J=(l.map λb=>(b,J)).take (i+1):=by
 rw[Lt _ (by rw[<-pb];exact PM h)];rw[<-pb,<-pb (i:=i+1),pt hi,abZ];rfl
theorem L5(d:AL):Pure ao 34 [AB d] (encI (F7 d)):=by
 refine hW func34 (by kernel_rfl) rfl (by simp) λwf=>?_;simp[Bm,Di,DY]at wf;rw[ntmps34];refine xW λK m=>?_;simp;apply m;refine xS (xW λK m=>?_);simp;apply m;refine AP ?_;simp;refine⟨λh=>?_,λh=>?_⟩
 .refine xW λK m=>?_;simp;apply m;refine Aj ⟨_,_,a9,?_⟩;(try simp);have:Z d.nodes>4096:=by omega
  simp[F7,this]
 .have P:¬Z d.nodes>4096:=by omega
  have o:∀p:Prop,(Valid d↔p)->(p->F7 d=0)/\(¬p->F7 d=20):=λp W=>⟨λv=>by simp only[F7,bv P];rw[ca (W.2 v)],λv=>by simp only[F7,bv P];rw[bv (λE=>v (W.1 E))]⟩;refine xK ?_;refine xW λK m=>?_;simp;apply m;refine xS (xW λK m=>?_);simp;apply m;refine Bo ?_;refine FO (Z d.nodes) (λi tm S=>tm 1=.ptr 0 1 0 0/\tm 3=.map 1/\tm 13=.d (AV d.nodes)/\tm 14=.d (encI (Z d.nodes))/\tm 15=.d (encI i)/\S=[.row J 2 [.d (AB d)],.map (BV AU (λx=>.d (.bool x)) ((d.nodes.map λb=>(b,J)).take i))]/\(d.nodes.take i).Nodup/\∀k b,k<i->d.nodes[k]?=some b->NB d k b) (er _) (by simp) ?_;rintro i tm S hi ⟨t1,t3,t13,t14,t15,rfl,w,H⟩;refine xW λK m=>?_;simp[t14,t15];apply m;refine xC ?_;simp;refine⟨λG=>?_,λzu=>?_⟩
  .have hb:d.nodes[i]?=some d.nodes[i]:=ej G;refine xK ?_;refine xB ?_;(repeat refine xS ?_);refine xV λK m=>?_;simp[t13,t15,G];refine m _ _ ?_;(try simp only[xQ,reduceIte]);have N:b8 .i64 ((i:Int)+1)=i+1:=wrap_i64 (by omega) (by omega);refine xS (xW λK m=>?_);simp[t3,N];apply m;have X:i<Z (d.nodes.map λb=>(b,J)):=by simpa using G
   have A:(look ((d.nodes.map λb=>(b,J)).take i) ⟨d.nodes[i].var,d.nodes[i].low,d.nodes[i].high⟩).getD ap=J↔d.nodes[i]∈d.nodes.take i:=by
    rw[<-pb];exact Z3 _ _
   have B:¬NB d i d.nodes[i]\/d.nodes[i]∈d.nodes.take i->F7 d=20:=λv=>(o False ⟨λE=>by
    obtain⟨h1,h2,_⟩:=Og E;rcases v with v|v
    .exact v (h2 i _ hb)
    .obtain⟨j,hj,e⟩:=lm.1 v;rw[List.getElem_take]at e;have hj':j<i:=by simp at hj;omega
     have:=(List.getElem_inj h1.nodup).1 e;omega,False.elim⟩).2 id
   refine AP ?_;simp;refine⟨λq=>?_,λc1 c2 c3 c4 c5 c6 c7 Y=>?_⟩
   .refine xW λK m=>?_;simp;apply m;refine Aj ⟨_,_,a9,?_⟩;(try simp);refine(B ?_).symm;rcases q with q|q
    .left;rintro⟨f1,f2,f3,f4,f5,f6,f7,f8,f9⟩;omega
    .right;exact A.1 q
   .refine CF ?_;have n1:d.nodes[i].low<2+Z d.nodes:=by omega
    have n2:d.nodes[i].high<2+Z d.nodes:=by omega
    refine xS ?_;refine xD (A7 16 []) (by kernel_rfl) λK m=>?_;simp;refine xA 0 ?_;simp[t1];refine j0 (IM d _ n1) rfl (by simp[xN]) ?_;simp;(repeat(refine Hs ?_ ?_;(·simp);simp));(repeat((refine Hs ?_ ?_);(focus(simp[t1];done));simp[t1]));refine Ab.C0 (g:=!decide (d.level d.nodes[i].low<=d.nodes[i].var)) (ds:=[AB d,encI d.nodes[i].high]) rfl rfl (by simp<;>rfl) (λ_=>IM d _ n2) (by simp[AB]) ?_;simp;refine xA 0 ?_;simp;refine xM (m _ _ ?_);(try simp only[xQ,reduceIte]);have C:d.nodes[i]∉d.nodes.take i:=λhm=>by rw[A.2 hm]at Y;cases Y
    refine AP ?_;simp;refine⟨λhb2=>?_,λQ e2=>?_⟩
    .refine xW λK m=>?_;simp;apply m;refine Aj ⟨_,_,a9,?_⟩;(try simp);refine(B (.inl ?_)).symm;rintro⟨f1,f2,f3,f4,f5,f6,f7,f8,f9⟩;omega
    .have L:Cx ((d.nodes.map λb=>(b,J)).take i) ⟨d.nodes[i].var,d.nodes[i].low,d.nodes[i].high⟩ J=(d.nodes.map λb=>(b,J)).take (i+1):=ZR G C;refine xK ?_;refine xV λK m=>?_;simp[t3,L];apply m;refine xV λK m=>?_;simp[t15];apply m;refine⟨G,_,_,l6 2 (by simp),?_⟩;simp[clean,t1,t3,t13,t14];refine⟨N,?_,λk b R F=>?_⟩
     .rw[pt G,Ks];refine⟨w,by simp,λa ha b M T=>?_⟩;simp only[go]at M;subst T;subst M;exact C ha
     .by_cases ek:k=i
      .subst ek;rw[hb]at F;cases F;exact⟨c1,c2,c3,c4,c5,c6,c7,Q,e2⟩
      .exact H k b (by omega) F
  .have U:i=Z d.nodes:=by omega
   subst U;rw[ns]at w;have hf:∀k b,d.nodes[k]?=some b->NB d k b:=λk b R=>H k b (gq.1 R).1 R;have hB:=Qu w hf;have N:b8 .i64 ((Z d.nodes:Int)+1)=Z d.nodes+1:=wrap_i64 (by omega) (by omega);refine Ci ?_;refine xS (xW λK m=>?_);simp[t1,N];apply m;refine AP ?_;simp;refine⟨λq=>?_,λQ e2=>?_⟩
   .refine xW λK m=>?_;simp;apply m;refine Aj ⟨_,_,a9,?_⟩;(try simp);exact((o False ⟨λE=>by obtain⟨_,_,h3,P⟩:=Og E;omega,False.elim⟩).2 id).symm
   .obtain⟨t,gt,rt⟩:=hB.get (n:=d.root) Q (by omega);refine xK ?_;refine E5 λK m=>?_;refine xJ ?_;simp[t1];refine vb (AI.SQ 2 (sz:=2) [.agg [.d (AV d.nodes),.any]] rfl (by simp)) ?_;simp;refine xF (Oz d.nodes w (by omega) J t d.root rt) [2] rfl ?_;simp;refine xJ ?_;simp;refine BY (m _ _ ?_);refine xS (E5 λK m=>?_);refine xJ ?_;simp[t1];refine Bq (Oa (Ce t) d) rfl (by simp[xN]) ?_;simp;refine xJ ?_;simp;refine BY (m _ _ ?_);(try simp only[xQ,reduceIte]);refine AP ?_;simp;refine⟨λzi=>?_,λhe=>?_⟩
    .refine xW λK m=>?_;simp;apply m;refine Aj ⟨_,_,a9,?_⟩;(try simp);refine((o False ⟨λE=>?_,False.elim⟩).2 id).symm;obtain⟨u,gu,eu⟩:=E;have:t=u:=rt.uniq (by rw[eu];exact Fp u);subst this;exact zi eu.symm
    .refine xK ?_;refine xW λK m=>?_;simp;apply m;refine Aj ⟨_,_,a9,?_⟩;(try simp);exact((o True ⟨λ_=>trivial,λ_=>⟨t,gt,he.symm⟩⟩).1 trivial).symm
noncomputable def LY:List AL->Int
 |[]=>0
 |d::ds=>if F7 d≠0 then F7 d else LY ds
theorem Qt:∀{ds:List AL},(∀k (h:k<Z ds),F7 ds[k]=0)->LY ds=0
 |[],_=>rfl
 |d::ds,h=>by
  have h0:=h 0 (by simp);simp at h0;simp[LY,h0,ne_eq];exact Qt λk g=>by have:=h (k+1) (by simp;omega);simpa using this
theorem Ua:∀{ds:List AL} {i:Nat} (hi:i<Z ds),(∀k (h:k<i),F7 (ds[k]'(by omega))=0)->F7 ds[i]≠0->LY ds=F7 ds[i]
 |d::ds,0,_,_,g=>by
  simp at g⊢;simp[LY,g]
 |d::ds,i+1,hi,h,g=>by
  have h0:=h 0 (by omega);simp at h0;simp at g⊢;simp[LY,h0,ne_eq];exact Ua (by simpa using hi) (λk j=>by have:=h (k+1) (by omega);simpa using this) g
theorem iv(ds:List AL):Pure ao 270 [.sl (ds.map AB)] (encI (LY ds)):=by
 refine hW func270 rfl rfl (by simp) λwf=>?_;have q:Z ds<=maxLen:=by have:=wf.1;simp[DY]at this;simpa using this.1
 rw[ntmps270];apply yW;simp;refine xS (yW ?_);simp;apply Bo;refine FO (Z ds) (λi tm S=>tm 6=.d (.sl (ds.map AB))/\tm 7=.d (encI (Z ds))/\tm 8=.d (encI i)/\S=[]/\∀k (h:k<i) (w:k<Z ds),F7 ds[k]=0) (er _) (by simp) ?_;rintro i tm S hi ⟨t6,t7,t8,rfl,m⟩;apply yW;simp[t7,t8];apply xC;simp;refine⟨λg=>?_,λA=>?_⟩
 .apply xK;apply xB;apply yW;simp[t6,t8,g];apply yS;apply yJ;simp;refine Bq (L5 ds[i]) rfl (by simp[xN]) (yJ ?_);simp;apply yW;simp;apply AP;simp;refine⟨λu=>?_,λv=>?_⟩
  .apply yW;simp;refine Aj ⟨_,_,a9,?_⟩;(try simp);exact(Ua g (λk j=>m k j (by omega)) u).symm
  .apply CF;apply yV;simp[t8];refine⟨g,_,_,l6 0 (by simp),?_⟩;simp[clean,t6,t7,AK g q];intro k j o;by_cases e:k=i
   .subst e;exact v
   .exact m k (by omega) o
 .apply Ci;apply yW;simp;apply zT;(try simp);exact(Qt λk j=>m k (by omega) j).symm
open Classical in
noncomputable def wX(f:(Int->Bool)->Bool):DT:=if h:∃t:DT,t.Good/\∀c,t.CG c=f c then h.choose else .leaf ap
theorem P7{f:(Int->Bool)->Bool}{t:DT}(g:t.Good)(i:∀c,t.CG c=f c):wX f=t:=by
 have h:∃t:DT,t.Good/\∀c,t.CG c=f c:=⟨t,g,i⟩;unfold wX;rw[NE h];exact DT.unique h.choose_spec.1 g λc=>by rw[h.choose_spec.2,i]
open Classical in
noncomputable def tr(d:AL):DT:=if h:Valid d then h.choose else .leaf ap
theorem KT(d:AL):(tr d).Good:=by
 unfold tr;split
 .next h=>exact h.choose_spec.1
 .trivial
theorem EE{d:AL}(h:Valid d):Ce (tr d)=d:=by
 unfold tr;rw[NE h];exact h.choose_spec.2.symm
theorem Vq{t:DT}(h:t.Good):tr (Ce t)=t:=OX (EE ⟨t,h,rfl⟩)
noncomputable def px(g:Bool->Bool->Bool)(a b:AL):AL:=Ce (wX λc=>g ((tr a).CG c) ((tr b).CG c))
noncomputable def Dl(g:Bool->Bool->Bool)(a b:AL):AL×Int:=
 if LY [a,b]≠0 then(⟨[],0⟩,LY [a,b])else if Z (px g a b).nodes>4096 then(⟨[],0⟩,2)else(px g a b,0)
theorem Mq{f:FuncId}{g:Bool->Bool->Bool}(u:SP f g)(a b:AL):
  AG ao 223 [.d (AB a),.d (AB b),.fn (.func f) [] []] [] (.d (.CX [AB (Dl g a b).1,encI (Dl g a b).2])) []:=by
 refine zD func223 26 rfl λwf v=>?_;apply yW;simp;refine xS (yS ?_);apply yJ;simp[maxLen];refine Bq (iv [a,b]) rfl (by simp[xN]) (yJ ?_);simp;apply yW;simp;apply AP;simp;refine⟨λw=>?_,λi=>?_⟩
 .apply yW;simp;apply Aj;refine⟨_,_,_,a9,by simp,by simp[Dl,w];rfl,j1 0 (by simp)⟩
 .have ha:F7 a=0:=by
   simp only[LY]at i;split at i
   .assumption
   .next h=>simpa using h
  have hb:F7 b=0:=by
   simp only[LY,ha,ne_eq,not_true,jw]at i;split at i
   .assumption
   .next h=>simpa using h
  have m:=NM ha;have o:=NM hb;have F:Z (Ce (tr a)).nodes<=4096:=Om (by rw[EE m];exact ha);have G:Z (Ce (tr b)).nodes<=4096:=Om (by rw[EE o];exact hb);have j:(Z (Ce (tr a)).nodes+2) * (Z (Ce (tr b)).nodes+2) * 2<2 ^ 30:=by
   have H:=acu (show Z (Ce (tr a)).nodes+2<=4098 by omega) (show Z (Ce (tr b)).nodes+2<=4098 by omega);omega
  obtain⟨t,A,B,q⟩:=Oj u (tr a) (tr b) (KT a) (KT b) j;have C:px g a b=Ce t:=by unfold px;rw[P7 A B]
  rw[EE m,EE o]at q;apply xK;(repeat apply xS);apply yT;apply yJ;simp;refine xF (q) [2] rfl ?_;simp;apply yJ;simp;refine Bq (VS (Ce t)) rfl (by simp[xN]) (yJ ?_);simp;apply Aj;refine⟨_,_,_,a9,by simp,?_,j1 0 (by simp)⟩;simp[Dl,i,ne_eq,C];by_cases E:Z (Ce t).nodes>4096
  .simp[E,AB]
  .have k:¬4096<Z (Ce t).nodes:=by omega
   simp[k,AB]
theorem NL(a b:AL):Pure ao 156 [AB a,AB b] (.CX [AB (Dl and a b).1,encI (Dl and a b).2]):=by
 refine zD func156 11 rfl λwf g=>?_;apply yW;simp;(repeat apply xS);apply yT;apply yJ;simp;refine AS.Tb (Mq G5 a b) rfl (by simp;try rfl) (yJ ?_);simp;apply Aj;refine⟨_,_,_,a9,by simp,by simp,j1 0 (by simp)⟩
theorem YV(a b:AL):Pure ao 160 [AB a,AB b] (.CX [AB (Dl or a b).1,encI (Dl or a b).2]):=by
 refine zD func160 11 rfl λwf g=>?_;apply yW;simp;(repeat apply xS);apply yT;apply yJ;simp;refine AS.Tb (Mq Ir a b) rfl (by simp;try rfl) (yJ ?_);simp;apply Aj;refine⟨_,_,_,a9,by simp,by simp,j1 0 (by simp)⟩
def DT.Below(n:Nat):DT->Prop
 |.leaf _=>True
 |.node v l h=>v<n/\l.Below n/\h.Below n
structure FE(n:Nat)(t:DT):Prop where
 HF:t.Good
 below:t.Below n
theorem FE.leaf(n:Nat)(b:Bool):FE n (.leaf b):=⟨trivial,trivial⟩
abbrev aby:=@Nat.pow_le_pow_right
theorem WM{n:Nat}:∀{t:DT},t.Good->t.Below n->∀k:Nat,(k:Int)<=t.level->k<=n->t.size+1<=2 ^ (n - k):=by
 intro t;induction t with
 |leaf b=>intro _ _ k _ _;simp[DT.size];exact Nat.one_le_two_pow
 |node v l h i j=>
  intro g hb k m o;simp[Ok]at m;have q:=g.1;have u:=hb.1;have A:=i g.2.2.2.2.2.1 hb.2.1 (v.toNat+1) (by have:=g.2.2.2.1;omega) (by omega);have B:=j g.2.2.2.2.2.2 hb.2.2 (v.toNat+1) (by have:=g.2.2.2.2.1;omega) (by omega);have w:n - k=(n - (v.toNat+1))+(v.toNat+1 - k):=by omega
  have C:2 ^ (n - (v.toNat+1)) * 2<=2 ^ (n - k):=by
   rw[w,Nat.pow_add];refine Nat.mul_le_mul_left _ ?_;have:2 ^ 1<=2 ^ (v.toNat+1 - k):=aby (by omega) (by omega);simpa using this
  simp[DT.size];omega
theorem FE.size{n:Nat}{t:DT}(h:FE n t)(i:n<=12):t.size<=4095:=by
 have g:(0:Int)<=t.level:=by
  by_cases e:t.size=0
  .obtain⟨b,rfl⟩:=Dx e;simp[Ok]
  .exact(FV h.HF e).1
 have:=WM h.HF h.below 0 (by simpa using g) (by omega);have j:2 ^ (n - 0)<=2 ^ 12:=aby (by omega) (by omega);have k:2 ^ 12=4096:=rfl;omega
theorem U6(t:DT):∀L:List DT,Z (emit t L)<=Z L+t.size:=by
 induction t with
 |leaf b=>intro L;simp[emit]
 |node v l h g i=>
  intro L;unfold emit;split
  .simp
  .have j:=g L;have k:=i (emit l L);simp[DT.size];omega
theorem Vf(t:DT):Z (Ce t).nodes<=t.size:=by
 have:=U6 t [];simp[Ce,kz];simpa using this
theorem FE.len{n:Nat}{t:DT}(h:FE n t)(g:n<=12):Z (Ce t).nodes<=4095:=ms (Vf t) (h.size g)
theorem FE.F7{n:Nat}{t:DT}(h:FE n t)(g:n<=12):Koi.F7 (Ce t)=0:=by
 have:=h.len g;unfold Koi.F7;rw[bv (by omega),ca ⟨t,h.HF,rfl⟩]
theorem je{n:Nat}:∀{t:DT},t.Good->(∀c (v:Int) b,(n:Int)<=v->t.CG (DT.Fk c v b)=t.CG c)->t.Below n:=by
 intro t;induction t with
 |leaf b=>intro _ _;trivial
 |node v l h u A=>
  intro i hi;have j:∀c,l.CG c=(DT.node v l h).CG (DT.Fk c v ap):=λc=>by
   have:=Wr i (v:=v) (q6 _) c;simpa[DT.lo]using this
  have m:∀c,h.CG c=(DT.node v l h).CG (DT.Fk c v J):=λc=>by
   have:=WE i (v:=v) (q6 _) c;simpa[DT.hi]using this
  have E:v<n:=by
   by_cases B:v<n
   .exact B
   .exact absurd (DT.unique i.2.2.2.2.2.1 i.2.2.2.2.2.2 λc=>by rw[j,m,hi _ _ _ (by omega),hi _ _ _ (by omega)]) i.2.2.1
  have g:∀(c:Int->Bool) (w:Int) (x y:Bool),w≠v->DT.Fk (DT.Fk c w x) v y=DT.Fk (DT.Fk c v y) w x:=λc w x y o=>by
   funext k;simp[DT.Fk];by_cases C:k=v
   .subst C;rw[ca rfl,bv (λe=>o e.symm),ca rfl]
   .rw[bv C];by_cases q:k=w
    .rw[ca q,ca q]
    .rw[bv q,bv q,bv C]
  refine⟨E,u i.2.2.2.2.2.1 λc w b o=>?_,A i.2.2.2.2.2.2 λc w b o=>?_⟩
  .rw[j,j,g _ _ _ _ (by omega),hi _ _ _ o]
  .rw[m,m,g _ _ _ _ (by omega),hi _ _ _ o]
theorem FE.indep{n:Nat}{t:DT}(h:FE n t)(c:Int->Bool)(v:Int)(b:Bool)(m:(n:Int)<=v):t.CG (DT.Fk c v b)=t.CG c:=by
 obtain⟨j,hb⟩:=h;induction t with
 |leaf b=>rfl
 |node w l r g i=>
  have k:DT.Fk c v b w=c w:=by have:=hb.1;simp only[DT.Fk];rw[bv (by omega)]
  simp[DT.CG,k];rw[g j.2.2.2.2.2.1 hb.2.1,i j.2.2.2.2.2.2 hb.2.2]
noncomputable def QN(g:Bool->Bool->Bool)(s t:DT):DT:=wX λc=>g (s.CG c) (t.CG c)
theorem Ex{f:FuncId}{g:Bool->Bool->Bool}(A:SP f g){n:Nat}{s t:DT}(h:n<=12)(i:FE n s)(j:FE n t):
  FE n (QN g s t)/\(∀c,(QN g s t).CG c=g (s.CG c) (t.CG c))/\Dl g (Ce s) (Ce t)=(Ce (QN g s t),0):=by
 have E:=i.len h;have lt:=j.len h;have k:(Z (Ce s).nodes+2) * (Z (Ce t).nodes+2) * 2<2 ^ 30:=by
  have F:=acu (show Z (Ce s).nodes+2<=4098 by omega) (show Z (Ce t).nodes+2<=4098 by omega);omega
 obtain⟨u,o,m,_⟩:=Oj A s t i.HF j.HF k;have e:QN g s t=u:=P7 o m;have q:FE n u:=⟨o,je o λc v b w=>by rw[m,m,i.indep c v b w,j.indep c v b w]⟩;refine⟨e▸q,by rw[e];exact m,?_⟩;have B:LY [Ce s,Ce t]=0:=by simp[LY,i.F7 h,j.F7 h]
 have C:px g (Ce s) (Ce t)=Ce u:=by
  unfold px;rw[Vq i.HF,Vq j.HF];exact l5 Ce e
 have G:=q.len h;simp only[Dl,B,ne_eq,not_true,jw,C,e];rw[bv (by omega)]
noncomputable def I7:=QN and
noncomputable def cU:=QN or
theorem Jf{t:DT}(g:t.Good):(Ce t).root=0↔t=.leaf false:=by
 constructor
 .intro h;have:=Fp t;rw[h]at this;exact this.zero
 .rintro rfl;rfl
theorem HD(d:AL):Pure ao 155 [AB d,encI 0] (AB d):=by
 refine zD func155 11 rfl λwf g=>?_;apply yW;simp;refine xS (yW ?_);simp;apply AP;simp;apply xK;apply yW;simp;apply Aj;refine⟨_,_,_,a9,by simp,by simp,j1 0 (by simp)⟩
def vT(t:DT):V:=.d (AB (Ce t))
def mI(m:List (Int×DT)):O:=.map (BV (D.int .i64) vT m)
noncomputable def DR{α:Type}[DecidableEq α](m:List (α×DT))(k:α):DT:=(look m k).getD (.leaf ap)
def Hr{α:Type}(n:Nat)(m:List (α×DT)):Prop:=∀p∈m,FE n p.2
theorem Hr.at{α:Type}[DecidableEq α]{n:Nat}{m:List (α×DT)}(h:Hr n m)(k:α):FE n (DR m k):=by
 unfold DR;cases g:look m k with
 |none=>exact FE.leaf n ap
 |some t=>exact h _ (GU g)
@[simp] theorem vm{α:Type}[DecidableEq α]{ek:α->D}{k:Nat}(l:List (α×DT)):(BV ek vT l).all (λe=>AJ k e.2)=true:=Vg (λ_=>rfl) l
@[simp] theorem wi{α:Type}(ρ:Nat->Nat)(ek:α->D)(l:List (α×DT)):(BV ek vT l).map (λp=>(p.1,BW ρ p.2))=BV ek vT l:=by
 unfold BV;rw[m0];rfl
@[simp] theorem wT(l:List (Int×DT))(k:Int)(t:DT):Ep (BV (D.int .i64) vT l) (.int .i64 k) (.d (AB (Ce t)))=BV (D.int .i64) vT (Cx l k t):=EA (ev:=vT) (by intro a b;rw[gI];simp[DZ]) l k t
theorem YC(m:List (Int×DT))(k:Int):AG ao 163 [.map 0,.d (encI k)] [mI m] (.d (AB (Ce (DR m k)))) [mI m]:=by
 refine zD func163 16 rfl λwf h=>?_;unfold mI;(repeat apply xS);apply yV;simp;cases g:look m k with
 |some t=>
  have e:DR m k=t:=by simp[DR,g]
  rw[e];refine xS (yW ?_);simp[g,vT];apply yW;simp;apply AP;simp;apply yW;simp;apply Aj;refine⟨_,_,_,a9,by simp,by simp,j1 1 (by simp)⟩
 |none=>
  have e:DR m k=.leaf false:=by simp[DR,g]
  rw[e];refine xS (yW ?_);simp[g];apply yW;simp;apply AP;simp;apply xK;(repeat apply xS);apply yT;apply yJ;simp;refine Bq (Hw ap) rfl (by simp) (yJ ?_);simp;apply Aj;refine⟨_,_,_,a9,by simp,by simp[IZ,AB],j1 1 (by simp)⟩
noncomputable def stepT(m:List (Int×DT))(t:DT)(s:Symbol):DT:=if s.token=ap/\t≠.leaf ap then I7 t (DR m s.index)else t
noncomputable def Ik(m:List (Int×DT))(t:DT)(l:List Symbol):DT:=l.foldl (stepT m) t
theorem dS{n:Nat}{m:List (Int×DT)}{t:DT}(h:n<=12)(i:Hr n m)(g:FE n t)(s:Symbol):FE n (stepT m t s):=by
 unfold stepT;split
 .exact(Ex G5 h g (i.at _)).1
 .exact g
theorem KQ{n:Nat}{m:List (Int×DT)}(g:n<=12)(i:Hr n m)(l:List Symbol):∀{t:DT},FE n t->FE n (Ik m t l):=by
 induction l with
 |nil=>intro t h;exact h
 |cons s l j=>intro t h;exact j (dS g i h s)
abbrev abU:=@List.foldl_append
theorem Yf(m:List (Int×DT))(t:DT)(l:List Symbol){i:Nat}(hi:i<Z l):Ik m t (l.take (i+1))=stepT m (Ik m t (l.take i)) l[i]:=by
 unfold Ik;rw[pt hi,abU];rfl
theorem jV{n:Nat}(q:n<=12)(m:List (Int×DT))(u:Hr n m)(t:DT)(C:FE n t)(l:List Symbol):
  AG ao 158 [.d (AB (Ce t)),.d (Ax l),.map 0] [mI m] (.d (AB (Ce (Ik m t l)))) [mI m]:=by
 refine AG.Gp func158 rfl rfl (by simp) λwf E=>?_;have v:Z l<=maxLen:=by have:=wf.2.1;simp[Ij,DY]at this;simpa using this.1
 rw[ntmps158];unfold mI;apply yW;simp;refine xS (yW ?_);simp;apply Bo;refine zL (Z l) (λi tm S=>tm 2=.map 0/\tm 3=.ptr 1 1 0 0/\tm 6=.ptr 2 1 0 0/\tm 9=.d (Ax l)/\tm 10=.d (encI (Z l))/\tm 11=.d (encI i)/\S=[mI m,.row J 2 [.d (AB (Ce (Ik m t (l.take i))))],.row J 2 [.agg [.full [],.d (.int .i64 0)]]]) (by simp[mI,Ik]) ?_;rintro i tm S hi ⟨t2,t3,t6,t9,t10,t11,rfl⟩;unfold mI;apply yW;simp[t10,t11];apply xC;simp;refine⟨λj=>?_,λL=>?_⟩
 .have w:=KQ q u (l.take i) C;generalize F:Ik m t (l.take i)=X at *;have g:=Jf w.HF;have G:Ik m t (l.take (i+1))=stepT m X l[i]:=by rw[Yf m t l j,F]
  rw[G];apply xK;apply xB;apply yW;simp[t9,t11,j];apply yW;simp[t3];apply AP;simp;refine⟨λH K=>?_,λh=>?_⟩
  .have k:stepT m X l[i]=I7 X (DR m l[i].index):=by
    unfold stepT;rw[ca ⟨H,λe=>K (g.2 e)⟩]
   obtain⟨o1,M,A⟩:=Ex G5 q w (u.at l[i].index);rw[k];refine yE (A7 9 [19]) (by kernel_rfl) ?_;simp;apply yA 0;simp[t2,t3];refine Ab.sM _ (YC m l[i].index) rfl rfl (by simp[mI];try rfl) ?_;simp;apply yA 0;simp;refine j0 (NL (Ce X) (Ce (DR m l[i].index))) rfl (by simp[xN]) ?_;simp[A];apply yA 0;simp;refine j0 (HD (Ce (QN and X (DR m l[i].index)))) rfl (by simp[xN]) ?_;simp;apply xX 511 (by kernel_rfl);simp[t3];apply xM;apply yV;simp[t11];refine⟨j,_,_,l6 3 (by simp),?_⟩;simp[clean,t2,t3,t6,t9,t10,AK j v,I7]
  .have k:stepT m X l[i]=X:=by
    unfold stepT;rw[bv (λB=>B.2 (g.1 (h B.1)))]
   rw[k];apply CF;apply yV;simp[t11];refine⟨j,_,_,l6 3 (by simp),?_⟩;simp[clean,t2,t3,t6,t9,t10,AK j v]
 .have o:i=Z l:=by omega
  subst o;rw[ns];apply Ci;apply yW;simp[t3,t6];apply Aj;refine⟨_,_,_,a9,by simp[t6],by simp[t6],j1 1 (by simp)⟩
attribute [simp] mI
open Classical in
noncomputable def Ja(m:List (Int×DT))(ch:Bool)(k:Int)(d:DT):List (Int×DT)×Bool:=
 if d=.leaf ap then(m,ch)else if DR m k=cU (DR m k) d then(m,ch)else(Cx m k (cU (DR m k) d),J)
def vv(m:List (Int×DT))(g:Bool):Sg:=[.row J 1 [.map 2],.row J 1 [.d (.bool g)],mI m]
theorem Hr.put{n:Nat}{m:List (Int×DT)}(h:Hr n m)(k:Int){t:DT}(i:FE n t):Hr n (Cx m k t):=by
 intro p g;unfold Cx at g;split at g
 .obtain⟨q,j,rfl⟩:=g7.1 g;split
  .exact i
  .exact h q j
 .rcases fi.1 g with g|g
  .exact h p g
  .simp at g;subst g;exact i
theorem mv{n:Nat}(h:n<=12){m:List (Int×DT)}(g:Hr n m)(i:Bool)(k:Int){d:DT}(j:FE n d):Hr n (Ja m i k d).1:=by
 unfold Ja;split
 .exact g
 .split
  .exact g
  .exact g.put k (Ex Ir h (g.at k) j).1
theorem tJ{n:Nat}(u:n<=12)(m:List (Int×DT))(v:Hr n m)(i:Bool)(k:Int)(d:DT)(o:FE n d):
  AG prog 274 [.d (encI k),.d (AB (Ce d)),.ptr 0 1 0 0,.ptr 1 1 0 0] (vv m i) (.CX []) (vv (Ja m i k d).1 (Ja m i k d).2):=by
 have g:=Jf o.HF;obtain⟨o1,C,q⟩:=Ex Ir u (v.at k) o;refine zC func274 27 rfl λwf w=>?_;unfold vv mI;apply yW;simp;refine xS (yW ?_);simp;apply AP;simp;refine⟨λh=>?_,λh=>?_⟩
 .have e:Ja m i k d=(m,i):=by unfold Ja;rw[ca (g.1 h)]
  rw[e];apply Aj;refine⟨_,j1 3 (by simp),?_⟩;simp[Aq]
 .have j:¬d=.leaf false:=λe=>h (g.2 e);apply xK;apply yS;apply yJ;simp;refine xF (YC m k) [2] rfl ?_;simp[mI];apply yJ;simp;apply yS;apply yJ;simp;refine Bq (YV (Ce (DR m k)) (Ce d)) rfl (by simp[xN]) (yJ ?_);simp[q];refine Bq (HD (Ce (QN or (DR m k) d))) rfl (by simp[xN]) (yJ ?_);simp;apply yS;apply yJ;simp;refine Bq (Oa (Ce (DR m k)) (Ce (QN or (DR m k) d))) rfl (by simp[xN]) (yJ ?_);simp;apply AP;simp;refine⟨λA=>?_,λB=>?_⟩
  .have e:Ja m i k d=(Cx m k (cU (DR m k) d),J):=by
    unfold Ja;rw[bv j,bv (λe:DR m k=cU (DR m k) d=>A (l5 Ce e))]
   rw[e];apply yW;simp;apply yV;simp;refine⟨_,fd 3 (by simp;rfl) (by simp) (by simp) (by simp),?_⟩;simp[Aq]
  .have e:Ja m i k d=(m,i):=by
    unfold Ja;rw[bv j,ca (show DR m k=cU (DR m k) d from OX B)]
   rw[e];apply CF;refine⟨_,j1 3 (by simp),?_⟩;simp[Aq]
def D4(g:AE)(h:List DT):D:=.agg (BE (AA g)++[.sl (h.map λt=>AB (Ce t))])
def DO(l:List Symbol):Bool:=l.any (·.token)
noncomputable def F4(empty:Bool)(s:List (Int×DT)×Bool)(p:AO×DT):List (Int×DT)×Bool:=
 if empty&&DO p.1.right then s else Ja s.1 s.2 p.1.left (Ik s.1 p.2 p.1.right)
noncomputable def D3(empty:Bool)(l:List (AO×DT))(s:List (Int×DT)×Bool):List (Int×DT)×Bool:=l.foldl (F4 empty) s
def wM{α:Type}(n:Nat)(l:List (α×DT)):Prop:=∀p∈l,FE n p.2
theorem UO{n:Nat}(h:n<=12)(empty:Bool){s:List (Int×DT)×Bool}(g:Hr n s.1){p:AO×DT}(i:FE n p.2):Hr n (F4 empty s p).1:=by
 unfold F4;split
 .exact g
 .exact mv h g _ _ (KQ h g _ i)
theorem KH{n:Nat}(h:n<=12)(empty:Bool):∀(l:List (AO×DT)) {s:List (Int×DT)×Bool},Hr n s.1->wM n l->Hr n (D3 empty l s).1
 |[],_,g,_=>g
 |p::l,_,g,i=>KH h empty l (UO h empty g (i p (by simp))) λq j=>i q (by simp[j])
theorem UY(empty:Bool)(l:List (AO×DT))(s:List (Int×DT)×Bool){i:Nat}(hi:i<Z l):D3 empty (l.take (i+1)) s=F4 empty (D3 empty (l.take i) s) l[i]:=by
 unfold D3;rw[pt hi,abU];rfl
def aV(g:AE)(h:List DT)(empty:Bool)(m:List (Int×DT))(i:Bool):Sg:=
 [.row J 1 [.ptr 6 1 0 0],.row J 1 [.d (.bool empty)],.row J 1 [.map 5],.row J 1 [.map 5],.row J 1 [.d (.bool i)],mI m,.row J 10 [.d (D4 g h)]]
def addFn:V:=.fn (.func 274) [] [.ptr 3 1 0 0,.ptr 4 1 0 0]
abbrev adK:=@List.of_mem_zip
abbrev ab2:=@List.mem_of_mem_take
abbrev PP:=@List.take_of_length_le
theorem fu{n:Nat}(Y:n<=12)(g:AE)(q:List DT)(hlen:Z q=Z g.AD)(C:∀t∈q,FE n t)(empty:Bool)(m:List (Int×DT))(hm:Hr n m)(E:Bool):
  AG prog 226 [addFn,.ptr 0 1 0 0,.ptr 1 1 0 0,.ptr 2 1 0 0] (aV g q empty m E) (.CX [])
   (aV g q empty (D3 empty (g.AD.zip q) (m,E)).1 (D3 empty (g.AD.zip q) (m,E)).2):=by
 unfold addFn;have hL:wM n (g.AD.zip q):=λp F=>C _ (adK F).2;refine oF func226 rfl rfl (by simp) λwf P=>?_;simp[aV,mI,LZ,vY,Gk,Ij,D4,DY,Bm]at P;obtain⟨_,_,_,_,_,_,_,_,⟨a1,a2⟩,_⟩:=P;have a3:∀p∈g.AD,Z p.right<=maxLen:=λp F=>by
  rw[Di]at a2;have:=a2 p F;simp[AF,DY,Bm]at this;exact this.2.2.1.1
 rw[ntmps226];unfold aV mI;apply AW.scope;apply xS;apply AW.label;simp[B5];apply yS;apply yJ;simp[D4];apply Bo;refine zL (Z g.AD) (λi tm S=>tm 0=.fn (.func 274) [] [.ptr 3 1 0 0,.ptr 4 1 0 0]/\tm 1=.ptr 0 1 0 0/\tm 2=.ptr 1 1 0 0/\tm 3=.ptr 2 1 0 0/\tm 13=.d (CJ g.AD)/\tm 14=.d (encI (Z g.AD))/\tm 15=.d (encI i)/\S=aV g q empty (D3 empty ((g.AD.zip q).take i) (m,E)).1 (D3 empty ((g.AD.zip q).take i) (m,E)).2) (by simp[aV,mI,D4,D3]) ?_;rintro i tm S hi ⟨t0,t1,t2,t3,t13,t14,t15,rfl⟩;generalize hR:D3 empty ((g.AD.zip q).take i) (m,E)=R;apply yW;simp[t14,t15];apply xC;simp;refine⟨λM=>?_,λzu=>?_⟩
 .have G:i<Z (g.AD.zip q):=by simp;omega
  have w:i<Z q:=by omega
  have A:Hr n R.1:=by rw[<-hR];exact KH Y empty _ hm λp F=>hL p (ab2 F)
  have zk:D3 empty ((g.AD.zip q).take (i+1)) (m,E)=F4 empty R (g.AD[i],q[i]):=by
   rw[UY empty _ _ G,hR];simp
  have hp3:=a3 g.AD[i] (cL M);rw[zk];generalize F:g.AD[i]=p at *;apply xK;apply xB;apply yW;simp[t13,t15,M,F];refine xS (yW ?_);simp;apply Bo;refine zL (Z p.right) (λj o S=>o 0=.fn (.func 274) [] [.ptr 3 1 0 0,.ptr 4 1 0 0]/\o 1=.ptr 0 1 0 0/\o 2=.ptr 1 1 0 0/\o 3=.ptr 2 1 0 0/\o 13=.d (CJ g.AD)/\o 14=.d (encI (Z g.AD))/\o 15=.d (encI i)/\o 5=.d (encI i)/\o 6=.ptr 7 1 0 0/\o 21=.d (Ax p.right)/\o 22=.d (encI (Z p.right))/\o 23=.d (encI j)/\S=aV g q empty R.1 R.2++[.row J 13 [.d (AF p)]]/\∀k (h:k<j) (h':k<Z p.right),¬(p.right[k].token=J/\empty=J)) (by simp[aV,mI,D4,AF,t0,t1,t2,t3,t13,t14,t15]) ?_;rintro j o S hj ⟨N,s1,Q,s3,H,K,B,s5,s6,T,U,L,rfl,zw⟩;apply yW;simp[U,L];apply xC;simp;refine⟨λv=>?_,λhge2=>?_⟩
  .apply xK;apply xB;unfold aV;apply yW;simp[T,L,v];(repeat apply xS);apply yV;simp[Q];by_cases u:p.right[j].token=J/\empty=J
   .have zn:F4 empty R (p,q[i])=R:=by
     unfold F4;rw[ca];simp[DO];exact⟨u.2,_,cL v,u.1⟩
    rw[zn];apply AP;simp[u.1,u.2];apply Ci;apply yV;simp[B];refine⟨M,_,_,l6 7 (by simp),?_⟩;simp[clean,N,s1,Q,s3,H,K,AK M a1]
   .apply AP;simp;refine⟨λW h2=>absurd ⟨W,h2⟩ u,λ_=>?_⟩;apply CF;apply yV;simp[L];refine⟨v,_,_,l6 8 (by simp),?_⟩;simp[clean,N,s1,Q,s3,H,K,B,s5,s6,T,U,AK v hp3];intro k hk hk';by_cases e:k=j
    .subst e;intro W;cases X:empty with
     |false=>rfl
     |true=>exact absurd ⟨W,X⟩ u
    .intro W;cases X:empty with
     |false=>rfl
     |true=>exact absurd ⟨W,X⟩ (zw k (by omega) hk')
  .have zn:F4 empty R (p,q[i])=Ja R.1 R.2 p.left (Ik R.1 q[i] p.right):=by
    unfold F4;rw[bv];simp only[cF,DO,abT];rintro⟨X,x,hx,hxt⟩;obtain⟨k,hk,rfl⟩:=lm.1 hx;exact zw k (by omega) hk ⟨hxt,X⟩
   have zj:=KQ Y A p.right (C _ (cL w));rw[zn];unfold aV mI;apply Ci;refine yE (A7 14 [29]) (by kernel_rfl) ?_;simp;apply yA 2;simp[N,s1,s3,s5,s6,D4,w];refine Ab.Vs (jV Y R.1 A q[i] (C _ (cL w)) p.right) [5] rfl (by simp[mI];try rfl) ?_;simp;refine ul (xT [1,0,0,0,0,0,0,0,0,0,0,1,0,1]) (tJ Y R.1 A R.2 p.left _ zj) [3,4,5] (by kernel_rfl) rfl (by simp[vv,mI];try rfl) ?_;simp[vv,mI];apply xM;apply yV;simp[B];refine⟨M,_,_,l6 7 (by simp),?_⟩;simp[clean,N,s1,Q,s3,H,K,AK M a1]
 .have G:i=Z g.AD:=by omega
  subst G;have htk:(g.AD.zip q).take (Z g.AD)=g.AD.zip q:=PP (by simp;omega);rw[htk]at hR;apply Ci;refine⟨λl h=>(by cases h),_,rc (by rw[hR];rfl),?_⟩;simp[Aq]
def SJ:Nat->List (Int->Bool)
 |0=>[λ_=>ap]
 |n+1=>SJ n++(SJ n).map λc=>DT.Fk c n J
abbrev acR:=@List.mem_append_right
theorem Ul(c:Int->Bool):∀n:Nat,∃i∈SJ n,∀v:Int,0<=v->v<n->i v=c v
 |0=>⟨λ_=>ap,by simp[SJ],λv h0 j=>absurd j (by omega)⟩
 |n+1=>by
  obtain⟨i,m,h⟩:=Ul c n;by_cases e:c n=J
  .refine⟨DT.Fk i n J,acR _ (g7.2 ⟨i,m,rfl⟩),λv h0 j=>?_⟩;simp only[DT.Fk];by_cases ev:v=n
   .subst ev;rw[ca rfl,e]
   .rw[bv ev];exact h v h0 (by omega)
  .have q:∀(k:Nat),∀x∈SJ k,∀v:Int,(k:Int)<=v->x v=false:=by
    intro k;induction k with
    |zero=>intro x g v _;simp[SJ]at g;subst g;rfl
    |succ k o=>
     intro x g v A;rcases fi.1 g with g|g
     .exact o x g v (by omega)
     .obtain⟨y,u,rfl⟩:=g7.1 g;simp only[DT.Fk];rw[bv (by omega)];exact o y u v (by omega)
   refine⟨i,acj _ m,λv h0 j=>?_⟩;by_cases ev:v=n
   .subst ev;rw[q n i m n (q6 _)];cases w:c n with
    |false=>rfl
    |true=>exact absurd w e
   .exact h v h0 (by omega)
theorem Qv{n:Nat}{t:DT}(h:FE n t){c k:Int->Bool}(m:∀v:Int,0<=v->v<n->k v=c v):t.CG k=t.CG c:=by
 obtain⟨g,hb⟩:=h;induction t with
 |leaf b=>rfl
 |node w l r i j=>
  simp only[DT.CG];rw[m w g.1 hb.1,i g.2.2.2.2.2.1 hb.2.1,j g.2.2.2.2.2.2 hb.2.2]
abbrev adq:=@List.countP_mono_left
abbrev acF:=@List.countP_cons
theorem RK{α:Type}{p q:α->Bool}:∀{l:List α},(∀x∈l,p x=J->q x=J)->(∃x∈l,q x=J/\p x=ap)->l.countP p<l.countP q
 |[],_,h=>by obtain⟨x,j,_⟩:=h;simp at j
 |x::l,k,o=>by
  have u:l.countP p<=l.countP q:=adq λy g i=>k y (by simp[g]) i;rw[acF,acF];obtain⟨y,g,m,i⟩:=o;rcases ke.1 g with rfl|g
  .simp only[m,i,ip];simp;omega
  .have:=RK (λz v=>k z (by simp[v])) ⟨y,g,m,i⟩;have j:=k x (by simp);by_cases e:p x=J
   .simp only[e,j e,ip];omega
   .rw[bv e];split<;>omega
def outs(n:Nat)(t:DT):Nat:=(SJ n).countP λc=>!t.CG c
theorem oY{n:Nat}{s t:DT}(j:FE n s)(k:FE n t)(h:∀c,s.CG c=J->t.CG c=J)(m:s≠t):outs n t<outs n s:=by
 refine RK (λc _ g=>?_) ?_
 .simp only[ol]at g⊢;cases e:s.CG c with
  |false=>rfl
  |true=>rw[h c e]at g;cases g
 .have:¬∀c,s.CG c=t.CG c:=λo=>m (DT.unique j.HF k.HF o);obtain⟨c,g⟩:=Classical.not_forall.1 this;obtain⟨q,u,ha⟩:=Ul c n;refine⟨q,u,?_⟩;rw[Qv j ha,Qv k ha];cases i:s.CG c with
  |true=>exact absurd (i.trans (h c i).symm) g
  |false=>cases v:t.CG c with
   |true=>simp
   |false=>exact absurd (i.trans v.symm) g
theorem lT{n:Nat}{s t:DT}(h:∀c,s.CG c=J->t.CG c=J):outs n t<=outs n s:=
 adq λc _ g=>by
  simp only[ol]at g⊢;cases e:s.CG c with
  |false=>rfl
  |true=>rw[h c e]at g;cases g
noncomputable def mu{α:Type}[DecidableEq α](n:Nat)(ks:List α)(m:List (α×DT)):Nat:=(ks.map λk=>outs n (DR m k)).sum
theorem Ii{α:Type}[DecidableEq α](m:List (α×DT))(k:α)(t:DT)(j:α):DR (Cx m k t) j=if j=k then t else DR m j:=by
 unfold DR;rw[Fc];split<;>rfl
abbrev adC:=@List.sum_cons
theorem dO{α:Type}{f g:α->Nat}:∀{l:List α},(∀x∈l,f x<=g x)->(l.map f).sum<=(l.map g).sum
 |[],_=>c9 _
 |x::l,h=>by
  have j:=h x (by simp);have k:=dO (l:=l) λy i=>h y (by simp[i]);simp only[ii,adC];omega
theorem jC{α:Type}{f g:α->Nat}:∀{l:List α},(∀x∈l,f x<=g x)->(∃x∈l,f x<g x)->(l.map f).sum<(l.map g).sum
 |[],_,h=>by obtain⟨x,j,_⟩:=h;simp at j
 |x::l,h,k=>by
  have o:=h x (by simp);have q:=dO (l:=l) λy i=>h y (by simp[i]);simp only[ii,adC];obtain⟨y,i,m⟩:=k;rcases ke.1 i with rfl|i
  .omega
  .have:=jC (l:=l) (λy i=>h y (by simp[i])) ⟨y,i,m⟩;omega
theorem dV{α:Type}[DecidableEq α]{n:Nat}{ks:List α}{m:List (α×DT)}{k:α}{t:DT}(g:k∈ks)(i:FE n (DR m k))(o:FE n t)(h:∀c,(DR m k).CG c=J->t.CG c=J)(q:DR m k≠t):
  mu n ks (Cx m k t)<mu n ks m:=by
 refine jC (λj _=>?_) ⟨k,g,?_⟩
 .rw[Ii];split
  .next e=>subst e;exact lT h
  .exact c9 _
 .rw[Ii,ca rfl];exact oY i o h q
theorem np{n:Nat}(i:n<=12){ks:List Int}{m:List (Int×DT)}(h:Hr n m)(g:Bool){k:Int}(j:k∈ks){d:DT}(o:FE n d):
  Ja m g k d=(m,g)\/((Ja m g k d).2=J/\mu n ks (Ja m g k d).1<mu n ks m):=by
 obtain⟨o1,q,_⟩:=Ex Ir i (h.at k) o;unfold Ja;split
 .exact .inl rfl
 .split
  .exact .inl rfl
  .next u=>exact .inr ⟨rfl,dV j (h.at k) o1 (λc v=>by show(QN or (DR m k) d).CG c=J;rw[q,v];rfl) u⟩
theorem Qn{n:Nat}(g:n<=12)(empty:Bool){ks:List Int}:∀(l:List (AO×DT)) (s:List (Int×DT)×Bool),Hr n s.1->wM n l->(∀p∈l,p.1.left∈ks)->mu n ks (D3 empty l s).1<=mu n ks s.1/\((D3 empty l s).2=J->s.2=J\/mu n ks (D3 empty l s).1<mu n ks s.1)
 |[],s,_,_,_=>⟨c9 _,λh=>.inl h⟩
 |p::l,s,i,m,o=>by
  have u:=m p (by simp);obtain⟨v,w⟩:=Qn g empty l (F4 empty s p) (UO g empty i u) (λq j=>m q (by simp[j])) (λq j=>o q (by simp[j]));have e:D3 empty (p::l) s=D3 empty l (F4 empty s p):=rfl;rw[e];have k:F4 empty s p=s\/((F4 empty s p).2=J/\mu n ks (F4 empty s p).1<mu n ks s.1):=by
   unfold F4;split
   .exact .inl rfl
   .exact np g i s.2 (o p (by simp)) (KQ g i _ u)
  rcases k with k|⟨A,B⟩
  .rw[k]at v w⊢;exact⟨v,w⟩
  .exact⟨by omega,λ_=>.inr (by omega)⟩
noncomputable def Qb(empty:Bool)(l:List (AO×DT)):Nat->List (Int×DT)->List (Int×DT)
 |0,m=>m
 |f+1,m=>if(D3 empty l (m,ap)).2 then Qb empty l f (D3 empty l (m,ap)).1 else(D3 empty l (m,ap)).1
def eL(g:AE)(h:List DT)(empty:Bool)(m:List (Int×DT)):Sg:=
 [.row J 1 [.ptr 4 1 0 0],.row J 1 [.d (.bool empty)],.row J 1 [.map 3],mI m,.row J 10 [.d (D4 g h)]]
abbrev acq:=@Nat.lt_succ_self
theorem jj{n:Nat}(B:n<=12)(g:AE)(i:List DT)(v:Z i=Z g.AD)(w:∀t∈i,FE n t)(empty:Bool)(m:List (Int×DT))(M:Hr n m):
  ∃j,Hr n j/\j=Qb empty (g.AD.zip i) (mu n (g.AD.map (·.left)) m+1) m/\AG prog 225 [.map 3,.fn (.func 226) [] [.ptr 0 1 0 0,.ptr 1 1 0 0,.ptr 2 1 0 0]] (eL g i empty m) (.CX []) (eL g i empty j):=by
 have G:wM n (g.AD.zip i):=λp H=>w _ (adK H).2;have K:∀p∈g.AD.zip i,p.1.left∈g.AD.map (·.left):=λp H=>g7.2 ⟨p.1,(adK H).1,rfl⟩;obtain⟨F,L⟩:∃F,F=Qb empty (g.AD.zip i) (mu n (g.AD.map (·.left)) m+1) m:=⟨_,rfl⟩;have A:∀(f:Nat) m,Hr n m->Hr n (Qb empty (g.AD.zip i) f m):=by
  intro f;induction f with
  |zero=>intro m h;exact h
  |succ f T=>
   intro m h;have:=KH B empty (g.AD.zip i) (s:=(m,ap)) h G;simp only[Qb];split
   .exact T _ this
   .exact this
 refine⟨F,L▸A _ _ M,L,?_⟩;refine oF func225 (by kernel_rfl) rfl (by simp) λwf U=>?_;rw[ntmps225];unfold eL;apply yW;simp;apply yW;simp;apply Bo;refine aes (λk tm S=>tm 1=.fn (.func 226) [] [.ptr 0 1 0 0,.ptr 1 1 0 0,.ptr 2 1 0 0]/\tm 2=.ptr 5 1 0 0/\tm 4=.ptr 6 1 0 0/\∃j C,Hr n j/\S=eL g i empty j++[.row J 1 [.map 3],.row J 1 [.d (.bool C)]]/\((C=J/\mu n (g.AD.map (·.left)) j<k/\Qb empty (g.AD.zip i) k j=F)\/(C=ap/\j=F))) ⟨mu n (g.AD.map (·.left)) m+1,_,_,a9,by simp,by simp,by simp,m,J,M,rfl,.inl ⟨rfl,acq _,L.symm⟩⟩ ?_;rintro k tm S ⟨t1,t2,t4,j,C,o,rfl,q⟩;rcases q with⟨rfl,Y,E⟩|⟨rfl,rfl⟩
 .obtain⟨k,rfl⟩:∃W,k=W+1:=⟨k - 1,by omega⟩;obtain⟨X,N⟩:=Qn B empty (ks:=g.AD.map (·.left)) (g.AD.zip i) (j,ap) o G K;have P:=KH B empty (g.AD.zip i) (s:=(j,ap)) o G;have Q:=fu B g i v w empty j o ap;simp only[Qb]at E;generalize D3 empty (g.AD.zip i) (j,ap)=R at X N P Q E;unfold eL;refine xS (yW ?_);simp[t4];apply AP;simp;apply xK;apply xB;apply yW;simp[t4];apply yT;apply yJ;simp[t1,t2,t4];refine xF (Q) [0,1,2,5,6,3,4] rfl ?_;simp[aV,addFn];apply yJ;simp;apply yW;simp[t4];apply yV;simp;refine⟨if R.2 then k else 0,?_,_,_,vk [0,1,2,3,4,5,7] (S0:=eL g i empty R.1++[.row J 1 [.map 3],.row J 1 [.d (.bool R.2)]]) ?_ ?_ ?_,?_⟩
  .split<;>omega
  .simp[eL]
  .simp
  .rfl
  .simp[pick,t1,t2];refine⟨⟨by decide,by decide⟩,by decide,by decide,R.1,P,?_⟩;cases u:R.2 with
   |false=>exact .inl ⟨by simp[eL],by simpa[u]using E⟩
   |true=>
    have hq:mu n (g.AD.map (·.left)) R.1<mu n (g.AD.map (·.left)) j:=by
     rcases N u with h|h
     .cases h
     .exact h
    exact .inr ⟨by simp[eL],by simp;omega,by simpa[u]using E⟩
 .unfold eL;refine xS (yW ?_);simp[t4];apply AP;simp;apply Ci;refine⟨_,j1 5 (by simp),?_⟩;simp[Aq]
def Gj(g:AE)(h:List DT):O:=.row J 10 [.d (D4 g h)]
noncomputable def sL(n:Nat)(empty:Bool)(g:AE)(h:List DT):List (Int×DT):=Qb empty (g.AD.zip h) (mu n (g.AD.map (·.left)) []+1) []
theorem TS{n:Nat}(k:n<=12)(g:AE)(h:List DT)(i:Z h=Z g.AD)(j:∀t∈h,FE n t)(empty:Bool):
  ∃m,Hr n m/\m=sL n empty g h/\AG prog 157 [.ptr 0 1 0 0,.d (.bool empty)] [Gj g h] (.map 1) [Gj g h,mI m]:=by
 obtain⟨m,o,q,u⟩:=jj k g h i j empty [] (λp v=>absurd v (by simp));refine⟨m,o,q,?_⟩;refine oF func157 (by kernel_rfl) rfl (by simp) λwf w=>?_;rw[ntmps157];unfold Gj;apply yW;simp;apply yW;simp;apply yS;apply yJ;simp;refine xF (u) [1,2,4,3,0] rfl ?_;simp[eL];apply yJ;simp;apply yW;simp;apply Aj;refine⟨_,vk [0,3] ?_ ?_ ?_,?_⟩
 .simp
 .simp
 .rfl
 .simp[Aq,pick];try decide
abbrev Pr:=Int×Int
def Ib(t:Pr):D:=.agg [.int .i64 t.1,.int .i64 t.2]
theorem ov(a b:Pr):DZ (Ib a) (Ib b)=decide (a=b):=by
 obtain⟨g,h⟩:=a;obtain⟨b1,i⟩:=b;rw[gI];simp[DZ,CT,Ib]
section
variable {β:Type} {ev:β->V}
@[simp] theorem wN(l:List (Pr×β))(a b:Int):Cz (BV Ib ev l) (.agg [.int .i64 a,.int .i64 b])=(look l (a,b)).map ev:=FR ov l (a,b)
@[simp] theorem w5(l:List (Pr×DT))(a b:Int)(t:DT):Ep (BV Ib vT l) (.agg [.int .i64 a,.int .i64 b]) (.d (AB (Ce t)))=BV Ib vT (Cx l (a,b) t):=EA (ev:=vT) ov l (a,b) t
@[simp] theorem tP(l:List (Pr×β)):Bh (.cells [.int .i64,.int .i64]) (BV Ib ev l)=True:=eq_true (FH (by intro a;simp[Bz,Bv,CC,Ib]) l)
end
def m2(m:List (Pr×DT)):O:=.map (BV Ib vT m)
attribute [simp] m2
theorem sk(m:List (Pr×DT))(a b:Int):AG prog 161 [.map 0,.agg [.d (.int .i64 a),.d (.int .i64 b)]] [m2 m] (.d (AB (Ce (DR m (a,b))))) [m2 m]:=by
 refine zD func161 16 rfl λwf h=>?_;unfold m2;(repeat apply xS);apply yV;simp;cases g:look m (a,b)with
 |some t=>
  have e:DR m (a,b)=t:=by simp[DR,g]
  rw[e];refine xS (yW ?_);simp[g,vT];apply yW;simp;apply AP;simp;apply yW;simp;apply Aj;refine⟨_,_,_,a9,by simp,by simp,j1 1 (by simp)⟩
 |none=>
  have e:DR m (a,b)=.leaf false:=by simp[DR,g]
  rw[e];refine xS (yW ?_);simp[g];apply yW;simp;apply AP;simp;apply xK;(repeat apply xS);apply yT;apply yJ;simp;refine Bq (Hw ap) rfl (by simp) (yJ ?_);simp;apply Aj;refine⟨_,_,_,a9,by simp,by simp[IZ,AB],j1 1 (by simp)⟩
theorem UW:∀{xs:List V},Gk xs↔∀x∈xs,Ij x
 |[]=>by simp[Gk]
 |x::xs=>by simp[Gk,UW (xs:=xs)]
open Classical in
noncomputable def FK(st:List (Pr×DT))(fr:Int)(d:DT)(s:List (Int×DT)×List Int)(m:Int):List (Int×DT)×List Int:=
 if DR s.1 m=cU (DR s.1 m) (I7 d (DR st (fr,m)))then s else(Cx s.1 m (cU (DR s.1 m) (I7 d (DR st (fr,m)))),s.2++[m])
noncomputable def visitM(st:List (Pr×DT))(fr:Int)(d:DT)(l:List Int)(s:List (Int×DT)×List Int):List (Int×DT)×List Int:=l.foldl (FK st fr d) s
theorem TZ(st:List (Pr×DT))(fr:Int)(d:DT)(l:List Int)(s:List (Int×DT)×List Int){i:Nat}(hi:i<Z l):visitM st fr d (l.take (i+1)) s=FK st fr d (visitM st fr d (l.take i) s) l[i]:=by
 unfold visitM;rw[pt hi,abU];rfl
theorem Zh(st:List (Pr×DT))(fr:Int)(d:DT)(s:List (Int×DT)×List Int)(m:Int):Z s.2<=Z (FK st fr d s m).2:=by
 unfold FK;split
 .exact c9 _
 .simp
theorem LN(st:List (Pr×DT))(fr:Int)(d:DT):∀(l:List Int) (s:List (Int×DT)×List Int),Z s.2<=Z (visitM st fr d l s).2
 |[],_=>c9 _
 |m::l,s=>ms (Zh st fr d s m) (LN st fr d l _)
theorem fJ{n:Nat}(h:n<=12){st:List (Pr×DT)}(j:Hr n st){fr:Int}{d:DT}(k:FE n d){s:List (Int×DT)×List Int}(g:Hr n s.1){m:Int}{ks:List Int}(o:m∈ks):
  Hr n (FK st fr d s m).1/\Z (FK st fr d s m).2+mu n ks (FK st fr d s m).1<=Z s.2+mu n ks s.1/\Z (FK st fr d s m).2+2 * mu n ks (FK st fr d s m).1<=Z s.2+2 * mu n ks s.1:=by
 obtain⟨q,A,_⟩:=Ex G5 h k (j.at (fr,m));obtain⟨o1,u,_⟩:=Ex Ir h (g.at m) q;unfold FK;split
 .exact⟨g,c9 _,c9 _⟩
 .next v=>
  have i:=dV (ks:=ks) o (g.at m) o1 (λc w=>by rw[u,w];rfl) v;refine⟨g.put m o1,?_,?_⟩
  .simp;have:mu n ks (Cx s.1 m (cU (DR s.1 m) (I7 d (DR st (fr,m)))))<mu n ks s.1:=i;omega
  .simp;have:mu n ks (Cx s.1 m (cU (DR s.1 m) (I7 d (DR st (fr,m)))))<mu n ks s.1:=i;omega
theorem IX{n:Nat}(h:n<=12){st:List (Pr×DT)}(i:Hr n st){fr:Int}{d:DT}(j:FE n d){ks:List Int}:∀(l:List Int) {s:List (Int×DT)×List Int},(∀m∈l,m∈ks)->Hr n s.1->Hr n (visitM st fr d l s).1/\Z (visitM st fr d l s).2+mu n ks (visitM st fr d l s).1<=Z s.2+mu n ks s.1/\Z (visitM st fr d l s).2+2 * mu n ks (visitM st fr d l s).1<=Z s.2+2 * mu n ks s.1
 |[],_,_,g=>⟨g,c9 _,c9 _⟩
 |m::l,s,k,g=>by
  obtain⟨o,v,w⟩:=fJ h i (fr:=fr) j g (k m (by simp));obtain⟨q,A,B⟩:=IX h i (fr:=fr) j (ks:=ks) l (λx u=>k x (by simp[u])) o;have e:visitM st fr d (m::l) s=visitM st fr d l (FK st fr d s m):=rfl;rw[e];exact⟨q,by omega,by omega⟩
def vI(l:List Int):V:=.d (.sl (l.map (D.int .i64)))
def bR(h:List (Int×List Int))(st:List (Pr×DT))(g:List (Int×DT))(i:Bool)(q:List Int):Sg:=
 [.row J 1 [.map 4],.row J 1 [.map 5],.row J 1 [.map 6],.row J 1 [.row 7 (Z q)],.map (BV (D.int .i64) vI h),mI g,m2 st,.row i 1 (q.map λx=>.d (.int .i64 x))]
@[simp] theorem ia{α:Type}{ek:α->D}{k:Nat}(l:List (α×List Int)):(BV ek vI l).all (λe=>AJ k e.2)=true:=by
 rw[ed];intro p g;simp only[BV,g7]at g;obtain⟨q,_,rfl⟩:=g;rfl
@[simp] theorem w9{α:Type}(ρ:Nat->Nat)(ek:α->D)(l:List (α×List Int)):(BV ek vI l).map (λp=>(p.1,BW ρ p.2))=BV ek vI l:=by
 unfold BV;rw[m0];rfl
theorem RJ{n:Nat}(W:n<=12)(w:List (Int×List Int))(st:List (Pr×DT))(zn:Hr n st)(g:List (Int×DT))(hr:Hr n g)(H:Bool)(q:List Int)(fr:Int)(d:DT)(hd:FE n d)
  (ks:List Int) (E:∀m∈(look w fr).getD [],m∈ks) (hq:Z q+mu n ks g<=2 ^ 29):
  ∃F,(Z (visitM st fr d ((look w fr).getD []) (g,q)).2=Z q\/F=J)/\(H=J->F=J)/\AG prog 162 [.d (encI fr),.d (AB (Ce d)),.ptr 0 1 0 0,.ptr 1 1 0 0,.ptr 2 1 0 0,.ptr 3 1 0 0] (bR w st g H q) (.CX [])
   (bR w st (visitM st fr d ((look w fr).getD []) (g,q)).1 F (visitM st fr d ((look w fr).getD []) (g,q)).2):=by
 cases T:look w fr with
 |none=>
  refine⟨H,.inl rfl,id,?_⟩;have e:visitM st fr d ((none:Option (List Int)).getD []) (g,q)=(g,q):=rfl;rw[e];refine zC func162 50 rfl λwf L=>?_;unfold bR mI m2;apply yW;simp;apply yW;simp[T];apply Bo;refine FO 0 (λi tm S=>tm 15=.d (encI 0)/\tm 16=.d (encI 0)/\i=0/\S=bR w st g H q++[.row J 2 [.d (AB (Ce d))]]) (i0:=0) (c9 _) (by simp[bR]) ?_;rintro i tm S hi ⟨t15,t16,rfl,rfl⟩;unfold bR mI m2;apply yW;simp[t15,t16];apply xC;simp;apply Ci;refine⟨_,j1 8 (by simp),?_⟩;simp[Aq]
 |some l=>
  rw[T]at E;simp only[up]at E⊢;refine⟨H||decide (Z q<Z (visitM st fr d l (g,q)).2),?_,λh=>by simp[h],?_⟩
  .rcases s9 (Z q) (Z (visitM st fr d l (g,q)).2) with h|h
   .right;simp[h]
   .left;have:=LN st fr d l (g,q);simp only at this;omega
  refine zC func162 50 rfl λwf L=>?_;have U:Z l<=maxLen:=by
   have h:=L.2.2.2.2.1;simp[vY]at h;have h2:=(UW.1 h.2) (vI l) (by simp only[BV,g7];exact⟨(.int .i64 fr,vI l),⟨(fr,l),GU T,rfl⟩,rfl⟩);simpa[vI,Ij,DY]using h2.1
  unfold bR mI m2;apply yW;simp;apply yW;simp[T,vI];apply Bo;refine zL (Z l) (λi tm S=>tm 0=.d (encI fr)/\tm 3=.ptr 1 1 0 0/\tm 4=.ptr 2 1 0 0/\tm 5=.ptr 3 1 0 0/\tm 7=.ptr 8 1 0 0/\tm 14=.d (.sl (l.map (D.int .i64)))/\tm 15=.d (encI (Z l))/\tm 16=.d (encI i)/\S=bR w st (visitM st fr d (l.take i) (g,q)).1 (H||decide (Z q<Z (visitM st fr d (l.take i) (g,q)).2)) (visitM st fr d (l.take i) (g,q)).2++[.row J 2 [.d (AB (Ce d))]]) (by simp[bR,visitM]) ?_;rintro i tm S hi ⟨t0,t3,t4,t5,t7,t14,t15,t16,rfl⟩;generalize M:visitM st fr d (l.take i) (g,q)=R;obtain⟨k1,k2,k3⟩:=IX W zn (fr:=fr) hd (ks:=ks) (l.take i) (s:=(g,q)) (λm hm=>E m (ab2 hm)) hr;rw[M]at k1 k2 k3;simp only at k2 k3;have k4:Z q<=Z R.2:=by rw[<-M];exact LN st fr d (l.take i) (g,q)
  unfold bR mI m2;apply yW;simp[t15,t16];apply xC;simp;refine⟨λv=>?_,λzu=>?_⟩
  .have zk:visitM st fr d (l.take (i+1)) (g,q)=FK st fr d R l[i]:=by rw[TZ _ _ _ _ _ v,M]
   obtain⟨X,hX⟩:∃X,X=QN and d (DR st (fr,l[i])):=⟨_,rfl⟩;obtain⟨A,hA⟩:∃A,A=DR R.1 l[i]:=⟨_,rfl⟩;obtain⟨Y,hY⟩:∃Y,Y=QN or A X:=⟨_,rfl⟩;obtain⟨N,a2',k⟩:=Ex G5 W hd (zn.at (fr,l[i]));rw[<-hX]at N k;obtain⟨o1,o2,P⟩:=Ex Ir W (k1.at l[i]) N;rw[<-hA,<-hY]at P;have B:FK st fr d R l[i]=if A=Y then R else(Cx R.1 l[i] Y,R.2++[l[i]]):=by
    unfold FK;rw[hY,hA,hX];rfl
   have Q:Z R.2<=1073741823:=by omega
   rw[zk,B];have zv:=YC R.1 l[i];rw[<-hA]at zv;apply xK;apply xB;apply yW;simp[t14,t16,v];(repeat apply xS);apply yT;apply yJ;simp[t3];refine xF (zv) [5] rfl ?_;simp[mI];apply yJ;simp;cases j:look st (fr,l[i])with
   |none=>
    have K:DR st (fr,l[i])=.leaf false:=by simp[DR,j]
    have C:Dl and (Ce d) ⟨[],0⟩=(Ce X,0):=by rw[<-k,K];rfl
    refine yD (A7 15 [31,33]) (by kernel_rfl) ?_;simp;apply yA 1;simp[t7,t4,t0,j];refine B6 (NL (Ce d) (Ce (DR st (fr,l[i])))) rfl (by simp[K,IZ,xN]) ?_;simp[K,C,IZ];apply yA 1;simp;refine B6 (HD (Ce X)) rfl (by simp[xN]) ?_;simp;apply yA 1;simp;refine B6 (YV (Ce A) (Ce X)) rfl (by simp[xN]) ?_;simp[P];apply yA 1;simp;refine B6 (HD (Ce Y)) rfl (by simp[xN]) ?_;simp;apply xX 0 (by kernel_rfl);simp[AY,Ak,t7,t4,t0,j];apply xX 32767 (by kernel_rfl);simp;apply xM;apply yS;apply yJ;simp;refine Bq (Oa (Ce A) (Ce Y)) rfl (by simp[xN]) (yJ ?_);simp;apply AP;simp;refine⟨λzi=>?_,λhe=>?_⟩
    .have o:¬A=Y:=λe=>zi (l5 Ce e);rw[bv o];apply yW;simp[t3];apply yV;simp[t5,maxLen,Q];apply yV;simp[t16];refine⟨v,_,_,l6 9 (by simp),?_⟩;simp[clean,t0,t3,t4,t5,t7,t14,t15,AK v U];exact Or.inr (by omega)
    .have G:A=Y:=OX he;rw[ca G];apply CF;apply yV;simp[t16];refine⟨v,_,_,l6 9 (by simp),?_⟩;simp[clean,t0,t3,t4,t5,t7,t14,t15,AK v U]
   |some u=>
    have K:DR st (fr,l[i])=u:=by simp[DR,j]
    rw[K]at k;refine yD (A7 15 [31,33]) (by kernel_rfl) ?_;simp;apply yA 1;simp[t7,t4,t0,j,vT];refine B6 (NL (Ce d) (Ce u)) rfl (by simp[xN]) ?_;simp[k];apply yA 1;simp;refine B6 (HD (Ce X)) rfl (by simp[xN]) ?_;simp;apply yA 1;simp;refine B6 (YV (Ce A) (Ce X)) rfl (by simp[xN]) ?_;simp[P];apply yA 1;simp;refine B6 (HD (Ce Y)) rfl (by simp[xN]) ?_;simp;apply xX 0 (by kernel_rfl);simp[AY,Ak,t7,t4,t0,j,vT];apply xX 32767 (by kernel_rfl);simp;apply xM;apply yS;apply yJ;simp;refine Bq (Oa (Ce A) (Ce Y)) rfl (by simp[xN]) (yJ ?_);simp;apply AP;simp;refine⟨λzi=>?_,λhe=>?_⟩
    .have o:¬A=Y:=λe=>zi (l5 Ce e);rw[bv o];apply yW;simp[t3];apply yV;simp[t5,maxLen,Q];apply yV;simp[t16];refine⟨v,_,_,l6 9 (by simp),?_⟩;simp[clean,t0,t3,t4,t5,t7,t14,t15,AK v U];exact Or.inr (by omega)
    .have G:A=Y:=OX he;rw[ca G];apply CF;apply yV;simp[t16];refine⟨v,_,_,l6 9 (by simp),?_⟩;simp[clean,t0,t3,t4,t5,t7,t14,t15,AK v U]
  .have hil:i=Z l:=by omega
   subst hil;rw[ns]at M;rw[M];apply Ci;refine⟨_,j1 8 (by simp),?_⟩;simp[Aq]
inductive VM(st:Int->Int->Prop)(i:Int):Int->Prop
 |one {y:Int}:st i y->VM st i y
 |more {x y:Int}:VM st i x->x≠i->st x y->VM st i y
theorem VM.mono{st g:Int->Int->Prop}{i:Int}(h:∀a b,st a b->g a b):∀{y:Int},VM st i y->VM g i y:=by
 intro y j;induction j with
 |one k=>exact .one (h _ _ k)
 |more _ m o q=>exact .more q m (h _ _ o)
theorem Ud{t:DT}(i:t.Good)(h:t≠.leaf ap):∃c,t.CG c=true:=by
 by_cases g:∃c,t.CG c=J
 .exact g
 .refine absurd (DT.unique i (t:=.leaf ap) trivial λc=>?_) h;have:¬t.CG c=true:=λh=>g ⟨c,h⟩;simpa[CG]using this
def TV(st:List (Pr×DT))(c:Int->Bool)(a b:Int):Prop:=(DR st (a,b)).CG c=J
theorem nz{st:List (Pr×DT)}{c:Int->Bool}{a b:Int}(h:TV st c a b):(a,b)∈st.map (·.1):=by
 unfold TV DR at h;cases g:look st (a,b)with
 |none=>rw[g]at h;simp[CG]at h
 |some t=>exact g7.2 ⟨_,GU g,rfl⟩
structure nF(st:List (Pr×DT))(fr:Int)(d:DT)(l:List Int)(s s':List (Int×DT)×List Int):Prop where
 mono:∀y c,(DR s.1 y).CG c=J->(DR s'.1 y).CG c=J
 add:∀y∈l,∀c,d.CG c=J->TV st c fr y->(DR s'.1 y).CG c=J
 sound:∀y c,(DR s'.1 y).CG c=J->(DR s.1 y).CG c=J\/d.CG c=J/\TV st c fr y
 DB:∀z∈s.2,z∈s'.2
 queue:∀z,DR s'.1 z≠DR s.1 z->z∈s'.2
abbrev ru:=@Bool.or_eq_true
theorem af{n:Nat}(q:n<=12){st:List (Pr×DT)}(A:Hr n st){fr:Int}{d:DT}(B:FE n d){s:List (Int×DT)×List Int}(C:Hr n s.1)(m:Int):nF st fr d [m] s (FK st fr d s m):=by
 obtain⟨E,u,-⟩:=Ex G5 q B (A.at (fr,m));obtain⟨o1,v,-⟩:=Ex Ir q (C.at m) E;unfold FK;split
 .next w=>
  refine⟨λ_ _ h=>h,λy i c k o=>?_,λ_ _ h=>.inl h,λ_ h=>h,λz h=>absurd rfl h⟩;simp at i;subst i;rw[w];show(QN or _ (QN and _ _)).CG c=J
  rw[v,u,k,show(DR st (fr,y)).CG c=J from o];simp
 .next w=>
  have j:∀y,DR (Cx s.1 m (cU (DR s.1 m) (I7 d (DR st (fr,m))))) y=if y=m then cU (DR s.1 m) (I7 d (DR st (fr,m)))else DR s.1 y:=λy=>Ii _ _ _ _;have g:∀c,(cU (DR s.1 m) (I7 d (DR st (fr,m)))).CG c=((DR s.1 m).CG c||(d.CG c&&(DR st (fr,m)).CG c)):=λc=>by
   show(QN or _ (QN and _ _)).CG c=_
   rw[v,u]
  refine⟨λy c h=>?_,λy i c k o=>?_,λy c h=>?_,λz h=>acj _ h,λz h=>?_⟩
  .simp[j];split
   .next e=>subst e;rw[g,h];rfl
   .exact h
  .simp at i;subst i;simp[j];rw[g,k,show(DR st (fr,y)).CG c=J from o];simp
  .simp[j]at h;split at h
   .next e=>
    subst e;rw[g]at h;simp at h;exact h
   .exact .inl h
  .simp only[j]at h;by_cases e:z=m
   .subst e;exact acR _ (by simp)
   .rw[bv e]at h;exact absurd rfl h
theorem LV{n:Nat}(k:n<=12){st:List (Pr×DT)}(o:Hr n st){fr:Int}{d:DT}(q:FE n d){ks:List Int}:∀(l:List Int) {s:List (Int×DT)×List Int},(∀m∈l,m∈ks)->Hr n s.1->nF st fr d l s (visitM st fr d l s)
 |[],_,_,_=>⟨λ_ _ h=>h,λ_ h=>absurd h (by simp),λ_ _ h=>.inl h,λ_ h=>h,λ_ h=>absurd rfl h⟩
 |m::l,s,w,A=>by
  have e:visitM st fr d (m::l) s=visitM st fr d l (FK st fr d s m):=rfl;have i:=af k o (fr:=fr) q A m;have u:=(IX k o (fr:=fr) q (ks:=ks) [m] (s:=s) (λx j=>w x (by simp at j;simp[j])) A).1;have g:=LV k o (fr:=fr) q (ks:=ks) l (s:=FK st fr d s m) (λx j=>w x (by simp[j])) u;rw[e];refine⟨λy c h=>g.mono y c (i.mono y c h),λy v c a b=>?_,λy c h=>?_,λz h=>g.DB z (i.DB z h),λz h=>?_⟩
  .rcases ke.1 v with rfl|v
   .exact g.mono _ c (i.add _ (by simp) c a b)
   .exact g.add y v c a b
  .rcases g.sound y c h with h|h
   .exact i.sound y c h
   .exact .inr h
  .by_cases B:DR (FK st fr d s m).1 z=DR s.1 z
   .exact g.queue z (by rw[B];exact h)
   .exact g.DB z (i.queue z B)
structure RI(st:List (Pr×DT))(fam:DT)(i:Int)(rch:List (Int×DT))(q:List Int):Prop where
 sound:∀y c,(DR rch y).CG c=J->fam.CG c=J/\VM (TV st c) i y
 first:∀y c,fam.CG c=J->TV st c i y->(DR rch y).CG c=J
 closed:∀x,x≠i->x∉q->∀y c,(DR rch x).CG c=J->TV st c x y->(DR rch y).CG c=J
theorem Of(y:Int):DR ([]:List (Int×DT)) y=.leaf false:=rfl
abbrev abi:=@Classical.byContradiction
theorem RI.start{st:List (Pr×DT)}{fam:DT}{i:Int}{l:List Int}{j:List (Int×DT)×List Int}(m:∀y c,TV st c i y->y∈l)(h:nF st i fam l ([],[]) j):RI st fam i j.1 j.2:=by
 refine⟨λy c o=>?_,λy c q k=>h.add y (m y c k) c q k,λx w u y c g _=>?_⟩
 .rcases h.sound y c o with g|g
  .simp only[Of,CG]at g;cases g
  .exact⟨g.1,.one g.2⟩
 .have:DR j.1 x=DR [] x:=abi λv=>u (h.queue x v);rw[this,Of]at g;simp[CG]at g
theorem RI.visit{st:List (Pr×DT)}{fam:DT}{i x:Int}{q l:List Int}{g:List (Int×DT)}{k:List (Int×DT)×List Int}(R:RI st fam i g (x::q))(v:x≠i)(w:∀y c,TV st c x y->y∈l)
  (h:nF st x (DR g x) l (g,q) k):RI st fam i k.1 k.2:=by
 refine⟨λy c A=>?_,λy c B C=>h.mono y c (R.first y c B C),λz E u y c j m=>?_⟩
 .rcases h.sound y c A with j|j
  .exact R.sound y c j
  .have:=R.sound x c j.1;exact⟨this.1,.more this.2 v j.2⟩
 .have o:z∉q:=λF=>u (h.DB z F);have G:DR k.1 z=DR g z:=abi λH=>u (h.queue z H);rw[G]at j;by_cases e:z=x
  .subst e;exact h.add y (w y c m) c j m
  .exact h.mono y c (R.closed z E (by simp[e,o]) y c j m)
theorem RI.pass{st:List (Pr×DT)}{fam:DT}{i:Int}{q:List Int}{g:List (Int×DT)}(R:RI st fam i g (i::q)):RI st fam i g q:=
 ⟨R.sound,R.first,λz h j=>R.closed z h (by simp[h,j])⟩
theorem RI.done{st:List (Pr×DT)}{fam:DT}{i:Int}{g:List (Int×DT)}(R:RI st fam i g [])(y:Int)(c:Int->Bool):(DR g y).CG c=J↔fam.CG c=J/\VM (TV st c) i y:=by
 refine⟨R.sound y c,?_⟩;rintro⟨h,j⟩;induction j with
 |one k=>exact R.first _ c h k
 |more _ m o q=>exact R.closed _ m (by simp) _ c q o
def eH(st:List (Pr×DT))(fam:DT)(k:Int)(c:Int->Bool):Prop:=fam.CG c=J/\VM (TV st c) k k
structure OL(st:List (Pr×DT))(fam:DT)(i:Nat)(out:List (Int×DT)):Prop where
 sound:∀k c,(DR out k).CG c=J->∃j:Nat,j<i/\k=j/\eH st fam k c
 full:∀j:Nat,j<i->∀c,eH st fam j c->(DR out j).CG c=J
theorem OL.nil{st:List (Pr×DT)}{fam:DT}:OL st fam 0 []:=⟨λk c h=>(by simp only[Of,CG]at h;cases h),λj h=>absurd h (by omega)⟩
theorem OL.skip{st:List (Pr×DT)}{fam:DT}{i:Nat}{out:List (Int×DT)}(h:OL st fam i out)(o:∀c y,¬TV st c i y):OL st fam (i+1) out:=by
 refine⟨λk c q=>?_,λj hj c g=>?_⟩
 .obtain⟨j,m,u⟩:=h.sound k c q;exact⟨j,by omega,u⟩
 .by_cases e:j=i
  .subst e;have:∀y,VM (TV st c) (j:Int) y->False:=λy v=>by
    induction v with
    |one m=>exact o c _ m
    |more _ _ _ w=>exact w
   exact(this _ g.2).elim
  .exact h.full j (by omega) c g
theorem OL.put{st:List (Pr×DT)}{fam:DT}{i:Nat}{out g:List (Int×DT)}(h:OL st fam i out)(R:RI st fam i g []):OL st fam (i+1) (Cx out i (DR g i)):=by
 refine⟨λk c m=>?_,λj hj c o=>?_⟩
 .rw[Ii]at m;split at m
  .next e=>subst e;exact⟨i,by omega,rfl,(R.done _ c).1 m⟩
  .obtain⟨j,v,q⟩:=h.sound k c m;exact⟨j,by omega,q⟩
 .rw[Ii];split
  .next e=>exact(R.done _ c).2 (by rw[<-e];exact o)
  .next e=>
   have:j≠i:=λu=>e (by rw[u]);exact h.full j (by omega) c o
theorem OL.found{n:Nat}{st:List (Pr×DT)}{fam:DT}{i:Nat}{out:List (Int×DT)}(h:OL st fam i out)(w:Keyed out)(A:Hr n out):(∃q∈out,q.2≠.leaf ap)↔∃j:Nat,j<i/\∃c,eH st fam j c:=by
 constructor
 .rintro⟨q,v,B⟩;obtain⟨c,o⟩:=Ud (A q v).HF B;have m:DR out q.1=q.2:=by unfold DR;rw[w.look (k:=q.1) (x:=q.2) v];rfl
  obtain⟨j,u,g,C⟩:=h.sound q.1 c (by rw[m];exact o);exact⟨j,u,c,by rw[<-g];exact C⟩
 .rintro⟨j,u,c,o⟩;have g:=h.full j u c o;unfold DR at g;cases m:look out (j:Int)with
  |none=>rw[m]at g;simp[CG]at g
  |some t=>exact⟨_,GU m,λe=>by simp only at e;rw[m,e]at g;simp[CG]at g⟩
end Go.Koi
open Go.Koi.D renaming int->br
namespace Go.Koi
open Go renaming maxLen->a8
open Go.Proofs Tryz DT
theorem sH(t:DT):I7 t (.leaf ap)=.leaf false:=P7 (t:=.leaf ap) trivial λc=>by simp[CG]
theorem iw(m:List (Int×DT)):∀l:List Symbol,Ik m (.leaf ap) l=.leaf ap
 |[]=>rfl
 |s::l=>by
  have:stepT m (.leaf ap) s=.leaf false:=by simp[stepT]
  unfold Ik at *;rw[adG,this];exact iw m l
def Dr(l:List Symbol)(j:Nat):List Symbol:=l.take j++l.drop (j+1)
noncomputable def fK(m:List (Int×DT))(t:DT)(l:List Symbol)(j:Nat):DT:=if DO (Dr l j)then .leaf ap else Ik m t (Dr l j)
theorem qh{n:Nat}(g:n<=12){m:List (Int×DT)}(h:Hr n m){t:DT}(i:FE n t)(l:List Symbol)(j:Nat):FE n (fK m t l j):=by
 unfold fK;split
 .exact FE.leaf n ap
 .exact KQ g h _ i
def XC(g:AE):Prop:=∀p∈g.AD,p.right≠[]/\∀s,p.right=[s]->s.token=J
theorem fB{α β:Type}[DecidableEq α](l:List (α×β))(k:α)(x:β):Z (Cx l k x)<=Z l+1:=by
 unfold Cx;split<;>simp
theorem Hr.xt{α:Type}[DecidableEq α]{n:Nat}{m:List (α×DT)}(h:Hr n m)(k:α){t:DT}(i:FE n t):Hr n (Cx m k t):=by
 intro p g;unfold Cx at g;split at g
 .obtain⟨q,j,rfl⟩:=g7.1 g;split
  .exact i
  .exact h q j
 .rcases fi.1 g with g|g
  .exact h p g
  .simp only[go]at g;subst g;exact i
def eE(l:List AO)(i:Nat):Nat:=((l.take i).map (·.right.length)).sum
theorem aT{l:List AO}{i:Nat}(hi:i<Z l):eE l (i+1)=eE l i+Z l[i].right:=by
 unfold eE;rw[pt hi,abZ,List.sum_append];rfl
def Jz(g:AE)(o:List DT)(m:List (Int×DT))(i j:Nat)(c:Int->Bool)(a b:Int):Prop:=
 ∃h k,(h<i\/h=i/\k<j)/\∃(q:h<Z g.AD) (u:k<Z g.AD[h].right),g.AD[h].left=a/\g.AD[h].right[k].token=ap/\g.AD[h].right[k].index=b/\(fK m (o.getD h (.leaf ap)) g.AD[h].right k).CG c=J
theorem Jz.succ{g:AE}{u:List DT}{m:List (Int×DT)}{i j:Nat}{c:Int->Bool}{a b:Int}(v:i<Z g.AD){p:AO}(w:g.AD[i]=p)(A:j<Z p.right):
  Jz g u m i (j+1) c a b↔Jz g u m i j c a b\/p.left=a/\p.right[j].token=ap/\p.right[j].index=b/\(fK m (u.getD i (.leaf ap)) p.right j).CG c=true:=by
 subst w;constructor
 .rintro⟨o,q,h,k1,k2,k3⟩;by_cases e:o=i/\q=j
  .obtain⟨rfl,rfl⟩:=e;exact .inr k3
  .exact .inl ⟨o,q,by omega,k1,k2,k3⟩
 .rintro(⟨o,q,h,k⟩|h)
  .exact⟨o,q,by omega,k⟩
  .exact⟨i,j,by omega,v,A,h⟩
theorem Jz.row{g:AE}{q:List DT}{m:List (Int×DT)}{i:Nat}{c:Int->Bool}{a b:Int}(u:i<Z g.AD):Jz g q m (i+1) 0 c a b↔Jz g q m i (Z g.AD[i].right) c a b:=by
 constructor
 .rintro⟨j,o,h,k1,k2,k3⟩;refine⟨j,o,?_,k1,k2,k3⟩;by_cases e:j=i
  .subst e;exact .inr ⟨rfl,k2⟩
  .exact .inl (by omega)
 .rintro⟨j,o,h,k⟩;exact⟨j,o,by omega,k⟩
structure Wn(n:Nat)(g:AE)(ps:List DT)(m:List (Int×DT))(i j:Nat)(st:List (Pr×DT)):Prop where
 ok:Hr n st
 len:Z st<=eE g.AD i+j
 CG:∀c a b,TV st c a b↔Jz g ps m i j c a b
theorem Wn.nil{n:Nat}{g:AE}{i:List DT}{m:List (Int×DT)}:Wn n g i m 0 0 []:=
 ⟨λ_ h=>absurd h (by simp),er _,λc a b=>⟨λh=>(by simp[TV,DR,DT.CG]at h),λ⟨_,_,h,_⟩=>(by omega)⟩⟩
theorem Wn.row{n:Nat}{g:AE}{j:List DT}{m:List (Int×DT)}{i:Nat}{st:List (Pr×DT)}{p:AO}(k:i<Z g.AD)(o:g.AD[i]=p)(h:Wn n g j m i (Z p.right) st):Wn n g j m (i+1) 0 st:=by
 subst o;exact⟨h.ok,by have:=h.len;rw[aT k];omega,λc a b=>(h.CG c a b).trans (Jz.row k).symm⟩
theorem Wn.skip{n:Nat}{g:AE}{q:List DT}{m:List (Int×DT)}{i j:Nat}{st:List (Pr×DT)}{p:AO}(h:Wn n g q m i j st)(u:i<Z g.AD)(v:g.AD[i]=p)(w:j<Z p.right)
  (o:p.right[j].token=J\/fK m (q.getD i (.leaf ap)) p.right j=.leaf ap):Wn n g q m i (j+1) st:=by
 refine⟨h.ok,by have:=h.len;omega,λc a b=>?_⟩;rw[h.CG,Jz.succ u v w];refine⟨.inl,λA=>A.resolve_right λk=>?_⟩;rcases o with o|o
 .rw[o]at k;exact absurd k.2.1 (by simp)
 .rw[o]at k;exact absurd k.2.2.2 (by simp[DT.CG])
theorem Wn.put{n:Nat}(u:n<=12){g:AE}{o:List DT}{m:List (Int×DT)}{i j:Nat}{st:List (Pr×DT)}{p:AO}{y:Symbol}{X:DT}(h:Wn n g o m i j st)(v:i<Z g.AD)(w:g.AD[i]=p)(A:j<Z p.right)
  (B:p.right[j]=y) (C:y.token=ap) (E:fK m (o.getD i (.leaf ap)) p.right j=X) (q:FE n X):Wn n g o m i (j+1) (Cx st (p.left,y.index) (QN or (DR st (p.left,y.index)) X)):=by
 obtain⟨o1,F,-⟩:=Ex Ir u (h.ok.at (p.left,y.index)) q;refine⟨h.ok.xt _ o1,by have:=h.len;have:=fB st (p.left,y.index) (QN or (DR st (p.left,y.index)) X);omega,λc a b=>?_⟩;rw[Jz.succ v w A,<-h.CG,B,E];unfold TV;rw[Ii];split
 .next e=>
  simp only[ac7]at e;obtain⟨rfl,rfl⟩:=e;rw[F];simp[C]
 .next e=>
  refine⟨.inl,λG=>G.resolve_right λk=>e ?_⟩;rw[k.1,k.2.2.1]
def Fits(g:AE):Prop:=(g.AD.map (·.right.length)).sum<=2 ^ 16
theorem Ug{g:AE}(h:Fits g){p:AO}(i:p∈g.AD):Z p.right<=65536:=by
 have key:∀l:List AO,p∈l->Z p.right<=(l.map (·.right.length)).sum:=by
  intro l;induction l with
  |nil=>intro h;simp at h
  |cons q l j=>
   intro h;simp only[ii,adC];rcases ke.1 h with rfl|h
   .omega
   .have:=j h;omega
 exact ms (key _ i) h
def Ra(g:AE)(h:List DT)(m:List (Int×DT))(st:List (Pr×DT)):Sg:=[Gj g h,mI m,m2 st,.row J 1 [.map 2]]
abbrev NX:=List (Int×(List Int×Nat))
def bO(v:List Int×Nat):V:=.row (v.2+6) (Z v.1)
def iG(g:NX):List (D×V):=BV (br .i64) bO g
structure SU(st:List (Pr×DT))(vis:List Nat)(nx:NX)(R:Sg):Prop where
 rows:∀p∈nx,R[p.2.2]?=some (.row J 1 (p.2.1.map λx=>.d (.int .i64 x)))
 keyed:Keyed nx
 pos:(nx.map (·.2.2)).Nodup
 ks:∀p∈nx,∀x∈p.2.1,(p.1,x)∈st.map (·.1)
 len:∀p∈nx,Z p.2.1<=Z vis
 nd:vis.Nodup
 lt:∀i∈vis,i<Z st
 all:∀k∈vis,∀h:k<Z st,∃v,look nx st[k].1.1=some v/\st[k].1.2∈v.1
theorem SU.new{st:List (Pr×DT)}{vis:List Nat}{q:NX}{R:Sg}(h:SU st vis q R){i:Nat}(hi:i<Z st)(A:i∉vis){a x:Int}{Y:O}(G:st[i].1=(a,x))(H:look q a=none):
  SU st (vis++[i]) (Cx q a ([x],Z R+1)) (R++[Y,.row J 1 [.d (.int .i64 x)]]):=by
 have B:(a,x)∈st.map (·.1):=g7.2 ⟨st[i],cL hi,G⟩;have K:∀k∈vis++[i],∀j:k<Z st,∃v,look (Cx q a ([x],Z R+1)) st[k].1.1=some v/\st[k].1.2∈v.1:=λk j C=>by
  rw[Fc];rcases fi.1 j with j|j
  .obtain⟨v,E,M⟩:=h.all k j C;rw[bv (λe=>by rw[e,H]at E;cases E)];exact⟨v,E,M⟩
  .simp only[go]at j;subst j;rw[G,ca rfl];exact⟨_,rfl,by simp⟩
 have m:=h.keyed.Cx a ([x],Z R+1);rw[Lt _ H]at m K⊢;have o:∀p∈q,p.2.2<Z R:=λp g=>Ag (h.rows p g);refine⟨λp g=>?_,m,?_,λp g=>?_,λp g=>?_,?_,λk j=>?_,K⟩
 .rcases fi.1 g with g|g
  .rw[io (o p g)];exact h.rows p g
  .simp only[go]at g;subst g;simp
 .rw[abZ,Ks];refine⟨h.pos,by simp,λu F v A e=>?_⟩;obtain⟨p,g,rfl⟩:=g7.1 F;simp only[ii,W2,go]at A;have:=o p g;omega
 .rcases fi.1 g with g|g
  .exact h.ks p g
  .simp only[go]at g;subst g;intro y L;simp only[go]at L;subst L;exact B
 .rcases fi.1 g with g|g
  .have:=h.len p g;simp;omega
  .simp only[go]at g;subst g;simp
 .rw[Ks];exact⟨h.nd,by simp,λu F v w e=>by simp only[go]at w;subst e;subst w;exact A F⟩
 .rcases fi.1 j with j|j
  .exact h.lt k j
  .simp only[go]at j;subst j;exact hi
theorem SU.more{st:List (Pr×DT)}{vis:List Nat}{o:NX}{R:Sg}(h:SU st vis o R){i:Nat}(hi:i<Z st)(H:i∉vis){a x:Int}{Y:O}(W:st[i].1=(a,x)){l:List Int}{j:Nat}(K:look o a=some (l,j)):
  SU st (vis++[i]) (Cx o a (l++[x],j)) ((R++[Y]).set j (.row J 1 ((l++[x]).map λx=>.d (.int .i64 x)))):=by
 have g:=GU K;have M:=Ag (h.rows _ g);have N:(a,x)∈st.map (·.1):=g7.2 ⟨st[i],cL hi,W⟩;have X:∀k∈vis++[i],∀m:k<Z st,∃v,look (Cx o a (l++[x],j)) st[k].1.1=some v/\st[k].1.2∈v.1:=λk m P=>by
  rw[Fc];rcases fi.1 m with m|m
  .obtain⟨v,Q,e2⟩:=h.all k m P;split
   .next e=>
    rw[e,K]at Q;cases Q;exact⟨_,rfl,acj _ e2⟩
   .exact⟨v,Q,e2⟩
  .simp only[go]at m;subst m;rw[W,ca rfl];exact⟨_,rfl,acR _ (by simp)⟩
 have A:=h.keyed.Cx a (l++[x],j);have S:Cx o a (l++[x],j)=o.map λp=>if p.1=a then(p.1,(l++[x],j))else p:=by simp[Koi.Cx,K]
 have E:∀p∈o,p.1=a->p=(a,(l,j)):=λp w e=>by
  have:look o a=some p.2:=h.keyed.look (by rw[<-e];exact w);rw[K]at this;obtain⟨p1,p2⟩:=p;simp only[j3]at this e⊢;rw[e,<-this]
 have F:∀p∈o,p.1≠a->p.2.2≠j:=λp w T e=>by
  obtain⟨u,L,eu⟩:=lm.1 w;obtain⟨v,H,ev⟩:=lm.1 g;have:(o.map (·.2.2))[u]'(by simpa using L)=(o.map (·.2.2))[v]'(by simpa using H):=by simp[eu,ev,e]
  have:=KZ h.pos (by simpa using L) (by simpa using H) this;subst this;rw[eu]at ev;exact T (by rw[ev])
 rw[S]at A X⊢;refine⟨λp w=>?_,A,?_,λp w=>?_,λp w=>?_,?_,λk m=>?_,X⟩
 .obtain⟨q,B,rfl⟩:=g7.1 w;split
  .have U:j<Z (R++[Y]):=by simp only[jp,gr,mp];simp only at M;omega
   simp only[abm U]
  .next T=>
   have h1:=F q B T;rw[pv (n7 h1),io (Ag (h.rows q B))];exact h.rows q B
 .have:(o.map λp=>if p.1=a then(p.1,(l++[x],j))else p).map (·.2.2)=o.map (·.2.2):=by
   rw[m0];apply AC;intro p w;simp only[Function.comp];split
   .next e=>rw[E p w e]
   .rfl
  rw[this];exact h.pos
 .obtain⟨q,B,rfl⟩:=g7.1 w;split
  .next e=>
   intro y C;rw[e];rcases fi.1 C with C|C
   .exact h.ks _ g y C
   .simp only[go]at C;subst C;exact N
  .exact h.ks q B
 .obtain⟨q,B,rfl⟩:=g7.1 w;split
  .have:=h.len _ g;simp at this⊢;omega
  .have:=h.len q B;simp;omega
 .rw[Ks];exact⟨h.nd,by simp,λu L v G e=>by simp only[go]at G;subst e;subst G;exact H L⟩
 .rcases fi.1 m with m|m
  .exact h.lt k m
  .simp only[go]at m;subst m;exact hi
theorem nA{P:Program}{n b:Nat}{tm:Tm}{st:List (Pr×DT)}{vis:List Nat}{g:NX}{R:Sg}(h:SU st vis g R){o0 o1 o2 o3 o5:O}(hb:b<=6)(h0:Ao 6 o0=J)(F:Ao 6 o1=J)
  (G:Ao 6 o2=J) (H:Ao 6 o3=J) (K:Ao 6 o5=J):
  AI P n b tm ([o0,o1,o2,o3,.map (iG g),o5]++R) (clean 6 tm) [o0,o1,o2,o3,.map (BV (br .i64) vI (g.map λp=>(p.1,p.2.1))),o5]:=by
 have m:∀j,([o0,o1,o2,o3,.map (iG g),o5]++R)[j+6]?=R[j]?:=λj=>by simp
 have k:∀i,i<6->i∉(g.map λp=>(p.2.2+6,p.2.1.map (br .i64))).map (·.1):=λi hi u=>by
  rw[m0]at u;obtain⟨p,_,e⟩:=g7.1 u;simp only[Function.comp]at e;omega
 obtain⟨v,L,M,N,w⟩:=AI.YO (P:=P) (n:=n) (b:=b) (tm:=tm) (g.map λp=>(p.2.2+6,p.2.1.map (br .i64))) (S:=[o0,o1,o2,o3,.map (iG g),o5]++R) (by
  have e:(g.map λp=>(p.2.2+6,p.2.1.map (br .i64))).map (·.1)=(g.map (·.2.2)).map (·+6):=by
   rw[m0,m0];rfl
  rw[e];exact acW.2 (List.Pairwise.imp (λ{a b} A e=>A (by simpa using e)) h.pos)) (by
  intro p Q;obtain⟨q,T,rfl⟩:=g7.1 Q;refine⟨J,1,?_⟩;simp only;rw[m,h.rows q T,m0];rfl)
 have B:v[4]?=some (.map (iG g)):=by rw[w 4 (k 4 (by decide))];rfl
 have o:6<=Z v:=by rw[M];simp
 refine L.trans ((AI.vW 4 (es':=BV (br .i64) vI (g.map λp=>(p.1,p.2.1))) B (by simp[BV,iG]) λi hi U=>?_).trans (fd 6 ?_ hb (by simpa using o) ?_))
 .have C:i<Z g:=by simpa[BV,iG]using hi
  simp only[BV,iG,m6];refine⟨trivial,.inr (.inr ⟨.sl (g[i].2.1.map (br .i64)),?_,rfl⟩)⟩;have E:=N (g[i].2.2+6,g[i].2.1.map (br .i64)) (g7.2 ⟨g[i],cL C,rfl⟩);simp only at E;simp[bO,BO,B4,E]
 .apply acx;intro i;rw[abY];split
  .next hi=>
   by_cases e:i=4
   .subst e;rw[abm (by omega)];rfl
   .rw[pv (n7 e),w i (k i hi),io (by simpa using hi)];match i,hi,e with
    |0,_,_=>rfl
    |1,_,_=>rfl
    |2,_,_=>rfl
    |3,_,_=>rfl
    |5,_,_=>rfl
  .next hi=>exact(pu (by simp;omega)).symm
 .have e:(v.set 4 (.map (BV (br .i64) vI (g.map λp=>(p.1,p.2.1))))).take 6=[o0,o1,o2,o3,.map (BV (br .i64) vI (g.map λp=>(p.1,p.2.1))),o5]:=by
   apply acx;intro i;rw[abY];split
   .next hi=>
    by_cases e:i=4
    .subst e;rw[abm (by omega)];rfl
    .rw[pv (n7 e),w i (k i hi),io (by simpa using hi)];match i,hi,e with
     |0,_,_=>rfl
     |1,_,_=>rfl
     |2,_,_=>rfl
     |3,_,_=>rfl
     |5,_,_=>rfl
   .next hi=>exact(pu (by simp;omega)).symm
  rw[e];have u:Ao 6 (.map (BV (br .i64) vI (g.map λp=>(p.1,p.2.1))))=true:=ia _;simp only[List.all_cons,h0,F,G,H,K,u,List.all_nil,adV]
def X9(g:AE)(h:List DT)(m:List (Int×DT))(st:List (Pr×DT))(i:List (Int×List Int))(out:List (Int×DT)):Sg:=
 [Gj g h,mI m,m2 st,.row J 1 [.map 2],.map (BV (br .i64) vI i),.row J 1 [.map 4],mI out]
theorem Js(st:List (Pr×DT))(fr:Int)(d:DT):∀(l:List Int) {s:List (Int×DT)×List Int},(∀x∈s.2,(look s.1 x).isSome=J)->∀x∈(visitM st fr d l s).2,(look (visitM st fr d l s).1 x).isSome=J
 |[],_,h=>h
 |m::l,s,h=>by
  have e:visitM st fr d (m::l) s=visitM st fr d l (FK st fr d s m):=rfl;rw[e];refine Js st fr d l λx g=>?_;unfold FK at g⊢;split
  .next i=>rw[ca i]at g;exact h x g
  .next i=>
   rw[bv i]at g;simp only[Fc];split
   .rfl
   .next j=>
    rcases fi.1 g with g|g
    .exact h x g
    .simp only[go]at g;exact absurd g j
def gi(n:Nat)(ks:List Int)(g:AE)(o:List DT)(m:List (Int×DT))(st:List (Pr×DT))(u:List (Int×List Int))(out:List (Int×DT))(i:Int)(k:Nat)(S:Sg):Prop:=
 ∃h q j,RI st (tr g.fam) i h q/\Hr n h/\(q≠[]->j=J)/\(∀x∈q,(look h x).isSome=J)/\Z q+mu n ks h<=2 ^ 29/\Z q+2 * mu n ks h<k/\S=X9 g o m st u out++[mI h,.row J 1 [.map 7],.row j 1 (q.map λx=>.d (.int .i64 x)),.row J 1 [.row 9 (Z q)]]
theorem UK:∀n:Nat,Z (SJ n)=2 ^ n
 |0=>rfl
 |n+1=>by simp[SJ,UK n];omega
abbrev adr:=@List.countP_le_length
theorem jW{α:Type}[DecidableEq α](n:Nat)(m:List (α×DT)):∀ks:List α,mu n ks m<=Z ks * 2 ^ n
 |[]=>by simp[mu]
 |k::ks=>by
  have g:=jW n m ks;have h:outs n (DR m k)<=2 ^ n:=by unfold outs;rw[<-UK n];exact adr
  unfold mu at *;simp only[ii,adC,gr,oE,Nat.one_mul];omega
theorem Yn{α β γ:Type}[DecidableEq α](f:β->γ)(l:List (α×β))(k:α):look (l.map λp=>(p.1,f p.2)) k=(look l k).map f:=by
 induction l with
 |nil=>rfl
 |cons p l g=>
  rw[ii,Cn,Cn,g];split<;>rfl
def gz(n:Nat)(g:AE)(h:List DT):Prop:=∃j:Nat,j<Z g.A0/\∃c,(tr g.fam).CG c=J/\VM (Jz g h (sL n J g h) (Z g.AD) 0 c) j j
theorem nC{n:Nat}{g:AE}{h:List DT}{st:List (Pr×DT)}(i:Wn n g h (sL n J g h) (Z g.AD) 0 st):(∃j:Nat,j<Z g.A0/\∃c,eH st (tr g.fam) j c)↔gz n g h:=by
 have k:∀c (j y:Int),VM (TV st c) j y↔VM (Jz g h (sL n J g h) (Z g.AD) 0 c) j y:=λc j y=>
  ⟨VM.mono λa b=>(i.CG c a b).1,VM.mono λa b=>(i.CG c a b).2⟩
 unfold gz eH;simp only[k]
abbrev tj:=@List.map_drop
abbrev GE:=@List.getD_eq_getElem?_getD
abbrev adW:=@List.any_cons
theorem Zw{n:Nat}(hn:n<=12)(g:AE)(G:List DT)(hlen:Z G=Z g.AD)(hps:∀t∈G,FE n t)(hfam:FE n (tr g.fam))(hval:Valid g.fam)(hfits:Fits g):
  BH prog 60 [.ptr 0 1 0 0] [Gj g G] λv S'=>∃out,Hr n out/\((∃q∈out,q.2≠.leaf ap)↔gz n g G)/\v=.map 1/\S'=[Gj g G,mI out]:=by
 obtain⟨m,hm,hme,hder⟩:=TS hn g G hlen hps J;refine BH.Aw func60 (by kernel_rfl) rfl (by simp) λwf wfs=>?_;simp[Gj,LZ,vY,Gk,Ij,D4,DY,Bm]at wfs;obtain⟨_,_,_,_,_,⟨a4,_⟩,⟨a1,a2⟩,_,_,_,_⟩:=wfs;have a3:∀p∈g.AD,Z p.right<=a8:=λp hp=>by
  rw[Di]at a2;have:=a2 p hp;simp[AF,DY,Bm]at this;exact this.2.2.1.1
 rw[ntmps60];unfold Gj;refine xW λK o=>?_;simp;apply o;refine E5 λK o=>?_;refine xJ ?_;simp;refine xF (hder) [0] rfl ?_;simp[Gj];refine xJ ?_;simp;refine BY (o _ _ ?_);refine xW λK o=>?_;simp;apply o;refine xS (xW λK o=>?_);simp[D4];apply o;refine Bo ?_;refine FO (Z g.AD) (λi tm S=>tm 0=.ptr 0 1 0 0/\tm 3=.map 1/\tm 4=.ptr 3 1 0 0/\tm 29=.d (CJ g.AD)/\tm 30=.d (encI (Z g.AD))/\tm 31=.d (encI i)/\∃st,Wn n g G m i 0 st/\S=Ra g G m st) (i0:=0) (er _) (by simp[Ra,Gj,mI,m2,D4];exact⟨[],Wn.nil,rfl⟩) ?_;rintro i tm S hi ⟨t0,t3,t4,t29,t30,t31,st,zn,rfl⟩;unfold Ra Gj mI m2;refine xW λK o=>?_;simp[t30,t31];apply o;refine xC ?_;simp;refine⟨λzg=>?_,λzu=>?_⟩
 .have hips:i<Z G:=by omega
  have hp3:=a3 g.AD[i] (cL zg);have hm1:Z g.AD[i].right<=65536:=Ug hfits (cL zg);generalize hp:g.AD[i]=p at *;refine xK ?_;refine xB ?_;refine xW λK o=>?_;simp[t29,t31,zg,hp];apply o;refine xW λK o=>?_;simp;apply o;refine Bo ?_;refine FO (Z p.right) (λj w S=>w 0=.ptr 0 1 0 0/\w 3=.map 1/\w 4=.ptr 3 1 0 0/\w 29=.d (CJ g.AD)/\w 30=.d (encI (Z g.AD))/\w 31=.d (encI i)/\w 5=.d (encI i)/\w 6=.ptr 4 1 0 0/\w 37=.d (Ax p.right)/\w 38=.d (encI (Z p.right))/\w 39=.d (encI j)/\∃st,Wn n g G m i j st/\S=Ra g G m st++[.row J 13 [.d (AF p)]]) (i0:=0) (er _) (by simp[Ra,Gj,AF,t0,t3,t4,t29,t30,t31];exact⟨st,zn,rfl⟩) ?_;rintro j w S hj ⟨s0,s3,s4,s29,s30,s31,s5,s6,s37,s38,s39,st,zn,rfl⟩;unfold Ra Gj mI m2;refine xW λK o=>?_;simp[s38,s39];apply o;refine xC ?_;simp;refine⟨λE=>?_,λhge2=>?_⟩
  .refine xK ?_;refine xB ?_;refine xW λK o=>?_;simp[s37,s39,E];apply o;refine xS (xW λK o=>?_);simp;apply o;refine AP ?_;simp;refine⟨λhtok=>?_,λhtok=>?_⟩
   .refine Ci ?_;refine xV λK o=>?_;simp[s39];apply o;refine⟨E,_,_,l6 5 (by simp),?_⟩;simp[clean,s0,s3,s4,s29,s30,s31,s5,s6,s37,s38,AK E hp3];exact⟨st,zn.skip zg hp E (.inl htok),rfl⟩
   .refine xK ?_;refine xD (A7 5 [12,14,16,18,20,11,23,24]) (by kernel_rfl) λK o=>?_;simp;have hw:=AK E hp3;have hle:(j:Int)+1<=Z p.right:=by omega
    have H:j+1=Z p.right\/Z (BE ((Option.map AH p.right[j+1]?).getD (D.bool ap)))=2/\CL.oneD ((Option.map AH p.right[j+1]?).getD (D.bool ap))=true:=by
     by_cases e:j+1=Z p.right
     .exact .inl e
     .right;rw[ej (show j+1<Z p.right by omega)];simp
    have hS0:Ac 2 (o4 (V.d ∘ AH) p.right):=by simp
    have hS1:Ac 2 (List.take j (o4 (V.d ∘ AH) p.right)):=λy hy=>hS0 y (ab2 hy);have hS2:Ac 2 (List.drop (j+1) (o4 (V.d ∘ AH) p.right)):=λy hy=>hS0 y (acZ hy);have hj30:j<=1073741824:=by omega
    have hj31:j+(Z p.right - (j+1))<=1073741824:=by omega
    have htk:List.take (Z p.right) (o4 AH p.right)=o4 AH p.right:=PP (by simp);have htk2:List.take (Z p.right) (o4 (V.d ∘ AH) p.right)=o4 (V.d ∘ AH) p.right:=PP (by simp);have hlr:Z (Dr p.right j)=j+(Z p.right - (j+1)):=by simp[Dr];omega
    have h0j:(0:Int)<=(j:Int)+1:=by omega
    (repeat(refine xG ?_ ?_;(·simp[s6,AF,hj,hle,h0j]);simp[s6,AF,hw]));(repeat((refine xG ?_ ?_);(focus(simp[hle,h0j,H];done));simp[htk]));((refine xr [ap,ap,ap,ap,ap,J,ap,ap,ap,J] (by kernel_rfl) ?_ ?_);(focus(simp[AY,s6,hj,hw,hle,h0j,H,htk,hj30,hS1];done));simp[hj]);refine xX 1 (by kernel_rfl) ?_;simp[AY,s6,hj,hw,hle,h0j,H,htk,hj31,hS1,hS2];refine xA 1 ?_;simp;refine xM (o _ _ ?_);refine gs (gl 6 (xs:=(Dr p.right j).map AH) (by simp;exact⟨rfl,rfl,rfl⟩) ?_) ?_
    .have e:(List.take j (o4 (V.d ∘ AH) p.right)++List.drop (j+1) (o4 (V.d ∘ AH) p.right))=(Dr p.right j).map λx=>V.d (AH x):=by
      simp[Dr,nc]
     rw[e,Cp]
    simp;refine gs (AI.wJ 9 (d:=Ax (Dr p.right j)) ?_) ?_
    .simp[hlr]
    have hD:=KQ hn hm (Dr p.right j) (hps _ (cL hips));(repeat refine xS ?_);refine FG λK o=>?_;refine xJ ?_;simp[s0,s5,D4,hips];refine AS.E0 (jV hn m hm G[i] (hps _ (cL hips)) (Dr p.right j)) [1] rfl (by simp[mI,s3];try rfl) ?_;simp[mI,s3];(repeat((refine Cc ?_ ?_);(focus(simp;done));simp));refine BY (o _ _ ?_);(try simp only[B5]);refine xS (xW λK o=>?_);simp;apply o;refine Bo ?_;have hr65:Z (Dr p.right j)<=a8:=by rw[hlr];simp only[a8]at hp3⊢;omega
    have hdo:fK m G[i] p.right j=if DO (Dr p.right j)then .leaf ap else Ik m G[i] (Dr p.right j):=rfl;have hdok:=qh hn hm (hps _ (cL hips)) p.right j;have hgd:fK m (G.getD i (.leaf ap)) p.right j=fK m G[i] p.right j:=by rw[GE,ej hips];rfl
    generalize hX:fK m G[i] p.right j=X at *;generalize hy:p.right[j]=y at *;generalize hR:Dr p.right j=R at *;generalize hA:Ik m G[i] R=A at *;refine FO (Z R) (λk w S=>w 0=.ptr 0 1 0 0/\w 3=.map 1/\w 4=.ptr 3 1 0 0/\w 29=.d (CJ g.AD)/\w 30=.d (encI (Z g.AD))/\w 31=.d (encI i)/\w 5=.d (encI i)/\w 6=.ptr 4 1 0 0/\w 37=.d (Ax p.right)/\w 38=.d (encI (Z p.right))/\w 39=.d (encI j)/\w 8=.ptr 5 1 0 0/\w 10=.ptr 7 1 0 0/\w 68=.d (Ax R)/\w 69=.d (encI (Z R))/\w 70=.d (encI k)/\S=Ra g G m st++[.row J 13 [.d (AF p)],.row J 2 [.d (AH y)],.BT (R.map AH),.row J 2 [.d (AB (Ce (if DO (R.take k)then .leaf ap else A)))]]) (i0:=0) (er _) (by simp[Ra,Gj,mI,m2,AF,AH,D4,DO,s0,s3,s4,s29,s30,s31,s5,s6,s37,s38,s39]) ?_;rintro k tm2 S hk ⟨r0,r3,r4,r29,r30,r31,r5,r6,r37,r38,r39,r8,r10,r68,r69,r70,rfl⟩;unfold Ra Gj mI m2;refine xW λK o=>?_;simp[r69,r70];apply o;refine xC ?_;simp;refine⟨λP=>?_,λhge3=>?_⟩
    .have hany:DO (R.take (k+1))=(DO (R.take k)||R[k].token):=by
      unfold DO;rw[pt P,List.any_append];simp only[adW,List.any_nil,ac9]
     rw[hany];refine xK ?_;refine xB ?_;refine xW λK o=>?_;simp[r68,r70,P];apply o;refine xW λK o=>?_;simp;apply o;refine AP ?_;simp;refine⟨λht=>?_,λht=>?_⟩
     .refine FG λK o=>?_;refine xJ ?_;simp;refine Bq (Hw ap) rfl (by simp[xN]) ?_;simp;refine xJ ?_;simp[r10];refine BY (o _ _ ?_);refine xV λK o=>?_;simp[r70];apply o;refine⟨P,_,_,l6 8 (by simp),?_⟩;simp[clean,r0,r3,r4,r29,r30,r31,r5,r6,r37,r38,r39,r8,r10,r68,r69,AK P hr65,ht,IZ,AB]
     .refine CF ?_;refine xV λK o=>?_;simp[r70];apply o;refine⟨P,_,_,l6 8 (by simp),?_⟩;simp[clean,r0,r3,r4,r29,r30,r31,r5,r6,r37,r38,r39,r8,r10,r68,r69,AK P hr65,ht]
    .have hkl:k=Z R:=by omega
     subst hkl;rw[ns,<-hdo];refine Ci ?_;refine xW λK o=>?_;simp[r10];apply o;refine AP ?_;simp;refine⟨λhroot=>?_,λhroot=>?_⟩
     .obtain⟨o1,o2,o3⟩:=Ex Ir hn (zn.ok.at (p.left,y.index)) hdok;have zv:=sk st p.left y.index;have hXf:X≠.leaf false:=λe=>hroot ((Jf hdok.HF).2 e);generalize hB:DR st (p.left,y.index)=B at *;generalize hC:QN or B X=C at *;refine xW λK o=>?_;simp[r6,r8];apply o;refine xE (A7 10 [21]) (by kernel_rfl) λK o=>?_;simp;refine xA 2 ?_;simp[r4];refine Ab.Vs (zv) [2] rfl (by simp[m2];try rfl) ?_;simp;refine xA 2 ?_;simp[r10];refine B6 (YV (Ce B) (Ce X)) rfl (by simp[xN]) ?_;simp[o3];refine xA 2 ?_;simp;refine B6 (HD (Ce C)) rfl (by simp[xN]) ?_;simp;refine xX 1023 (by kernel_rfl) ?_;simp;refine xM (o _ _ ?_);refine xV λK o=>?_;simp[r39];apply o;refine⟨E,_,_,l6 5 (by simp),?_⟩;simp[clean,r0,r3,r4,r29,r30,r31,r5,r6,r37,r38,AK E hp3];exact⟨Cx st (p.left,y.index) C,by rw[<-hC,<-hB];exact zn.put hn zg hp E hy (by simpa using htok) hgd hdok,rfl⟩
     .refine CF ?_;refine xV λK o=>?_;simp[r39];apply o;refine⟨E,_,_,l6 5 (by simp),?_⟩;simp[clean,r0,r3,r4,r29,r30,r31,r5,r6,r37,r38,AK E hp3];exact⟨st,zn.skip zg hp E (.inr (hgd.trans ((Jf hdok.HF).1 (by simpa using hroot)))),rfl⟩
  .have hjl:j=Z p.right:=by omega
   subst hjl;refine Ci ?_;refine xV λK o=>?_;simp[s31];apply o;refine⟨zg,_,_,l6 4 (by simp),?_⟩;simp[clean,s0,s3,s4,s29,s30,AK zg a1];exact⟨st,zn.row zg hp,rfl⟩
 .have hil:i=Z g.AD:=by omega
  subst hil;have hst2:Z st<=65536:=ms zn.len (by unfold eE;rw[ns];exact hfits);refine Ci ?_;(repeat refine xS ?_);refine xV λK o=>?_;simp;refine o _ _ ?_;(try simp only[xQ,reduceIte]);have hSt:SU st [] [] []:=⟨by simp,by simp[Keyed],by simp,by simp,by simp,by simp,by simp,by simp⟩;refine xS ?_;refine AW.RV 2 100 ?_ ⟨rfl,rfl,rfl,?_⟩ ⟨rfl,rfl,rfl,?_⟩ λK o=>?_
  .decide
  .simp
  .simp
  refine GF.op ?_ ?_
  .simp[t4]
  simp[t4];refine GF.range (es:=BV Ib vT st) rfl ?_ λit=>?_
  .simp
  refine o (BV Ib vT st) (λit vis tm S=>tm 0=.ptr 0 1 0 0/\tm 4=.ptr 3 1 0 0/\tm 14=.ptr 5 1 0 0/\tm 100=.d (.raw (.pointer (some ⟨it,0,none⟩)))/\∃W R,SU st vis W R/\S=Ra g G m st++[.map (iG W),.row J 1 [.map 4]]++R) it _ _ ?_ ⟨?_,?_,?_⟩
  .simp[Fk,t0,t4];exact⟨[],[],hSt,rfl⟩
  .rintro it vis tm S ⟨q0,q4,L,Q,W,R,hI,rfl⟩;exact⟨by simp[Ra,m2],Q⟩
  .rintro it vis tm S i hi ⟨q0,q4,L,Q,W,R,hI,rfl⟩ hiv;have hil:i<Z st:=by simpa[BV]using hi
   obtain⟨a,b',t,hsti⟩:∃a b t,st[i]=((a,b),t):=⟨_,_,_,rfl⟩;have hes:(BV Ib vT st)[i]=(Ib (a,b'),vT t):=by simp[BV,hsti]
   have hbm:st[i].1=(a,b'):=by rw[hsti]
   unfold Ra Gj mI m2 iG;simp[hes];refine xJ ?_;simp;refine BY ?_;simp[Q];refine xJ ?_;simp[Ib];refine BY ?_;cases hl:look W a with
   |none=>
    refine xE (A7 10 [21,23]) (by kernel_rfl) λK o=>?_;simp;have hput:Ep (BV (br .i64) bO W) (.int .i64 a) (.row (Z R+1+1+1+1+1+1+1) 1)=BV (br .i64) bO (Cx W a ([b'],Z R+1)):=EA (ev:=bO) (by intro a b;rw[gI];simp[DZ]) W a ([b'],Z R+1);refine xA 1 ?_;simp[L,hl,a8];refine xX 9 (by kernel_rfl) ?_;simp[AY,L,hl,a8];refine xX 255 (by kernel_rfl) ?_;simp[AY,L,hput];refine xM (o _ _ ?_);refine⟨_,_,a9,by simp[q0],by simp[q4],by simp[L],by simp[Q],Cx W a ([b'],Z R+1),R++[.row J 2 [.d (.agg [.int .i64 a,.int .i64 b'])],.row J 1 [.d (.int .i64 b')]],?_,?_⟩
    .exact hI.new hil hiv hbm hl
    .simp
   |some v=>
    obtain⟨l,j⟩:=v;have hmem:=GU hl;have hrow:=hI.rows _ hmem;have hput:Ep (BV (br .i64) bO W) (.int .i64 a) (.row (j+6) (Z l+1))=BV (br .i64) bO (Cx W a (l++[b'],j)):=by
     have:=EA (ek:=br .i64) (ev:=bO) (by intro a b;rw[gI];simp[DZ]) W a (l++[b'],j);simpa[bO]using this
    refine xE (A7 10 [21,23]) (by kernel_rfl) λK o=>?_;simp;have hll:Z l<=65536:=by
     have h1:=hI.len _ hmem;have h2:=It id hI.nd (n:=Z st) (λx hx=>hI.lt x hx) (λx _ y _ e=>e);simp only at h1;omega
    have hjR:=Ag hrow;have hrow':∀X:List O,(R++X)[j]?=some (.row J 1 (l.map λx=>.d (.int .i64 x))):=λX=>by rw[io hjR];exact hrow
    have hYj:∀(X Y:O) (h:Z R<Z ((R++[Y]).set j X)),((R++[Y]).set j X)[Z R]'h=Y:=λX Y h=>by
     rw[acA (by simp only at hjR;omega)];simp
    have hl30:Z l+1<=1073741824:=by omega
    have hlm:Z l+1<=a8:=by simp only[a8];omega
    refine xA 1 ?_;simp[L,hl,a8,bO];refine xX 9 (by kernel_rfl) ?_;simp[AY,L,hl,a8,bO,hrow',hl30,hYj];have hjS:j<Z R+1:=by simp only at hjR;omega
    refine xX 255 (by kernel_rfl) ?_;simp[AY,L,hYj,hput];refine xM (o _ _ ?_);refine⟨_,_,a9,by simp[q0],by simp[q4],by simp[L],by simp[Q],Cx W a (l++[b'],j),(R++[O.row J 2 [V.d (.agg [.int .i64 a,.int .i64 b'])]]).set j (O.row J 1 ((l++[b']).map λx=>.d (.int .i64 x))),?_,?_⟩
    .exact hI.more hil hiv hbm hl
    .simp
  .rintro it vis tm S ⟨q0,q4,L,Q,W,R,hI,rfl⟩ zj;refine xJ ?_;simp;refine BY ⟨by simp,?_⟩;obtain⟨nl,hnl⟩:∃nl:List (Int×List Int),nl=W.map λp=>(p.1,p.2.1):=⟨_,rfl⟩;refine gs (nA (o0:=Gj g G) (o1:=mI m) (o2:=m2 st) (o3:=.row J 1 [.map 2]) (o5:=.row J 1 [.map 4]) hI (by decide) (by simp[Gj]) (by simp) (by simp) (by simp) (by simp)) ?_;rw[<-hnl];have hnk:∀k,look nl k=(look W k).map (·.1):=λk=>by rw[hnl];exact Yn (·.1) W k
   have T:∀k x,x∈(look nl k).getD []->x∈st.map (·.1.2):=λk x hx=>by
    rw[hnk]at hx;cases hk:look W k with
    |none=>rw[hk]at hx;simp at hx
    |some l=>
     rw[hk]at hx;obtain⟨q,hq,e⟩:=g7.1 (hI.ks _ (GU hk) x (by simpa using hx));exact g7.2 ⟨q,hq,by rw[e]⟩
   have hny:∀c k x,TV st c k x->x∈(look nl k).getD []:=λc k x hs=>by
    obtain⟨q,hq,e⟩:=g7.1 (nz hs);obtain⟨u,hu,eu⟩:=lm.1 hq;obtain⟨v,e1,e2⟩:=hI.all u (zj u (by simpa[BV]using hu)) hu;rw[eu,e]at e1 e2;rw[hnk,e1];exact e2
   clear hI zj;generalize htm:clean 6 _=tmq;have u0:tmq 0=.ptr 0 1 0 0:=by rw[<-htm];simp[clean,q0]
   have u14:tmq 14=.ptr 5 1 0 0:=by rw[<-htm];simp[clean,L]
   have u4:tmq 4=.ptr 3 1 0 0:=by rw[<-htm];simp[clean,q4]
   have hfe:Ce (tr g.fam)=g.fam:=EE hval;unfold Gj mI m2;refine xW λK o=>?_;simp;apply o;refine xS (xW λK o=>?_);simp[u0,D4];apply o;refine Bo ?_;refine FO (Z g.A0) (λi tm S=>tm 0=.ptr 0 1 0 0/\tm 4=.ptr 3 1 0 0/\tm 14=.ptr 5 1 0 0/\tm 16=.map 6/\tm 122=.d (encI (Z g.A0))/\tm 123=.d (encI i)/\∃out,Hr n out/\Keyed out/\OL st (tr g.fam) i out/\S=X9 g G m st nl out) (i0:=0) (er _) (by simp[u0,u14,u4,X9,Gj,mI,m2,D4];exact⟨[],λ_ h=>absurd h (by simp),Keyed.nil,OL.nil,rfl⟩) ?_;rintro i tm S hi ⟨t0,t4,t14,t16,t122,t123,out,hout,hky,hon,rfl⟩;unfold X9 Gj mI m2;refine xW λK o=>?_;simp[t122,t123];apply o;refine xC ?_;simp;refine⟨λzg=>?_,λzu=>?_⟩
   .refine xK ?_;refine xB ?_;(repeat refine xS ?_);refine xV λK o=>?_;simp[t123];refine o _ _ ?_;(try simp only[xQ,reduceIte]);cases hl:look nl i with
    |none=>
     refine xS (xW λK o=>?_);simp[t14,hl];apply o;refine AP ?_;simp;refine Ci ?_;refine xV λK o=>?_;simp[t123];apply o;refine⟨zg,_,_,a9,?_⟩;simp[t0,t4,t14,t16,t122,AK zg a4];exact⟨out,hout,hky,hon.skip λc y hs=>(by have:=hny c _ y hs;rw[hl]at this;simp at this),rfl⟩
    |some l=>
     refine xS (xW λK o=>?_);simp[t14,hl,vI];apply o;refine AP ?_;simp;refine⟨λhe=>?_,λzi=>?_⟩
     .refine Ci ?_;refine xV λK o=>?_;simp[t123];apply o;refine⟨zg,_,_,a9,?_⟩;simp[t0,t4,t14,t16,t122,AK zg a4];exact⟨out,hout,hky,hon.skip λc y hs=>(by have:=hny c _ y hs;rw[hl]at this;have e:l=[]:=(by simpa using he);simp[e]at this),rfl⟩
     .refine xK ?_;refine xW λK o=>?_;simp;apply o;refine E5 λK o=>?_;refine xO ?_;simp;refine vb (oa 132 1 (xs:=[]) (by simp)) ?_;simp;refine xJ ?_;simp;refine BY (o _ _ ?_);(repeat refine xS ?_);refine xV λK o=>?_;simp[t14,t4];refine o _ _ ?_;(try simp only[xQ,reduceIte]);have hlk:(look nl (i:Int)).getD []=l:=by rw[hl];rfl
      obtain⟨wq1,hw1,hw2,hc⟩:=RJ hn nl st zn.ok [] (λ_ h=>absurd h (by simp)) ap [] i (tr g.fam) hfam (st.map (·.1.2)) (T i) (by
       have h1:=jW n ([]:List (Int×DT)) (st.map (·.1.2));have h2:2 ^ n<=2 ^ 12:=aby (by decide) hn;have h3:=acu (show Z (st.map (·.1.2))<=65536 by simpa using hst2) h2;simp only[mp];omega)
      have hvis:=IX hn zn.ok (fr:=i) hfam (ks:=st.map (·.1.2)) l (s:=([],[])) (λx hx=>T i x (by rw[hlk];exact hx)) (λ_ h=>absurd h (by simp));have hlk2:=Js st i (tr g.fam) l (s:=([],[])) (by simp);rw[hlk]at hc hw1;have hri:=RI.start (fam:=tr g.fam) (i:=(i:Int)) (l:=l) (λy c hs=>by have:=hny c _ y hs;rwa [hlk]at this) (LV hn zn.ok (fr:=(i:Int)) hfam (ks:=st.map (·.1.2)) l (s:=([],[])) (λx hx=>T i x (by rw[hlk];exact hx)) (λ_ h=>absurd h (by simp)));obtain⟨Y,hY⟩:∃Y,Y=visitM st i (tr g.fam) l ([],[]):=⟨_,rfl⟩;rw[<-hY]at hc hw1 hvis hlk2 hri;simp only[bR,hfe]at hc;refine E5 λK o=>?_;refine xJ ?_;simp[t0,D4];refine vb (AI.wJ 140 (d:=AB g.fam) (by simp[AB])) ?_;refine xF (hc) [5,8,3,10,4,7,2,9] rfl ?_;simp;refine xJ ?_;simp;refine BY (o _ _ ?_);refine xB ?_;generalize hks:st.map (·.1.2)=ks at *;have hmu:Z Y.2+mu n ks Y.1<=2 ^ 29:=by
       have h1:=jW n ([]:List (Int×DT)) ks;have h2:2 ^ n<=2 ^ 12:=aby (by decide) hn;have h3:=acu (show Z ks<=65536 by rw[<-hks];simpa using hst2) h2;have h4:=hvis.2.1;simp only[mp]at h4;omega
      have hne1:Y.2≠[]->wq1=true:=λzi=>by
       rcases hw1 with h|h
       .exact absurd (abF.1 h) zi
       .exact h
      refine aes (λk tm S=>tm 0=.ptr 0 1 0 0/\tm 4=.ptr 3 1 0 0/\tm 14=.ptr 5 1 0 0/\tm 16=.map 6/\tm 122=.d (encI (Z g.A0))/\tm 123=.d (encI i)/\tm 17=.d (encI i)/\tm 18=.ptr 8 1 0 0/\tm 19=.ptr 10 1 0 0/\tm 20=.fn (.func 162) [] [.ptr 5 1 0 0,.ptr 8 1 0 0,.ptr 3 1 0 0,.ptr 10 1 0 0]/\gi n ks g G m st nl out i k S) ⟨Z Y.2+2 * mu n ks Y.1+1,_,_,a9,by simp[t0],by simp[t4],by simp[t14],by simp[t16],by simp[t122],by simp[t123],by simp,by simp,by simp,by simp,(by unfold gi;exact⟨Y.1,Y.2,wq1,hri,hvis.1,hne1,hlk2,hmu,acq _,by simp[X9,Gj,D4,AB]⟩)⟩ ?_;rintro k tm S ⟨t0,t4,t14,t16,t122,t123,t17,t18,t19,t20,hQ⟩;unfold gi at hQ;obtain⟨N,q,wq,hR,U,hwq,hqs,hqm,hqk,rfl⟩:=hQ;unfold X9 Gj mI m2;cases q with
      |nil=>
       refine xS (xW λK o=>?_);simp[t19];apply o;refine AP ?_;simp;refine Ci ?_;have zv:=YC N (i:Int);refine FG λK o=>?_;refine xJ ?_;simp[t16,t17,t18];refine xF (zv) [7] rfl ?_;simp[mI];refine xJ ?_;simp;refine BY (o _ _ ?_);refine xV λK o=>?_;simp[t123];apply o;refine⟨zg,_,_,l6 7 (by simp),?_⟩;simp[clean,t0,t4,t14,t16,t122,AK zg a4];exact⟨Cx out i (DR N i),hout.put _ (U.at _),hky.Cx _ _,hon.put hR,rfl⟩
      |cons x q=>
       have hwt:=hwq (by simp);subst hwt;refine xS (xW λK o=>?_);simp[t19];apply o;refine AP ?_;simp;refine xK ?_;refine Bo ?_;refine xW λK o=>?_;simp[t19];apply o;refine E5 λK o=>?_;(repeat(refine Cc ?_ ?_;(·simp[t19]);simp[t19]));refine AS.Ma 9 (Z q+1) 1 ((x::q).map λx=>.d (.int .i64 x)) 1 (Z q+1) rfl (by simp;omega) ?_;simp;refine xJ ?_;simp[t19];refine BY (o _ _ ?_);refine gs (vk [0,1,2,3,4,5,6,7,8,11,10] (S0:=X9 g G m st nl out++[mI N,.row J 1 [.map 7],.row J 1 (q.map λx=>.d (.int .i64 x)),.row J 1 [.row 9 (Z q)]]) ?_ ?_ ?_) ?_
       .simp[X9,Gj,PP]
       .simp
       .rfl
       generalize F:pick _ _=M;have r0:M 0=.ptr 0 1 0 0:=by rw[<-F];simp[pick,t0];try decide
       have r4:M 4=.ptr 3 1 0 0:=by rw[<-F];simp[pick,t4];try decide
       have r14:M 14=.ptr 5 1 0 0:=by rw[<-F];simp[pick,t14];try decide
       have r16:M 16=.map 6:=by rw[<-F];simp[pick,t16];try decide
       have r122:M 122=.d (encI (Z g.A0)):=by rw[<-F];simp[pick,t122]
       have r123:M 123=.d (encI i):=by rw[<-F];simp[pick,t123]
       have r17:M 17=.d (encI i):=by rw[<-F];simp[pick,t17]
       have r18:M 18=.ptr 8 1 0 0:=by rw[<-F];simp[pick,t18];try decide
       have r19:M 19=.ptr 10 1 0 0:=by rw[<-F];simp[pick,t19];try decide
       have r20:M 20=.fn (.func 162) [] [.ptr 5 1 0 0,.ptr 8 1 0 0,.ptr 3 1 0 0,.ptr 10 1 0 0]:=by rw[<-F];simp[pick,t20];try decide
       have r21:M 21=.d (encI x):=by rw[<-F];simp[pick]
       obtain⟨dd,hdd⟩:=md.1 (hqs x (by simp));have hddk:FE n dd:=U _ (GU hdd);simp only[gr]at hqm hqk;obtain⟨wq2,hw3,hw4,zt⟩:=RJ hn nl st zn.ok N U J q x dd hddk ks (T x) (by omega);have hvis2:=IX hn zn.ok (fr:=x) hddk (ks:=ks) ((look nl x).getD []) (s:=(N,q)) (T x) U;have hlk3:=Js st x dd ((look nl x).getD []) (s:=(N,q)) (λy hy=>hqs y (by simp[hy]));have hvs:=LV hn zn.ok (fr:=x) hddk (ks:=ks) ((look nl x).getD []) (s:=(N,q)) (T x) U;have hda:dd=DR N x:=by unfold DR;rw[hdd];rfl
       obtain⟨zQ0,hZ⟩:∃zQ0,zQ0=visitM st x dd ((look nl x).getD []) (N,q):=⟨_,rfl⟩;rw[<-hZ]at zt hw3 hvis2 hlk3 hvs;obtain⟨v1,v2,v3⟩:=hvis2;simp only at v2 v3;have hwq2:=hw4 rfl;subst hwq2;simp only[bR]at zt;unfold X9 Gj mI m2;refine xW λK o=>?_;simp[r21,r17];apply o;refine AP ?_;simp;refine⟨λhne2=>?_,λhe2=>?_⟩
       .refine FG λK o=>?_;refine xJ ?_;simp[r20,r21,r18,hdd,vT];refine xF (zt) [5,8,3,10,4,7,2,9] rfl ?_;simp;refine xJ ?_;simp;refine BY (o _ _ ?_);refine⟨k - 1,by omega,_,_,a9,by simp[r0],by simp[r4],by simp[r14],by simp[r16],by simp[r122],by simp[r123],by simp[r17],by simp[r18],by simp[r19],by simp[r20],(by unfold gi;exact⟨zQ0.1,zQ0.2,J,hR.visit (by simpa using hne2) (λy c hs=>hny c x y hs) (hda▸hvs),v1,λ_=>rfl,hlk3,by omega,by omega,by simp[X9,Gj]⟩)⟩
       .refine CF ?_;refine⟨k - 1,by omega,_,_,a9,by simp[r0],by simp[r4],by simp[r14],by simp[r16],by simp[r122],by simp[r123],by simp[r17],by simp[r18],by simp[r19],by simp[r20],(by unfold gi;exact⟨N,q,J,(by have e:x=(i:Int):=(by simpa using he2);rw[e]at hR;exact hR.pass),U,λ_=>rfl,λy hy=>hqs y (by simp[hy]),by omega,by omega,by simp[X9,Gj]⟩)⟩
   .have hil:i=Z g.A0:=by omega
    subst hil;refine Ci ?_;refine xW λK o=>?_;simp[t16];apply o;refine Aj ?_;(try simp only[xQ,reduceIte]);refine⟨_,_,vk [0,6] (S0:=[.row J 10 [.d (D4 g G)],.map (BV (br .i64) vT out)]) ?_ ?_ ?_,?_,_,_,⟨out,hout,by simpa using(hon.found hky hout).trans (nC (hme▸zn)),rfl,rfl⟩,.inr ⟨?_,rfl⟩⟩
    .simp
    .simp
    .rfl
    .simp;try decide
    .simp[pick];try decide
end Go.Koi
