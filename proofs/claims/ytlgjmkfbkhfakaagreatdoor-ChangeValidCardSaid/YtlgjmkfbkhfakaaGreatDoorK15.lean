/- Part 16 of the proof that the law ChangeValid returns true for every input. -/
import Derived.Test.YtlgjmkfbkhfakaaGreatDoorK14
set_option maxHeartbeats 64000000
set_option maxRecDepth 100000
namespace Go.Koi
open Go.Proofs Tryz
theorem L9(xs:List ByteArray)(hx:xs.length≤2 ^ 30):AE prog 96 [.d (.sl (xs.map D.str))] [] (.row 0 xs.length) [.row (!xs.isEmpty) 1 (xs.map fun x=>.d (D.str x))]:=by
 refine AE.AI func96 (by kernel_rfl) rfl (by simp) fun wf _=>?_;rw[ntmps96];refine xW fun K hK=>?_;simp;apply hK;refine xS (Az fun K hK=>?_);(repeat(refine B7 ?_ ?_;(·simp);simp));refine AS.Ge (neg:=false) (xs:=xs.map D.str) rfl (by simp) fun t ht=>?_;simp;refine Aj (hK _ _ ?_);(try simp only[xQ,reduceIte]);refine AU ?_;simp;refine⟨fun h=>?_,fun h=>?_⟩
 ·have hn:xs=[]:=by
   cases xs with
   |nil=>rfl
   |cons x xs=>simp[ht]at h
  subst hn;refine xW fun K hK=>?_;simp;apply hK;refine Ag ?_;(try simp only[xQ,reduceIte]);refine⟨_,AJ.BB 2 1 (xs:=[]) (by simp),?_⟩;simp[Am]
 ·refine xK ?_;refine xW fun K hK=>?_;simp[hx];apply hK;refine Ag ?_;(try simp only[xQ,reduceIte]);refine⟨_,AJ.refl,?_⟩;simp[Am]
theorem Mm(xs:List Ah)(hx:xs.length≤2 ^ 30):AE prog 152 [.d (.sl (xs.map AX))] [] (.row 0 xs.length) [.row (!xs.isEmpty) 3 (xs.map fun x=>.d (AX x))]:=by
 refine AE.AI func152 (by kernel_rfl) rfl (by simp) fun wf _=>?_;rw[ntmps152];refine xW fun K hK=>?_;simp;apply hK;refine xS (Az fun K hK=>?_);(repeat(refine B7 ?_ ?_;(·simp);simp));refine AS.Ge (neg:=false) (xs:=xs.map AX) rfl (by simp) fun t ht=>?_;simp;refine Aj (hK _ _ ?_);(try simp only[xQ,reduceIte]);refine AU ?_;simp;refine⟨fun h=>?_,fun h=>?_⟩
 ·have hn:xs=[]:=by
   cases xs with
   |nil=>rfl
   |cons x xs=>simp[ht]at h
  subst hn;refine xW fun K hK=>?_;simp;apply hK;refine Ag ?_;(try simp only[xQ,reduceIte]);refine⟨_,AJ.BB 2 3 (xs:=[]) (by simp),?_⟩;simp[Am]
 ·refine xK ?_;refine xW fun K hK=>?_;simp[hx];apply hK;refine Ag ?_;(try simp only[xQ,reduceIte]);refine⟨_,AJ.refl,?_⟩;simp[Am]
theorem Sl(xs:List Token)(hx:xs.length≤2 ^ 30):AE prog 98 [.d (.sl (xs.map Aa))] [] (.row 0 xs.length) [.row (!xs.isEmpty) 7 (xs.map fun x=>.d (Aa x))]:=by
 refine AE.AI func98 (by kernel_rfl) rfl (by simp) fun wf _=>?_;rw[ntmps98];refine xW fun K hK=>?_;simp;apply hK;refine xS (Az fun K hK=>?_);(repeat(refine B7 ?_ ?_;(·simp);simp));refine AS.Ge (neg:=false) (xs:=xs.map Aa) rfl (by simp) fun t ht=>?_;simp;refine Aj (hK _ _ ?_);(try simp only[xQ,reduceIte]);refine AU ?_;simp;refine⟨fun h=>?_,fun h=>?_⟩
 ·have hn:xs=[]:=by
   cases xs with
   |nil=>rfl
   |cons x xs=>simp[ht]at h
  subst hn;refine xW fun K hK=>?_;simp;apply hK;refine Ag ?_;(try simp only[xQ,reduceIte]);refine⟨_,AJ.BB 2 7 (xs:=[]) (by simp),?_⟩;simp[Am]
 ·refine xK ?_;refine xW fun K hK=>?_;simp[hx];apply hK;refine Ag ?_;(try simp only[xQ,reduceIte]);refine⟨_,AJ.refl,?_⟩;simp[Am]
theorem Pb(xs:List AT)(hx:xs.length≤2 ^ 30):AE prog 99 [.d (.sl (xs.map AH))] [] (.row 0 xs.length) [.row (!xs.isEmpty) 13 (xs.map fun x=>.d (AH x))]:=by
 refine AE.AI func99 (by kernel_rfl) rfl (by simp) fun wf _=>?_;rw[ntmps99];refine xW fun K hK=>?_;simp;apply hK;refine xS (Az fun K hK=>?_);(repeat(refine B7 ?_ ?_;(·simp);simp));refine AS.Ge (neg:=false) (xs:=xs.map AH) rfl (by simp) fun t ht=>?_;simp;refine Aj (hK _ _ ?_);(try simp only[xQ,reduceIte]);refine AU ?_;simp;refine⟨fun h=>?_,fun h=>?_⟩
 ·have hn:xs=[]:=by
   cases xs with
   |nil=>rfl
   |cons x xs=>simp[ht]at h
  subst hn;refine xW fun K hK=>?_;simp;apply hK;refine Ag ?_;(try simp only[xQ,reduceIte]);refine⟨_,AJ.BB 2 13 (xs:=[]) (by simp),?_⟩;simp[Am]
 ·refine xK ?_;refine xW fun K hK=>?_;simp[hx];apply hK;refine Ag ?_;(try simp only[xQ,reduceIte]);refine⟨_,AJ.refl,?_⟩;simp[Am]
theorem Nw(xs:List Level)(hx:xs.length≤2 ^ 30):AE prog 100 [.d (.sl (xs.map Ac))] [] (.row 0 xs.length) [.row (!xs.isEmpty) 4 (xs.map fun x=>.d (Ac x))]:=by
 refine AE.AI func100 (by kernel_rfl) rfl (by simp) fun wf _=>?_;rw[ntmps100];refine xW fun K hK=>?_;simp;apply hK;refine xS (Az fun K hK=>?_);(repeat(refine B7 ?_ ?_;(·simp);simp));refine AS.Ge (neg:=false) (xs:=xs.map Ac) rfl (by simp) fun t ht=>?_;simp;refine Aj (hK _ _ ?_);(try simp only[xQ,reduceIte]);refine AU ?_;simp;refine⟨fun h=>?_,fun h=>?_⟩
 ·have hn:xs=[]:=by
   cases xs with
   |nil=>rfl
   |cons x xs=>simp[ht]at h
  subst hn;refine xW fun K hK=>?_;simp;apply hK;refine Ag ?_;(try simp only[xQ,reduceIte]);refine⟨_,AJ.BB 2 4 (xs:=[]) (by simp),?_⟩;simp[Am]
 ·refine xK ?_;refine xW fun K hK=>?_;simp[hx];apply hK;refine Ag ?_;(try simp only[xQ,reduceIte]);refine⟨_,AJ.refl,?_⟩;simp[Am]
theorem Mv(xs:List Filter)(hx:xs.length≤2 ^ 30):AE prog 101 [.d (.sl (xs.map AK))] [] (.row 0 xs.length) [.row (!xs.isEmpty) 9 (xs.map fun x=>.d (AK x))]:=by
 refine AE.AI func101 (by kernel_rfl) rfl (by simp) fun wf _=>?_;rw[ntmps101];refine xW fun K hK=>?_;simp;apply hK;refine xS (Az fun K hK=>?_);(repeat(refine B7 ?_ ?_;(·simp);simp));refine AS.Ge (neg:=false) (xs:=xs.map AK) rfl (by simp) fun t ht=>?_;simp;refine Aj (hK _ _ ?_);(try simp only[xQ,reduceIte]);refine AU ?_;simp;refine⟨fun h=>?_,fun h=>?_⟩
 ·have hn:xs=[]:=by
   cases xs with
   |nil=>rfl
   |cons x xs=>simp[ht]at h
  subst hn;refine xW fun K hK=>?_;simp;apply hK;refine Ag ?_;(try simp only[xQ,reduceIte]);refine⟨_,AJ.BB 2 9 (xs:=[]) (by simp),?_⟩;simp[Am]
 ·refine xK ?_;refine xW fun K hK=>?_;simp[hx];apply hK;refine Ag ?_;(try simp only[xQ,reduceIte]);refine⟨_,AJ.refl,?_⟩;simp[Am]
theorem N7(xs:List BM)(hx:xs.length≤2 ^ 30):AE prog 102 [.d (.sl (xs.map AP))] [] (.row 0 xs.length) [.row (!xs.isEmpty) 5 (xs.map fun x=>.d (AP x))]:=by
 refine AE.AI func102 (by kernel_rfl) rfl (by simp) fun wf _=>?_;rw[ntmps102];refine xW fun K hK=>?_;simp;apply hK;refine xS (Az fun K hK=>?_);(repeat(refine B7 ?_ ?_;(·simp);simp));refine AS.Ge (neg:=false) (xs:=xs.map AP) rfl (by simp) fun t ht=>?_;simp;refine Aj (hK _ _ ?_);(try simp only[xQ,reduceIte]);refine AU ?_;simp;refine⟨fun h=>?_,fun h=>?_⟩
 ·have hn:xs=[]:=by
   cases xs with
   |nil=>rfl
   |cons x xs=>simp[ht]at h
  subst hn;refine xW fun K hK=>?_;simp;apply hK;refine Ag ?_;(try simp only[xQ,reduceIte]);refine⟨_,AJ.BB 2 5 (xs:=[]) (by simp),?_⟩;simp[Am]
 ·refine xK ?_;refine xW fun K hK=>?_;simp[hx];apply hK;refine Ag ?_;(try simp only[xQ,reduceIte]);refine⟨_,AJ.refl,?_⟩;simp[Am]
theorem GG(xs:List Symbol)(hx:xs.length≤2 ^ 30):AE prog 103 [.d (.sl (xs.map AL))] [] (.row 0 xs.length) [.row (!xs.isEmpty) 2 (xs.map fun x=>.d (AL x))]:=by
 refine AE.AI func103 (by kernel_rfl) rfl (by simp) fun wf _=>?_;rw[ntmps103];refine xW fun K hK=>?_;simp;apply hK;refine xS (Az fun K hK=>?_);(repeat(refine B7 ?_ ?_;(·simp);simp));refine AS.Ge (neg:=false) (xs:=xs.map AL) rfl (by simp) fun t ht=>?_;simp;refine Aj (hK _ _ ?_);(try simp only[xQ,reduceIte]);refine AU ?_;simp;refine⟨fun h=>?_,fun h=>?_⟩
 ·have hn:xs=[]:=by
   cases xs with
   |nil=>rfl
   |cons x xs=>simp[ht]at h
  subst hn;refine xW fun K hK=>?_;simp;apply hK;refine Ag ?_;(try simp only[xQ,reduceIte]);refine⟨_,AJ.BB 2 2 (xs:=[]) (by simp),?_⟩;simp[Am]
 ·refine xK ?_;refine xW fun K hK=>?_;simp[hx];apply hK;refine Ag ?_;(try simp only[xQ,reduceIte]);refine⟨_,AJ.refl,?_⟩;simp[Am]
theorem Mt(xs:List D2)(hx:xs.length≤2 ^ 30):AE prog 104 [.d (.sl (xs.map A0))] [] (.row 0 xs.length) [.row (!xs.isEmpty) 3 (xs.map fun x=>.d (A0 x))]:=by
 refine AE.AI func104 (by kernel_rfl) rfl (by simp) fun wf _=>?_;rw[ntmps104];refine xW fun K hK=>?_;simp;apply hK;refine xS (Az fun K hK=>?_);(repeat(refine B7 ?_ ?_;(·simp);simp));refine AS.Ge (neg:=false) (xs:=xs.map A0) rfl (by simp) fun t ht=>?_;simp;refine Aj (hK _ _ ?_);(try simp only[xQ,reduceIte]);refine AU ?_;simp;refine⟨fun h=>?_,fun h=>?_⟩
 ·have hn:xs=[]:=by
   cases xs with
   |nil=>rfl
   |cons x xs=>simp[ht]at h
  subst hn;refine xW fun K hK=>?_;simp;apply hK;refine Ag ?_;(try simp only[xQ,reduceIte]);refine⟨_,AJ.BB 2 3 (xs:=[]) (by simp),?_⟩;simp[Am]
 ·refine xK ?_;refine xW fun K hK=>?_;simp[hx];apply hK;refine Ag ?_;(try simp only[xQ,reduceIte]);refine⟨_,AJ.refl,?_⟩;simp[Am]
theorem Ld(xs:List Int)(hx:xs.length≤2 ^ 30):AE prog 105 [.d (.sl (xs.map (D.int .i64)))] [] (.row 0 xs.length) [.row (!xs.isEmpty) 1 (xs.map fun x=>.d ((D.int .i64) x))]:=by
 refine AE.AI func105 (by kernel_rfl) rfl (by simp) fun wf _=>?_;rw[ntmps105];refine xW fun K hK=>?_;simp;apply hK;refine xS (Az fun K hK=>?_);(repeat(refine B7 ?_ ?_;(·simp);simp));refine AS.Ge (neg:=false) (xs:=xs.map (D.int .i64)) rfl (by simp) fun t ht=>?_;simp;refine Aj (hK _ _ ?_);(try simp only[xQ,reduceIte]);refine AU ?_;simp;refine⟨fun h=>?_,fun h=>?_⟩
 ·have hn:xs=[]:=by
   cases xs with
   |nil=>rfl
   |cons x xs=>simp[ht]at h
  subst hn;refine xW fun K hK=>?_;simp;apply hK;refine Ag ?_;(try simp only[xQ,reduceIte]);refine⟨_,AJ.BB 2 1 (xs:=[]) (by simp),?_⟩;simp[Am]
 ·refine xK ?_;refine xW fun K hK=>?_;simp[hx];apply hK;refine Ag ?_;(try simp only[xQ,reduceIte]);refine⟨_,AJ.refl,?_⟩;simp[Am]
theorem NU(xs:List Cw)(hx:xs.length≤2 ^ 30):AE prog 29 [.d (.sl (xs.map A1))] [] (.row 0 xs.length) [.row (!xs.isEmpty) 4 (xs.map fun x=>.d (A1 x))]:=by
 refine AE.AI func29 (by kernel_rfl) rfl (by simp) fun wf _=>?_;rw[ntmps29];refine xW fun K hK=>?_;simp;apply hK;refine xS (Az fun K hK=>?_);(repeat(refine B7 ?_ ?_;(·simp);simp));refine AS.Ge (neg:=false) (xs:=xs.map A1) rfl (by simp) fun t ht=>?_;simp;refine Aj (hK _ _ ?_);(try simp only[xQ,reduceIte]);refine AU ?_;simp;refine⟨fun h=>?_,fun h=>?_⟩
 ·have hn:xs=[]:=by
   cases xs with
   |nil=>rfl
   |cons x xs=>simp[ht]at h
  subst hn;refine xW fun K hK=>?_;simp;apply hK;refine Ag ?_;(try simp only[xQ,reduceIte]);refine⟨_,AJ.BB 2 4 (xs:=[]) (by simp),?_⟩;simp[Am]
 ·refine xK ?_;refine xW fun K hK=>?_;simp[hx];apply hK;refine Ag ?_;(try simp only[xQ,reduceIte]);refine⟨_,AJ.refl,?_⟩;simp[Am]
open Go.Proofs Tryz
def firstIdx{α:Type}(p:α→Bool)(xs:List α):Int:=match xs.findIdx? p with|some i=>i|none=>-1
theorem B8{α:Type}{p:α→Bool}{xs:List α}{i:Nat}(h:i<xs.length)(hp:p xs[i]=true)(gy:∀j (hj:j<i),p (xs[j]'(by omega))=false):firstIdx p xs=i:=by
 have:xs.findIdx? p=some i:=by
  rw[List.findIdx?_eq_some_iff_getElem];exact⟨h,hp,fun j hj=>by simp[gy j hj]⟩
 simp[firstIdx,this]
theorem firstIdx_none{α:Type}{p:α→Bool}{xs:List α}(gy:∀j (hj:j<xs.length),p xs[j]=false):firstIdx p xs= -1:=by
 have:xs.findIdx? p=none:=by
  rw[List.findIdx?_eq_none_iff];intro x hx;obtain⟨i,hi,rfl⟩:=List.mem_iff_getElem.1 hx;exact gy i hi
 simp[firstIdx,this]
theorem CR{α:Type}(p:α→Bool)(xs:List α):decide (firstIdx p xs≥0)=xs.any p:=by
 unfold firstIdx;cases h:xs.findIdx? p with
 |none=>
  rw[List.findIdx?_eq_none_iff]at h;have:xs.any p=false:=by rw[List.any_eq_false];intro x hx;simp[h x hx]
  simp[this]
 |some i=>
  rw[List.findIdx?_eq_some_iff_getElem]at h;obtain⟨h1,h2,_⟩:=h;have:xs.any p=true:=List.any_eq_true.2 ⟨_,List.getElem_mem h1,h2⟩;rw[this];simp
theorem I7(xs:List Ah)(p:Ah→Bool)(k:FuncId)(caps:List V)(S0:Sg)(hf:∀x∈xs,AE prog k (.d (AX x)::caps) S0 (.d (.bool (p x))) S0):
  AE prog 232 [.d (.sl (xs.map AX)),.fn (.func k) [] caps] S0 (.d (AG (firstIdx p xs))) S0:=by
 refine AE.AI func232 (by kernel_rfl) rfl (by simp) fun wf _=>?_;have a1:xs.length≤maxLen:=by have:=wf.1;simp only[WFV,WFD]at this;simpa using this.1
 rw[ntmps232];refine xW fun K hK=>?_;simp;apply hK;refine xS (xW fun K hK=>?_);simp;apply hK;refine Bw ?_;refine DC xs.length (fun i tm S=>tm 0=.d (.sl (xs.map AX))∧tm 1=.fn (.func k) [] caps∧tm 8=.d (.int .i64 i)∧tm 7=.d (.int .i64 xs.length)∧S=S0∧∀j (_:j<i) (h:j<xs.length),p xs[j]=false) (Nat.zero_le _) (by simp) ?_;rintro i tm S hi ⟨t0,t1,t8,t7,rfl,hq⟩;refine xW fun K hK=>?_;simp[t8,t7];apply hK;refine xC ?_;simp;refine⟨fun cx=>?_,fun hO=>?_⟩
 ·refine xK ?_;refine xB ?_;refine xW fun K hK=>?_;simp[t8];apply hK;refine Az fun K hK=>?_;refine xJ ?_;simp[t0,t1,cx];refine AS.call (v:=.d (.bool (p xs[i]))) rfl rfl (by simp) (f:=k) (args:=.d (AX xs[i])::caps) (by simp;try rfl) (by simp) (hf _ (List.getElem_mem cx)) ?_;simp;refine Aj (hK _ _ ?_);refine AU ?_;simp;refine⟨fun hp=>?_,fun hp=>?_⟩
  ·refine xW fun K hK=>?_;simp;apply hK;refine Ag ?_;(try simp only[xQ,reduceIte]);refine⟨_,AJ.refl,?_⟩;simp[Am];exact .inl (B8 cx hp fun j hj=>hq j hj (by omega)).symm
  ·refine CC ?_;refine xV fun K hK=>?_;simp[t8];apply hK;refine⟨cx,_,_,AJ.refl,?_⟩;simp[t0,t1,t7,AQ cx a1];intro j hj iV;by_cases e:j=i
   ·subst e;exact hp
   ·exact hq j (by omega) iV
 ·refine Cu ?_;refine xW fun K hK=>?_;simp;apply hK;refine Ag ?_;(try simp only[xQ,reduceIte]);refine⟨_,AJ.refl,?_⟩;simp[Am];exact .inl (firstIdx_none fun j hj=>hq j (by omega) hj).symm
theorem HV(xs:List Ah)(p:Ah→Bool)(k:FuncId)(caps:List V)(S0:Sg)(hf:∀x∈xs,AE prog k (.d (AX x)::caps) S0 (.d (.bool (p x))) S0):
  AE prog 212 [.d (.sl (xs.map AX)),.fn (.func k) [] caps] S0 (.d (.bool (xs.any p))) S0:=by
 refine AE.AI func212 (by kernel_rfl) rfl (by simp) fun wf _=>?_;rw[ntmps212];refine xW fun K hK=>?_;simp;apply hK;(repeat refine xS ?_);refine BX fun K hK=>?_;refine xJ ?_;simp;refine AS.call rfl rfl (by simp) (f:=232) (args:=[.d (.sl (xs.map AX)),.fn (.func k) [] caps]) (by simp[callee]) (by simp) (I7 xs p k caps S0 hf) ?_;simp;refine xJ ?_;simp;refine Aj (hK _ _ ?_);(try simp only[xQ,reduceIte]);refine Ag ?_;(try simp only[xQ,reduceIte]);refine⟨_,AJ.refl,?_⟩;simp[Am];have:=CR p xs;simp at this;simp[this]
theorem Kn(xs:List AT)(p:AT→Bool)(k:FuncId)(caps:List V)(S0:Sg)(hf:∀x∈xs,AE prog k (.d (AH x)::caps) S0 (.d (.bool (p x))) S0):
  AE prog 210 [.d (.sl (xs.map AH)),.fn (.func k) [] caps] S0 (.d (AG (firstIdx p xs))) S0:=by
 refine AE.AI func210 (by kernel_rfl) rfl (by simp) fun wf _=>?_;have a1:xs.length≤maxLen:=by have:=wf.1;simp only[WFV,WFD]at this;simpa using this.1
 rw[ntmps210];refine xW fun K hK=>?_;simp;apply hK;refine xS (xW fun K hK=>?_);simp;apply hK;refine Bw ?_;refine DC xs.length (fun i tm S=>tm 0=.d (.sl (xs.map AH))∧tm 1=.fn (.func k) [] caps∧tm 8=.d (.int .i64 i)∧tm 7=.d (.int .i64 xs.length)∧S=S0∧∀j (_:j<i) (h:j<xs.length),p xs[j]=false) (Nat.zero_le _) (by simp) ?_;rintro i tm S hi ⟨t0,t1,t8,t7,rfl,hq⟩;refine xW fun K hK=>?_;simp[t8,t7];apply hK;refine xC ?_;simp;refine⟨fun cx=>?_,fun hO=>?_⟩
 ·refine xK ?_;refine xB ?_;refine xW fun K hK=>?_;simp[t8];apply hK;refine Az fun K hK=>?_;refine xJ ?_;simp[t0,t1,cx];refine AS.call (v:=.d (.bool (p xs[i]))) rfl rfl (by simp) (f:=k) (args:=.d (AH xs[i])::caps) (by simp;try rfl) (by simp) (hf _ (List.getElem_mem cx)) ?_;simp;refine Aj (hK _ _ ?_);refine AU ?_;simp;refine⟨fun hp=>?_,fun hp=>?_⟩
  ·refine xW fun K hK=>?_;simp;apply hK;refine Ag ?_;(try simp only[xQ,reduceIte]);refine⟨_,AJ.refl,?_⟩;simp[Am];exact .inl (B8 cx hp fun j hj=>hq j hj (by omega)).symm
  ·refine CC ?_;refine xV fun K hK=>?_;simp[t8];apply hK;refine⟨cx,_,_,AJ.refl,?_⟩;simp[t0,t1,t7,AQ cx a1];intro j hj iV;by_cases e:j=i
   ·subst e;exact hp
   ·exact hq j (by omega) iV
 ·refine Cu ?_;refine xW fun K hK=>?_;simp;apply hK;refine Ag ?_;(try simp only[xQ,reduceIte]);refine⟨_,AJ.refl,?_⟩;simp[Am];exact .inl (firstIdx_none fun j hj=>hq j (by omega) hj).symm
theorem Ie(xs:List AT)(p:AT→Bool)(k:FuncId)(caps:List V)(S0:Sg)(hf:∀x∈xs,AE prog k (.d (AH x)::caps) S0 (.d (.bool (p x))) S0):
  AE prog 180 [.d (.sl (xs.map AH)),.fn (.func k) [] caps] S0 (.d (.bool (xs.any p))) S0:=by
 refine AE.AI func180 (by kernel_rfl) rfl (by simp) fun wf _=>?_;rw[ntmps180];refine xW fun K hK=>?_;simp;apply hK;(repeat refine xS ?_);refine BX fun K hK=>?_;refine xJ ?_;simp;refine AS.call rfl rfl (by simp) (f:=210) (args:=[.d (.sl (xs.map AH)),.fn (.func k) [] caps]) (by simp[callee]) (by simp) (Kn xs p k caps S0 hf) ?_;simp;refine xJ ?_;simp;refine Aj (hK _ _ ?_);(try simp only[xQ,reduceIte]);refine Ag ?_;(try simp only[xQ,reduceIte]);refine⟨_,AJ.refl,?_⟩;simp[Am];have:=CR p xs;simp at this;simp[this]
theorem JM(xs:List Symbol)(p:Symbol→Bool)(k:FuncId)(caps:List V)(S0:Sg)(hf:∀x∈xs,AE prog k (.d (AL x)::caps) S0 (.d (.bool (p x))) S0):
  AE prog 216 [.d (.sl (xs.map AL)),.fn (.func k) [] caps] S0 (.d (AG (firstIdx p xs))) S0:=by
 refine AE.AI func216 (by kernel_rfl) rfl (by simp) fun wf _=>?_;have a1:xs.length≤maxLen:=by have:=wf.1;simp only[WFV,WFD]at this;simpa using this.1
 rw[ntmps216];refine xW fun K hK=>?_;simp;apply hK;refine xS (xW fun K hK=>?_);simp;apply hK;refine Bw ?_;refine DC xs.length (fun i tm S=>tm 0=.d (.sl (xs.map AL))∧tm 1=.fn (.func k) [] caps∧tm 8=.d (.int .i64 i)∧tm 7=.d (.int .i64 xs.length)∧S=S0∧∀j (_:j<i) (h:j<xs.length),p xs[j]=false) (Nat.zero_le _) (by simp) ?_;rintro i tm S hi ⟨t0,t1,t8,t7,rfl,hq⟩;refine xW fun K hK=>?_;simp[t8,t7];apply hK;refine xC ?_;simp;refine⟨fun cx=>?_,fun hO=>?_⟩
 ·refine xK ?_;refine xB ?_;refine xW fun K hK=>?_;simp[t8];apply hK;refine Az fun K hK=>?_;refine xJ ?_;simp[t0,t1,cx];refine AS.call (v:=.d (.bool (p xs[i]))) rfl rfl (by simp) (f:=k) (args:=.d (AL xs[i])::caps) (by simp;try rfl) (by simp) (hf _ (List.getElem_mem cx)) ?_;simp;refine Aj (hK _ _ ?_);refine AU ?_;simp;refine⟨fun hp=>?_,fun hp=>?_⟩
  ·refine xW fun K hK=>?_;simp;apply hK;refine Ag ?_;(try simp only[xQ,reduceIte]);refine⟨_,AJ.refl,?_⟩;simp[Am];exact .inl (B8 cx hp fun j hj=>hq j hj (by omega)).symm
  ·refine CC ?_;refine xV fun K hK=>?_;simp[t8];apply hK;refine⟨cx,_,_,AJ.refl,?_⟩;simp[t0,t1,t7,AQ cx a1];intro j hj iV;by_cases e:j=i
   ·subst e;exact hp
   ·exact hq j (by omega) iV
 ·refine Cu ?_;refine xW fun K hK=>?_;simp;apply hK;refine Ag ?_;(try simp only[xQ,reduceIte]);refine⟨_,AJ.refl,?_⟩;simp[Am];exact .inl (firstIdx_none fun j hj=>hq j (by omega) hj).symm
theorem HY(xs:List Symbol)(p:Symbol→Bool)(k:FuncId)(caps:List V)(S0:Sg)(hf:∀x∈xs,AE prog k (.d (AL x)::caps) S0 (.d (.bool (p x))) S0):
  AE prog 188 [.d (.sl (xs.map AL)),.fn (.func k) [] caps] S0 (.d (.bool (xs.any p))) S0:=by
 refine AE.AI func188 (by kernel_rfl) rfl (by simp) fun wf _=>?_;rw[ntmps188];refine xW fun K hK=>?_;simp;apply hK;(repeat refine xS ?_);refine BX fun K hK=>?_;refine xJ ?_;simp;refine AS.call rfl rfl (by simp) (f:=216) (args:=[.d (.sl (xs.map AL)),.fn (.func k) [] caps]) (by simp[callee]) (by simp) (JM xs p k caps S0 hf) ?_;simp;refine xJ ?_;simp;refine Aj (hK _ _ ?_);(try simp only[xQ,reduceIte]);refine Ag ?_;(try simp only[xQ,reduceIte]);refine⟨_,AJ.refl,?_⟩;simp[Am];have:=CR p xs;simp at this;simp[this]
theorem Jn(xs:List Level)(p:Level→Bool)(k:FuncId)(caps:List V)(S0:Sg)(hf:∀x∈xs,AE prog k (.d (Ac x)::caps) S0 (.d (.bool (p x))) S0):
  AE prog 207 [.d (.sl (xs.map Ac)),.fn (.func k) [] caps] S0 (.d (AG (firstIdx p xs))) S0:=by
 refine AE.AI func207 (by kernel_rfl) rfl (by simp) fun wf _=>?_;have a1:xs.length≤maxLen:=by have:=wf.1;simp only[WFV,WFD]at this;simpa using this.1
 rw[ntmps207];refine xW fun K hK=>?_;simp;apply hK;refine xS (xW fun K hK=>?_);simp;apply hK;refine Bw ?_;refine DC xs.length (fun i tm S=>tm 0=.d (.sl (xs.map Ac))∧tm 1=.fn (.func k) [] caps∧tm 8=.d (.int .i64 i)∧tm 7=.d (.int .i64 xs.length)∧S=S0∧∀j (_:j<i) (h:j<xs.length),p xs[j]=false) (Nat.zero_le _) (by simp) ?_;rintro i tm S hi ⟨t0,t1,t8,t7,rfl,hq⟩;refine xW fun K hK=>?_;simp[t8,t7];apply hK;refine xC ?_;simp;refine⟨fun cx=>?_,fun hO=>?_⟩
 ·refine xK ?_;refine xB ?_;refine xW fun K hK=>?_;simp[t8];apply hK;refine Az fun K hK=>?_;refine xJ ?_;simp[t0,t1,cx];refine AS.call (v:=.d (.bool (p xs[i]))) rfl rfl (by simp) (f:=k) (args:=.d (Ac xs[i])::caps) (by simp;try rfl) (by simp) (hf _ (List.getElem_mem cx)) ?_;simp;refine Aj (hK _ _ ?_);refine AU ?_;simp;refine⟨fun hp=>?_,fun hp=>?_⟩
  ·refine xW fun K hK=>?_;simp;apply hK;refine Ag ?_;(try simp only[xQ,reduceIte]);refine⟨_,AJ.refl,?_⟩;simp[Am];exact .inl (B8 cx hp fun j hj=>hq j hj (by omega)).symm
  ·refine CC ?_;refine xV fun K hK=>?_;simp[t8];apply hK;refine⟨cx,_,_,AJ.refl,?_⟩;simp[t0,t1,t7,AQ cx a1];intro j hj iV;by_cases e:j=i
   ·subst e;exact hp
   ·exact hq j (by omega) iV
 ·refine Cu ?_;refine xW fun K hK=>?_;simp;apply hK;refine Ag ?_;(try simp only[xQ,reduceIte]);refine⟨_,AJ.refl,?_⟩;simp[Am];exact .inl (firstIdx_none fun j hj=>hq j (by omega) hj).symm
theorem Ht(xs:List Level)(p:Level→Bool)(k:FuncId)(caps:List V)(S0:Sg)(hf:∀x∈xs,AE prog k (.d (Ac x)::caps) S0 (.d (.bool (p x))) S0):
  AE prog 172 [.d (.sl (xs.map Ac)),.fn (.func k) [] caps] S0 (.d (.bool (xs.any p))) S0:=by
 refine AE.AI func172 (by kernel_rfl) rfl (by simp) fun wf _=>?_;rw[ntmps172];refine xW fun K hK=>?_;simp;apply hK;(repeat refine xS ?_);refine BX fun K hK=>?_;refine xJ ?_;simp;refine AS.call rfl rfl (by simp) (f:=207) (args:=[.d (.sl (xs.map Ac)),.fn (.func k) [] caps]) (by simp[callee]) (by simp) (Jn xs p k caps S0 hf) ?_;simp;refine xJ ?_;simp;refine Aj (hK _ _ ?_);(try simp only[xQ,reduceIte]);refine Ag ?_;(try simp only[xQ,reduceIte]);refine⟨_,AJ.refl,?_⟩;simp[Am];have:=CR p xs;simp at this;simp[this]
theorem JG(xs:List Filter)(p:Filter→Bool)(k:FuncId)(caps:List V)(S0:Sg)(hf:∀x∈xs,AE prog k (.d (AK x)::caps) S0 (.d (.bool (p x))) S0):
  AE prog 209 [.d (.sl (xs.map AK)),.fn (.func k) [] caps] S0 (.d (AG (firstIdx p xs))) S0:=by
 refine AE.AI func209 (by kernel_rfl) rfl (by simp) fun wf _=>?_;have a1:xs.length≤maxLen:=by have:=wf.1;simp only[WFV,WFD]at this;simpa using this.1
 rw[ntmps209];refine xW fun K hK=>?_;simp;apply hK;refine xS (xW fun K hK=>?_);simp;apply hK;refine Bw ?_;refine DC xs.length (fun i tm S=>tm 0=.d (.sl (xs.map AK))∧tm 1=.fn (.func k) [] caps∧tm 8=.d (.int .i64 i)∧tm 7=.d (.int .i64 xs.length)∧S=S0∧∀j (_:j<i) (h:j<xs.length),p xs[j]=false) (Nat.zero_le _) (by simp) ?_;rintro i tm S hi ⟨t0,t1,t8,t7,rfl,hq⟩;refine xW fun K hK=>?_;simp[t8,t7];apply hK;refine xC ?_;simp;refine⟨fun cx=>?_,fun hO=>?_⟩
 ·refine xK ?_;refine xB ?_;refine xW fun K hK=>?_;simp[t8];apply hK;refine Az fun K hK=>?_;refine xJ ?_;simp[t0,t1,cx];refine AS.call (v:=.d (.bool (p xs[i]))) rfl rfl (by simp) (f:=k) (args:=.d (AK xs[i])::caps) (by simp;try rfl) (by simp) (hf _ (List.getElem_mem cx)) ?_;simp;refine Aj (hK _ _ ?_);refine AU ?_;simp;refine⟨fun hp=>?_,fun hp=>?_⟩
  ·refine xW fun K hK=>?_;simp;apply hK;refine Ag ?_;(try simp only[xQ,reduceIte]);refine⟨_,AJ.refl,?_⟩;simp[Am];exact .inl (B8 cx hp fun j hj=>hq j hj (by omega)).symm
  ·refine CC ?_;refine xV fun K hK=>?_;simp[t8];apply hK;refine⟨cx,_,_,AJ.refl,?_⟩;simp[t0,t1,t7,AQ cx a1];intro j hj iV;by_cases e:j=i
   ·subst e;exact hp
   ·exact hq j (by omega) iV
 ·refine Cu ?_;refine xW fun K hK=>?_;simp;apply hK;refine Ag ?_;(try simp only[xQ,reduceIte]);refine⟨_,AJ.refl,?_⟩;simp[Am];exact .inl (firstIdx_none fun j hj=>hq j (by omega) hj).symm
theorem Ev(xs:List Filter)(p:Filter→Bool)(k:FuncId)(caps:List V)(S0:Sg)(hf:∀x∈xs,AE prog k (.d (AK x)::caps) S0 (.d (.bool (p x))) S0):
  AE prog 175 [.d (.sl (xs.map AK)),.fn (.func k) [] caps] S0 (.d (.bool (xs.any p))) S0:=by
 refine AE.AI func175 (by kernel_rfl) rfl (by simp) fun wf _=>?_;rw[ntmps175];refine xW fun K hK=>?_;simp;apply hK;(repeat refine xS ?_);refine BX fun K hK=>?_;refine xJ ?_;simp;refine AS.call rfl rfl (by simp) (f:=209) (args:=[.d (.sl (xs.map AK)),.fn (.func k) [] caps]) (by simp[callee]) (by simp) (JG xs p k caps S0 hf) ?_;simp;refine xJ ?_;simp;refine Aj (hK _ _ ?_);(try simp only[xQ,reduceIte]);refine Ag ?_;(try simp only[xQ,reduceIte]);refine⟨_,AJ.refl,?_⟩;simp[Am];have:=CR p xs;simp at this;simp[this]
theorem LC(xs:List Int)(p:Int→Bool)(k:FuncId)(caps:List V)(S0:Sg)(hf:∀x∈xs,AE prog k (.d ((D.int .i64) x)::caps) S0 (.d (.bool (p x))) S0):
  AE prog 178 [.d (.sl (xs.map (D.int .i64))),.fn (.func k) [] caps] S0 (.d (AG (firstIdx p xs))) S0:=by
 refine AE.AI func178 (by kernel_rfl) rfl (by simp) fun wf _=>?_;have a1:xs.length≤maxLen:=by have:=wf.1;simp only[WFV,WFD]at this;simpa using this.1
 rw[ntmps178];refine xW fun K hK=>?_;simp;apply hK;refine xS (xW fun K hK=>?_);simp;apply hK;refine Bw ?_;refine DC xs.length (fun i tm S=>tm 0=.d (.sl (xs.map (D.int .i64)))∧tm 1=.fn (.func k) [] caps∧tm 8=.d (.int .i64 i)∧tm 7=.d (.int .i64 xs.length)∧S=S0∧∀j (_:j<i) (h:j<xs.length),p xs[j]=false) (Nat.zero_le _) (by simp) ?_;rintro i tm S hi ⟨t0,t1,t8,t7,rfl,hq⟩;refine xW fun K hK=>?_;simp[t8,t7];apply hK;refine xC ?_;simp;refine⟨fun cx=>?_,fun hO=>?_⟩
 ·refine xK ?_;refine xB ?_;refine xW fun K hK=>?_;simp[t8];apply hK;refine Az fun K hK=>?_;refine xJ ?_;simp[t0,t1,cx];refine AS.call (v:=.d (.bool (p xs[i]))) rfl rfl (by simp) (f:=k) (args:=.d ((D.int .i64) xs[i])::caps) (by simp;try rfl) (by simp) (hf _ (List.getElem_mem cx)) ?_;simp;refine Aj (hK _ _ ?_);refine AU ?_;simp;refine⟨fun hp=>?_,fun hp=>?_⟩
  ·refine xW fun K hK=>?_;simp;apply hK;refine Ag ?_;(try simp only[xQ,reduceIte]);refine⟨_,AJ.refl,?_⟩;simp[Am];exact .inl (B8 cx hp fun j hj=>hq j hj (by omega)).symm
  ·refine CC ?_;refine xV fun K hK=>?_;simp[t8];apply hK;refine⟨cx,_,_,AJ.refl,?_⟩;simp[t0,t1,t7,AQ cx a1];intro j hj iV;by_cases e:j=i
   ·subst e;exact hp
   ·exact hq j (by omega) iV
 ·refine Cu ?_;refine xW fun K hK=>?_;simp;apply hK;refine Ag ?_;(try simp only[xQ,reduceIte]);refine⟨_,AJ.refl,?_⟩;simp[Am];exact .inl (firstIdx_none fun j hj=>hq j (by omega) hj).symm
theorem I0(xs:List Int)(p:Int→Bool)(k:FuncId)(caps:List V)(S0:Sg)(hf:∀x∈xs,AE prog k (.d ((D.int .i64) x)::caps) S0 (.d (.bool (p x))) S0):
  AE prog 146 [.d (.sl (xs.map (D.int .i64))),.fn (.func k) [] caps] S0 (.d (.bool (xs.any p))) S0:=by
 refine AE.AI func146 (by kernel_rfl) rfl (by simp) fun wf _=>?_;rw[ntmps146];refine xW fun K hK=>?_;simp;apply hK;(repeat refine xS ?_);refine BX fun K hK=>?_;refine xJ ?_;simp;refine AS.call rfl rfl (by simp) (f:=178) (args:=[.d (.sl (xs.map (D.int .i64))),.fn (.func k) [] caps]) (by simp[callee]) (by simp) (LC xs p k caps S0 hf) ?_;simp;refine xJ ?_;simp;refine Aj (hK _ _ ?_);(try simp only[xQ,reduceIte]);refine Ag ?_;(try simp only[xQ,reduceIte]);refine⟨_,AJ.refl,?_⟩;simp[Am];have:=CR p xs;simp at this;simp[this]
theorem H9(xs:List Rewrite)(p:Rewrite→Bool)(k:FuncId)(caps:List V)(S0:Sg)(hf:∀x∈xs,AE prog k (.d (Ab x)::caps) S0 (.d (.bool (p x))) S0):
  AE prog 166 [.d (.sl (xs.map Ab)),.fn (.func k) [] caps] S0 (.d (AG (firstIdx p xs))) S0:=by
 refine AE.AI func166 (by kernel_rfl) rfl (by simp) fun wf _=>?_;have a1:xs.length≤maxLen:=by have:=wf.1;simp only[WFV,WFD]at this;simpa using this.1
 rw[ntmps166];refine xW fun K hK=>?_;simp;apply hK;refine xS (xW fun K hK=>?_);simp;apply hK;refine Bw ?_;refine DC xs.length (fun i tm S=>tm 0=.d (.sl (xs.map Ab))∧tm 1=.fn (.func k) [] caps∧tm 8=.d (.int .i64 i)∧tm 7=.d (.int .i64 xs.length)∧S=S0∧∀j (_:j<i) (h:j<xs.length),p xs[j]=false) (Nat.zero_le _) (by simp) ?_;rintro i tm S hi ⟨t0,t1,t8,t7,rfl,hq⟩;refine xW fun K hK=>?_;simp[t8,t7];apply hK;refine xC ?_;simp;refine⟨fun cx=>?_,fun hO=>?_⟩
 ·refine xK ?_;refine xB ?_;refine xW fun K hK=>?_;simp[t8];apply hK;refine Az fun K hK=>?_;refine xJ ?_;simp[t0,t1,cx];refine AS.call (v:=.d (.bool (p xs[i]))) rfl rfl (by simp) (f:=k) (args:=.d (Ab xs[i])::caps) (by simp;try rfl) (by simp) (hf _ (List.getElem_mem cx)) ?_;simp;refine Aj (hK _ _ ?_);refine AU ?_;simp;refine⟨fun hp=>?_,fun hp=>?_⟩
  ·refine xW fun K hK=>?_;simp;apply hK;refine Ag ?_;(try simp only[xQ,reduceIte]);refine⟨_,AJ.refl,?_⟩;simp[Am];exact .inl (B8 cx hp fun j hj=>hq j hj (by omega)).symm
  ·refine CC ?_;refine xV fun K hK=>?_;simp[t8];apply hK;refine⟨cx,_,_,AJ.refl,?_⟩;simp[t0,t1,t7,AQ cx a1];intro j hj iV;by_cases e:j=i
   ·subst e;exact hp
   ·exact hq j (by omega) iV
 ·refine Cu ?_;refine xW fun K hK=>?_;simp;apply hK;refine Ag ?_;(try simp only[xQ,reduceIte]);refine⟨_,AJ.refl,?_⟩;simp[Am];exact .inl (firstIdx_none fun j hj=>hq j (by omega) hj).symm
theorem Gs(xs:List Rewrite)(p:Rewrite→Bool)(k:FuncId)(caps:List V)(S0:Sg)(hf:∀x∈xs,AE prog k (.d (Ab x)::caps) S0 (.d (.bool (p x))) S0):
  AE prog 122 [.d (.sl (xs.map Ab)),.fn (.func k) [] caps] S0 (.d (.bool (xs.any p))) S0:=by
 refine AE.AI func122 (by kernel_rfl) rfl (by simp) fun wf _=>?_;rw[ntmps122];refine xW fun K hK=>?_;simp;apply hK;(repeat refine xS ?_);refine BX fun K hK=>?_;refine xJ ?_;simp;refine AS.call rfl rfl (by simp) (f:=166) (args:=[.d (.sl (xs.map Ab)),.fn (.func k) [] caps]) (by simp[callee]) (by simp) (H9 xs p k caps S0 hf) ?_;simp;refine xJ ?_;simp;refine Aj (hK _ _ ?_);(try simp only[xQ,reduceIte]);refine Ag ?_;(try simp only[xQ,reduceIte]);refine⟨_,AJ.refl,?_⟩;simp[Am];have:=CR p xs;simp at this;simp[this]
open Go.Proofs Tryz
theorem Bi(x:Bool):Pure prog 39 [.bool x] (AA ⟨[],if x then 1 else 0⟩):=by
 refine Pure.AI func39 (by kernel_rfl) rfl (by simp) fun wf=>?_;rw[ntmps39];refine xW fun K hK=>?_;simp;apply hK;refine xS (xW fun K hK=>?_);simp;apply hK;refine AU ?_;simp;refine⟨fun hx=>?_,fun hx=>?_⟩
 ·refine xW fun K hK=>?_;simp;apply hK;refine Ag ⟨_,_,AJ.refl,?_⟩;(try simp);simp[hx,AA]
 ·refine xK ?_;refine xW fun K hK=>?_;simp;apply hK;refine Ag ⟨_,_,AJ.refl,?_⟩;(try simp);simp[hx,AA]
theorem F5(d:AN)(e:Int)(he:e<2+d.nodes.length):Pure prog 203 [AA d,AG e] (AG (d.level e)):=by
 refine Pure.AI func203 (by kernel_rfl) rfl (by simp) fun wf=>?_;simp[AAY,DM,WFD]at wf;rw[ntmps203];refine xW fun K hK=>?_;simp;apply hK;refine xS (xW fun K hK=>?_);simp;apply hK;refine AU ?_;simp;refine⟨fun hx=>?_,fun hx=>?_⟩
 ·refine xW fun K hK=>?_;simp;apply hK;refine Ag ⟨_,_,AJ.refl,?_⟩;(try simp);simp[AN.level,hx]
 ·have h2:IntKind.i64.wrap (e - 2)=e - 2:=wrap_i64 (by omega) (by omega);have h3:(e - 2).toNat<d.nodes.length:=by omega
  have h4:e - 2<(d.nodes.length:Int):=by omega
  have h5:¬e<2:=by omega
  refine xK ?_;refine xW fun K hK=>?_;simp[h2,h3,h4,hx];apply hK;refine Ag ⟨_,_,AJ.refl,?_⟩;(try simp);simp[AN.level,h5,h3]
theorem Cp(i:Int):Pure prog 16 [AG i] (AL ⟨true,i⟩):=by
 refine Pure.AI func16 (by kernel_rfl) rfl (by simp) fun wf=>?_;rw[ntmps16];refine xW fun K hK=>?_;simp;apply hK;refine xW fun K hK=>?_;simp;apply hK;refine Ag ⟨_,_,AJ.refl,?_⟩;(try simp);simp[AL]
theorem Dh(i:Int):Pure prog 40 [AG i] (AL ⟨false,i⟩):=by
 refine Pure.AI func40 (by kernel_rfl) rfl (by simp) fun wf=>?_;rw[ntmps40];refine xW fun K hK=>?_;simp;apply hK;refine xW fun K hK=>?_;simp;apply hK;refine Ag ⟨_,_,AJ.refl,?_⟩;(try simp);simp[AL]
theorem BU(n:ByteArray)(l:Int)(r:List Symbol):Pure prog 15 [Ba n,AG l,As r] (AH ⟨n,l,r,⟨[],1⟩,false,0,[],⟨false,0,0,0,0⟩⟩):=by
 refine Pure.AI func15 (by kernel_rfl) rfl (by simp) fun wf=>?_;rw[ntmps15];refine xW fun K hK=>?_;simp;apply hK;(repeat refine xS ?_);refine BX fun K hK=>?_;refine xJ ?_;simp;refine Bp (Bi true) rfl (by simp) ?_;simp;refine xJ ?_;simp;refine Aj (hK _ _ ?_);(try simp only[xQ,reduceIte]);refine Ag ⟨_,_,AJ.refl,?_⟩;(try simp);simp[AH]
def Ap(v:Int):AN:=if v<0∨v>63 then⟨[],0⟩else⟨[⟨v,0,1⟩],2⟩
def O5(v:Int):Int:=if v<0∨v>63 then 1 else 0
theorem Qo(v:Int):Pure prog 129 [AG v] (.Bd [AA (Ap v),AG (O5 v)]):=by
 refine Pure.AI func129 (by kernel_rfl) rfl (by simp) fun wf=>?_;rw[ntmps129];refine xW fun K hK=>?_;simp;apply hK;refine xS (xW fun K hK=>?_);simp;apply hK;refine AU ?_;simp;refine⟨fun hx=>?_,fun h1 h2=>?_⟩
 ·refine xW fun K hK=>?_;simp;apply hK;refine Ag ⟨_,_,AJ.refl,?_⟩;(try simp);have:v<0∨v>63:=by omega
  simp[Ap,O5,this,AA]
 ·refine xK ?_;refine xW fun K hK=>?_;simp[maxLen];apply hK;refine Ag ⟨_,_,AJ.refl,?_⟩;(try simp);have:¬(v<0∨v>63):=by omega
  simp[Ap,O5,this,AA,AX]
open Go.Proofs Tryz
theorem an(v:Int):Pure prog 139 [AG v] (.Bd [AA (Ap v),AG (O5 v)]):=by
 refine Pure.AI func139 (by kernel_rfl) rfl (by simp) fun wf=>?_;rw[ntmps139];refine xW fun K hK=>?_;simp;apply hK;refine xS (xW fun K hK=>?_);simp;apply hK;refine AU ?_;simp;refine⟨fun hx=>?_,fun h1 h2=>?_⟩
 ·refine xW fun K hK=>?_;simp;apply hK;refine Ag ⟨_,_,AJ.refl,?_⟩;(try simp);have:v<0∨v>63:=by omega
  simp[Ap,O5,this,AA]
 ·refine xK ?_;refine xW fun K hK=>?_;simp[maxLen];apply hK;refine Ag ⟨_,_,AJ.refl,?_⟩;(try simp);have:¬(v<0∨v>63):=by omega
  simp[Ap,O5,this,AA,AX]
theorem Br(v:Int):Pure prog 52 [AG v] (AA (Ap v)):=by
 refine Pure.AI func52 (by kernel_rfl) rfl (by simp) fun wf=>?_;rw[ntmps52];refine xW fun K hK=>?_;simp;apply hK;refine Az fun K hK=>?_;refine xJ ?_;simp;refine Bp (Qo v) rfl (by simp) ?_;simp;refine xJ ?_;simp;refine Aj (hK _ _ ?_);refine xW fun K hK=>?_;simp;apply hK;refine Ag ⟨_,_,AJ.refl,?_⟩;try simp
theorem E6(a c:Int):Pure prog 127 [AG a,AG c] (AP ⟨1,a,c,0,0⟩):=by
 refine Pure.AI func127 (by kernel_rfl) rfl (by simp) fun wf=>?_;rw[ntmps127];refine xW fun K hK=>?_;simp;apply hK;refine xW fun K hK=>?_;simp;apply hK;refine Ag ⟨_,_,AJ.refl,?_⟩;(try simp);simp[AP]
theorem DJ(k a c:Int):Pure prog 128 [AG k,AG a,AG c] (AP ⟨k,0,0,a,c⟩):=by
 refine Pure.AI func128 (by kernel_rfl) rfl (by simp) fun wf=>?_;rw[ntmps128];refine xW fun K hK=>?_;simp;apply hK;refine xW fun K hK=>?_;simp;apply hK;refine Ag ⟨_,_,AJ.refl,?_⟩;(try simp);simp[AP]
open Go.Proofs Tryz
@[simp] def dX:V:=.fn (.func 171) [] [.ptr 0 1 0 0,.ptr 1 1 0 0,.ptr 2 1 0 0,.ptr 3 1 0 0]
def KZ(N:List Ah)(wb:Bool)(L:List DT)(es:List (Int×Int)):Sg:=
 [.row true 1 [.map 4],.row true 1 [.ptr 5 1 0 0],.row true 1 [dX],.row true 2 [.agg [.row 6 L.length,.d (.int .i64 0)]],.map (BO (D.int .i64) (fun x=>.d (.int .i64 x)) es),.row wb 2 [.agg [.d (AV N),.any]],.row (!L.isEmpty) 3 (L.map fun t=>.d (AX (P8 L t)))]
def YU(N:List Ah)(L:List DT)(es:List (Int×Int)):Prop:=∀n u,AAQ N u n→(Ek L u→look es n=some (num L u))∧(¬Ek L u→look es n=none)
structure Y1(N:List Ah)(L:List DT):Prop where
 closed:FN L
 nodup:L.Nodup
 Me:∀t∈L,∃v l h,t=.node v l h∧∃n,AAQ N t n
theorem Y1.nil(N:List Ah):Y1 N []:=⟨FN.nil,List.nodup_nil,fun t h=>absurd h (by simp)⟩
open Classical in
theorem Y1.len{N:List Ah}{L:List DT}(h:Y1 N L):L.length≤N.length:=by
 let f:DT→Nat:=fun t=>if h:∃n,AAQ N t n then(h.choose - 2).toNat else 0;have hf:∀t∈L,∃n:Int,2≤n∧n<N.length+2∧AAQ N t n∧(f t:Int)=n - 2:=fun t ht=>by
  obtain⟨v,l,r,e,hn⟩:=h.Me t ht;have h1:=hn.choose_spec;have h2:=h1.range;have h3:¬hn.choose<2:=fun cx=>by
   obtain⟨b,hb⟩:=h1.Dy.1 cx;rw[e]at hb;exact absurd hb (by simp)
  refine⟨hn.choose,by omega,h2.2,h1,?_⟩;simp only[f,hn,dif_pos];omega
 refine FL f h.nodup (fun t ht=>?_) fun s hs t ht e=>?_
 ·obtain⟨n,h1,h2,_,h3⟩:=hf t ht;omega
 ·obtain⟨n,h1,h2,h3,h4⟩:=hf s hs;obtain⟨m,g1,g2,g3,g4⟩:=hf t ht;have:n=m:=by omega
  subst this;exact h3.uniq g3
theorem H3(t:DT):∀L x,x∈emit t L→x∈L∨x.size≤t.size:=by
 induction t with
 |leaf b=>intro L x h;exact .inl h
 |node v l r ihl ihr=>
  intro L x h;unfold emit at h;split at h
  ·exact .inl h
  ·rcases List.mem_append.1 h with h|h
   ·rcases ihr _ x h with h|h
    ·rcases ihl _ x h with h|h
     ·exact .inl h
     ·right;simp only[DT.size];omega
    ·right;simp only[DT.size];omega
   ·simp only[List.mem_singleton]at h;subst h;exact .inr (Nat.le_refl _)
theorem JW{N:List Ah}(wb:Bool){t:DT}{n:Int}{L:List DT}{es:List (Int×Int)}(hr:AAQ N t n)(hE:YU N L es)(hi:Ek L t):
  AE prog 171 [.d (AG n),.ptr 0 1 0 0,.ptr 1 1 0 0,.ptr 2 1 0 0,.ptr 3 1 0 0] (KZ N wb L es) (.d (AG (num L t))) (KZ N wb L es):=by
 have hl:look es n=some (num L t):=(hE n _ hr).1 hi;refine AE.AI func171 (by kernel_rfl) rfl (by simp) fun wf wfs=>?_;rw[ntmps171];unfold KZ;refine xW fun K hK=>?_;simp;apply hK;refine xS (xW fun K hK=>?_);simp;apply hK;refine xW fun K hK=>?_;simp[hl];apply hK;refine AU ?_;simp;refine xW fun K hK=>?_;simp;apply hK;refine Ag ?_;(try simp only[xQ,reduceIte]);refine⟨_,AJ.refl,?_⟩;simp[Am]
theorem UX(N:List Ah)(hNd:N.Nodup)(hN:N.length≤2 ^ 30)(wb:Bool):∀(t:DT) (n:Int) (L:List DT) (es:List (Int×Int)),AAQ N t n→Y1 N L→YU N L es→∃es',YU N (emit t L) es'∧Y1 N (emit t L)∧AE prog 171 [.d (AG n),.ptr 0 1 0 0,.ptr 1 1 0 0,.ptr 2 1 0 0,.ptr 3 1 0 0] (KZ N wb L es) (.d (AG (num (emit t L) t))) (KZ N wb (emit t L) es'):=by
 intro t;induction t with
 |leaf b=>exact fun n L es hr hL hE=>⟨es,hE,hL,JW wb hr hE (.inl ⟨b,rfl⟩)⟩
 |node v l r ihl ihr=>
  intro n L es hr hL hE;by_cases hi:DT.node v l r∈L
  ·have e:emit (.node v l r) L=L:=by simp[emit,hi]
   rw[e];exact⟨es,hE,hL,JW wb hr hE (.inr hi)⟩
  ·obtain⟨k,hk,lo,hh,eN,rl,rr⟩:=hr;obtain⟨es1,hE1,hL1,c1⟩:=ihl lo L es rl hL hE;obtain⟨es2,hE2,hL2,c2⟩:=ihr hh (emit l L) es1 rr hL1 hE1;have hl:look es n=none:=(hE n (.node v l r) ⟨k,hk,lo,hh,eN,rl,rr⟩).2 (by rintro(⟨b,hb⟩|h);exact absurd hb (by simp);exact hi h);have e:emit (.node v l r) L=emit r (emit l L)++[.node v l r]:=by simp[emit,hi]
   rw[e];generalize hL2':emit r (emit l L)=L2 at *;have hr:AAQ N (.node v l r) n:=⟨k,hk,lo,hh,eN,rl,rr⟩;have rD:DT.node v l r∉L2:=by
    intro hm;rw[←hL2']at hm;rcases H3 _ _ _ hm with hm|hm
    ·rcases H3 _ _ _ hm with hm|hm
     ·exact hi hm
     ·simp only[DT.size]at hm;omega
    ·simp only[DT.size]at hm;omega
   have hL3:Y1 N (L2++[.node v l r]):=by
    refine⟨e▸G9 (.node v l r) L hL.closed,?_,?_⟩
    ·rw[List.nodup_append];refine⟨hL2.nodup,by simp,?_⟩;intro a ha b hb eab;simp only[List.mem_singleton]at hb;subst eab;subst hb;exact rD ha
    ·intro t ht;rcases List.mem_append.1 ht with ht|ht
     ·exact hL2.Me t ht
     ·simp only[List.mem_singleton]at ht;subst ht;exact⟨v,l,r,rfl,n,hr⟩
   have hlen:L2.length+1≤N.length:=by have:=hL3.len;simpa using this
   have iZ:num (L2++[.node v l r]) (.node v l r)=L2.length+2:=by
    simp only[num];rw[List.idxOf_append,if_neg rD];simp
   refine⟨CU es2 n (L2.length+2),?_,hL3,?_⟩
   ·intro n' u hu;rw[E9];by_cases en:n'=n
    ·subst en;have:u=.node v l r:=hu.uniq hr;subst this;refine⟨fun _=>by rw[if_pos rfl,iZ],fun gy=>absurd (.inr (by simp)) gy⟩
    ·have dI:u≠.node v l r:=fun eu=>by subst eu;exact en (hu.inj hNd hr)
     rw[if_neg en];have oq:Ek (L2++[.node v l r]) u→Ek L2 u:=by
      rintro(h|h)
      ·exact .inl h
      ·rcases List.mem_append.1 h with h|h
       ·exact .inr h
       ·simp only[List.mem_singleton]at h;exact absurd h dI
     refine⟨fun h=>?_,fun h=>(hE2 n' u hu).2 fun h'=>h (h'.mono _)⟩;rw[EV (oq h)];exact(hE2 n' u hu).1 (oq h)
   ·obtain⟨iX,pa⟩:=List.getElem?_eq_some_iff.1 eN;refine AE.AI func171 (by kernel_rfl) rfl (by simp) fun wf wfs=>?_;rw[ntmps171];unfold KZ;refine xW fun K hK=>?_;simp;apply hK;refine xS (xW fun K hK=>?_);simp;apply hK;refine xW fun K hK=>?_;simp[hl];apply hK;refine AU ?_;simp;refine CC ?_;have hw:IntKind.i64.wrap (k:Int)=k:=wrap_i64 (by omega) (by omega);have jm:IntKind.i64.wrap ((L2.length:Int)+1+1)=L2.length+2:=wrap_i64 (by omega) (by omega);subst hk;refine xW fun K hK=>?_;simp[hw,iX,pa];apply hK;refine Az fun K hK=>?_;refine xJ ?_;simp;refine xY (c1) _ rfl rfl ?_;simp[KZ];refine xJ ?_;simp;refine Aj (hK _ _ ?_);(repeat refine xS ?_);refine BX fun K hK=>?_;refine xJ ?_;simp;refine xY (c2) _ rfl rfl ?_;simp[KZ];refine xJ ?_;simp;refine Aj (hK _ _ ?_);(try simp only[xQ,reduceIte]);have jT:L2.length≤1073741823:=by omega
    refine Az fun K hK=>?_;refine xJ ?_;simp[maxLen,jT];refine Aj (hK _ _ ?_);refine xW fun K hK=>?_;simp[jm];apply hK;(repeat refine xS ?_);refine xV fun K hK=>?_;simp;refine hK _ _ ?_;(try simp only[xQ,reduceIte]);have il:Ek (emit l L) l:=Fh l L;have il2:Ek L2 l:=by rw[←hL2'];exact I1 r il
    have ir:Ek L2 r:=by rw[←hL2'];exact Fh r _
    have e1:num (L2++[DT.node v l r]) l=num (emit l L) l:=by
     rw[EV il2,←hL2'];obtain⟨M,hM⟩:=JV r (emit l L);rw[hM,EV il]
    have e2:num (L2++[DT.node v l r]) r=num L2 r:=EV ir _;refine Ag ?_;(try simp only[xQ,reduceIte]);refine⟨_,AJ.AY 7 ?_ (by simp) (by simp) (by simp),?_⟩
    ·simp;refine⟨fun a ha=>by rw[Kd hL2.closed ha],?_⟩;simp only[P8,e1,e2,AX,AG]
    ·simp[Am,clean,E9,iZ]
theorem AAQ.Uc{N:List Ah}{u:DT}{n:Int}(h:AAQ N u n):Ek [] u↔n<2:=by
 rw[h.Dy];simp[Ek]
theorem Jx(N:List Ah)(hNd:N.Nodup)(hN:N.length≤2 ^ 30)(wb:Bool)(t:DT)(n:Int)(hr:AAQ N t n):
  AE prog 141 [.ptr 0 1 0 0,.d (AG n)] [.row wb 2 [.agg [.d (AV N),.any]]] (.d (AA (B2 t))) [.row wb 2 [.agg [.d (AV N),.any]]]:=by
 have hE0:YU N [] [(0,0),(1,1)]:=by
  intro m u hu;have h2:=hu.Uc;refine⟨fun h=>?_,fun h=>?_⟩
  ·have hm:=h2.1 h;have:=hu.range;have wG:m=0∨m=1:=by omega
   rcases wG with rfl|rfl
   ·rw[hu.zero];rfl
   ·rw[hu.one];rfl
  ·have hm:¬m<2:=fun cx=>h (h2.2 cx);rw[CQ,if_neg (by simp only;omega),CQ,if_neg (by simp only;omega)];rfl
 obtain⟨es,hE,hL,c⟩:=UX N hNd hN wb t n [] _ hr (Y1.nil N) hE0;refine AE.B9 func141 (by kernel_rfl) rfl (by simp) fun wf wfs=>?_;rw[ntmps141];refine xW fun K hK=>?_;simp;apply hK;refine Az fun K hK=>?_;refine xO ?_;simp;refine AS.ghost (AJ.Tb 8 0 3 rfl rfl) ?_;simp;refine xJ ?_;simp;refine Aj (hK _ _ ?_);refine xW fun K hK=>?_;simp[A4,DU];apply hK;refine xW fun K hK=>?_;simp;apply hK;refine xW fun K hK=>?_;simp;apply hK;(repeat refine xS ?_);refine BX fun K hK=>?_;refine xJ ?_;simp;refine AS.Ds (c) [6,1,7,4,5,0,3] rfl (by simp[KZ];try rfl) ?_;simp[KZ];(repeat((refine B7 ?_ ?_);(focus(simp;done));simp));refine Aj (hK _ _ ?_);(try simp only[AAE]);refine xW fun K hK=>?_;simp;apply hK;refine Ag ?_;(try simp only[xQ,reduceIte]);refine⟨_,_,_,AJ.B6 3 (xs:=(emit t []).map fun t_1=>AX (P8 (emit t []) t_1)) rfl (by simp),by simp,by simp[AA,B2,Za],AJ.AY 1 (by simp) (by simp) (by simp) (by simp)⟩
end Go.Koi
