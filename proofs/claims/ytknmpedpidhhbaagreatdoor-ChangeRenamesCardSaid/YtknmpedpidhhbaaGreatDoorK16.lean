/-
  Part 17 of the proof that the law ChangeRenames of the package koinelaw31 returns true for every input.
-/
import Derived.Test.YtknmpedpidhhbaaGreatDoorK15
set_option maxHeartbeats 64000000
set_option maxRecDepth 100000
namespace Go.Koi
open Go.Proofs Tryz
def firstIdx{α:Type}(p:α→Bool)(xs:List α):Int:=match xs.findIdx? p with|some i=>i|none=>-1
theorem B8{α:Type}{p:α→Bool}{xs:List α}{i:Nat}(h:i<xs.length)(hp:p xs[i]=true)(hno:∀j (hj:j<i),p (xs[j]'(by omega))=false):firstIdx p xs=i:=by
 have:xs.findIdx? p=some i:=by
  rw[List.findIdx?_eq_some_iff_getElem];exact⟨h,hp,fun j hj=>by simp[hno j hj]⟩
 simp[firstIdx,this]
theorem firstIdx_none{α:Type}{p:α→Bool}{xs:List α}(hno:∀j (hj:j<xs.length),p xs[j]=false):firstIdx p xs= -1:=by
 have:xs.findIdx? p=none:=by
  rw[List.findIdx?_eq_none_iff];intro x hx;obtain⟨i,hi,rfl⟩:=List.mem_iff_getElem.1 hx;exact hno i hi
 simp[firstIdx,this]
theorem CR{α:Type}(p:α→Bool)(xs:List α):decide (firstIdx p xs≥0)=xs.any p:=by
 unfold firstIdx;cases h:xs.findIdx? p with
 |none=>
  rw[List.findIdx?_eq_none_iff]at h;have:xs.any p=false:=by rw[List.any_eq_false];intro x hx;simp[h x hx]
  simp[this]
 |some i=>
  rw[List.findIdx?_eq_some_iff_getElem]at h;obtain⟨h1,h2,_⟩:=h;have:xs.any p=true:=List.any_eq_true.2 ⟨_,List.getElem_mem h1,h2⟩;rw[this];simp
theorem I7(xs:List Ah)(p:Ah→Bool)(k:FuncId)(caps:List V)(S0:Sg)(hf:∀x∈xs,AE prog k (.d (AX x)::caps) S0 (.d (.bool (p x))) S0):
  AE prog 233 [.d (.sl (xs.map AX)),.fn (.func k) [] caps] S0 (.d (AG (firstIdx p xs))) S0:=by
 refine AE.AI func233 (by kernel_rfl) rfl (by simp) fun wf _=>?_;have a1:xs.length≤maxLen:=by have:=wf.1;simp only[WFV,WFD]at this;simpa using this.1
 rw[ntmps233];refine xW fun K hK=>?_;simp;apply hK;refine xS (xW fun K hK=>?_);simp;apply hK;refine Bw ?_;refine DC xs.length (fun i tm S=>tm 0=.d (.sl (xs.map AX))∧tm 1=.fn (.func k) [] caps∧tm 8=.d (.int .i64 i)∧tm 7=.d (.int .i64 xs.length)∧S=S0∧∀j (_:j<i) (h:j<xs.length),p xs[j]=false) (Nat.zero_le _) (by simp) ?_;rintro i tm S hi ⟨t0,t1,t8,t7,rfl,hq⟩;refine xW fun K hK=>?_;simp[t8,t7];apply hK;refine xC ?_;simp;refine⟨fun hlt=>?_,fun hge=>?_⟩
 ·refine xK ?_;refine xB ?_;refine xW fun K hK=>?_;simp[t8];apply hK;refine Az fun K hK=>?_;refine xJ ?_;simp[t0,t1,hlt];refine AS.call (v:=.d (.bool (p xs[i]))) rfl rfl (by simp) (f:=k) (args:=.d (AX xs[i])::caps) (by simp;try rfl) (by simp) (hf _ (List.getElem_mem hlt)) ?_;simp;refine Aj (hK _ _ ?_);refine AU ?_;simp;refine⟨fun hp=>?_,fun hp=>?_⟩
  ·refine xW fun K hK=>?_;simp;apply hK;refine Ag ?_;(try simp only[xQ,reduceIte]);refine⟨_,AJ.refl,?_⟩;simp[Am];exact .inl (B8 hlt hp fun j hj=>hq j hj (by omega)).symm
  ·refine CC ?_;refine xV fun K hK=>?_;simp[t8];apply hK;refine⟨hlt,_,_,AJ.refl,?_⟩;simp[t0,t1,t7,AQ hlt a1];intro j hj hjl;by_cases e:j=i
   ·subst e;exact hp
   ·exact hq j (by omega) hjl
 ·refine Cu ?_;refine xW fun K hK=>?_;simp;apply hK;refine Ag ?_;(try simp only[xQ,reduceIte]);refine⟨_,AJ.refl,?_⟩;simp[Am];exact .inl (firstIdx_none fun j hj=>hq j (by omega) hj).symm
theorem HV(xs:List Ah)(p:Ah→Bool)(k:FuncId)(caps:List V)(S0:Sg)(hf:∀x∈xs,AE prog k (.d (AX x)::caps) S0 (.d (.bool (p x))) S0):
  AE prog 214 [.d (.sl (xs.map AX)),.fn (.func k) [] caps] S0 (.d (.bool (xs.any p))) S0:=by
 refine AE.AI func214 (by kernel_rfl) rfl (by simp) fun wf _=>?_;rw[ntmps214];refine xW fun K hK=>?_;simp;apply hK;(repeat refine xS ?_);refine BX fun K hK=>?_;refine xJ ?_;simp;refine AS.call rfl rfl (by simp) (f:=233) (args:=[.d (.sl (xs.map AX)),.fn (.func k) [] caps]) (by simp[callee]) (by simp) (I7 xs p k caps S0 hf) ?_;simp;refine xJ ?_;simp;refine Aj (hK _ _ ?_);(try simp only[xQ,reduceIte]);refine Ag ?_;(try simp only[xQ,reduceIte]);refine⟨_,AJ.refl,?_⟩;simp[Am];have:=CR p xs;simp at this;simp[this]
theorem Kn(xs:List AT)(p:AT→Bool)(k:FuncId)(caps:List V)(S0:Sg)(hf:∀x∈xs,AE prog k (.d (AH x)::caps) S0 (.d (.bool (p x))) S0):
  AE prog 212 [.d (.sl (xs.map AH)),.fn (.func k) [] caps] S0 (.d (AG (firstIdx p xs))) S0:=by
 refine AE.AI func212 (by kernel_rfl) rfl (by simp) fun wf _=>?_;have a1:xs.length≤maxLen:=by have:=wf.1;simp only[WFV,WFD]at this;simpa using this.1
 rw[ntmps212];refine xW fun K hK=>?_;simp;apply hK;refine xS (xW fun K hK=>?_);simp;apply hK;refine Bw ?_;refine DC xs.length (fun i tm S=>tm 0=.d (.sl (xs.map AH))∧tm 1=.fn (.func k) [] caps∧tm 8=.d (.int .i64 i)∧tm 7=.d (.int .i64 xs.length)∧S=S0∧∀j (_:j<i) (h:j<xs.length),p xs[j]=false) (Nat.zero_le _) (by simp) ?_;rintro i tm S hi ⟨t0,t1,t8,t7,rfl,hq⟩;refine xW fun K hK=>?_;simp[t8,t7];apply hK;refine xC ?_;simp;refine⟨fun hlt=>?_,fun hge=>?_⟩
 ·refine xK ?_;refine xB ?_;refine xW fun K hK=>?_;simp[t8];apply hK;refine Az fun K hK=>?_;refine xJ ?_;simp[t0,t1,hlt];refine AS.call (v:=.d (.bool (p xs[i]))) rfl rfl (by simp) (f:=k) (args:=.d (AH xs[i])::caps) (by simp;try rfl) (by simp) (hf _ (List.getElem_mem hlt)) ?_;simp;refine Aj (hK _ _ ?_);refine AU ?_;simp;refine⟨fun hp=>?_,fun hp=>?_⟩
  ·refine xW fun K hK=>?_;simp;apply hK;refine Ag ?_;(try simp only[xQ,reduceIte]);refine⟨_,AJ.refl,?_⟩;simp[Am];exact .inl (B8 hlt hp fun j hj=>hq j hj (by omega)).symm
  ·refine CC ?_;refine xV fun K hK=>?_;simp[t8];apply hK;refine⟨hlt,_,_,AJ.refl,?_⟩;simp[t0,t1,t7,AQ hlt a1];intro j hj hjl;by_cases e:j=i
   ·subst e;exact hp
   ·exact hq j (by omega) hjl
 ·refine Cu ?_;refine xW fun K hK=>?_;simp;apply hK;refine Ag ?_;(try simp only[xQ,reduceIte]);refine⟨_,AJ.refl,?_⟩;simp[Am];exact .inl (firstIdx_none fun j hj=>hq j (by omega) hj).symm
theorem Ie(xs:List AT)(p:AT→Bool)(k:FuncId)(caps:List V)(S0:Sg)(hf:∀x∈xs,AE prog k (.d (AH x)::caps) S0 (.d (.bool (p x))) S0):
  AE prog 180 [.d (.sl (xs.map AH)),.fn (.func k) [] caps] S0 (.d (.bool (xs.any p))) S0:=by
 refine AE.AI func180 (by kernel_rfl) rfl (by simp) fun wf _=>?_;rw[ntmps180];refine xW fun K hK=>?_;simp;apply hK;(repeat refine xS ?_);refine BX fun K hK=>?_;refine xJ ?_;simp;refine AS.call rfl rfl (by simp) (f:=212) (args:=[.d (.sl (xs.map AH)),.fn (.func k) [] caps]) (by simp[callee]) (by simp) (Kn xs p k caps S0 hf) ?_;simp;refine xJ ?_;simp;refine Aj (hK _ _ ?_);(try simp only[xQ,reduceIte]);refine Ag ?_;(try simp only[xQ,reduceIte]);refine⟨_,AJ.refl,?_⟩;simp[Am];have:=CR p xs;simp at this;simp[this]
theorem JM(xs:List Symbol)(p:Symbol→Bool)(k:FuncId)(caps:List V)(S0:Sg)(hf:∀x∈xs,AE prog k (.d (AL x)::caps) S0 (.d (.bool (p x))) S0):
  AE prog 218 [.d (.sl (xs.map AL)),.fn (.func k) [] caps] S0 (.d (AG (firstIdx p xs))) S0:=by
 refine AE.AI func218 (by kernel_rfl) rfl (by simp) fun wf _=>?_;have a1:xs.length≤maxLen:=by have:=wf.1;simp only[WFV,WFD]at this;simpa using this.1
 rw[ntmps218];refine xW fun K hK=>?_;simp;apply hK;refine xS (xW fun K hK=>?_);simp;apply hK;refine Bw ?_;refine DC xs.length (fun i tm S=>tm 0=.d (.sl (xs.map AL))∧tm 1=.fn (.func k) [] caps∧tm 8=.d (.int .i64 i)∧tm 7=.d (.int .i64 xs.length)∧S=S0∧∀j (_:j<i) (h:j<xs.length),p xs[j]=false) (Nat.zero_le _) (by simp) ?_;rintro i tm S hi ⟨t0,t1,t8,t7,rfl,hq⟩;refine xW fun K hK=>?_;simp[t8,t7];apply hK;refine xC ?_;simp;refine⟨fun hlt=>?_,fun hge=>?_⟩
 ·refine xK ?_;refine xB ?_;refine xW fun K hK=>?_;simp[t8];apply hK;refine Az fun K hK=>?_;refine xJ ?_;simp[t0,t1,hlt];refine AS.call (v:=.d (.bool (p xs[i]))) rfl rfl (by simp) (f:=k) (args:=.d (AL xs[i])::caps) (by simp;try rfl) (by simp) (hf _ (List.getElem_mem hlt)) ?_;simp;refine Aj (hK _ _ ?_);refine AU ?_;simp;refine⟨fun hp=>?_,fun hp=>?_⟩
  ·refine xW fun K hK=>?_;simp;apply hK;refine Ag ?_;(try simp only[xQ,reduceIte]);refine⟨_,AJ.refl,?_⟩;simp[Am];exact .inl (B8 hlt hp fun j hj=>hq j hj (by omega)).symm
  ·refine CC ?_;refine xV fun K hK=>?_;simp[t8];apply hK;refine⟨hlt,_,_,AJ.refl,?_⟩;simp[t0,t1,t7,AQ hlt a1];intro j hj hjl;by_cases e:j=i
   ·subst e;exact hp
   ·exact hq j (by omega) hjl
 ·refine Cu ?_;refine xW fun K hK=>?_;simp;apply hK;refine Ag ?_;(try simp only[xQ,reduceIte]);refine⟨_,AJ.refl,?_⟩;simp[Am];exact .inl (firstIdx_none fun j hj=>hq j (by omega) hj).symm
theorem HY(xs:List Symbol)(p:Symbol→Bool)(k:FuncId)(caps:List V)(S0:Sg)(hf:∀x∈xs,AE prog k (.d (AL x)::caps) S0 (.d (.bool (p x))) S0):
  AE prog 188 [.d (.sl (xs.map AL)),.fn (.func k) [] caps] S0 (.d (.bool (xs.any p))) S0:=by
 refine AE.AI func188 (by kernel_rfl) rfl (by simp) fun wf _=>?_;rw[ntmps188];refine xW fun K hK=>?_;simp;apply hK;(repeat refine xS ?_);refine BX fun K hK=>?_;refine xJ ?_;simp;refine AS.call rfl rfl (by simp) (f:=218) (args:=[.d (.sl (xs.map AL)),.fn (.func k) [] caps]) (by simp[callee]) (by simp) (JM xs p k caps S0 hf) ?_;simp;refine xJ ?_;simp;refine Aj (hK _ _ ?_);(try simp only[xQ,reduceIte]);refine Ag ?_;(try simp only[xQ,reduceIte]);refine⟨_,AJ.refl,?_⟩;simp[Am];have:=CR p xs;simp at this;simp[this]
theorem Jn(xs:List Level)(p:Level→Bool)(k:FuncId)(caps:List V)(S0:Sg)(hf:∀x∈xs,AE prog k (.d (Ac x)::caps) S0 (.d (.bool (p x))) S0):
  AE prog 199 [.d (.sl (xs.map Ac)),.fn (.func k) [] caps] S0 (.d (AG (firstIdx p xs))) S0:=by
 refine AE.AI func199 (by kernel_rfl) rfl (by simp) fun wf _=>?_;have a1:xs.length≤maxLen:=by have:=wf.1;simp only[WFV,WFD]at this;simpa using this.1
 rw[ntmps199];refine xW fun K hK=>?_;simp;apply hK;refine xS (xW fun K hK=>?_);simp;apply hK;refine Bw ?_;refine DC xs.length (fun i tm S=>tm 0=.d (.sl (xs.map Ac))∧tm 1=.fn (.func k) [] caps∧tm 8=.d (.int .i64 i)∧tm 7=.d (.int .i64 xs.length)∧S=S0∧∀j (_:j<i) (h:j<xs.length),p xs[j]=false) (Nat.zero_le _) (by simp) ?_;rintro i tm S hi ⟨t0,t1,t8,t7,rfl,hq⟩;refine xW fun K hK=>?_;simp[t8,t7];apply hK;refine xC ?_;simp;refine⟨fun hlt=>?_,fun hge=>?_⟩
 ·refine xK ?_;refine xB ?_;refine xW fun K hK=>?_;simp[t8];apply hK;refine Az fun K hK=>?_;refine xJ ?_;simp[t0,t1,hlt];refine AS.call (v:=.d (.bool (p xs[i]))) rfl rfl (by simp) (f:=k) (args:=.d (Ac xs[i])::caps) (by simp;try rfl) (by simp) (hf _ (List.getElem_mem hlt)) ?_;simp;refine Aj (hK _ _ ?_);refine AU ?_;simp;refine⟨fun hp=>?_,fun hp=>?_⟩
  ·refine xW fun K hK=>?_;simp;apply hK;refine Ag ?_;(try simp only[xQ,reduceIte]);refine⟨_,AJ.refl,?_⟩;simp[Am];exact .inl (B8 hlt hp fun j hj=>hq j hj (by omega)).symm
  ·refine CC ?_;refine xV fun K hK=>?_;simp[t8];apply hK;refine⟨hlt,_,_,AJ.refl,?_⟩;simp[t0,t1,t7,AQ hlt a1];intro j hj hjl;by_cases e:j=i
   ·subst e;exact hp
   ·exact hq j (by omega) hjl
 ·refine Cu ?_;refine xW fun K hK=>?_;simp;apply hK;refine Ag ?_;(try simp only[xQ,reduceIte]);refine⟨_,AJ.refl,?_⟩;simp[Am];exact .inl (firstIdx_none fun j hj=>hq j (by omega) hj).symm
theorem Ht(xs:List Level)(p:Level→Bool)(k:FuncId)(caps:List V)(S0:Sg)(hf:∀x∈xs,AE prog k (.d (Ac x)::caps) S0 (.d (.bool (p x))) S0):
  AE prog 167 [.d (.sl (xs.map Ac)),.fn (.func k) [] caps] S0 (.d (.bool (xs.any p))) S0:=by
 refine AE.AI func167 (by kernel_rfl) rfl (by simp) fun wf _=>?_;rw[ntmps167];refine xW fun K hK=>?_;simp;apply hK;(repeat refine xS ?_);refine BX fun K hK=>?_;refine xJ ?_;simp;refine AS.call rfl rfl (by simp) (f:=199) (args:=[.d (.sl (xs.map Ac)),.fn (.func k) [] caps]) (by simp[callee]) (by simp) (Jn xs p k caps S0 hf) ?_;simp;refine xJ ?_;simp;refine Aj (hK _ _ ?_);(try simp only[xQ,reduceIte]);refine Ag ?_;(try simp only[xQ,reduceIte]);refine⟨_,AJ.refl,?_⟩;simp[Am];have:=CR p xs;simp at this;simp[this]
theorem JG(xs:List Filter)(p:Filter→Bool)(k:FuncId)(caps:List V)(S0:Sg)(hf:∀x∈xs,AE prog k (.d (AK x)::caps) S0 (.d (.bool (p x))) S0):
  AE prog 201 [.d (.sl (xs.map AK)),.fn (.func k) [] caps] S0 (.d (AG (firstIdx p xs))) S0:=by
 refine AE.AI func201 (by kernel_rfl) rfl (by simp) fun wf _=>?_;have a1:xs.length≤maxLen:=by have:=wf.1;simp only[WFV,WFD]at this;simpa using this.1
 rw[ntmps201];refine xW fun K hK=>?_;simp;apply hK;refine xS (xW fun K hK=>?_);simp;apply hK;refine Bw ?_;refine DC xs.length (fun i tm S=>tm 0=.d (.sl (xs.map AK))∧tm 1=.fn (.func k) [] caps∧tm 8=.d (.int .i64 i)∧tm 7=.d (.int .i64 xs.length)∧S=S0∧∀j (_:j<i) (h:j<xs.length),p xs[j]=false) (Nat.zero_le _) (by simp) ?_;rintro i tm S hi ⟨t0,t1,t8,t7,rfl,hq⟩;refine xW fun K hK=>?_;simp[t8,t7];apply hK;refine xC ?_;simp;refine⟨fun hlt=>?_,fun hge=>?_⟩
 ·refine xK ?_;refine xB ?_;refine xW fun K hK=>?_;simp[t8];apply hK;refine Az fun K hK=>?_;refine xJ ?_;simp[t0,t1,hlt];refine AS.call (v:=.d (.bool (p xs[i]))) rfl rfl (by simp) (f:=k) (args:=.d (AK xs[i])::caps) (by simp;try rfl) (by simp) (hf _ (List.getElem_mem hlt)) ?_;simp;refine Aj (hK _ _ ?_);refine AU ?_;simp;refine⟨fun hp=>?_,fun hp=>?_⟩
  ·refine xW fun K hK=>?_;simp;apply hK;refine Ag ?_;(try simp only[xQ,reduceIte]);refine⟨_,AJ.refl,?_⟩;simp[Am];exact .inl (B8 hlt hp fun j hj=>hq j hj (by omega)).symm
  ·refine CC ?_;refine xV fun K hK=>?_;simp[t8];apply hK;refine⟨hlt,_,_,AJ.refl,?_⟩;simp[t0,t1,t7,AQ hlt a1];intro j hj hjl;by_cases e:j=i
   ·subst e;exact hp
   ·exact hq j (by omega) hjl
 ·refine Cu ?_;refine xW fun K hK=>?_;simp;apply hK;refine Ag ?_;(try simp only[xQ,reduceIte]);refine⟨_,AJ.refl,?_⟩;simp[Am];exact .inl (firstIdx_none fun j hj=>hq j (by omega) hj).symm
theorem Ev(xs:List Filter)(p:Filter→Bool)(k:FuncId)(caps:List V)(S0:Sg)(hf:∀x∈xs,AE prog k (.d (AK x)::caps) S0 (.d (.bool (p x))) S0):
  AE prog 170 [.d (.sl (xs.map AK)),.fn (.func k) [] caps] S0 (.d (.bool (xs.any p))) S0:=by
 refine AE.AI func170 (by kernel_rfl) rfl (by simp) fun wf _=>?_;rw[ntmps170];refine xW fun K hK=>?_;simp;apply hK;(repeat refine xS ?_);refine BX fun K hK=>?_;refine xJ ?_;simp;refine AS.call rfl rfl (by simp) (f:=201) (args:=[.d (.sl (xs.map AK)),.fn (.func k) [] caps]) (by simp[callee]) (by simp) (JG xs p k caps S0 hf) ?_;simp;refine xJ ?_;simp;refine Aj (hK _ _ ?_);(try simp only[xQ,reduceIte]);refine Ag ?_;(try simp only[xQ,reduceIte]);refine⟨_,AJ.refl,?_⟩;simp[Am];have:=CR p xs;simp at this;simp[this]
theorem LC(xs:List Int)(p:Int→Bool)(k:FuncId)(caps:List V)(S0:Sg)(hf:∀x∈xs,AE prog k (.d ((D.int .i64) x)::caps) S0 (.d (.bool (p x))) S0):
  AE prog 173 [.d (.sl (xs.map (D.int .i64))),.fn (.func k) [] caps] S0 (.d (AG (firstIdx p xs))) S0:=by
 refine AE.AI func173 (by kernel_rfl) rfl (by simp) fun wf _=>?_;have a1:xs.length≤maxLen:=by have:=wf.1;simp only[WFV,WFD]at this;simpa using this.1
 rw[ntmps173];refine xW fun K hK=>?_;simp;apply hK;refine xS (xW fun K hK=>?_);simp;apply hK;refine Bw ?_;refine DC xs.length (fun i tm S=>tm 0=.d (.sl (xs.map (D.int .i64)))∧tm 1=.fn (.func k) [] caps∧tm 8=.d (.int .i64 i)∧tm 7=.d (.int .i64 xs.length)∧S=S0∧∀j (_:j<i) (h:j<xs.length),p xs[j]=false) (Nat.zero_le _) (by simp) ?_;rintro i tm S hi ⟨t0,t1,t8,t7,rfl,hq⟩;refine xW fun K hK=>?_;simp[t8,t7];apply hK;refine xC ?_;simp;refine⟨fun hlt=>?_,fun hge=>?_⟩
 ·refine xK ?_;refine xB ?_;refine xW fun K hK=>?_;simp[t8];apply hK;refine Az fun K hK=>?_;refine xJ ?_;simp[t0,t1,hlt];refine AS.call (v:=.d (.bool (p xs[i]))) rfl rfl (by simp) (f:=k) (args:=.d ((D.int .i64) xs[i])::caps) (by simp;try rfl) (by simp) (hf _ (List.getElem_mem hlt)) ?_;simp;refine Aj (hK _ _ ?_);refine AU ?_;simp;refine⟨fun hp=>?_,fun hp=>?_⟩
  ·refine xW fun K hK=>?_;simp;apply hK;refine Ag ?_;(try simp only[xQ,reduceIte]);refine⟨_,AJ.refl,?_⟩;simp[Am];exact .inl (B8 hlt hp fun j hj=>hq j hj (by omega)).symm
  ·refine CC ?_;refine xV fun K hK=>?_;simp[t8];apply hK;refine⟨hlt,_,_,AJ.refl,?_⟩;simp[t0,t1,t7,AQ hlt a1];intro j hj hjl;by_cases e:j=i
   ·subst e;exact hp
   ·exact hq j (by omega) hjl
 ·refine Cu ?_;refine xW fun K hK=>?_;simp;apply hK;refine Ag ?_;(try simp only[xQ,reduceIte]);refine⟨_,AJ.refl,?_⟩;simp[Am];exact .inl (firstIdx_none fun j hj=>hq j (by omega) hj).symm
theorem I0(xs:List Int)(p:Int→Bool)(k:FuncId)(caps:List V)(S0:Sg)(hf:∀x∈xs,AE prog k (.d ((D.int .i64) x)::caps) S0 (.d (.bool (p x))) S0):
  AE prog 138 [.d (.sl (xs.map (D.int .i64))),.fn (.func k) [] caps] S0 (.d (.bool (xs.any p))) S0:=by
 refine AE.AI func138 (by kernel_rfl) rfl (by simp) fun wf _=>?_;rw[ntmps138];refine xW fun K hK=>?_;simp;apply hK;(repeat refine xS ?_);refine BX fun K hK=>?_;refine xJ ?_;simp;refine AS.call rfl rfl (by simp) (f:=173) (args:=[.d (.sl (xs.map (D.int .i64))),.fn (.func k) [] caps]) (by simp[callee]) (by simp) (LC xs p k caps S0 hf) ?_;simp;refine xJ ?_;simp;refine Aj (hK _ _ ?_);(try simp only[xQ,reduceIte]);refine Ag ?_;(try simp only[xQ,reduceIte]);refine⟨_,AJ.refl,?_⟩;simp[Am];have:=CR p xs;simp at this;simp[this]
theorem H9(xs:List Rewrite)(p:Rewrite→Bool)(k:FuncId)(caps:List V)(S0:Sg)(hf:∀x∈xs,AE prog k (.d (Ab x)::caps) S0 (.d (.bool (p x))) S0):
  AE prog 176 [.d (.sl (xs.map Ab)),.fn (.func k) [] caps] S0 (.d (AG (firstIdx p xs))) S0:=by
 refine AE.AI func176 (by kernel_rfl) rfl (by simp) fun wf _=>?_;have a1:xs.length≤maxLen:=by have:=wf.1;simp only[WFV,WFD]at this;simpa using this.1
 rw[ntmps176];refine xW fun K hK=>?_;simp;apply hK;refine xS (xW fun K hK=>?_);simp;apply hK;refine Bw ?_;refine DC xs.length (fun i tm S=>tm 0=.d (.sl (xs.map Ab))∧tm 1=.fn (.func k) [] caps∧tm 8=.d (.int .i64 i)∧tm 7=.d (.int .i64 xs.length)∧S=S0∧∀j (_:j<i) (h:j<xs.length),p xs[j]=false) (Nat.zero_le _) (by simp) ?_;rintro i tm S hi ⟨t0,t1,t8,t7,rfl,hq⟩;refine xW fun K hK=>?_;simp[t8,t7];apply hK;refine xC ?_;simp;refine⟨fun hlt=>?_,fun hge=>?_⟩
 ·refine xK ?_;refine xB ?_;refine xW fun K hK=>?_;simp[t8];apply hK;refine Az fun K hK=>?_;refine xJ ?_;simp[t0,t1,hlt];refine AS.call (v:=.d (.bool (p xs[i]))) rfl rfl (by simp) (f:=k) (args:=.d (Ab xs[i])::caps) (by simp;try rfl) (by simp) (hf _ (List.getElem_mem hlt)) ?_;simp;refine Aj (hK _ _ ?_);refine AU ?_;simp;refine⟨fun hp=>?_,fun hp=>?_⟩
  ·refine xW fun K hK=>?_;simp;apply hK;refine Ag ?_;(try simp only[xQ,reduceIte]);refine⟨_,AJ.refl,?_⟩;simp[Am];exact .inl (B8 hlt hp fun j hj=>hq j hj (by omega)).symm
  ·refine CC ?_;refine xV fun K hK=>?_;simp[t8];apply hK;refine⟨hlt,_,_,AJ.refl,?_⟩;simp[t0,t1,t7,AQ hlt a1];intro j hj hjl;by_cases e:j=i
   ·subst e;exact hp
   ·exact hq j (by omega) hjl
 ·refine Cu ?_;refine xW fun K hK=>?_;simp;apply hK;refine Ag ?_;(try simp only[xQ,reduceIte]);refine⟨_,AJ.refl,?_⟩;simp[Am];exact .inl (firstIdx_none fun j hj=>hq j (by omega) hj).symm
theorem Gs(xs:List Rewrite)(p:Rewrite→Bool)(k:FuncId)(caps:List V)(S0:Sg)(hf:∀x∈xs,AE prog k (.d (Ab x)::caps) S0 (.d (.bool (p x))) S0):
  AE prog 149 [.d (.sl (xs.map Ab)),.fn (.func k) [] caps] S0 (.d (.bool (xs.any p))) S0:=by
 refine AE.AI func149 (by kernel_rfl) rfl (by simp) fun wf _=>?_;rw[ntmps149];refine xW fun K hK=>?_;simp;apply hK;(repeat refine xS ?_);refine BX fun K hK=>?_;refine xJ ?_;simp;refine AS.call rfl rfl (by simp) (f:=176) (args:=[.d (.sl (xs.map Ab)),.fn (.func k) [] caps]) (by simp[callee]) (by simp) (H9 xs p k caps S0 hf) ?_;simp;refine xJ ?_;simp;refine Aj (hK _ _ ?_);(try simp only[xQ,reduceIte]);refine Ag ?_;(try simp only[xQ,reduceIte]);refine⟨_,AJ.refl,?_⟩;simp[Am];have:=CR p xs;simp at this;simp[this]
open Go.Proofs Tryz
theorem Bi(x:Bool):Pure prog 36 [.bool x] (AA ⟨[],if x then 1 else 0⟩):=by
 refine Pure.AI func36 (by kernel_rfl) rfl (by simp) fun wf=>?_;rw[ntmps36];refine xW fun K hK=>?_;simp;apply hK;refine xS (xW fun K hK=>?_);simp;apply hK;refine AU ?_;simp;refine⟨fun hx=>?_,fun hx=>?_⟩
 ·refine xW fun K hK=>?_;simp;apply hK;refine Ag ⟨_,_,AJ.refl,?_⟩;(try simp);simp[hx,AA]
 ·refine xK ?_;refine xW fun K hK=>?_;simp;apply hK;refine Ag ⟨_,_,AJ.refl,?_⟩;(try simp);simp[hx,AA]
theorem F5(d:AN)(e:Int)(he:e<2+d.nodes.length):Pure prog 206 [AA d,AG e] (AG (d.level e)):=by
 refine Pure.AI func206 (by kernel_rfl) rfl (by simp) fun wf=>?_;simp[AAY,DM,WFD]at wf;rw[ntmps206];refine xW fun K hK=>?_;simp;apply hK;refine xS (xW fun K hK=>?_);simp;apply hK;refine AU ?_;simp;refine⟨fun hx=>?_,fun hx=>?_⟩
 ·refine xW fun K hK=>?_;simp;apply hK;refine Ag ⟨_,_,AJ.refl,?_⟩;(try simp);simp[AN.level,hx]
 ·have h2:IntKind.i64.wrap (e - 2)=e - 2:=wrap_i64 (by omega) (by omega);have h3:(e - 2).toNat<d.nodes.length:=by omega
  have h4:e - 2<(d.nodes.length:Int):=by omega
  have h5:¬e<2:=by omega
  refine xK ?_;refine xW fun K hK=>?_;simp[h2,h3,h4,hx];apply hK;refine Ag ⟨_,_,AJ.refl,?_⟩;(try simp);simp[AN.level,h5,h3]
theorem Cp(i:Int):Pure prog 12 [AG i] (AL ⟨true,i⟩):=by
 refine Pure.AI func12 (by kernel_rfl) rfl (by simp) fun wf=>?_;rw[ntmps12];refine xW fun K hK=>?_;simp;apply hK;refine xW fun K hK=>?_;simp;apply hK;refine Ag ⟨_,_,AJ.refl,?_⟩;(try simp);simp[AL]
theorem Dh(i:Int):Pure prog 37 [AG i] (AL ⟨false,i⟩):=by
 refine Pure.AI func37 (by kernel_rfl) rfl (by simp) fun wf=>?_;rw[ntmps37];refine xW fun K hK=>?_;simp;apply hK;refine xW fun K hK=>?_;simp;apply hK;refine Ag ⟨_,_,AJ.refl,?_⟩;(try simp);simp[AL]
theorem BU(n:ByteArray)(l:Int)(r:List Symbol):Pure prog 11 [Ba n,AG l,As r] (AH ⟨n,l,r,⟨[],1⟩,false,0,[],⟨false,0,0,0,0⟩⟩):=by
 refine Pure.AI func11 (by kernel_rfl) rfl (by simp) fun wf=>?_;rw[ntmps11];refine xW fun K hK=>?_;simp;apply hK;(repeat refine xS ?_);refine BX fun K hK=>?_;refine xJ ?_;simp;refine Bp (Bi true) rfl (by simp) ?_;simp;refine xJ ?_;simp;refine Aj (hK _ _ ?_);(try simp only[xQ,reduceIte]);refine Ag ⟨_,_,AJ.refl,?_⟩;(try simp);simp[AH]
def Ap(v:Int):AN:=if v<0∨v>63 then⟨[],0⟩else⟨[⟨v,0,1⟩],2⟩
def O5(v:Int):Int:=if v<0∨v>63 then 1 else 0
theorem Qo(v:Int):Pure prog 110 [AG v] (.Bd [AA (Ap v),AG (O5 v)]):=by
 refine Pure.AI func110 (by kernel_rfl) rfl (by simp) fun wf=>?_;rw[ntmps110];refine xW fun K hK=>?_;simp;apply hK;refine xS (xW fun K hK=>?_);simp;apply hK;refine AU ?_;simp;refine⟨fun hx=>?_,fun h1 h2=>?_⟩
 ·refine xW fun K hK=>?_;simp;apply hK;refine Ag ⟨_,_,AJ.refl,?_⟩;(try simp);have:v<0∨v>63:=by omega
  simp[Ap,O5,this,AA]
 ·refine xK ?_;refine xW fun K hK=>?_;simp[maxLen];apply hK;refine Ag ⟨_,_,AJ.refl,?_⟩;(try simp);have:¬(v<0∨v>63):=by omega
  simp[Ap,O5,this,AA,AX]
open Go.Proofs Tryz
theorem Br(v:Int):Pure prog 106 [AG v] (AA (Ap v)):=by
 refine Pure.AI func106 (by kernel_rfl) rfl (by simp) fun wf=>?_;rw[ntmps106];refine xW fun K hK=>?_;simp;apply hK;refine Az fun K hK=>?_;refine xJ ?_;simp;refine Bp (Qo v) rfl (by simp) ?_;simp;refine xJ ?_;simp;refine Aj (hK _ _ ?_);refine xW fun K hK=>?_;simp;apply hK;refine Ag ⟨_,_,AJ.refl,?_⟩;try simp
theorem E6(a c:Int):Pure prog 108 [AG a,AG c] (AP ⟨1,a,c,0,0⟩):=by
 refine Pure.AI func108 (by kernel_rfl) rfl (by simp) fun wf=>?_;rw[ntmps108];refine xW fun K hK=>?_;simp;apply hK;refine xW fun K hK=>?_;simp;apply hK;refine Ag ⟨_,_,AJ.refl,?_⟩;(try simp);simp[AP]
theorem DJ(k a c:Int):Pure prog 109 [AG k,AG a,AG c] (AP ⟨k,0,0,a,c⟩):=by
 refine Pure.AI func109 (by kernel_rfl) rfl (by simp) fun wf=>?_;rw[ntmps109];refine xW fun K hK=>?_;simp;apply hK;refine xW fun K hK=>?_;simp;apply hK;refine Ag ⟨_,_,AJ.refl,?_⟩;(try simp);simp[AP]
open Go.Proofs Tryz
@[simp] def dX:V:=.fn (.func 166) [] [.ptr 0 1 0 0,.ptr 1 1 0 0,.ptr 2 1 0 0,.ptr 3 1 0 0]
def KZ(N:List Ah)(wb:Bool)(L:List DT)(es:List (Int×Int)):Sg:=
 [.row true 1 [.map 4],.row true 1 [.ptr 5 1 0 0],.row true 1 [dX],.row true 2 [.agg [.row 6 L.length,.d (.int .i64 0)]],.map (BO (D.int .i64) (fun x=>.d (.int .i64 x)) es),.row wb 2 [.agg [.d (AV N),.any]],.row (!L.isEmpty) 3 (L.map fun t=>.d (AX (P8 L t)))]
def YU(N:List Ah)(L:List DT)(es:List (Int×Int)):Prop:=∀n u,AAR N u n→(Ek L u→look es n=some (num L u))∧(¬Ek L u→look es n=none)
structure Y1(N:List Ah)(L:List DT):Prop where
 closed:FN L
 nodup:L.Nodup
 Me:∀t∈L,∃v l h,t=.node v l h∧∃n,AAR N t n
theorem Y1.nil(N:List Ah):Y1 N []:=⟨FN.nil,List.nodup_nil,fun t h=>absurd h (by simp)⟩
open Classical in
theorem Y1.len{N:List Ah}{L:List DT}(h:Y1 N L):L.length≤N.length:=by
 let f:DT→Nat:=fun t=>if h:∃n,AAR N t n then(h.choose - 2).toNat else 0;have hf:∀t∈L,∃n:Int,2≤n∧n<N.length+2∧AAR N t n∧(f t:Int)=n - 2:=fun t ht=>by
  obtain⟨v,l,r,e,hn⟩:=h.Me t ht;have h1:=hn.choose_spec;have h2:=h1.range;have h3:¬hn.choose<2:=fun hlt=>by
   obtain⟨b,hb⟩:=h1.Dy.1 hlt;rw[e]at hb;exact absurd hb (by simp)
  refine⟨hn.choose,by omega,h2.2,h1,?_⟩;simp only[f,hn,dif_pos];omega
 refine FL f h.nodup (fun t ht=>?_) fun s hs t ht e=>?_
 ·obtain⟨n,h1,h2,_,h3⟩:=hf t ht;omega
 ·obtain⟨n,h1,h2,h3,h4⟩:=hf s hs;obtain⟨m,g1,g2,g3,g4⟩:=hf t ht;have:n=m:=by omega
  subst this;exact h3.uniq g3
theorem H3(t:DT):∀L x,x∈emit t L→x∈L∨x.size≤t.size:=by
 induction t with
 |leaf b=>intro L x h;exact .inl h
 |node v l r ihl ihr=>
  intro L x h;unfold emit at h;split at h
  ·exact .inl h
  ·rcases List.mem_append.1 h with h|h
   ·rcases ihr _ x h with h|h
    ·rcases ihl _ x h with h|h
     ·exact .inl h
     ·right;simp only[DT.size];omega
    ·right;simp only[DT.size];omega
   ·simp only[List.mem_singleton]at h;subst h;exact .inr (Nat.le_refl _)
theorem JW{N:List Ah}(wb:Bool){t:DT}{n:Int}{L:List DT}{es:List (Int×Int)}(hr:AAR N t n)(hE:YU N L es)(hi:Ek L t):
  AE prog 166 [.d (AG n),.ptr 0 1 0 0,.ptr 1 1 0 0,.ptr 2 1 0 0,.ptr 3 1 0 0] (KZ N wb L es) (.d (AG (num L t))) (KZ N wb L es):=by
 have hl:look es n=some (num L t):=(hE n _ hr).1 hi;refine AE.AI func166 (by kernel_rfl) rfl (by simp) fun wf wfs=>?_;rw[ntmps166];unfold KZ;refine xW fun K hK=>?_;simp;apply hK;refine xS (xW fun K hK=>?_);simp;apply hK;refine xW fun K hK=>?_;simp[hl];apply hK;refine AU ?_;simp;refine xW fun K hK=>?_;simp;apply hK;refine Ag ?_;(try simp only[xQ,reduceIte]);refine⟨_,AJ.refl,?_⟩;simp[Am]
theorem UX(N:List Ah)(hNd:N.Nodup)(hN:N.length≤2 ^ 30)(wb:Bool):∀(t:DT) (n:Int) (L:List DT) (es:List (Int×Int)),AAR N t n→Y1 N L→YU N L es→∃es',YU N (emit t L) es'∧Y1 N (emit t L)∧AE prog 166 [.d (AG n),.ptr 0 1 0 0,.ptr 1 1 0 0,.ptr 2 1 0 0,.ptr 3 1 0 0] (KZ N wb L es) (.d (AG (num (emit t L) t))) (KZ N wb (emit t L) es'):=by
 intro t;induction t with
 |leaf b=>exact fun n L es hr hL hE=>⟨es,hE,hL,JW wb hr hE (.inl ⟨b,rfl⟩)⟩
 |node v l r ihl ihr=>
  intro n L es hr hL hE;by_cases hi:DT.node v l r∈L
  ·have e:emit (.node v l r) L=L:=by simp[emit,hi]
   rw[e];exact⟨es,hE,hL,JW wb hr hE (.inr hi)⟩
  ·obtain⟨k,hk,lo,hh,eN,rl,rr⟩:=hr;obtain⟨es1,hE1,hL1,c1⟩:=ihl lo L es rl hL hE;obtain⟨es2,hE2,hL2,c2⟩:=ihr hh (emit l L) es1 rr hL1 hE1;have hl:look es n=none:=(hE n (.node v l r) ⟨k,hk,lo,hh,eN,rl,rr⟩).2 (by rintro(⟨b,hb⟩|h);exact absurd hb (by simp);exact hi h);have e:emit (.node v l r) L=emit r (emit l L)++[.node v l r]:=by simp[emit,hi]
   rw[e];generalize hL2':emit r (emit l L)=L2 at *;have hr:AAR N (.node v l r) n:=⟨k,hk,lo,hh,eN,rl,rr⟩;have hnin:DT.node v l r∉L2:=by
    intro hm;rw[←hL2']at hm;rcases H3 _ _ _ hm with hm|hm
    ·rcases H3 _ _ _ hm with hm|hm
     ·exact hi hm
     ·simp only[DT.size]at hm;omega
    ·simp only[DT.size]at hm;omega
   have hL3:Y1 N (L2++[.node v l r]):=by
    refine⟨e▸G9 (.node v l r) L hL.closed,?_,?_⟩
    ·rw[List.nodup_append];refine⟨hL2.nodup,by simp,?_⟩;intro a ha b hb eab;simp only[List.mem_singleton]at hb;subst eab;subst hb;exact hnin ha
    ·intro t ht;rcases List.mem_append.1 ht with ht|ht
     ·exact hL2.Me t ht
     ·simp only[List.mem_singleton]at ht;subst ht;exact⟨v,l,r,rfl,n,hr⟩
   have hlen:L2.length+1≤N.length:=by have:=hL3.len;simpa using this
   have hnum:num (L2++[.node v l r]) (.node v l r)=L2.length+2:=by
    simp only[num];rw[List.idxOf_append,if_neg hnin];simp
   refine⟨CU es2 n (L2.length+2),?_,hL3,?_⟩
   ·intro n' u hu;rw[E9];by_cases en:n'=n
    ·subst en;have:u=.node v l r:=hu.uniq hr;subst this;refine⟨fun _=>by rw[if_pos rfl,hnum],fun hno=>absurd (.inr (by simp)) hno⟩
    ·have hne:u≠.node v l r:=fun eu=>by subst eu;exact en (hu.inj hNd hr)
     rw[if_neg en];have hiff:Ek (L2++[.node v l r]) u→Ek L2 u:=by
      rintro(h|h)
      ·exact .inl h
      ·rcases List.mem_append.1 h with h|h
       ·exact .inr h
       ·simp only[List.mem_singleton]at h;exact absurd h hne
     refine⟨fun h=>?_,fun h=>(hE2 n' u hu).2 fun h'=>h (h'.mono _)⟩;rw[EV (hiff h)];exact(hE2 n' u hu).1 (hiff h)
   ·obtain⟨hkl,hke⟩:=List.getElem?_eq_some_iff.1 eN;refine AE.AI func166 (by kernel_rfl) rfl (by simp) fun wf wfs=>?_;rw[ntmps166];unfold KZ;refine xW fun K hK=>?_;simp;apply hK;refine xS (xW fun K hK=>?_);simp;apply hK;refine xW fun K hK=>?_;simp[hl];apply hK;refine AU ?_;simp;refine CC ?_;have hw:IntKind.i64.wrap (k:Int)=k:=wrap_i64 (by omega) (by omega);have hw2:IntKind.i64.wrap ((L2.length:Int)+1+1)=L2.length+2:=wrap_i64 (by omega) (by omega);subst hk;refine xW fun K hK=>?_;simp[hw,hkl,hke];apply hK;refine Az fun K hK=>?_;refine xJ ?_;simp;refine xY (c1) _ rfl rfl ?_;simp[KZ];refine xJ ?_;simp;refine Aj (hK _ _ ?_);(repeat refine xS ?_);refine BX fun K hK=>?_;refine xJ ?_;simp;refine xY (c2) _ rfl rfl ?_;simp[KZ];refine xJ ?_;simp;refine Aj (hK _ _ ?_);(try simp only[xQ,reduceIte]);have hl2:L2.length≤1073741823:=by omega
    refine Az fun K hK=>?_;refine xJ ?_;simp[maxLen,hl2];refine Aj (hK _ _ ?_);refine xW fun K hK=>?_;simp[hw2];apply hK;(repeat refine xS ?_);refine xV fun K hK=>?_;simp;refine hK _ _ ?_;(try simp only[xQ,reduceIte]);have il:Ek (emit l L) l:=Fh l L;have il2:Ek L2 l:=by rw[←hL2'];exact I1 r il
    have ir:Ek L2 r:=by rw[←hL2'];exact Fh r _
    have e1:num (L2++[DT.node v l r]) l=num (emit l L) l:=by
     rw[EV il2,←hL2'];obtain⟨M,hM⟩:=JV r (emit l L);rw[hM,EV il]
    have e2:num (L2++[DT.node v l r]) r=num L2 r:=EV ir _;refine Ag ?_;(try simp only[xQ,reduceIte]);refine⟨_,AJ.AY 7 ?_ (by simp) (by simp) (by simp),?_⟩
    ·simp;refine⟨fun a ha=>by rw[Kd hL2.closed ha],?_⟩;simp only[P8,e1,e2,AX,AG]
    ·simp[Am,clean,E9,hnum]
theorem AAR.Uc{N:List Ah}{u:DT}{n:Int}(h:AAR N u n):Ek [] u↔n<2:=by
 rw[h.Dy];simp[Ek]
theorem Jx(N:List Ah)(hNd:N.Nodup)(hN:N.length≤2 ^ 30)(wb:Bool)(t:DT)(n:Int)(hr:AAR N t n):
  AE prog 133 [.ptr 0 1 0 0,.d (AG n)] [.row wb 2 [.agg [.d (AV N),.any]]] (.d (AA (B2 t))) [.row wb 2 [.agg [.d (AV N),.any]]]:=by
 have hE0:YU N [] [(0,0),(1,1)]:=by
  intro m u hu;have h2:=hu.Uc;refine⟨fun h=>?_,fun h=>?_⟩
  ·have hm:=h2.1 h;have:=hu.range;have h01:m=0∨m=1:=by omega
   rcases h01 with rfl|rfl
   ·rw[hu.zero];rfl
   ·rw[hu.one];rfl
  ·have hm:¬m<2:=fun hlt=>h (h2.2 hlt);rw[CQ,if_neg (by simp only;omega),CQ,if_neg (by simp only;omega)];rfl
 obtain⟨es,hE,hL,c⟩:=UX N hNd hN wb t n [] _ hr (Y1.nil N) hE0;refine AE.B9 func133 (by kernel_rfl) rfl (by simp) fun wf wfs=>?_;rw[ntmps133];refine xW fun K hK=>?_;simp;apply hK;refine Az fun K hK=>?_;refine xO ?_;simp;refine AS.ghost (AJ.Tb 8 0 3 rfl rfl) ?_;simp;refine xJ ?_;simp;refine Aj (hK _ _ ?_);refine xW fun K hK=>?_;simp[A4,DU];apply hK;refine xW fun K hK=>?_;simp;apply hK;refine xW fun K hK=>?_;simp;apply hK;(repeat refine xS ?_);refine BX fun K hK=>?_;refine xJ ?_;simp;refine AS.Ds (c) [6,1,7,4,5,0,3] rfl (by simp[KZ];try rfl) ?_;simp[KZ];(repeat((refine B7 ?_ ?_);(focus(simp;done));simp));refine Aj (hK _ _ ?_);(try simp only[AAo]);refine xW fun K hK=>?_;simp;apply hK;refine Ag ?_;(try simp only[xQ,reduceIte]);refine⟨_,_,_,AJ.B6 3 (xs:=(emit t []).map fun t_1=>AX (P8 (emit t []) t_1)) rfl (by simp),by simp,by simp[AA,B2,Za],AJ.AY 1 (by simp) (by simp) (by simp) (by simp)⟩
open Go.Proofs Tryz
theorem FR(a b:Ah):deq (AX a) (AX b)=decide (a=b):=by
 cases a;cases b;rw[Bool.eq_iff_iff];simp[deq,AAk,AX]
section
variable {β:Type} {ev:β→V}
@[simp] theorem Xr(l:List (Ah×β))(a b c:Int):A4 (BO AX ev l) (.agg [.int .i64 a,.int .i64 b,.int .i64 c])=(look l ⟨a,b,c⟩).map ev:=D1 FR l ⟨a,b,c⟩
@[simp] theorem Ws(l:List (Ah×β))(x:Ah):A4 (BO AX ev l) (AX x)=(look l x).map ev:=D1 FR l x
@[simp] theorem ZG(l:List (Ah×Int))(a b c x:Int):DU (BO AX (fun x=>.d (.int .i64 x)) l) (.agg [.int .i64 a,.int .i64 b,.int .i64 c]) (.d (.int .i64 x))=BO AX (fun x=>.d (.int .i64 x)) (CU l ⟨a,b,c⟩ x):=C9 (ev:=fun x=>V.d (.int .i64 x)) FR l ⟨a,b,c⟩ x
@[simp] theorem Xy(l:List (Ah×Bool))(a b c:Int)(x:Bool):DU (BO AX (fun x=>.d (.bool x)) l) (.agg [.int .i64 a,.int .i64 b,.int .i64 c]) (.d (.bool x))=BO AX (fun x=>.d (.bool x)) (CU l ⟨a,b,c⟩ x):=C9 (ev:=fun x=>V.d (.bool x)) FR l ⟨a,b,c⟩ x
@[simp] theorem W2(l:List (Ah×Bool))(y:Ah)(x:Bool):DU (BO AX (fun x=>.d (.bool x)) l) (AX y) (.d (.bool x))=BO AX (fun x=>.d (.bool x)) (CU l y x):=C9 (ev:=fun x=>V.d (.bool x)) FR l y x
@[simp] theorem TO(l:List (Ah×β)):AAH (.cells [.int .i64,.int .i64,.int .i64]) (BO AX ev l)=True:=eq_true (Dx (by intro a;simp[AAK,AAU,AAP,AX]) l)
@[simp] theorem Wc(y:Ah):AAK (.cells [.int .i64,.int .i64,.int .i64]) (AX y)=true:=by simp[AAK,AAU,AAP,AX]
end
def AN.FQ(d:AN)(n v:Int):Int:=if d.level n=v then(match d.nodes[(n - 2).toNat]? with|some x=>x.low|none=>0)else n
def AN.FO(d:AN)(n v:Int):Int:=if d.level n=v then(match d.nodes[(n - 2).toNat]? with|some x=>x.high|none=>0)else n
theorem Kf(d:AN)(n v:Int)(hn:n<2+d.nodes.length)(hv:v<64):Pure prog 223 [AA d,AG n,AG v] (.Bd [AG (d.FQ n v),AG (d.FO n v)]):=by
 refine Pure.AI func223 (by kernel_rfl) rfl (by simp) fun wf=>?_;simp[AAY,DM,WFD]at wf;rw[ntmps223];refine xW fun K hK=>?_;simp;apply hK;refine xS (Az fun K hK=>?_);refine xJ ?_;simp;refine Bp (Fv d n hn) rfl (by simp[xN]) ?_;simp;refine xJ ?_;simp;refine Aj (hK _ _ ?_);(try simp only[xQ,reduceIte]);refine AU ?_;simp;refine⟨fun h=>?_,fun h=>?_⟩
 ·refine xW fun K hK=>?_;simp;apply hK;refine Ag ⟨_,_,AJ.refl,?_⟩;(try simp);simp[AN.FQ,AN.FO,h]
 ·have h2:¬n<2:=by intro h2;simp[AN.level,h2]at h;omega
  have hw:IntKind.i64.wrap (n - 2)=n - 2:=wrap_i64 (by omega) (by omega);have h3:(n - 2).toNat<d.nodes.length:=by omega
  have h4:n - 2<(d.nodes.length:Int):=by omega
  have h5:2≤n:=by omega
  refine xK ?_;(repeat refine xS ?_);refine xE [0,2,4,6,8,10,12,14,16,18,20,22,24,26,28,30] (by kernel_rfl) fun K hK=>?_;simp;refine xA 0 ?_;simp[hw,h3,h4,h5];refine xM (hK _ _ ?_);(try simp only[xQ,reduceIte]);refine Ag ⟨_,_,AJ.refl,?_⟩;(try simp);simp[AN.FQ,AN.FO,h,h3]
def Mr(f:FuncId)(g:Bool→Bool→Bool):Prop:=∀x y,Pure prog f [.bool x,.bool y] (.bool (g x y))
theorem Fe:Mr 161 and:=fun x y=>by
 refine Pure.AI func161 (by kernel_rfl) rfl (by simp) fun wf=>?_;rw[ntmps161];refine xW fun K hK=>?_;simp;apply hK;refine xW fun K hK=>?_;simp;apply hK;refine Ag ⟨_,_,AJ.refl,?_⟩;try simp
theorem Hu:Mr 164 or:=fun x y=>by
 refine Pure.AI func164 (by kernel_rfl) rfl (by simp) fun wf=>?_;rw[ntmps164];refine xW fun K hK=>?_;simp;apply hK;refine xW fun K hK=>?_;simp;apply hK;refine Ag ⟨_,_,AJ.refl,?_⟩;try simp
theorem On{f:FuncId}{g:Bool→Bool→Bool}(hf:Mr f g)(x y z:Bool):AE prog 197 [.d (.bool x),.d (.bool y),.d (.bool z),.ptr 0 1 0 0] [.row true 1 [.fn (.func f) [] []]] (.d (.bool (g x y))) [.row true 1 [.fn (.func f) [] []]]:=by
 refine AE.AI func197 (by kernel_rfl) rfl (by simp) fun wf wfs=>?_;rw[ntmps197];refine xW fun K hK=>?_;simp;apply hK;(repeat refine xS ?_);refine BX fun K hK=>?_;refine xJ ?_;simp;refine Bp (hf x y) rfl (by simp) ?_;simp;refine xJ ?_;simp;refine Aj (hK _ _ ?_);(try simp only[xQ,reduceIte]);refine Ag ?_;(try simp only[xQ,reduceIte]);refine⟨_,AJ.refl,?_⟩;simp[Am]
theorem Pk(d:AN):Pure prog 195 [AA d] (.Bd [AA (if d.nodes.length>4096 then⟨[],0⟩else d),AG (if d.nodes.length>4096 then 2 else 0)]):=by
 refine Pure.AI func195 (by kernel_rfl) rfl (by simp) fun wf=>?_;rw[ntmps195];refine xW fun K hK=>?_;simp;apply hK;refine xS (xW fun K hK=>?_);simp;apply hK;refine AU ?_;simp;refine⟨fun h=>?_,fun h=>?_⟩
 ·have h:d.nodes.length>4096:=by omega
  refine xW fun K hK=>?_;simp;apply hK;refine Ag ⟨_,_,AJ.refl,?_⟩;(try simp);simp[h,AA]
 ·have h:¬d.nodes.length>4096:=by omega
  refine xK ?_;refine xW fun K hK=>?_;simp;apply hK;refine Ag ⟨_,_,AJ.refl,?_⟩;(try simp);have e:(if 4096<d.nodes.length then(⟨[],0⟩:AN)else d)=d:=if_neg (by omega);rw[e];exact⟨rfl,by omega⟩
def U7(N:List Ah)(kn:List (Ah×Int)):Sg:=
 [.row true 2 [.agg [.row 1 N.length,.map 2]],.row (!N.isEmpty) 3 (N.map fun x=>.d (AX x)),.map (BO AX (fun x=>.d (.int .i64 x)) kn)]
theorem LB:AE prog 221 [] [] (.ptr 2 1 0 0) [.map [],.row false 3 [],.row true 2 [.agg [.row 1 0,.map 0]]]:=by
 refine AE.AI func221 (by kernel_rfl) rfl (by simp) fun wf wfs=>?_;rw[ntmps221];refine xW fun K hK=>?_;simp;apply hK;(repeat refine xS ?_);refine BX fun K hK=>?_;refine xO ?_;simp;refine xO ?_;simp;refine AS.ghost (AJ.Tb 2 0 3 rfl rfl) ?_;simp;refine xJ ?_;simp;refine Aj (hK _ _ ?_);(try simp only[xQ,reduceIte]);refine Ag ?_;(try simp only[xQ,reduceIte]);refine⟨_,AJ.refl,?_⟩;simp[Am]
def brR(N:List Ah)(kn:List (Ah×Int))(v lo hi:Int):List Ah×List (Ah×Int)×Int:=
 if lo=hi then(N,kn,lo)else match look kn ⟨v,lo,hi⟩with
  |some n=>(N,kn,n)
  |none=>(N++[⟨v,lo,hi⟩],CU kn ⟨v,lo,hi⟩ (N.length+2),N.length+2)
theorem RA(N:List Ah)(kn:List (Ah×Int))(v lo hi:Int)(hN:N.length<2 ^ 30):
  AE prog 224 [.ptr 0 1 0 0,.d (AG v),.d (AG lo),.d (AG hi)] (U7 N kn) (.d (AG (brR N kn v lo hi).2.2)) (U7 (brR N kn v lo hi).1 (brR N kn v lo hi).2.1):=by
 refine AE.AI func224 (by kernel_rfl) rfl (by simp) fun wf wfs=>?_;rw[ntmps224];unfold U7;refine xW fun K hK=>?_;simp;apply hK;refine xS (xW fun K hK=>?_);simp;apply hK;refine AU ?_;simp;refine⟨fun h=>?_,fun h=>?_⟩
 ·refine xW fun K hK=>?_;simp;apply hK;refine Ag ?_;(try simp only[xQ,reduceIte]);refine⟨_,AJ.JK (by simp[brR,h]),?_⟩;simp[Am,brR,h]
 ·refine xK ?_;refine xW fun K hK=>?_;simp;apply hK;refine xD [0,2,4,6,8,10,12,14,16,18,20] (by kernel_rfl) fun K hK=>?_;simp;refine xA 0 ?_;simp;refine xM (hK _ _ ?_);refine xS (xW fun K hK=>?_);simp;apply hK;cases hl:look kn ⟨v,lo,hi⟩with
  |some n=>
   refine AU ?_;simp;refine xK ?_;refine xW fun K hK=>?_;simp;apply hK;refine Ag ?_;(try simp only[xQ,reduceIte]);refine⟨_,AJ.AY 3 (by simp[brR,h,hl]) (by simp) (by simp) (by simp),?_⟩;simp[Am,clean,brR,h,hl]
  |none=>
   have hN':N.length≤1073741823:=by omega
   have hw:IntKind.i64.wrap ((N.length:Int)+1+1)=N.length+2:=wrap_i64 (by omega) (by omega);refine AU ?_;simp;refine xD [0,2,4,6,8,10,12,15,16,18,21] (by kernel_rfl) fun K hK=>?_;simp;(repeat(refine Ae.fL ?_ ?_;(·simp);simp));(repeat((refine Ga ?_ ?_);(focus(simp[maxLen];done));simp[maxLen]));((refine eU [true,false,true,false,false,false,false] (by kernel_rfl) ?_ ?_);(focus(simp[hN'];done));simp);refine xA 2 ?_;simp;refine xX 125 (by kernel_rfl) ?_;simp;refine xM (hK _ _ ?_);refine xW fun K hK=>?_;simp[hw];apply hK;refine xE [0,2,4,6,8,10,13] (by kernel_rfl) fun K hK=>?_;simp;refine xA 0 ?_;simp;refine xX 63 (by kernel_rfl) ?_;simp;refine xM (hK _ _ ?_);refine xW fun K hK=>?_;simp;apply hK;refine Ag ?_;(try simp only[xQ,reduceIte]);refine⟨_,AJ.AY 3 (by simp[brR,h,hl,AX]) (by simp) (by simp) (by simp),?_⟩;simp[Am,clean,brR,h,hl]
end Go.Koi
