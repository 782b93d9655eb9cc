/- Part 27 of the proof that the law ChangeValid returns true for every input. -/
import Derived.Test.YtlgjmkfbkhfakaaGreatDoorK25
set_option maxHeartbeats 64000000
set_option maxRecDepth 100000
namespace Go.Koi
open Go.Proofs Tryz DT
mutual
theorem I6{k k':Nat}(h:k≤k'):∀v,AAB k v=true→AAB k' v=true
 |.row r _,hv=>by simp[AAB]at hv⊢;omega
 |.ptr r _ _ _,hv=>by simp[AAB]at hv⊢;omega
 |.map r,hv=>by simp[AAB]at hv⊢;omega
 |.fn _ xs ys,hv=>by
  simp only[AAB,Bool.and_eq_true]at hv⊢;exact⟨EU h xs hv.1,EU h ys hv.2⟩
 |.agg cs,hv=>by simp only[AAB]at hv⊢;exact EU h cs hv
 |.Bd cs,hv=>by simp only[AAB]at hv⊢;exact EU h cs hv
 |.opt _ v,hv=>by simp only[AAB]at hv⊢;exact I6 h v hv
 |.any,_=>rfl
 |.d _,_=>rfl
 |.full _,_=>rfl
 |.Cc _,_=>rfl
theorem EU{k k':Nat}(h:k≤k'):∀vs,AAI k vs=true→AAI k' vs=true
 |[],_=>rfl
 |v::vs,hv=>by
  simp only[AAI,Bool.and_eq_true]at hv⊢;exact⟨I6 h v hv.1,EU h vs hv.2⟩
end
theorem Rz{k k':Nat}(h:k≤k')(o:O)(ho:AAG k o=true):AAG k' o=true:=by
 cases o with
 |row wr sz els=>exact EU h els ho
 |map es=>
  simp only[AAG,List.all_eq_true]at ho⊢;exact fun e he=>I6 h _ (ho e he)
 |BJ xs=>rfl
 |dead=>rfl
theorem Iu{S T:Sg}(hs:S.all (AAG S.length)=true)(ht:T.all (AAG (S.length+T.length))=true):(S++T).all (AAG (S++T).length)=true:=by
 simp only[List.all_eq_true,List.length_append,List.mem_append]at *;exact fun o ho=>ho.elim (fun h=>Rz (Nat.le_add_right _ _) o (hs o h)) (ht o)
def Av:Scope:=⟨false,0,0,0,0⟩
def GO(g:AF)(i:Int):Bool:=
 (decide ((g.AD.getD i.toNat F1).Di≠0)||decide (0<(g.AD.getD i.toNat F1).layout.length)||(g.AD.getD i.toNat F1).bracket||decide ((g.AD.getD i.toNat F1).scope≠Av))||
  (g.levels.any (fun l=>l.AD.contains i)||g.AM.any fun f=>(decide (f.kind=1)||decide (f.kind=2))&&(decide (f.parent=i)||decide (f.child=i)))
theorem Gd{S:Sg}{r:Nat}{g:AF}{x:AAC}(hb:Oj S r g x)(hs:S.all (AAG S.length)=true){i:Int}(hp:0≤i∧i<g.AD.length):AE prog 144 [.ptr r 1 0 0,.d (AG i)] S (.d (.bool (GO g i))) S:=by
 obtain⟨h0,h1,h2,h3,h4,h5,h6,h7,h8,m,lg,hB⟩:=hb;unfold bV at hB;have hr:=AZ hB;have iC:∀X,(S++[X])[r]?=_:=fun X=>(List.getElem?_append_left hr).trans hB;have iG:∀X Y,(S++[X,Y])[r]?=_:=fun X Y=>(List.getElem?_append_left hr).trans hB;obtain⟨j,rfl⟩:∃j:Nat,i=j:=⟨i.toNat,by omega⟩;have ij:j<g.AD.length:=by omega
 unfold GO;have ho:g.AD.getD (j:Int).toNat F1=g.AD[j]:=by simp[ij]
 rw[ho];generalize jF:g.AD[j]=p;have cy:=AH.eq_1 p;refine AE.B9 func144 (by kernel_rfl) rfl (by simp) fun wf _=>?_;rw[ntmps144];refine xW fun K hK=>?_;simp;apply hK;(repeat refine xS ?_);refine xE [0,2,4,6,8,10,12,14,17,19] (by kernel_rfl) fun K hK=>?_;simp;refine xA 1 ?_;simp[iC,ij,jF,cy];refine xX 0 (by kernel_rfl) ?_;simp[iC,iG,ij,jF,cy,AR];refine xA 1 ?_;simp;refine xX 255 (by kernel_rfl) ?_;simp[iG,ij,jF,cy,AR];refine xM (hK _ _ ?_);(try simp only[xQ,reduceIte]);have oG:AAT [D.bool p.scope.opens,D.int IntKind.i64 p.scope.declares,D.int IntKind.i64 p.scope.kind,D.int IntKind.i64 p.scope.EA,D.int IntKind.i64 p.scope.allowed] [D.bool false,D.int IntKind.i64 0,D.int IntKind.i64 0,D.int IntKind.i64 0,D.int IntKind.i64 0]=decide (p.scope=Av):=LI p.scope Av;refine xS (Az fun K hK=>?_);refine xJ ?_;simp[oG];refine Aj (hK _ _ ?_);(try simp only[xQ,reduceIte]);have ln:∀X,(S++[O.row true 1 [.d (AG j)],O.row true 13 [.d X]]).all (AAG (S++[O.row true 1 [.d (AG j)],O.row true 13 [.d X]]).length)=true:=fun X=>Iu hs (by simp[AAG,AAI,AAB]);have cl:=fun X=>Ht g.levels (fun l=>l.AD.contains (j:Int)) 173 [.ptr S.length 1 0 0] (S++[O.row true 1 [.d (AG j)],O.row true 13 [.d X]]) (fun l _=>SL (q:=S.length) (by simp) (ln X) l);have cf:=fun X=>Ev g.AM (fun f=>(decide (f.kind=1)||decide (f.kind=2))&&(decide (f.parent=(j:Int))||decide (f.child=(j:Int)))) 176 [.ptr S.length 1 0 0] (S++[O.row true 1 [.d (AG j)],O.row true 13 [.d X]]) (fun l _=>R1 (q:=S.length) (by simp) (ln X) l);(repeat refine xS ?_);refine AW.BD (t:=decide (p.Di≠0)||decide (0<p.layout.length)||p.bracket||decide (p.scope≠Av)) ?_ (fun hb=>?_) (fun hb=>?_)
 ·simp;rw[Bool.eq_iff_iff];simp[or_assoc]
 ·rw[hb,Bool.true_or];refine xW fun K hK=>?_;simp;apply hK;refine Ag ?_;(try simp only[xQ,reduceIte]);refine⟨_,_,_,AJ.refl,?_,?_,AJ.AY S.length (by simp) (Nat.le_refl _) (by simp) (by simpa using hs)⟩
  ·simp
  ·simp
 ·rw[hb,Bool.false_or];refine xK ?_;(repeat refine xS ?_);refine BX fun K hK=>?_;refine xJ ?_;simp[iG];refine AS.call rfl rfl (by simp) (f:=172) (args:=[.d (.sl (g.levels.map Ac)),.fn (.func 173) [] [.ptr S.length 1 0 0]]) (by simp[callee];try rfl) (by simp) (cl _) ?_;simp;refine xJ ?_;simp[iG];refine AS.Gb (g:=!(g.levels.any fun l=>l.AD.contains (j:Int))) (f:=175) (args:=[.d (.sl (g.AM.map AK)),.fn (.func 176) [] [.ptr S.length 1 0 0]]) (fun _=>cf _) rfl rfl (by simp) (by simp) (fun e=>by simp at e;simp[callee];exact e) ?_;simp;refine xJ ?_;simp;refine Aj (hK _ _ ?_);(try simp only[xQ,reduceIte]);refine Ag ?_;(try simp only[xQ,reduceIte]);refine⟨_,_,_,AJ.refl,?_,?_,AJ.AY S.length (by simp) (Nat.le_refl _) (by simp) (by simpa using hs)⟩
  ·simp
  ·simp
open Go.Proofs Tryz DT
theorem AJ.EL{P:Program}{n b:Nat}{tm:Tm}{S S':Sg}(k:Nat)(hS:S.take k=S')(hb:b≤k)(hk:k≤S.length)(ho:S'.all (AAG k)=true):AJ P n b tm S (clean k tm) S':=
 AJ.AY k hS hb hk (hS▸ho)
def Et(g:AF)(n:Int)(i:Nat):List Int:=((List.range i).filter fun j=>decide ((g.AD.getD j F1).left=n)).map fun(j:Nat)=>(j:Int)
def aW(g:AF)(n:Int):List Int:=Et g n g.AD.length
theorem ADV(g:AF)(n:Int)(i:Nat):Et g n (i+1)=if(g.AD.getD i F1).left=n then Et g n i++[(i:Int)]else Et g n i:=by
 unfold Et;rw[List.range_succ,List.filter_append,List.map_append];split<;>rename_i h<;>simp only[List.filter_cons,List.filter_nil,h,decide_true,decide_false,if_true]<;>simp
theorem Jy(g:AF)(n:Int)(i:Nat):(Et g n i).length≤i:=by
 unfold Et;rw[List.length_map];exact Nat.le_trans (List.length_filter_le _ _) (by simp)
theorem Io{g:AF}{n:Int}{i:Nat}{v:Int}(h:v∈Et g n i):0≤v∧v<i:=by
 unfold Et at h;simp only[List.mem_map,List.mem_filter,List.mem_range]at h;obtain⟨j,⟨h1,_⟩,rfl⟩:=h;omega
theorem UU{S:Sg}{r:Nat}{g:AF}{x:AAC}(hb:Oj S r g x)(hs:S.all (AAG S.length)=true)(hl:g.AD.length≤2 ^ 20)(n:Int):AE prog 143 [.ptr r 1 0 0,.d (AG n)] S (.d (Ci (aW g n))) S:=by
 obtain⟨h0,h1,h2,h3,h4,h5,h6,h7,h8,m,lg,hB⟩:=hb;unfold bV at hB;have hr:=AZ hB;have hB':∀X,(S++[X])[r]?=_:=fun X=>(List.getElem?_append_left hr).trans hB;have a1:g.AD.length≤maxLen:=by unfold maxLen;omega
 refine AE.B9 func143 (by kernel_rfl) rfl (by simp) fun wf _=>?_;rw[ntmps143];have ln:∀i,(S++[O.row (!(Et g n i).isEmpty) 1 ((Et g n i).map fun v=>V.d (AG v))]).all (AAG (S.length+1))=true:=fun i=>by simpa using Iu (T:=[O.row (!(Et g n i).isEmpty) 1 ((Et g n i).map fun v=>V.d (AG v))]) hs (by simp[AAG])
 refine xW fun K hK=>?_;simp;apply hK;refine xW fun K hK=>?_;simp;apply hK;refine xS (xW fun K hK=>?_);simp[hB];apply hK;refine AW.ghost (AJ.BB 5 1 (xs:=[]) (by simp)) ?_;refine Bw ?_;refine DC g.AD.length (fun i tm S'=>tm 1=.d (AG n)∧tm 12=.d (Bb g.AD)∧tm 14=.d (AG i)∧tm 13=.d (AG g.AD.length)∧tm 5=.row S.length (Et g n i).length∧S'=S++[.row (!(Et g n i).isEmpty) 1 ((Et g n i).map fun v=>.d (AG v))]) (Nat.zero_le _) ⟨by simp,by simp,by simp,by simp,by simp[EJ,Et],by simp[Et]⟩ ?_;rintro i tm S' hi ⟨t1,t12,t14,t13,t5,rfl⟩;refine xW fun K hK=>?_;simp[t13,t14];apply hK;refine xC ?_;simp;refine⟨fun cx=>?_,fun hO=>?_⟩
 ·have jn:g.AD.getD i F1=g.AD[i]:=by simp[cx]
  have gn:=ADV g n i;have yl:=Jy g n i;rw[jn]at gn;generalize jF:g.AD[i]=p at *;have cy:=AH.eq_1 p;refine xK ?_;refine xB ?_;refine Az fun K hK=>?_;refine xJ ?_;simp[t12,t14,cx,jF,cy];refine Aj (hK _ _ ?_);refine Az fun K hK=>?_;refine xJ ?_;simp[t1];refine Aj (hK _ _ ?_);refine AU ?_;simp;refine⟨fun hc=>?_,fun hc=>?_⟩
  ·rw[if_pos hc]at gn;have jc:(Et g n i).length+1≤1073741824:=by omega
   have gm:1≤maxLen:=by unfold maxLen;omega
   refine BX fun K hK=>?_;refine xJ ?_;simp[t5,gm,jc,Af];refine Aj (hK _ _ ?_);refine xV fun K hK=>?_;simp[t14];apply hK;refine⟨cx,_,_,AJ.EL (S.length+1) (S':=S++[.row (!(Et g n (i+1)).isEmpty) 1 ((Et g n (i+1)).map fun v=>.d (AG v))]) ?_ (by simp) (by simp) ?_,?_⟩
   ·simp[gn,List.take_length_add_append]
   ·exact ln _
   simp[clean,AAB,t1,t12,t13,AQ cx a1,gn]
  ·rw[if_neg hc]at gn;refine CC ?_;refine xV fun K hK=>?_;simp[t14];apply hK;refine⟨cx,_,_,AJ.EL (S.length+1) (S':=S++[.row (!(Et g n (i+1)).isEmpty) 1 ((Et g n (i+1)).map fun v=>.d (AG v))]) ?_ (by simp) (by simp) ?_,?_⟩
   ·simp[gn,List.take_length_add_append]
   ·exact ln _
   simp[clean,AAB,t1,t12,t13,t5,AQ cx a1,gn]
 ·have e:i=g.AD.length:=by omega
  subst e;refine Cu ?_;refine xW fun K hK=>?_;simp[t5];apply hK;refine Ag ?_;(try simp only[xQ,reduceIte]);refine⟨_,_,_,AJ.B6 S.length (xs:=(Et g n g.AD.length).map AG) List.getElem?_concat_length (by simp),?_,?_,AJ.AY S.length (by simp) (Nat.le_refl _) (by simp) (by simpa using hs)⟩
  ·simp
  ·simp[aW]
open Go.Proofs Tryz DT
section
variable {P:Program} {n b:Nat} {ops:Array Oper} {o:Oper} {tm:Tm} {S:Sg} {K:Tm→Sg→Prop} {v:V}
def NF(P:Program)(f:FuncId)(args:List V)(v:V)(S:Sg):Prop:=AE P f args S v S
theorem Ae.Zq{B:List (Nat×(Sg→Prop))}{i:Nat}{rest:List (Nat×Bool×Oper)}{c:Call}{f:FuncId}{args:List V}(h:AE P f args S v S)(ho:o.op=.call c)
  (hp:o.guard=none∧A6 n o.dst∧A5 tm c∧callee tm c=some (f,args)) (h2:Ae P n b ops ((i,NF P f args v)::B) rest (put tm o.dst v) S K):Ae P n b ops B ((i,true,o)::rest) tm S K:=by
 obtain⟨h3,h4,h5,h6⟩:=hp;exact Ae.quiet (NF P f args v) h (fun hi S' hS=>A7.call hi ho h3 h4 h6 h5 hS) h2
end
theorem Kz(xs:List Int)(p:Int→Bool)(k:FuncId)(u:V)(S0:Sg)(hf:∀x∈xs,AE prog k [u,.d (D.int .i64 x)] S0 (.d (.bool (p x))) S0):
  AE prog 178 [.d (.sl (xs.map (D.int .i64))),.fn (.func k) [u] []] S0 (.d (AG (firstIdx p xs))) S0:=by
 refine AE.AI func178 (by kernel_rfl) rfl (by simp) fun wf _=>?_;have a1:xs.length≤maxLen:=by have:=wf.1;simp only[WFV,WFD]at this;simpa using this.1
 rw[ntmps178];refine xW fun K hK=>?_;simp;apply hK;refine xS (xW fun K hK=>?_);simp;apply hK;refine Bw ?_;refine DC xs.length (fun i tm S=>tm 0=.d (.sl (xs.map (D.int .i64)))∧tm 1=.fn (.func k) [u] []∧tm 8=.d (.int .i64 i)∧tm 7=.d (.int .i64 xs.length)∧S=S0∧∀j (_:j<i) (h:j<xs.length),p xs[j]=false) (Nat.zero_le _) (by simp) ?_;rintro i tm S hi ⟨t0,t1,t8,t7,rfl,hq⟩;refine xW fun K hK=>?_;simp[t8,t7];apply hK;refine xC ?_;simp;refine⟨fun cx=>?_,fun hO=>?_⟩
 ·refine xK ?_;refine xB ?_;refine xW fun K hK=>?_;simp[t8];apply hK;refine Az fun K hK=>?_;refine xJ ?_;simp[t0,t1,cx];refine AS.call (v:=.d (.bool (p xs[i]))) rfl rfl (by simp) (f:=k) (args:=[u,.d (D.int .i64 xs[i])]) (by simp;try rfl) (by simp) (hf _ (List.getElem_mem cx)) ?_;simp;refine Aj (hK _ _ ?_);refine AU ?_;simp;refine⟨fun hp=>?_,fun hp=>?_⟩
  ·refine xW fun K hK=>?_;simp;apply hK;refine Ag ?_;(try simp only[xQ,reduceIte]);refine⟨_,AJ.refl,?_⟩;simp[Am];exact .inl (B8 cx hp fun j hj=>hq j hj (by omega)).symm
  ·refine CC ?_;refine xV fun K hK=>?_;simp[t8];apply hK;refine⟨cx,_,_,AJ.refl,?_⟩;simp[t0,t1,t7,AQ cx a1];intro j hj iV;by_cases e:j=i
   ·subst e;exact hp
   ·exact hq j (by omega) iV
 ·refine Cu ?_;refine xW fun K hK=>?_;simp;apply hK;refine Ag ?_;(try simp only[xQ,reduceIte]);refine⟨_,AJ.refl,?_⟩;simp[Am];exact .inl (firstIdx_none fun j hj=>hq j (by omega) hj).symm
theorem IS(xs:List Int)(p:Int→Bool)(k:FuncId)(u:V)(S0:Sg)(hf:∀x∈xs,AE prog k [u,.d (D.int .i64 x)] S0 (.d (.bool (p x))) S0):
  AE prog 146 [.d (.sl (xs.map (D.int .i64))),.fn (.func k) [u] []] S0 (.d (.bool (xs.any p))) S0:=by
 refine AE.AI func146 (by kernel_rfl) rfl (by simp) fun wf _=>?_;rw[ntmps146];refine xW fun K hK=>?_;simp;apply hK;(repeat refine xS ?_);refine BX fun K hK=>?_;refine xJ ?_;simp;refine AS.call rfl rfl (by simp) (f:=178) (args:=[.d (.sl (xs.map (D.int .i64))),.fn (.func k) [u] []]) (by simp[callee]) (by simp) (Kz xs p k u S0 hf) ?_;simp;refine xJ ?_;simp;refine Aj (hK _ _ ?_);(try simp only[xQ,reduceIte]);refine Ag ?_;(try simp only[xQ,reduceIte]);refine⟨_,AJ.refl,?_⟩;simp[Am];have:=CR p xs;simp at this;simp[this]
def Ip(g:AF)(x:AAC):Symbol:=(CL g x).right.getD x.at_.toNat ⟨false,0⟩
def Mh(g:AF)(x:AAC):Bool:=
 (aW g (Ip g x).index).any (GO g)||g.AM.any fun f=>(decide (f.kind=3)||decide (f.kind=4))&&decide (f.left=(Ip g x).index)
theorem Hl{g:AF}{x:AAC}(h:CH g x=true):Ck g x=true∧∃j:Nat,x.at_=j∧∃hj:j<(CL g x).right.length,Ip g x=(CL g x).right[j]∧(Ip g x).token=false:=by
 simp only[CH,Bool.and_eq_true,decide_eq_true_eq]at h;obtain⟨⟨h1,h2⟩,h3⟩:=h;obtain⟨j,hj⟩:∃j:Nat,x.at_=j:=⟨x.at_.toNat,by omega⟩;refine⟨h1,j,hj,?_⟩;rw[hj]at h3;simp only[Int.toNat_natCast]at h3;split at h3
 ·rename_i s hs;obtain⟨h5,h6⟩:=List.getElem?_eq_some_iff.1 hs;refine⟨h5,?_,?_⟩
  ·simp[Ip,hj,h5]
  ·simp[Ip,hj,h5,h6];simpa using h3
 ·cases h3
theorem La{S:Sg}{r:Nat}{g:AF}{x:AAC}(hb:Oj S r g x)(hs:S.all (AAG S.length)=true)(hl:g.AD.length≤2 ^ 20)(hc:CH g x=true):AE prog 145 [.ptr r 1 0 0] S (.d (.bool (Mh g x))) S:=by
 obtain⟨hp,j,hj,ij,kK,g9⟩:=Hl hc;have hold:=Hv hb hs hp;have jW:=hb;obtain⟨h0,h1,h2,h3,h4,h5,h6,h7,h8,m,lg,hB⟩:=hb;have hr:=AZ hB;have iG:∀X,Oj (S++[X]) r g x:=fun X=>⟨h0,h1,h2,h3,h4,h5,h6,h7,h8,m,lg,(List.getElem?_append_left hr).trans hB⟩;unfold bV at hB;have hB':∀X,(S++[X])[r]?=_:=fun X=>(List.getElem?_append_left hr).trans hB;have ln:∀X,(S++[O.row true 1 [.d X]]).all (AAG (S++[O.row true 1 [.d X]]).length)=true:=fun X=>Iu hs (by simp[AAG,AAI,AAB]);have nR:∀X,AE prog 82 [.ptr r 1 0 0] (S++[O.row true 1 [.d X]]) (.d (AH (CL g x))) (S++[O.row true 1 [.d X]]):=fun X=>Hv (iG _) (ln X) hp;unfold Mh;generalize Ip g x=s at *;generalize CL g x=o at *;have cy:=AH.eq_1 o;have mQ:=UU (iG (O.row true 1 [.d (AG s.index)])) (ln _) hl s.index;have ci:=IS (aW g s.index) (GO g) 144 (.ptr r 1 0 0) (S++[O.row true 1 [.d (AG s.index)]]) (fun v hv=>Gd (iG _) (ln _) (Io hv));have cf:=Ev g.AM (fun f=>(decide (f.kind=3)||decide (f.kind=4))&&decide (f.left=s.index)) 177 [.ptr S.length 1 0 0] (S++[O.row true 1 [.d (AG s.index)]]) (fun l _=>J3 (q:=S.length) (by simp) (ln _) l);have iB:=AL.eq_1 s;simp only[cy,As,AV,Bf,AG,CS,Ba]at nR;refine AE.B9 func145 (by kernel_rfl) rfl (by simp) fun wf _=>?_;rw[ntmps145];refine xW fun K hK=>?_;simp;apply hK;refine xD [0,2,4,6,8,10,12,14,16,18,20,23,25] (by kernel_rfl) fun K hK=>?_;simp;refine xA 1 ?_;simp;refine Ae.Zq (f:=82) (args:=[.ptr r 1 0 0]) hold rfl (by simp;try rfl) ?_;simp;refine xA 1 ?_;simp[hB,hj,ij,kK.symm,cy,iB];refine xX 0 (by kernel_rfl) ?_;simp[hB',hj,ij,kK.symm,iB,AR,NF,nR];refine xA 1 ?_;simp;refine xX 2047 (by kernel_rfl) ?_;simp[hB',hj,ij,kK.symm,iB,AR,NF,nR];refine xM (hK _ _ ?_);(repeat refine xS ?_);refine BX fun K hK=>?_;refine xJ ?_;simp;refine AS.call rfl rfl (by simp) (f:=143) (args:=[.ptr r 1 0 0,.d (AG s.index)]) (by simp[callee];try rfl) (by simp) mQ ?_;simp;refine xJ ?_;simp;refine AS.call rfl rfl (by simp) (f:=146) (args:=[.d (.sl ((aW g s.index).map (D.int .i64))),.fn (.func 144) [.ptr r 1 0 0] []]) (by simp[callee];try rfl) (by simp) ci ?_;simp;refine xJ ?_;simp[hB'];refine AS.Gb (g:=!((aW g s.index).any (GO g))) (f:=175) (args:=[.d (.sl (g.AM.map AK)),.fn (.func 177) [] [.ptr S.length 1 0 0]]) (fun _=>cf) rfl rfl (by simp) (by simp) (fun e=>by simp at e;simp[callee];exact e) ?_;simp;refine xJ ?_;simp;refine Aj (hK _ _ ?_);(try simp only[xQ,reduceIte]);refine Ag ?_;(try simp only[xQ,reduceIte]);refine⟨_,_,_,AJ.refl,?_,?_,AJ.AY S.length (by simp) (Nat.le_refl _) (by simp) (by simpa using hs)⟩
 ·simp
 ·simp
open Go.Proofs DT
section
variable {P:Program} {n:Nat} {o:Oper} {tm:Tm} {S S':Sg} {v:V}
theorem Np{w:World}{sT xT E ty:TypeId}{e:TI}{z:Value}{base:Option Addr}{m:Nat}(h0:0<m)(hm:m≤2 ^ 30)
  (hs:AAH P sT=some E) (he:ti P E=some e) (hz:e.zero=some z) (_:z.cells.size=e.size) (hx:P.underlying xT=some (.int .i64)) (jJ:e.bytes≤65536):
  ∃nc w0,m≤nc∧nc≤maxLen∧w0.heap=w.heap∧w0.os=w.os∧w0.output=w.output∧(Builtin.append_ #[sT,xT] ty #[.slice base 0 0,.int .i64 m]).run P w=
    .ok (.slice (some ⟨w.heap.size,0,none⟩) m nc) (BS w0 (.cells (#[]++(if m * e.size=0 then #[]else Builtin.zeroCells z.cells m)++Builtin.zeroCells z.cells (nc - m)) E (0,0))):=by
 obtain⟨t,t1,t2⟩:=BA hs;obtain⟨d,hd,gv⟩:=Ai t1 w;have hdE:d=.slice E:=by rw[t2]at gv;cases d<;>simp[tk]at gv⊢;exact gv
 subst hdE;have tj:∀w,(underlying xT).run P w=.ok (.int .i64) w:=fun w=>by simp[underlying,hx]
 have gp:=BQ he;obtain⟨inf,i1,i2,i3,i4⟩:=Cv he w;obtain⟨inf',i1',i2',i3',i4'⟩:=Cv he {w with drawn:=w.drawn+1};have mF:IntKind.i64.wrap (m:Int)=m:=by rw[IntKind.wrap_i64];omega
 have kz:(Question.appendCap (0+m) 0 E).forced=false:=rfl;refine⟨(Question.appendCap (0+m) 0 E).cut (w.tape w.drawn (.appendCap (0+m) 0 E)),{w with drawn:=w.drawn+1},?_,?_,rfl,rfl,rfl,?_⟩
 ·simp[Question.cut]
 ·simp only[Question.cut,maxLen];have:w.tape w.drawn (Question.appendCap (0+m) 0 E) % (2 ^ 63 - (0+m))<2 ^ 63 - (0+m):=Nat.mod_lt _ (by omega);omega
 ·have jW:¬((m:Int) * inf.bytes>2 ^ 48):=by
   have:(inf.bytes:Int) * m≤281474976710656:=by
    have h:inf.bytes * m≤65536 * 2 ^ 30:=Nat.mul_le_mul (by omega) hm;have:((inf.bytes * m:Nat):Int)≤281474976710656:=by omega
    rwa [Int.natCast_mul]at this
   rw[Int.mul_comm];omega
  have iG:¬(Builtin.nextslicecap (0+m) 0 * inf.bytes>2 ^ 48):=by
   have h3:=K2 (need:=0+m) (cap:=0) (by omega);have h4:Builtin.nextslicecap (0+m) 0 * inf.bytes≤(2 * (0+m)+768) * 65536:=Nat.mul_le_mul h3 (by omega);omega
  have nO:¬(((0+m:Nat):Int)>IntKind.i64.max∧(True∨inf.bytes=0)):=by
   have:IntKind.i64.max=9223372036854775807:=by decide
   omega
  have iL:¬((m:Int)<0):=by omega
  have iw:¬(0+m≤0):=by omega
  unfold Builtin.append_;simp only[List.getElem?_toArray,List.getElem?_cons_zero,List.getElem?_cons_succ,Sem.run_bind,hd,Result.andThen_ok,gp,tj,Sem.run_pure,asInt,asIntOf,mF,Sem.run_ite,if_neg iL,i1,if_neg jW,if_neg iw,if_pos,if_neg iG,Int.toNat_natCast];have hf:∀w:World,(Builtin.firstCells e.size 0 (.slice base 0 0)).run P w=.ok #[] w:=fun w=>by
   cases base<;>simp[Builtin.firstCells,loadCells,loadCellsFrom]
  simp only[if_neg nO,run_choose,kz,Bool.false_eq_true,if_false,Result.andThen_ok,i1',run_askRoom,hf,Bool.not_true,DF he _ hz];split
  ·simp[newRow,BS];rfl
  ·simp[newRow,BS];rfl
theorem PE{c:Call}{sT xT E:TypeId}{x y:Operand}{e:TI}{z:Value}{m:Nat}(ho:o.op=.call c)(hc:c.callee=.builtin .append)(gi:c.args=#[x,y])(hT:c.argTypes=#[sT,xT])
  (hx:need (ev tm x)) (hy:need (ev tm y)) (hs:AAH P sT=some E) (hxT:P.underlying xT=some (.int .i64)) (he:ti P E=some e) (hz:e.zero=some z) (lu:z.cells.size=e.size) (qE:(Ar (cst z)||AAW (cst z))=true) (jJ:e.bytes≤65536)
  (ex:strip (ev tm x)=.full []) (ey:strip (ev tm y)=.d (.int .i64 m)) (h0:0<m) (hm:m≤2 ^ 30):
  Bv P n o tm S (.row S.length m) (S++[.row true e.size (List.replicate m (cst z))]):=.val fun G w a st=>by
 have h1:=(BH st x).strip hx;have h2:=Bg st hy ey;rw[ex]at h1;generalize vk:a.eval x=B at h1;cases h1 with
 |full _ base jo=>
  obtain⟨nc,w0,tq,ra,e1,e2,e3,gl⟩:=Np (P:=P) (w:=w) (ty:=o.type) (base:=base) h0 hm hs he hz lu hxT jJ;have iA:(execOp a.eval o).run P w=((Builtin.append_ #[sT,xT] o.type #[a.eval x,a.eval y]).run P w).andThen fun v w'=>.ok (.value v) w':=by
   simp[execOp,ho,resolve,hc,gi,hT,invoke,builtin]
  rw[vk,h2]at iA;obtain⟨q1,q2,q3⟩:=st.rel.drawn e1 e2 e3;obtain⟨r1,r2,r3⟩:=q1.add nc (.row true e.size (List.replicate m (cst z))) (.cells (#[]++(if m * e.size=0 then #[]else Builtin.zeroCells z.cells m)++Builtin.zeroCells z.cells (nc - m)) E (0,0)) (fun L=>by
   have hv:(G.at S.length w0.heap.size nc none).BB S.length=none:=by simp[Gh.at]
   have mW:(G.at S.length w0.heap.size nc none).BZ S.length=w0.heap.size:=by simp[Gh.at]
   have kB:(G.at S.length w0.heap.size nc none).cap S.length=(nc,0):=by simp[Gh.at]
   simp only[OK,hv,mW,kB];refine⟨_,E,C0,?_,by simpa using tq,by simp[maxLen];omega,fun i hi=>?_⟩
   ·refine Nat.le_of_eq (Eq.symm ?_);have:(if m * e.size=0 then(#[]:Array Value)else Builtin.zeroCells z.cells m).size=m * e.size:=by
     split<;>simp[Da, *]
    simp only[Array.size_append,Da,lu,Nat.zero_add,this,List.size_toArray,List.length_nil];rw[←Nat.add_mul];congr 1;omega
   ·have hi:i<m:=by simpa using hi
    have iO:=Fo (G.at S.length w0.heap.size nc none) (S++[.row true e.size (List.replicate m (cst z))]) (BS w0 (.cells (#[]++(if m * e.size=0 then #[]else Builtin.zeroCells z.cells m)++Builtin.zeroCells z.cells (nc - m)) E (0,0))) z;obtain⟨c1,c2,_⟩:=iO.cells (by simpa using qE);refine⟨z,by simpa using iO,lu,fun x hx=>?_,fun j hj=>?_⟩
    ·obtain⟨k,hk,rfl⟩:=Array.mem_iff_getElem.1 hx;exact c2 k hk
    ·have cx:=D0 hi hj;have pD:(i * e.size+j) % z.cells.size=j:=by rw[lu,Nat.mul_comm,Nat.mul_add_mod];exact Nat.mod_eq_of_lt hj
     have jL:j<z.cells.size:=by omega
     have dI:m * e.size≠0:=by omega
     have jk:i * e.size+j<m * z.cells.size:=by rw[lu];exact cx
     rw[if_neg dI,Nat.zero_add,Array.empty_append,Array.getElem?_append_left (by rw[Da];exact jk)];simp[Builtin.zeroCells,jk,pD,jL])
  rw[e1]at r1 r2 r3;refine⟨_,_,_,by rw[iA];simp only[List.length_nil];rw[gl];rfl,?_,r1,q2.trans r2,q3.trans r3⟩;refine .row _ _ _ rfl (by simp) fun m' iS=>?_;have:m'=m:=by simpa[lenOf]using iS.symm
  subst this;exact⟨Nat.le_refl _,fun _=>by simp[Gh.AAP,Gh.at]⟩
theorem AS.Xt{ops:Array Oper}{b:Nat}{K:Tm→Sg→Prop}{rest:List Oper}{c:Call}{sT xT E:TypeId}{x y:Operand}{bt:Nat}(m:Nat)(z:V)(sz:Nat)(ho:o.op=.call c)(hc:c.callee=.builtin .append)(gi:c.args=#[x,y])(hT:c.argTypes=#[sT,xT])
  (hp:o.guard=none∧A6 n o.dst∧need (ev tm x)∧need (ev tm y)∧strip (ev tm x)=.full []∧strip (ev tm y)=.d (.int .i64 m)) (hxT:P.underlying xT=some (.int .i64))
  (hE:AAH P sT=some E) (hz:Au P E=some z) (hs:Aq P E=some sz) (hB:Ao P E=some bt) (hB':bt≤65536) (w9:(AAF z).length=sz∧(Ar z||AAW z)=true) (h0:0<m) (hm:m≤2 ^ 30)
  (h2:AS P n b ops rest (put tm o.dst (.row S.length m)) (S++[.row true sz (List.replicate m z)]) K):AS P n b ops (o::rest) tm S K:=by
 obtain⟨h3,h4,h5,h6,h7,h8⟩:=hp;obtain⟨t,e1,e2⟩:=BA hE;obtain⟨e,f1,f2,_⟩:=Bn hs;obtain⟨t',u,k1,k2,k3⟩:=Dc hz;rw[f1]at k1;cases k1;obtain⟨t',l1,l2⟩:=Gx hB;rw[f1]at l1;cases l1;subst k3;obtain⟨g1,g2⟩:=w9;obtain⟨c1,_⟩:=(Fo {I:=fun _=>False,BZ:=fun _=>0,cap:=fun _=>(0,0),BB:=fun _=>none} ([]:Sg) (default:World) u).cells (by simpa using g2);subst f2;exact AS.Rm ⟨h3,h4⟩ (PE ho hc gi hT h5 h6 hE hxT f1 k2 (by omega) g2 (by omega) h7 h8 h0 hm) h2
theorem RM{T E:TypeId}{x y:Operand}{e:TI}{t:TI}{k:IntKind}(ho:o.op=.slice T x none (some y) none)(hx:need (ev tm x))
  (ex:strip (ev tm x)=.full []) (hT:ti P T=some t) (hk:t.kind=.slice E) (he:ti P E=some e) (hy:need (ev tm y)) (ey:strip (ev tm y)=.d (.int k 0)):
  Bv P n o tm S (.full []) S:=.pure fun G w a st=>by
 have hv:=(BH st x).strip hx;obtain⟨d,hd,gv⟩:=Ai hT w;have hdE:d=.slice E:=by rw[hk]at gv;cases d<;>simp[tk]at gv⊢;exact gv
 subst hdE;rw[ex]at hv;generalize hB:a.eval x=B at hv;cases hv with
 |full _ b hc=>
  have hr:=Bg st hy ey;have hb:(Instr.sliceBounds true 0 0 none (some (a.eval y)) none).run P w=.ok (0,0,0) w:=by
   unfold Instr.sliceBounds;simp[hr,By (Int.le_refl 0) (show(0:Int)≤((0:Nat):Int)from Int.le_refl 0)]
  refine⟨.slice b 0 0,?_,?_⟩
  ·simp[execOp,ho,Instr.sliceAt,hB,hd,Instr.slice,hb,BQ he]
  ·exact .full [] b (.nil b 0)
theorem AS.aG{ops:Array Oper}{b:Nat}{K:Tm→Sg→Prop}{rest:List Oper}{T E:TypeId}{x y:Operand}{sz:Nat}(ho:o.op=.slice T x none (some y) none)
  (hp:o.guard=none∧A6 n o.dst∧need (ev tm x)∧strip (ev tm x)=.full []∧need (ev tm y)∧∃k,strip (ev tm y)=.d (.int k 0)) (hE:AAH P T=some E) (hs:Aq P E=some sz)
  (h2:AS P n b ops rest (put tm o.dst (.full [])) S K):AS P n b ops (o::rest) tm S K:=by
 obtain⟨h3,h4,h5,h6,h7,k,h8⟩:=hp;obtain⟨t,e1,e2⟩:=BA hE;obtain⟨e,f1,f2,_⟩:=Bn hs;exact AS.Rm ⟨h3,h4⟩ (RM ho h5 h6 e1 e2 f1 h7 h8) h2
end
open Go.Proofs Tryz DT
theorem YX(n:Nat)(hn:n≤2 ^ 30):AE prog 179 [.full [],.d (AG n)] [] (.row 0 0) [.row (decide (0<n)) 2 []]:=by
 refine AE.AI func179 (by kernel_rfl) rfl (by simp) fun wf _=>?_;rw[ntmps179];refine xW fun K hK=>?_;simp;apply hK;refine xS (xW fun K hK=>?_);simp;apply hK;refine AU ?_;simp;refine⟨fun h=>absurd h (by omega),?_⟩;refine CC ?_;have hw:IntKind.i64.wrap (n:Int)=n:=by rw[IntKind.wrap_i64];omega
 have ur:IntKind.i64.wrap 0=0:=by decide
 refine xS (xW fun K hK=>?_);simp[hw,ur];apply hK;refine xW fun K hK=>?_;simp;apply hK;refine AU ?_;simp;refine⟨fun h=>?_,fun h=>?_⟩
 ·have h0:0<n:=by omega
  have xa:prog.underlying 3=some (.int .i64):=by kernel_rfl
  refine BX fun K hK=>?_;(iterate 3 (refine B7 (by simp) ?_;simp));refine AS.aG (E:=70) (sz:=2) rfl (by simp) (by simp) (by simp) ?_;simp;(iterate 1 (refine B7 (by simp) ?_;simp));refine AS.Xt (E:=70) (bt:=16) n (.agg [.d (.bool false),.d (.int .i64 0)]) 2 rfl rfl rfl rfl (by simp) xa (by simp) (by simp) (by simp) (by simp) (by simp) (by simp) h0 hn ?_;simp;(iterate 2 (refine B7 (by simp) ?_;simp));(refine AS.OL 0 n 2 (List.replicate n (.agg [.d (.bool false),.d (.int .i64 0)])) 0 0 rfl ?_ ?_)
  ·simp[srQ]
  ·simp;refine xJ ?_;simp;refine Aj (hK _ _ ?_);refine xW fun K hK=>?_;simp;apply hK;refine Ag ?_;(try simp only[xQ,reduceIte]);refine⟨_,AJ.Cy [1] (S0:=[.row (decide (0<n)) 2 []]) (by simp[h0]) (by simp) (by simp),?_⟩;simp[Am,pick];try decide
 ·have h0:n=0:=by omega
  subst h0;refine xK ?_;refine xW fun K hK=>?_;simp;apply hK;refine Ag ?_;(try simp only[xQ,reduceIte]);refine⟨_,AJ.BB 4 2 (xs:=[]) (by simp),?_⟩;simp[Am]
def Ex(xss:List (List Symbol))(i:Nat):List Symbol:=(xss.take i).flatten
theorem Ka(xss:List (List Symbol)){i:Nat}(h:i<xss.length):Ex xss (i+1)=Ex xss i++xss[i]:=by
 unfold Ex;rw[List.take_succ_eq_append_getElem h,List.flatten_append];simp only[List.flatten_cons,List.flatten_nil,List.append_nil]
theorem LR(xss:List (List Symbol)):Ex xss xss.length=xss.flatten:=by unfold Ex;rw[List.take_length]
theorem VA(xss:List (List Symbol))(i:Nat):(Ex xss i).length≤xss.flatten.length:=by
 unfold Ex;conv=>rhs;rw[←List.take_append_drop i xss,List.flatten_append,List.length_append]
 omega
theorem JF(xss:List (List Symbol))(hn:xss.flatten.length≤2 ^ 30):Pure prog 147 [.sl (xss.map fun xs=>As xs)] (As xss.flatten):=by
 have a1:∀i,(Ex xss i).length≤2 ^ 30:=fun i=>Nat.le_trans (VA xss i) hn;have rQ:Ex xss 0=[]:=rfl;refine Pure.AI func147 (by kernel_rfl) rfl (by simp) fun wf=>?_;have a2:xss.length≤maxLen:=by have:=wf.1;simp[WFD]at this;simpa using this.1
 rw[ntmps147];refine xW fun K hK=>?_;simp;apply hK;refine xW fun K hK=>?_;simp;apply hK;refine xS (xW fun K hK=>?_);simp;apply hK;refine Bw ?_;refine DC xss.length (fun i tm S=>tm 0=.d (.sl (xss.map fun xs=>As xs))∧tm 9=.d (.sl (xss.map fun xs=>As xs))∧tm 11=.d (.int .i64 i)∧tm 10=.d (.int .i64 xss.length)∧tm 3=.d (AG (Ex xss i).length)∧S=[]) (Nat.zero_le _) (by simp[rQ]) ?_;rintro i tm S hi ⟨t0,t9,t11,t10,t3,rfl⟩;refine xW fun K hK=>?_;simp[t10,t11];apply hK;refine xC ?_;simp;refine⟨fun cx=>?_,fun hO=>?_⟩
 ·refine xK ?_;refine xB ?_;have jd:(Ex xss (i+1)).length=(Ex xss i).length+xss[i].length:=by rw[Ka xss cx,List.length_append]
  have jW:=a1 (i+1);have iG:=a1 i;rw[jd]at jW;have hw:IntKind.i64.wrap ((Ex xss i).length+xss[i].length:Int)=((Ex xss (i+1)).length:Int):=by rw[IntKind.wrap_i64,jd];omega
  refine xW fun K hK=>?_;simp[t9,t11,cx];apply hK;refine xW fun K hK=>?_;simp[t3,hw];apply hK;refine xW fun K hK=>?_;simp;apply hK;refine AU ?_;simp;refine⟨fun h=>?_,?_⟩
  ·exact absurd h (by omega)
  ·refine CC ?_;refine xV fun K hK=>?_;simp[t11];apply hK;refine⟨cx,_,_,AJ.refl,?_⟩;simp[t0,t9,t10,AQ cx a2]
 ·have e:i=xss.length:=by omega
  subst e;rw[LR]at t3;refine Cu ?_;refine Az fun K hK=>?_;refine xJ ?_;simp[t3];refine xF (YX xss.flatten.length hn) [] rfl ?_;simp;refine xJ ?_;simp;refine Aj (hK _ _ ?_);refine xS (xW fun K hK=>?_);simp[t0];apply hK;refine Bw ?_;generalize hF:xss.flatten.length=F at *;refine DC xss.length (fun i tm S=>tm 25=.d (.sl (xss.map fun xs=>As xs))∧tm 27=.d (.int .i64 i)∧tm 26=.d (.int .i64 xss.length)∧tm 6=.row 0 (Ex xss i).length∧S=[.row (decide (0<F)) 2 ((Ex xss i).map fun x=>.d (AL x))]) (Nat.zero_le _) (by simp[rQ,←hF]) ?_;rintro i tm S hi ⟨t25,t27,t26,t6,rfl⟩;refine xW fun K hK=>?_;simp[t26,t27];apply hK;refine xC ?_;simp;refine⟨fun cx=>?_,fun hO=>?_⟩
  ·have jd:=Ka xss cx;have jW:=a1 (i+1);rw[jd,List.length_append]at jW;have hW:(decide (0<F)||!xss[i].isEmpty)=decide (0<F):=by
    cases h:xss[i]with
    |nil=>simp
    |cons y ys=>
     have:y∈xss.flatten:=List.mem_flatten.2 ⟨_,List.getElem_mem cx,by rw[h];simp⟩;have:0<F:=by rw[←hF];exact List.length_pos_of_mem this
     simp[this]
   refine xK ?_;refine xB ?_;refine xW fun K hK=>?_;simp[t25,t27,cx];apply hK;refine BX fun K hK=>?_;refine xJ ?_;simp[t6,jW,Af];refine Aj (hK _ _ ?_);refine xV fun K hK=>?_;simp[t27];apply hK;refine⟨cx,_,_,AJ.refl,?_⟩;simp[t25,t26,AQ cx a2,jd,hW]
  ·have e:i=xss.length:=by omega
   subst e;rw[LR]at t6⊢;generalize hL:xss.flatten=L at *;refine Cu ?_;refine xW fun K hK=>?_;simp[t6];apply hK;refine Ag ?_;(try simp only[xQ,reduceIte]);refine⟨_,_,AJ.B6 0 (xs:=L.map AL) rfl (by simp),?_⟩;simp[hF,asD];rw[←hL];simp
open Go.Proofs Tryz DT
def Bh(p:Int):Cw:=⟨-1,p,-1,ByteArray.empty⟩
def Dk(i:Int):Cw:=⟨i,-1,-1,ByteArray.empty⟩
theorem H6(p:Int):Pure prog 150 [AG p] (A1 (Bh p)):=by
 refine Pure.AI func150 (by kernel_rfl) rfl (by simp) fun wf=>?_;rw[ntmps150];refine xW fun K hK=>?_;simp;apply hK;refine xW fun K hK=>?_;simp;apply hK;refine Ag ?_;(try simp only[xQ,reduceIte]);refine⟨_,_,AJ.refl,?_⟩;simp[Bh,A1]
def Cg(a:Nat):Nat→List Cw
 |0=>[]
 |k+1=>Cg a k++[Dk ((a+k:Nat):Int)]
theorem C2(a k:Nat):(Cg a k).length=k:=by
 induction k with
 |zero=>rfl
 |succ k ih=>simp[Cg,ih]
theorem Gv(xs:List Cw)(w:Bool)(a k:Nat)(h:xs.length+k≤2 ^ 30)(ha:a+k≤2 ^ 31):
  AE prog 149 [.row 0 xs.length,.d (AG a),.d (AG (a+k:Nat))] [.row w 4 (xs.map fun t=>.d (A1 t))] (.row 0 (xs.length+k)) [.row (w||decide (0<k)) 4 ((xs++Cg a k).map fun t=>.d (A1 t))]:=by
 refine AE.AI func149 (by kernel_rfl) rfl (by simp) fun wf _=>?_;rw[ntmps149];refine xW fun K hK=>?_;simp;apply hK;refine xS (xW fun K hK=>?_);simp;apply hK;refine Bw ?_;refine DC k (fun i tm S=>tm 0=.row 0 (xs.length+i)∧tm 2=.d (AG (a+k:Nat))∧tm 7=.d (AG (a+i:Nat))∧S=[.row (w||decide (0<i)) 4 ((xs++Cg a i).map fun t=>.d (A1 t))]) (Nat.zero_le _) (by simp[Cg]) ?_;rintro i tm S hi ⟨t0,t2,t7,rfl⟩;refine xS (xW fun K hK=>?_);simp[t2,t7];apply hK;refine AU ?_;simp;refine⟨fun cx=>?_,fun hO=>?_⟩
 ·have cx:i<k:=by omega
  have hw:IntKind.i64.wrap ((a:Int)+i+1)=(a:Int)+(i+1):=by rw[IntKind.wrap_i64];omega
  have jc:xs.length+i+1≤1073741824:=by omega
  have gm:1≤maxLen:=by unfold maxLen;omega
  have xb:=C2 a i;refine xK ?_;refine xB ?_;refine BX fun K hK=>?_;refine xJ ?_;simp[t0,t7,gm,jc,Af,xb,or_imp,forall_and];refine Aj (hK _ _ ?_);refine xV fun K hK=>?_;simp[t7,hw];apply hK;refine⟨cx,_,_,AJ.refl,?_⟩;simp[t2,Cg,Nat.add_assoc,A1,Dk]
 ·have e:i=k:=by omega
  subst e;refine Cu ?_;refine xW fun K hK=>?_;simp[t0];apply hK;refine Ag ?_;(try simp only[xQ,reduceIte]);refine⟨_,AJ.refl,?_⟩;simp[Am]
theorem MQ{S:Sg}{r q k:Nat}{g:AF}{x:AAC}{h0 h1 h2 h3 h4 h6 h7 h8 m:V}{lg w:Bool}{els:List V}(hb:S[r]?=some (.row true 51 [bV g x h0 h1 h2 h3 h4 (.row q k) h6 h7 h8 m lg]))(hq:S[q]?=some (.row w 13 els))(hl:els.length=k)(hk:k+1≤2 ^ 30)(hz:Af 13 els)(p:AT)
  (hs:((S.set q (.row true 13 (els++[.d (AH p)]))).set r (.row true 51 [bV g x h0 h1 h2 h3 h4 (.row q (k+1)) h6 h7 h8 m lg])).all (AAG S.length)=true):
  AE prog 148 [.ptr r 1 0 0,.d (AH p)] S (.d (AG k)) ((S.set q (.row true 13 (els++[.d (AH p)]))).set r (.row true 51 [bV g x h0 h1 h2 h3 h4 (.row q (k+1)) h6 h7 h8 m lg])):=by
 unfold bV at hb hs⊢;have hr:=AZ hb;have lZ:=AZ hq;have rR:q≠r:=fun e=>by subst e;rw[hb]at hq;cases hq
 have iC:∀T,(S++T)[r]?=_:=fun T=>(List.getElem?_append_left hr).trans hb;have kf:∀T,(S++T)[q]?=_:=fun T=>(List.getElem?_append_left lZ).trans hq;have gn:∀T o,(S++T).set r o=S.set r o++T:=fun T o=>List.set_append_left _ _ hr;have uu:∀T o,(S++T).set q o=S.set q o++T:=fun T o=>List.set_append_left _ _ lZ;have hlen:∀o,(S.set q o).length=S.length:=fun o=>List.length_set;have jx:∀T o o',(S.set q o++T).set r o'=(S.set q o).set r o'++T:=fun T o o'=>List.set_append_left _ _ (by rw[hlen];exact hr);have iG:∀T o,(S.set q o++T)[r]?=_:=fun T o=>((List.getElem?_append_left (by rw[hlen];exact hr)).trans (List.getElem?_set_ne rR)).trans hb;have nO:∀T o o',((S.set q o).set r o'++T)[r]?=some o':=fun T o o'=>(List.getElem?_append_left (by rw[List.length_set,hlen];exact hr)).trans (List.getElem?_set_self (by rw[hlen];exact hr));have uv:∀T o o',((S.set q o).set r o'++T)[q]?=some o:=fun T o o'=>(List.getElem?_append_left (by rw[List.length_set,hlen];exact lZ)).trans ((List.getElem?_set_ne (Ne.symm rR)).trans (List.getElem?_set_self lZ));have cy:=AH.eq_1 p;have gm:1≤maxLen:=by unfold maxLen;omega
 have jN:k+1≤1073741824:=by omega
 have hw:IntKind.i64.wrap (k:Int)=k:=by rw[IntKind.wrap_i64];omega
 have uw:(∀y,y∈els→(AAF y).length=13∧(Ar y=true∨AAW y=true))↔True:=iff_true_intro (by simpa[Af]using hz);subst hl;refine AE.B9 func148 (by kernel_rfl) rfl (by simp) fun wf _=>?_;rw[ntmps148];refine xW fun K hK=>?_;simp[cy];apply hK;refine xD [0,2,4,6,8,10,12,14,17,18,20,22,25] (by kernel_rfl) fun K hK=>?_;simp;refine xA 1 ?_;simp[iC,gm];refine xX 5 (by kernel_rfl) ?_;simp[iC,kf,iG,AR,uu,jN,uw,Af,gm];refine xA 1 ?_;simp[iG];refine xX 505 (by kernel_rfl) ?_;simp[iG,nO,AR,jx];refine xM (hK _ _ ?_);(repeat refine xS ?_);refine BX fun K hK=>?_;refine xJ ?_;simp[nO,uv,hw];refine Aj (hK _ _ ?_);(try simp only[]);refine Ag ?_;(try simp only[xQ,reduceIte]);refine⟨_,_,_,AJ.refl,?_,?_,AJ.AY S.length (by simp[hlen,cy]) (Nat.le_refl _) (by simp[hlen]) (by simpa[hlen,cy]using hs)⟩
 ·simp
 ·simp
theorem NI{S:Sg}{r q k:Nat}{g:AF}{x:AAC}{h0 h1 h2 h3 h5 h6 h7 h8 m:V}{lg w:Bool}{els:List V}(hb:S[r]?=some (.row true 51 [bV g x h0 h1 h2 h3 (.row q k) h5 h6 h7 h8 m lg]))(hq:S[q]?=some (.row w 1 els))(hl:els.length=k)(hk:k+1≤2 ^ 30)(hz:Af 1 els)
  (hs:((S.set q (.row true 1 (els++[.d (Ba x.name)]))).set r (.row true 51 [bV g x h0 h1 h2 h3 (.row q (k+1)) h5 h6 h7 h8 m lg])).all (AAG S.length)=true):
  AE prog 151 [.ptr r 1 0 0] S (.d (AL ⟨false,k⟩)) ((S.set q (.row true 1 (els++[.d (Ba x.name)]))).set r (.row true 51 [bV g x h0 h1 h2 h3 (.row q (k+1)) h5 h6 h7 h8 m lg])):=by
 unfold bV at hb hs⊢;have hr:=AZ hb;have lZ:=AZ hq;have rR:q≠r:=fun e=>by subst e;rw[hb]at hq;cases hq
 have iC:∀T,(S++T)[r]?=_:=fun T=>(List.getElem?_append_left hr).trans hb;have kf:∀T,(S++T)[q]?=_:=fun T=>(List.getElem?_append_left lZ).trans hq;have gn:∀T o,(S++T).set r o=S.set r o++T:=fun T o=>List.set_append_left _ _ hr;have uu:∀T o,(S++T).set q o=S.set q o++T:=fun T o=>List.set_append_left _ _ lZ;have hlen:∀o,(S.set q o).length=S.length:=fun o=>List.length_set;have jx:∀T o o',(S.set q o++T).set r o'=(S.set q o).set r o'++T:=fun T o o'=>List.set_append_left _ _ (by rw[hlen];exact hr);have iG:∀T o,(S.set q o++T)[r]?=_:=fun T o=>((List.getElem?_append_left (by rw[hlen];exact hr)).trans (List.getElem?_set_ne rR)).trans hb;have nO:∀T o o',((S.set q o).set r o'++T)[r]?=some o':=fun T o o'=>(List.getElem?_append_left (by rw[List.length_set,hlen];exact hr)).trans (List.getElem?_set_self (by rw[hlen];exact hr));have uv:∀T o o',((S.set q o).set r o'++T)[q]?=some o:=fun T o o'=>(List.getElem?_append_left (by rw[List.length_set,hlen];exact lZ)).trans ((List.getElem?_set_ne (Ne.symm rR)).trans (List.getElem?_set_self lZ));have gm:1≤maxLen:=by unfold maxLen;omega
 have jN:k+1≤1073741824:=by omega
 have hw:IntKind.i64.wrap (k:Int)=k:=by rw[IntKind.wrap_i64];omega
 have uw:(∀y,y∈els→(AAF y).length=1∧(Ar y=true∨AAW y=true))↔True:=iff_true_intro (by simpa[Af]using hz);subst hl;refine AE.B9 func151 (by kernel_rfl) rfl (by simp) fun wf _=>?_;rw[ntmps151];refine xW fun K hK=>?_;simp;apply hK;refine xD [0,2,4,6,8,10,12,14,16,18,20,22,25,26,28,30,33] (by kernel_rfl) fun K hK=>?_;simp;refine xA 1 ?_;simp[iC,gm];refine xX 65 (by kernel_rfl) ?_;simp[iC,kf,iG,AR,uu,jN,uw,Af,gm];refine xA 1 ?_;simp[iG];refine xX 8185 (by kernel_rfl) ?_;simp[iG,nO,AR,jx];refine xM (hK _ _ ?_);(repeat refine xS ?_);refine BX fun K hK=>?_;refine xJ ?_;simp[nO,uv,hw];refine Aj (hK _ _ ?_);(try simp only[]);refine Ag ?_;(try simp only[xQ,reduceIte]);refine⟨_,_,_,AJ.refl,?_,?_,AJ.AY S.length (by simp[hlen]) (Nat.le_refl _) (by simp[hlen]) (by simpa[hlen]using hs)⟩
 ·simp
 ·simp[AL]
end Go.Koi
