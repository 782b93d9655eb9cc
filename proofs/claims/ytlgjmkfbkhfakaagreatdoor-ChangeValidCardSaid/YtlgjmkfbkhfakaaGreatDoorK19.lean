/- Part 20 of the proof that the law ChangeValid returns true for every input. -/
import Derived.Test.YtlgjmkfbkhfakaaGreatDoorK18
set_option maxHeartbeats 64000000
set_option maxRecDepth 100000
namespace Go.Koi
open Go.Proofs Tryz DT
theorem aE(t:DT):HT t (.leaf false)=.leaf false:=JN (t:=.leaf false) trivial fun c=>by simp[sem]
theorem WT(m:List (Int×DT)):∀l:List Symbol,Fp m (.leaf false) l=.leaf false
 |[]=>rfl
 |s::l=>by
  have:stepT m (.leaf false) s=.leaf false:=by simp[stepT]
  unfold Fp at *;rw[List.foldl_cons,this];exact WT m l
def DQ(l:List Symbol)(j:Nat):List Symbol:=l.take j++l.drop (j+1)
noncomputable def Zs(m:List (Int×DT))(t:DT)(l:List Symbol)(j:Nat):DT:=if EC (DQ l j)then .leaf false else Fp m t (DQ l j)
theorem bE{n:Nat}(hn:n≤12){m:List (Int×DT)}(hm:F2 n m){t:DT}(ht:D9 n t)(l:List Symbol)(j:Nat):D9 n (Zs m t l j):=by
 unfold Zs;split
 ·exact D9.leaf n false
 ·exact HK hn hm _ ht
def EB(g:AF):Prop:=∀p∈g.AD,p.right≠[]∧∀s,p.right=[s]→s.token=true
theorem Vk{α β:Type}[DecidableEq α](l:List (α×β))(k:α)(x:β):(CU l k x).length≤l.length+1:=by
 unfold CU;split<;>simp
theorem F2.ee{α:Type}[DecidableEq α]{n:Nat}{m:List (α×DT)}(h:F2 n m)(k:α){t:DT}(ht:D9 n t):F2 n (CU m k t):=by
 intro p hp;unfold CU at hp;split at hp
 ·obtain⟨q,hq,rfl⟩:=List.mem_map.1 hp;split
  ·exact ht
  ·exact h q hq
 ·rcases List.mem_append.1 hp with hp|hp
  ·exact h p hp
  ·simp only[List.mem_singleton]at hp;subst hp;exact ht
def Ra(l:List AT)(i:Nat):Nat:=((l.take i).map (·.right.length)).sum
theorem Rf{l:List AT}{i:Nat}(hi:i<l.length):Ra l (i+1)=Ra l i+l[i].right.length:=by
 unfold Ra;rw[List.take_succ_eq_append_getElem hi,List.map_append,List.sum_append];rfl
def ABj(g:AF)(ps:List DT)(m:List (Int×DT))(i j:Nat)(c:Int→Bool)(a b:Int):Prop:=
 ∃i' j',(i'<i∨i'=i∧j'<j)∧∃(h1:i'<g.AD.length) (h2:j'<g.AD[i'].right.length),g.AD[i'].left=a∧g.AD[i'].right[j'].token=false∧g.AD[i'].right[j'].index=b∧(Zs m (ps.getD i' (.leaf false)) g.AD[i'].right j').sem c=true
theorem ABj.succ{g:AF}{ps:List DT}{m:List (Int×DT)}{i j:Nat}{c:Int→Bool}{a b:Int}(h1:i<g.AD.length){p:AT}(hp:g.AD[i]=p)(h2:j<p.right.length):
  ABj g ps m i (j+1) c a b↔ABj g ps m i j c a b∨p.left=a∧p.right[j].token=false∧p.right[j].index=b∧(Zs m (ps.getD i (.leaf false)) p.right j).sem c=true:=by
 subst hp;constructor
 ·rintro⟨i',j',h,k1,k2,k3⟩;by_cases e:i'=i∧j'=j
  ·obtain⟨rfl,rfl⟩:=e;exact .inr k3
  ·exact .inl ⟨i',j',by omega,k1,k2,k3⟩
 ·rintro(⟨i',j',h,k⟩|h)
  ·exact⟨i',j',by omega,k⟩
  ·exact⟨i,j,by omega,h1,h2,h⟩
theorem ABj.row{g:AF}{ps:List DT}{m:List (Int×DT)}{i:Nat}{c:Int→Bool}{a b:Int}(h1:i<g.AD.length):ABj g ps m (i+1) 0 c a b↔ABj g ps m i g.AD[i].right.length c a b:=by
 constructor
 ·rintro⟨i',j',h,k1,k2,k3⟩;refine⟨i',j',?_,k1,k2,k3⟩;by_cases e:i'=i
  ·subst e;exact .inr ⟨rfl,k2⟩
  ·exact .inl (by omega)
 ·rintro⟨i',j',h,k⟩;exact⟨i',j',by omega,k⟩
structure Yu(n:Nat)(g:AF)(ps:List DT)(m:List (Int×DT))(i j:Nat)(st:List (Pr×DT)):Prop where
 ok:F2 n st
 len:st.length≤Ra g.AD i+j
 sem:∀c a b,sOf st c a b↔ABj g ps m i j c a b
theorem Yu.nil{n:Nat}{g:AF}{ps:List DT}{m:List (Int×DT)}:Yu n g ps m 0 0 []:=
 ⟨fun _ h=>absurd h (by simp),Nat.zero_le _,fun c a b=>⟨fun h=>(by simp[sOf,EN,DT.sem]at h),fun⟨_,_,h,_⟩=>(by omega)⟩⟩
theorem Yu.row{n:Nat}{g:AF}{ps:List DT}{m:List (Int×DT)}{i:Nat}{st:List (Pr×DT)}{p:AT}(h1:i<g.AD.length)(hp:g.AD[i]=p)(h:Yu n g ps m i p.right.length st):Yu n g ps m (i+1) 0 st:=by
 subst hp;exact⟨h.ok,by have:=h.len;rw[Rf h1];omega,fun c a b=>(h.sem c a b).trans (ABj.row h1).symm⟩
theorem Yu.skip{n:Nat}{g:AF}{ps:List DT}{m:List (Int×DT)}{i j:Nat}{st:List (Pr×DT)}{p:AT}(h:Yu n g ps m i j st)(h1:i<g.AD.length)(hp:g.AD[i]=p)(h2:j<p.right.length)
  (hx:p.right[j].token=true∨Zs m (ps.getD i (.leaf false)) p.right j=.leaf false):Yu n g ps m i (j+1) st:=by
 refine⟨h.ok,by have:=h.len;omega,fun c a b=>?_⟩;rw[h.sem,ABj.succ h1 hp h2];refine⟨.inl,fun hh=>hh.resolve_right fun k=>?_⟩;rcases hx with hx|hx
 ·rw[hx]at k;exact absurd k.2.1 (by simp)
 ·rw[hx]at k;exact absurd k.2.2.2 (by simp[DT.sem])
theorem Yu.put{n:Nat}(hn:n≤12){g:AF}{ps:List DT}{m:List (Int×DT)}{i j:Nat}{st:List (Pr×DT)}{p:AT}{y:Symbol}{X:DT}(h:Yu n g ps m i j st)(h1:i<g.AD.length)(hp:g.AD[i]=p)(h2:j<p.right.length)
  (hy:p.right[j]=y) (ht:y.token=false) (hX:Zs m (ps.getD i (.leaf false)) p.right j=X) (hXo:D9 n X):Yu n g ps m i (j+1) (CU st (p.left,y.index) (Oz or (EN st (p.left,y.index)) X)):=by
 obtain⟨o1,o2,-⟩:=EP Hu hn (h.ok.at (p.left,y.index)) hXo;refine⟨h.ok.ee _ o1,by have:=h.len;have:=Vk st (p.left,y.index) (Oz or (EN st (p.left,y.index)) X);omega,fun c a b=>?_⟩;rw[ABj.succ h1 hp h2,←h.sem,hy,hX];unfold sOf;rw[Qx];split
 ·next e=>
  simp only[Prod.mk.injEq]at e;obtain⟨rfl,rfl⟩:=e;rw[o2];simp[ht]
 ·next e=>
  refine⟨.inl,fun hh=>hh.resolve_right fun k=>e ?_⟩;rw[k.1,k.2.2.1]
def Fits(g:AF):Prop:=(g.AD.map (·.right.length)).sum≤2 ^ 16
theorem OJ{g:AF}(h:Fits g){p:AT}(hp:p∈g.AD):p.right.length≤65536:=by
 have key:∀l:List AT,p∈l→p.right.length≤(l.map (·.right.length)).sum:=by
  intro l;induction l with
  |nil=>intro h;simp at h
  |cons q l ih=>
   intro h;simp only[List.map_cons,List.sum_cons];rcases List.mem_cons.1 h with rfl|h
   ·omega
   ·have:=ih h;omega
 exact Nat.le_trans (key _ hp) h
def Lx(g:AF)(ps:List DT)(m:List (Int×DT))(st:List (Pr×DT)):Sg:=[Em g ps,mI m,m2 st,.row true 1 [.map 2]]
abbrev NX:=List (Int×(List Int×Nat))
def TN(v:List Int×Nat):V:=.row (v.2+6) v.1.length
def UY(nx:NX):List (D×V):=BO (D.int .i64) TN nx
structure M8(st:List (Pr×DT))(vis:List Nat)(nx:NX)(R:Sg):Prop where
 rows:∀p∈nx,R[p.2.2]?=some (.row true 1 (p.2.1.map fun x=>.d (.int .i64 x)))
 keyed:Keyed nx
 pos:(nx.map (·.2.2)).Nodup
 ks:∀p∈nx,∀x∈p.2.1,(p.1,x)∈st.map (·.1)
 len:∀p∈nx,p.2.1.length≤vis.length
 nd:vis.Nodup
 lt:∀i∈vis,i<st.length
 all:∀k∈vis,∀h:k<st.length,∃v,look nx st[k].1.1=some v∧st[k].1.2∈v.1
theorem M8.new{st:List (Pr×DT)}{vis:List Nat}{nx:NX}{R:Sg}(h:M8 st vis nx R){i:Nat}(hi:i<st.length)(hv:i∉vis){a x:Int}{Y:O}(hx:st[i].1=(a,x))(hl:look nx a=none):
  M8 st (vis++[i]) (CU nx a ([x],R.length+1)) (R++[Y,.row true 1 [.d (.int .i64 x)]]):=by
 have tK:(a,x)∈st.map (·.1):=List.mem_map.2 ⟨st[i],List.getElem_mem hi,hx⟩;have gg:∀k∈vis++[i],∀hk:k<st.length,∃v,look (CU nx a ([x],R.length+1)) st[k].1.1=some v∧st[k].1.2∈v.1:=fun k hk iX=>by
  rw[E9];rcases List.mem_append.1 hk with hk|hk
  ·obtain⟨v,e1,e2⟩:=h.all k hk iX;rw[if_neg (fun e=>by rw[e,hl]at e1;cases e1)];exact⟨v,e1,e2⟩
  ·simp only[List.mem_singleton]at hk;subst hk;rw[hx,if_pos rfl];exact⟨_,rfl,by simp⟩
 have jB:=h.keyed.CU a ([x],R.length+1);rw[IT _ hl]at jB gg⊢;have hold:∀p∈nx,p.2.2<R.length:=fun p hp=>AZ (h.rows p hp);refine⟨fun p hp=>?_,jB,?_,fun p hp=>?_,fun p hp=>?_,?_,fun k hk=>?_,gg⟩
 ·rcases List.mem_append.1 hp with hp|hp
  ·rw[List.getElem?_append_left (hold p hp)];exact h.rows p hp
  ·simp only[List.mem_singleton]at hp;subst hp;simp
 ·rw[List.map_append,List.nodup_append];refine⟨h.pos,by simp,fun u hu v hv e=>?_⟩;obtain⟨p,hp,rfl⟩:=List.mem_map.1 hu;simp only[List.map_cons,List.map_nil,List.mem_singleton]at hv;have:=hold p hp;omega
 ·rcases List.mem_append.1 hp with hp|hp
  ·exact h.ks p hp
  ·simp only[List.mem_singleton]at hp;subst hp;intro y hy;simp only[List.mem_singleton]at hy;subst hy;exact tK
 ·rcases List.mem_append.1 hp with hp|hp
  ·have:=h.len p hp;simp;omega
  ·simp only[List.mem_singleton]at hp;subst hp;simp
 ·rw[List.nodup_append];exact⟨h.nd,by simp,fun u hu v mX e=>by simp only[List.mem_singleton]at mX;subst e;subst mX;exact hv hu⟩
 ·rcases List.mem_append.1 hk with hk|hk
  ·exact h.lt k hk
  ·simp only[List.mem_singleton]at hk;subst hk;exact hi
theorem M8.more{st:List (Pr×DT)}{vis:List Nat}{nx:NX}{R:Sg}(h:M8 st vis nx R){i:Nat}(hi:i<st.length)(hv:i∉vis){a x:Int}{Y:O}(hx:st[i].1=(a,x)){l:List Int}{j:Nat}(hl:look nx a=some (l,j)):
  M8 st (vis++[i]) (CU nx a (l++[x],j)) ((R++[Y]).set j (.row true 1 ((l++[x]).map fun x=>.d (.int .i64 x)))):=by
 have jV:=F3 hl;have hjR:=AZ (h.rows _ jV);have tK:(a,x)∈st.map (·.1):=List.mem_map.2 ⟨st[i],List.getElem_mem hi,hx⟩;have gg:∀k∈vis++[i],∀hk:k<st.length,∃v,look (CU nx a (l++[x],j)) st[k].1.1=some v∧st[k].1.2∈v.1:=fun k hk iX=>by
  rw[E9];rcases List.mem_append.1 hk with hk|hk
  ·obtain⟨v,e1,e2⟩:=h.all k hk iX;split
   ·next e=>
    rw[e,hl]at e1;cases e1;exact⟨_,rfl,List.mem_append_left _ e2⟩
   ·exact⟨v,e1,e2⟩
  ·simp only[List.mem_singleton]at hk;subst hk;rw[hx,if_pos rfl];exact⟨_,rfl,List.mem_append_right _ (by simp)⟩
 have jB:=h.keyed.CU a (l++[x],j);have ly:CU nx a (l++[x],j)=nx.map fun p=>if p.1=a then(p.1,(l++[x],j))else p:=by simp[Koi.CU,hl]
 have j4:∀p∈nx,p.1=a→p=(a,(l,j)):=fun p hp e=>by
  have:look nx a=some p.2:=h.keyed.look (by rw[←e];exact hp);rw[hl]at this;obtain⟨p1,p2⟩:=p;simp only[Option.some.injEq]at this e⊢;rw[e,←this]
 have ki:∀p∈nx,p.1≠a→p.2.2≠j:=fun p hp dI e=>by
  obtain⟨u,hu,eu⟩:=List.mem_iff_getElem.1 hp;obtain⟨v,hv,ev⟩:=List.mem_iff_getElem.1 jV;have:(nx.map (·.2.2))[u]'(by simpa using hu)=(nx.map (·.2.2))[v]'(by simpa using hv):=by simp[eu,ev,e]
  have:=F0 h.pos (by simpa using hu) (by simpa using hv) this;subst this;rw[eu]at ev;exact dI (by rw[ev])
 rw[ly]at jB gg⊢;refine⟨fun p hp=>?_,jB,?_,fun p hp=>?_,fun p hp=>?_,?_,fun k hk=>?_,gg⟩
 ·obtain⟨q,hq,rfl⟩:=List.mem_map.1 hp;split
  ·have iV:j<(R++[Y]).length:=by simp only[List.length_append,List.length_cons,List.length_nil];simp only at hjR;omega
   simp only[List.getElem?_set_self iV]
  ·next dI=>
   have h1:=ki q hq dI;rw[List.getElem?_set_ne (Ne.symm h1),List.getElem?_append_left (AZ (h.rows q hq))];exact h.rows q hq
 ·have:(nx.map fun p=>if p.1=a then(p.1,(l++[x],j))else p).map (·.2.2)=nx.map (·.2.2):=by
   rw[List.map_map];apply List.map_congr_left;intro p hp;simp only[Function.comp];split
   ·next e=>rw[j4 p hp e]
   ·rfl
  rw[this];exact h.pos
 ·obtain⟨q,hq,rfl⟩:=List.mem_map.1 hp;split
  ·next e=>
   intro y hy;rw[e];rcases List.mem_append.1 hy with hy|hy
   ·exact h.ks _ jV y hy
   ·simp only[List.mem_singleton]at hy;subst hy;exact tK
  ·exact h.ks q hq
 ·obtain⟨q,hq,rfl⟩:=List.mem_map.1 hp;split
  ·have:=h.len _ jV;simp at this⊢;omega
  ·have:=h.len q hq;simp;omega
 ·rw[List.nodup_append];exact⟨h.nd,by simp,fun u hu v mX e=>by simp only[List.mem_singleton]at mX;subst e;subst mX;exact hv hu⟩
 ·rcases List.mem_append.1 hk with hk|hk
  ·exact h.lt k hk
  ·simp only[List.mem_singleton]at hk;subst hk;exact hi
theorem XJ{P:Program}{n b:Nat}{tm:Tm}{st:List (Pr×DT)}{vis:List Nat}{nx:NX}{R:Sg}(h:M8 st vis nx R){o0 o1 o2 o3 o5:O}(hb:b≤6)(h0:AAG 6 o0=true)(h1:AAG 6 o1=true)
  (h2:AAG 6 o2=true) (h3:AAG 6 o3=true) (h5:AAG 6 o5=true):
  AJ P n b tm ([o0,o1,o2,o3,.map (UY nx),o5]++R) (clean 6 tm) [o0,o1,o2,o3,.map (BO (D.int .i64) vI (nx.map fun p=>(p.1,p.2.1))),o5]:=by
 have ia:∀j,([o0,o1,o2,o3,.map (UY nx),o5]++R)[j+6]?=R[j]?:=fun j=>by simp
 have oE:∀i,i<6→i∉(nx.map fun p=>(p.2.2+6,p.2.1.map (D.int .i64))).map (·.1):=fun i hi hm=>by
  rw[List.map_map]at hm;obtain⟨p,_,e⟩:=List.mem_map.1 hm;simp only[Function.comp]at e;omega
 obtain⟨S1,g1,g2,g3,g4⟩:=AJ.Qu (P:=P) (n:=n) (b:=b) (tm:=tm) (nx.map fun p=>(p.2.2+6,p.2.1.map (D.int .i64))) (S:=[o0,o1,o2,o3,.map (UY nx),o5]++R) (by
  have e:(nx.map fun p=>(p.2.2+6,p.2.1.map (D.int .i64))).map (·.1)=(nx.map (·.2.2)).map (·+6):=by
   rw[List.map_map,List.map_map];rfl
  rw[e];exact List.pairwise_map.2 (List.Pairwise.imp (fun {a b} ja e=>ja (by simpa using e)) h.pos)) (by
  intro p hp;obtain⟨q,hq,rfl⟩:=List.mem_map.1 hp;refine⟨true,1,?_⟩;simp only;rw[ia,h.rows q hq,List.map_map];rfl)
 have hS4:S1[4]?=some (.map (UY nx)):=by rw[g4 4 (oE 4 (by decide))];rfl
 have hlen:6≤S1.length:=by rw[g2];simp
 refine g1.trans ((AJ.dh 4 (es':=BO (D.int .i64) vI (nx.map fun p=>(p.1,p.2.1))) hS4 (by simp[BO,UY]) fun i hi gj=>?_).trans (AJ.AY 6 ?_ hb (by simpa using hlen) ?_))
 ·have pG:i<nx.length:=by simpa[BO,UY]using hi
  simp only[BO,UY,List.getElem_map];refine⟨trivial,.inr (.inr ⟨.sl (nx[i].2.1.map (D.int .i64)),?_,rfl⟩)⟩;have h6:=g3 (nx[i].2.2+6,nx[i].2.1.map (D.int .i64)) (List.mem_map.2 ⟨nx[i],List.getElem_mem pG,rfl⟩);simp only at h6;simp[TN,asD,AAn,h6]
 ·apply List.ext_getElem?;intro i;rw[List.getElem?_take];split
  ·next hi=>
   by_cases e:i=4
   ·subst e;rw[List.getElem?_set_self (by omega)];rfl
   ·rw[List.getElem?_set_ne (Ne.symm e),g4 i (oE i hi),List.getElem?_append_left (by simpa using hi)];match i,hi,e with
    |0,_,_=>rfl
    |1,_,_=>rfl
    |2,_,_=>rfl
    |3,_,_=>rfl
    |5,_,_=>rfl
  ·next hi=>exact(List.getElem?_eq_none (by simp;omega)).symm
 ·have e:(S1.set 4 (.map (BO (D.int .i64) vI (nx.map fun p=>(p.1,p.2.1))))).take 6=[o0,o1,o2,o3,.map (BO (D.int .i64) vI (nx.map fun p=>(p.1,p.2.1))),o5]:=by
   apply List.ext_getElem?;intro i;rw[List.getElem?_take];split
   ·next hi=>
    by_cases e:i=4
    ·subst e;rw[List.getElem?_set_self (by omega)];rfl
    ·rw[List.getElem?_set_ne (Ne.symm e),g4 i (oE i hi),List.getElem?_append_left (by simpa using hi)];match i,hi,e with
     |0,_,_=>rfl
     |1,_,_=>rfl
     |2,_,_=>rfl
     |3,_,_=>rfl
     |5,_,_=>rfl
   ·next hi=>exact(List.getElem?_eq_none (by simp;omega)).symm
  rw[e];have hm:AAG 6 (.map (BO (D.int .i64) vI (nx.map fun p=>(p.1,p.2.1))))=true:=Vd _;simp only[List.all_cons,h0,h1,h2,h3,h5,hm,List.all_nil,Bool.and_self]
def QC(g:AF)(ps:List DT)(m:List (Int×DT))(st:List (Pr×DT))(nl:List (Int×List Int))(out:List (Int×DT)):Sg:=
 [Em g ps,mI m,m2 st,.row true 1 [.map 2],.map (BO (D.int .i64) vI nl),.row true 1 [.map 4],mI out]
theorem HE(st:List (Pr×DT))(fr:Int)(d:DT):∀(l:List Int) {s:List (Int×DT)×List Int},(∀x∈s.2,(look s.1 x).isSome=true)→∀x∈(visitM st fr d l s).2,(look (visitM st fr d l s).1 x).isSome=true
 |[],_,h=>h
 |m::l,s,h=>by
  have e:visitM st fr d (m::l) s=visitM st fr d l (Eu st fr d s m):=rfl;rw[e];refine HE st fr d l fun x hx=>?_;unfold Eu at hx⊢;split
  ·next hc=>rw[if_pos hc]at hx;exact h x hx
  ·next hc=>
   rw[if_neg hc]at hx;simp only[E9];split
   ·rfl
   ·next dI=>
    rcases List.mem_append.1 hx with hx|hx
    ·exact h x hx
    ·simp only[List.mem_singleton]at hx;exact absurd hx dI
def Tc(n:Nat)(ks:List Int)(g:AF)(ps:List DT)(m:List (Int×DT))(st:List (Pr×DT))(nl:List (Int×List Int))(out:List (Int×DT))(i:Int)(k:Nat)(S:Sg):Prop:=
 ∃rch q wq,RI st (tr g.fam) i rch q∧F2 n rch∧(q≠[]→wq=true)∧(∀x∈q,(look rch x).isSome=true)∧q.length+mu n ks rch≤2 ^ 29∧q.length+2 * mu n ks rch<k∧S=QC g ps m st nl out++[mI rch,.row true 1 [.map 7],.row wq 1 (q.map fun x=>.d (.int .i64 x)),.row true 1 [.row 9 q.length]]
theorem Nu:∀n:Nat,(ACl n).length=2 ^ n
 |0=>rfl
 |n+1=>by simp[ACl,Nu n];omega
theorem V9{α:Type}[DecidableEq α](n:Nat)(m:List (α×DT)):∀ks:List α,mu n ks m≤ks.length * 2 ^ n
 |[]=>by simp[mu]
 |k::ks=>by
  have h1:=V9 n m ks;have h2:outs n (EN m k)≤2 ^ n:=by unfold outs;rw[←Nu n];exact List.countP_le_length
  unfold mu at *;simp only[List.map_cons,List.sum_cons,List.length_cons,Nat.add_mul,Nat.one_mul];omega
theorem ADW{α β γ:Type}[DecidableEq α](f:β→γ)(l:List (α×β))(k:α):look (l.map fun p=>(p.1,f p.2)) k=(look l k).map f:=by
 induction l with
 |nil=>rfl
 |cons p l ih=>
  rw[List.map_cons,CQ,CQ,ih];split<;>rfl
def ADs(n:Nat)(g:AF)(ps:List DT):Prop:=∃j:Nat,j<g.BC.length∧∃c,(tr g.fam).sem c=true∧Rch (ABj g ps (fM n true g ps) g.AD.length 0 c) j j
theorem AEU{n:Nat}{g:AF}{ps:List DT}{st:List (Pr×DT)}(gn:Yu n g ps (fM n true g ps) g.AD.length 0 st):(∃j:Nat,j<g.BC.length∧∃c,ADr st (tr g.fam) j c)↔ADs n g ps:=by
 have h1:∀c (j y:Int),Rch (sOf st c) j y↔Rch (ABj g ps (fM n true g ps) g.AD.length 0 c) j y:=fun c j y=>
  ⟨Rch.mono fun a b=>(gn.sem c a b).1,Rch.mono fun a b=>(gn.sem c a b).2⟩
 unfold ADs ADr;simp only[h1]
theorem Q8{n:Nat}(hn:n≤12)(g:AF)(ps:List DT)(hlen:ps.length=g.AD.length)(kZ:∀t∈ps,D9 n t)(k8:D9 n (tr g.fam))(iI:Valid g.fam)(l9:Fits g):
  At prog 32 [.ptr 0 1 0 0] [Em g ps] fun v S'=>∃out,F2 n out∧((∃q∈out,q.2≠.leaf false)↔ADs n g ps)∧v=.map 1∧S'=[Em g ps,mI out]:=by
 obtain⟨m,hm,wI,tL⟩:=Mw hn g ps hlen kZ true;refine At.AI func32 (by kernel_rfl) rfl (by simp) fun wf wfs=>?_;simp[Em,ACL,WFO,ABP,WFV,C6,WFD,AAY]at wfs;obtain⟨_,_,_,_,_,⟨a4,_⟩,⟨a1,a2⟩,_,_,_,_⟩:=wfs;have a3:∀p∈g.AD,p.right.length≤maxLen:=fun p hp=>by
  rw[DM]at a2;have:=a2 p hp;simp[AH,WFD,AAY]at this;exact this.2.2.1.1
 rw[ntmps32];unfold Em;refine xW fun K hK=>?_;simp;apply hK;refine Az fun K hK=>?_;refine xJ ?_;simp;refine xF (tL) [0] rfl ?_;simp[Em];refine xJ ?_;simp;refine Aj (hK _ _ ?_);refine xW fun K hK=>?_;simp;apply hK;refine xS (xW fun K hK=>?_);simp[C6];apply hK;refine Bw ?_;refine DC g.AD.length (fun i tm S=>tm 0=.ptr 0 1 0 0∧tm 3=.map 1∧tm 4=.ptr 3 1 0 0∧tm 29=.d (Bb g.AD)∧tm 30=.d (.int .i64 g.AD.length)∧tm 31=.d (.int .i64 i)∧∃st,Yu n g ps m i 0 st∧S=Lx g ps m st) (i0:=0) (Nat.zero_le _) (by simp[Lx,Em,mI,m2,C6];exact⟨[],Yu.nil,rfl⟩) ?_;rintro i tm S hi ⟨t0,t3,t4,t29,t30,t31,st,gn,rfl⟩;unfold Lx Em mI m2;refine xW fun K hK=>?_;simp[t30,t31];apply hK;refine xC ?_;simp;refine⟨fun cx=>?_,fun hO=>?_⟩
 ·have kD:i<ps.length:=by omega
  have ob:=a3 g.AD[i] (List.getElem_mem cx);have mh:g.AD[i].right.length≤65536:=OJ l9 (List.getElem_mem cx);generalize hp:g.AD[i]=p at *;refine xK ?_;refine xB ?_;refine xW fun K hK=>?_;simp[t29,t31,cx,hp];apply hK;refine xW fun K hK=>?_;simp;apply hK;refine Bw ?_;refine DC p.right.length (fun j tm' S=>tm' 0=.ptr 0 1 0 0∧tm' 3=.map 1∧tm' 4=.ptr 3 1 0 0∧tm' 29=.d (Bb g.AD)∧tm' 30=.d (.int .i64 g.AD.length)∧tm' 31=.d (.int .i64 i)∧tm' 5=.d (.int .i64 i)∧tm' 6=.ptr 4 1 0 0∧tm' 37=.d (As p.right)∧tm' 38=.d (.int .i64 p.right.length)∧tm' 39=.d (.int .i64 j)∧∃st,Yu n g ps m i j st∧S=Lx g ps m st++[.row true 13 [.d (AH p)]]) (i0:=0) (Nat.zero_le _) (by simp[Lx,Em,AH,t0,t3,t4,t29,t30,t31];exact⟨st,gn,rfl⟩) ?_;rintro j tm' S hj ⟨s0,s3,s4,s29,s30,s31,s5,s6,s37,s38,s39,st,gn,rfl⟩;unfold Lx Em mI m2;refine xW fun K hK=>?_;simp[s38,s39];apply hK;refine xC ?_;simp;refine⟨fun ik=>?_,fun pY=>?_⟩
  ·refine xK ?_;refine xB ?_;refine xW fun K hK=>?_;simp[s37,s39,ik];apply hK;refine xS (xW fun K hK=>?_);simp;apply hK;refine AU ?_;simp;refine⟨fun k9=>?_,fun k9=>?_⟩
   ·refine Cu ?_;refine xV fun K hK=>?_;simp[s39];apply hK;refine⟨ik,_,_,AJ.drop 5 (by simp) (by simp) (by simp),?_⟩;simp[clean,s0,s3,s4,s29,s30,s31,s5,s6,s37,s38,AQ ik ob];exact⟨st,gn.skip cx hp ik (.inl k9),rfl⟩
   ·refine xK ?_;refine xD [0,2,4,6,8,12,14,16,18,20,11,23,24] (by kernel_rfl) fun K hK=>?_;simp;have hw:=AQ ik ob;have hle:(j:Int)+1≤p.right.length:=by omega
    have ld:j+1=p.right.length∨(AAL ((Option.map AL p.right[j+1]?).getD (D.bool false))).length=2∧AAe.oneD ((Option.map AL p.right[j+1]?).getD (D.bool false))=true:=by
     by_cases e:j+1=p.right.length
     ·exact .inl e
     ·right;rw[List.getElem?_eq_getElem (show j+1<p.right.length by omega)];simp
    have hS0:Af 2 (List.map (V.d ∘ AL) p.right):=by simp
    have hS1:Af 2 (List.take j (List.map (V.d ∘ AL) p.right)):=fun y hy=>hS0 y (List.mem_of_mem_take hy);have hS2:Af 2 (List.drop (j+1) (List.map (V.d ∘ AL) p.right)):=fun y hy=>hS0 y (List.mem_of_mem_drop hy);have p6:j≤1073741824:=by omega
    have tM:j+(p.right.length - (j+1))≤1073741824:=by omega
    have g9:List.take p.right.length (List.map AL p.right)=List.map AL p.right:=List.take_of_length_le (by simp);have nL:List.take p.right.length (List.map (V.d ∘ AL) p.right)=List.map (V.d ∘ AL) p.right:=List.take_of_length_le (by simp);have lx:(DQ p.right j).length=j+(p.right.length - (j+1)):=by simp[DQ];omega
    have p7:(0:Int)≤(j:Int)+1:=by omega
    (repeat(refine xG ?_ ?_;(·simp[s6,AH,hj,hle,p7]);simp[s6,AH,hw]));(repeat((refine xG ?_ ?_);(focus(simp[hle,p7,ld];done));simp[g9]));((refine eU [false,false,false,false,false,true,false,false,false,true] (by kernel_rfl) ?_ ?_);(focus(simp[AR,s6,hj,hw,hle,p7,ld,g9,p6,hS1];done));simp[hj]);refine xX 1 (by kernel_rfl) ?_;simp[AR,s6,hj,hw,hle,p7,ld,g9,tM,hS1,hS2];refine xA 1 ?_;simp;refine xM (hK _ _ ?_);refine AW.ghost (AJ.B6 6 (xs:=(DQ p.right j).map AL) (by simp;exact⟨rfl,rfl,rfl⟩) ?_) ?_
    ·have e:(List.take j (List.map (V.d ∘ AL) p.right)++List.drop (j+1) (List.map (V.d ∘ AL) p.right))=(DQ p.right j).map fun x=>V.d (AL x):=by
      simp[DQ,List.map_take,List.map_drop,Function.comp_def]
     rw[e,Bz]
    simp;refine AW.ghost (AJ.eX 9 (d:=As (DQ p.right j)) ?_) ?_
    ·simp[lx]
    have hD:=HK hn hm (DQ p.right j) (kZ _ (List.getElem_mem kD));(repeat refine xS ?_);refine BX fun K hK=>?_;refine xJ ?_;simp[s0,s5,C6,kD];refine AS.Ds (Tz hn m hm ps[i] (kZ _ (List.getElem_mem kD)) (DQ p.right j)) [1] rfl (by simp[mI,s3];try rfl) ?_;simp[mI,s3];(repeat((refine B7 ?_ ?_);(focus(simp;done));simp));refine Aj (hK _ _ ?_);(try simp only[AAE]);refine xS (xW fun K hK=>?_);simp;apply hK;refine Bw ?_;have rF:(DQ p.right j).length≤maxLen:=by rw[lx];simp only[maxLen]at ob⊢;omega
    have sC:Zs m ps[i] p.right j=if EC (DQ p.right j)then .leaf false else Fp m ps[i] (DQ p.right j):=rfl;have oF:=bE hn hm (kZ _ (List.getElem_mem kD)) p.right j;have jn:Zs m (ps.getD i (.leaf false)) p.right j=Zs m ps[i] p.right j:=by rw[List.getD_eq_getElem?_getD,List.getElem?_eq_getElem kD];rfl
    generalize hX:Zs m ps[i] p.right j=X at *;generalize hy:p.right[j]=y at *;generalize hR:DQ p.right j=R at *;generalize hA:Fp m ps[i] R=A at *;refine DC R.length (fun k tm' S=>tm' 0=.ptr 0 1 0 0∧tm' 3=.map 1∧tm' 4=.ptr 3 1 0 0∧tm' 29=.d (Bb g.AD)∧tm' 30=.d (.int .i64 g.AD.length)∧tm' 31=.d (.int .i64 i)∧tm' 5=.d (.int .i64 i)∧tm' 6=.ptr 4 1 0 0∧tm' 37=.d (As p.right)∧tm' 38=.d (.int .i64 p.right.length)∧tm' 39=.d (.int .i64 j)∧tm' 8=.ptr 5 1 0 0∧tm' 10=.ptr 7 1 0 0∧tm' 68=.d (As R)∧tm' 69=.d (.int .i64 R.length)∧tm' 70=.d (.int .i64 k)∧S=Lx g ps m st++[.row true 13 [.d (AH p)],.row true 2 [.d (AL y)],.BJ (R.map AL),.row true 2 [.d (AA (B2 (if EC (R.take k)then .leaf false else A)))]]) (i0:=0) (Nat.zero_le _) (by simp[Lx,Em,mI,m2,AH,AL,C6,EC,s0,s3,s4,s29,s30,s31,s5,s6,s37,s38,s39]) ?_;rintro k tm2 S hk ⟨r0,r3,r4,r29,r30,r31,r5,r6,r37,r38,r39,r8,r10,r68,r69,r70,rfl⟩;unfold Lx Em mI m2;refine xW fun K hK=>?_;simp[r69,r70];apply hK;refine xC ?_;simp;refine⟨fun mi=>?_,fun wJ=>?_⟩
    ·have p8:EC (R.take (k+1))=(EC (R.take k)||R[k].token):=by
      unfold EC;rw[List.take_succ_eq_append_getElem mi,List.any_append];simp only[List.any_cons,List.any_nil,Bool.or_false]
     rw[p8];refine xK ?_;refine xB ?_;refine xW fun K hK=>?_;simp[r68,r70,mi];apply hK;refine xW fun K hK=>?_;simp;apply hK;refine AU ?_;simp;refine⟨fun ht=>?_,fun ht=>?_⟩
     ·refine BX fun K hK=>?_;refine xJ ?_;simp;refine Bp (Fb false) rfl (by simp[xN]) ?_;simp;refine xJ ?_;simp[r10];refine Aj (hK _ _ ?_);refine xV fun K hK=>?_;simp[r70];apply hK;refine⟨mi,_,_,AJ.drop 8 (by simp) (by simp) (by simp),?_⟩;simp[clean,r0,r3,r4,r29,r30,r31,r5,r6,r37,r38,r39,r8,r10,r68,r69,AQ mi rF,ht,Ed,AA]
     ·refine CC ?_;refine xV fun K hK=>?_;simp[r70];apply hK;refine⟨mi,_,_,AJ.drop 8 (by simp) (by simp) (by simp),?_⟩;simp[clean,r0,r3,r4,r29,r30,r31,r5,r6,r37,r38,r39,r8,r10,r68,r69,AQ mi rF,ht]
    ·have iX:k=R.length:=by omega
     subst iX;rw[List.take_length,←sC];refine Cu ?_;refine xW fun K hK=>?_;simp[r10];apply hK;refine AU ?_;simp;refine⟨fun jg=>?_,fun jg=>?_⟩
     ·obtain⟨o1,o2,o3⟩:=EP Hu hn (gn.ok.at (p.left,y.index)) oF;have gz:=Zp st p.left y.index;have hXf:X≠.leaf false:=fun e=>jg ((Jw oF.GM).2 e);generalize hB:EN st (p.left,y.index)=B at *;generalize hC:Oz or B X=C at *;refine xW fun K hK=>?_;simp[r6,r8];apply hK;refine xE [0,2,4,6,8,10,12,14,16,18,21] (by kernel_rfl) fun K hK=>?_;simp;refine xA 2 ?_;simp[r4];refine Ae.Ul (gz) [2] rfl (by simp[m2];try rfl) ?_;simp;refine xA 2 ?_;simp[r10];refine Bj (QH (B2 B) (B2 X)) rfl (by simp[xN]) ?_;simp[o3];refine xA 2 ?_;simp;refine Bj (E4 (B2 C)) rfl (by simp[xN]) ?_;simp;refine xX 1023 (by kernel_rfl) ?_;simp;refine xM (hK _ _ ?_);refine xV fun K hK=>?_;simp[r39];apply hK;refine⟨ik,_,_,AJ.drop 5 (by simp) (by simp) (by simp),?_⟩;simp[clean,r0,r3,r4,r29,r30,r31,r5,r6,r37,r38,AQ ik ob];exact⟨CU st (p.left,y.index) C,by rw[←hC,←hB];exact gn.put hn cx hp ik hy (by simpa using k9) jn oF,rfl⟩
     ·refine CC ?_;refine xV fun K hK=>?_;simp[r39];apply hK;refine⟨ik,_,_,AJ.drop 5 (by simp) (by simp) (by simp),?_⟩;simp[clean,r0,r3,r4,r29,r30,r31,r5,r6,r37,r38,AQ ik ob];exact⟨st,gn.skip cx hp ik (.inr (jn.trans ((Jw oF.GM).1 (by simpa using jg)))),rfl⟩
  ·have iV:j=p.right.length:=by omega
   subst iV;refine Cu ?_;refine xV fun K hK=>?_;simp[s31];apply hK;refine⟨cx,_,_,AJ.drop 4 (by simp) (by simp) (by simp),?_⟩;simp[clean,s0,s3,s4,s29,s30,AQ cx a1];exact⟨st,gn.row cx hp,rfl⟩
 ·have iD:i=g.AD.length:=by omega
  subst iD;have jx:st.length≤65536:=Nat.le_trans gn.len (by unfold Ra;rw[List.take_length];exact l9);refine Cu ?_;(repeat refine xS ?_);refine xV fun K hK=>?_;simp;refine hK _ _ ?_;(try simp only[xQ,reduceIte]);have hSt:M8 st [] [] []:=⟨by simp,by simp[Keyed],by simp,by simp,by simp,by simp,by simp,by simp⟩;refine xS ?_;refine AW.AD0 2 100 (BO GN vT st) (fun it vis tm S=>tm 0=.ptr 0 1 0 0∧tm 4=.ptr 3 1 0 0∧tm 14=.ptr 5 1 0 0∧tm 100=.d (.raw (.pointer (some ⟨it,0,none⟩)))∧∃nx R,M8 st vis nx R∧S=Lx g ps m st++[.map (UY nx),.row true 1 [.map 4]]++R) ?_ ⟨rfl,rfl,rfl,?_⟩ ⟨rfl,rfl,rfl,?_⟩ ?_ ?_ ?_ ?_
  ·decide
  ·simp
  ·simp
  ·rintro it vis tm S ⟨q0,q4,q14,q100,nx,R,hI,rfl⟩;exact⟨by simp[Lx,m2],q100⟩
  ·refine HU.op ?_ ?_
   ·simp[t4]
   simp[t4];refine HU.range rfl ?_ fun it=>?_
   ·simp
   ·simp[EJ,t0,t4];exact⟨[],[],hSt,rfl⟩
  ·rintro it vis tm S i hi ⟨q0,q4,q14,q100,nx,R,hI,rfl⟩ nq;have iD:i<st.length:=by simpa[BO]using hi
   obtain⟨a,b',t,mj⟩:∃a b t,st[i]=((a,b),t):=⟨_,_,_,rfl⟩;have iB:(BO GN vT st)[i]=(GN (a,b'),vT t):=by simp[BO,mj]
   have sG:st[i].1=(a,b'):=by rw[mj]
   unfold Lx Em mI m2 UY;simp[iB];refine xJ ?_;simp;refine Aj ?_;simp[q100];refine xJ ?_;simp[GN];refine Aj ?_;cases hl:look nx a with
   |none=>
    refine xE [0,2,4,6,8,10,12,14,16,18,21,23] (by kernel_rfl) fun K hK=>?_;simp;have iT:DU (BO (D.int .i64) TN nx) (.int .i64 a) (.row (R.length+1+1+1+1+1+1+1) 1)=BO (D.int .i64) TN (CU nx a ([b'],R.length+1)):=C9 (ev:=TN) (by intro a b;rw[Bool.eq_iff_iff];simp[deq]) nx a ([b'],R.length+1);refine xA 1 ?_;simp[q14,hl,maxLen];refine xX 9 (by kernel_rfl) ?_;simp[AR,q14,hl,maxLen];refine xX 255 (by kernel_rfl) ?_;simp[AR,q14,iT];refine xM (hK _ _ ?_);refine⟨_,_,AJ.refl,by simp[q0],by simp[q4],by simp[q14],by simp[q100],CU nx a ([b'],R.length+1),R++[.row true 2 [.d (.agg [.int .i64 a,.int .i64 b'])],.row true 1 [.d (.int .i64 b')]],?_,?_⟩
    ·exact hI.new iD nq sG hl
    ·simp
   |some v=>
    obtain⟨l,j⟩:=v;have jV:=F3 hl;have mo:=hI.rows _ jV;have iT:DU (BO (D.int .i64) TN nx) (.int .i64 a) (.row (j+6) (l.length+1))=BO (D.int .i64) TN (CU nx a (l++[b'],j)):=by
     have:=C9 (ek:=D.int .i64) (ev:=TN) (by intro a b;rw[Bool.eq_iff_iff];simp[deq]) nx a (l++[b'],j);simpa[TN]using this
    refine xE [0,2,4,6,8,10,12,14,16,18,21,23] (by kernel_rfl) fun K hK=>?_;simp;have py:l.length≤65536:=by
     have h1:=hI.len _ jV;have h2:=FL id hI.nd (n:=st.length) (fun x hx=>hI.lt x hx) (fun x _ y _ e=>e);simp only at h1;omega
    have hjR:=AZ mo;have pc:∀X:List O,(R++X)[j]?=some (.row true 1 (l.map fun x=>.d (.int .i64 x))):=fun X=>by rw[List.getElem?_append_left hjR];exact mo
    have hYj:∀(X Y:O) (h:R.length<((R++[Y]).set j X).length),((R++[Y]).set j X)[R.length]'h=Y:=fun X Y h=>by
     rw[List.getElem_set_ne (by simp only at hjR;omega)];simp
    have rG:l.length+1≤1073741824:=by omega
    have mL:l.length+1≤maxLen:=by simp only[maxLen];omega
    refine xA 1 ?_;simp[q14,hl,maxLen,TN];refine xX 9 (by kernel_rfl) ?_;simp[AR,q14,hl,maxLen,TN,pc,rG,hYj];have hjS:j<R.length+1:=by simp only at hjR;omega
    refine xX 255 (by kernel_rfl) ?_;simp[AR,q14,hYj,iT];refine xM (hK _ _ ?_);refine⟨_,_,AJ.refl,by simp[q0],by simp[q4],by simp[q14],by simp[q100],CU nx a (l++[b'],j),(R++[O.row true 2 [V.d (.agg [.int .i64 a,.int .i64 b'])]]).set j (O.row true 1 ((l++[b']).map fun x=>.d (.int .i64 x))),?_,?_⟩
    ·exact hI.more iD nq sG hl
    ·simp
  ·rintro it vis tm S ⟨q0,q4,q14,q100,nx,R,hI,rfl⟩ gg;refine xJ ?_;simp;refine Aj ⟨by simp,?_⟩;obtain⟨nl,mf⟩:∃nl:List (Int×List Int),nl=nx.map fun p=>(p.1,p.2.1):=⟨_,rfl⟩;refine AW.ghost (XJ (o0:=Em g ps) (o1:=mI m) (o2:=m2 st) (o3:=.row true 1 [.map 2]) (o5:=.row true 1 [.map 4]) hI (by decide) (by simp[Em]) (by simp) (by simp) (by simp) (by simp)) ?_;rw[←mf];have vA:∀k,look nl k=(look nx k).map (·.1):=fun k=>by rw[mf];exact ADW (·.1) nx k
   have mq:∀k x,x∈(look nl k).getD []→x∈st.map (·.1.2):=fun k x hx=>by
    rw[vA]at hx;cases hk:look nx k with
    |none=>rw[hk]at hx;simp at hx
    |some l=>
     rw[hk]at hx;obtain⟨q,hq,e⟩:=List.mem_map.1 (hI.ks _ (F3 hk) x (by simpa using hx));exact List.mem_map.2 ⟨q,hq,by rw[e]⟩
   have sK:∀c k x,sOf st c k x→x∈(look nl k).getD []:=fun c k x hs=>by
    obtain⟨q,hq,e⟩:=List.mem_map.1 (AER hs);obtain⟨u,hu,eu⟩:=List.mem_iff_getElem.1 hq;obtain⟨v,e1,e2⟩:=hI.all u (gg u (by simpa[BO]using hu)) hu;rw[eu,e]at e1 e2;rw[vA,e1];exact e2
   clear hI gg;generalize p9:clean 6 _=tmq;have u0:tmq 0=.ptr 0 1 0 0:=by rw[←p9];simp[clean,q0]
   have u14:tmq 14=.ptr 5 1 0 0:=by rw[←p9];simp[clean,q14]
   have u4:tmq 4=.ptr 3 1 0 0:=by rw[←p9];simp[clean,q4]
   have m6:B2 (tr g.fam)=g.fam:=Fl iI;unfold Em mI m2;refine xW fun K hK=>?_;simp;apply hK;refine xS (xW fun K hK=>?_);simp[u0,C6];apply hK;refine Bw ?_;refine DC g.BC.length (fun i tm S=>tm 0=.ptr 0 1 0 0∧tm 4=.ptr 3 1 0 0∧tm 14=.ptr 5 1 0 0∧tm 16=.map 6∧tm 122=.d (.int .i64 g.BC.length)∧tm 123=.d (.int .i64 i)∧∃out,F2 n out∧Keyed out∧ACJ st (tr g.fam) i out∧S=QC g ps m st nl out) (i0:=0) (Nat.zero_le _) (by simp[u0,u14,u4,QC,Em,mI,m2,C6];exact⟨[],fun _ h=>absurd h (by simp),Keyed.nil,ACJ.nil,rfl⟩) ?_;rintro i tm S hi ⟨t0,t4,t14,t16,t122,t123,out,lV,sL,nM,rfl⟩;unfold QC Em mI m2;refine xW fun K hK=>?_;simp[t122,t123];apply hK;refine xC ?_;simp;refine⟨fun cx=>?_,fun hO=>?_⟩
   ·refine xK ?_;refine xB ?_;(repeat refine xS ?_);refine xV fun K hK=>?_;simp[t123];refine hK _ _ ?_;(try simp only[xQ,reduceIte]);cases hl:look nl i with
    |none=>
     refine xS (xW fun K hK=>?_);simp[t14,hl];apply hK;refine AU ?_;simp;refine Cu ?_;refine xV fun K hK=>?_;simp[t123];apply hK;refine⟨cx,_,_,AJ.refl,?_⟩;simp[t0,t4,t14,t16,t122,AQ cx a4];exact⟨out,lV,sL,nM.skip fun c y hs=>(by have:=sK c _ y hs;rw[hl]at this;simp at this),rfl⟩
    |some l=>
     refine xS (xW fun K hK=>?_);simp[t14,hl,vI];apply hK;refine AU ?_;simp;refine⟨fun he=>?_,fun dI=>?_⟩
     ·refine Cu ?_;refine xV fun K hK=>?_;simp[t123];apply hK;refine⟨cx,_,_,AJ.refl,?_⟩;simp[t0,t4,t14,t16,t122,AQ cx a4];exact⟨out,lV,sL,nM.skip fun c y hs=>(by have:=sK c _ y hs;rw[hl]at this;have e:l=[]:=(by simpa using he);simp[e]at this),rfl⟩
     ·refine xK ?_;refine xW fun K hK=>?_;simp;apply hK;refine Az fun K hK=>?_;refine xO ?_;simp;refine AS.ghost (AJ.BB 132 1 (xs:=[]) (by simp)) ?_;simp;refine xJ ?_;simp;refine Aj (hK _ _ ?_);(repeat refine xS ?_);refine xV fun K hK=>?_;simp[t14,t4];refine hK _ _ ?_;(try simp only[xQ,reduceIte]);have kq:(look nl (i:Int)).getD []=l:=by rw[hl];rfl
      obtain⟨wq1,jz,jm,hc⟩:=Lm hn nl st gn.ok [] (fun _ h=>absurd h (by simp)) false [] i (tr g.fam) k8 (st.map (·.1.2)) (mq i) (by
       have h1:=V9 n ([]:List (Int×DT)) (st.map (·.1.2));have h2:2 ^ n≤2 ^ 12:=Nat.pow_le_pow_right (by decide) hn;have h3:=Nat.mul_le_mul (show(st.map (·.1.2)).length≤65536 by simpa using jx) h2;simp only[List.length_nil];omega)
      have qd:=HH hn gn.ok (fr:=i) k8 (ks:=st.map (·.1.2)) l (s:=([],[])) (fun x hx=>mq i x (by rw[kq];exact hx)) (fun _ h=>absurd h (by simp));have rH:=HE st i (tr g.fam) l (s:=([],[])) (by simp);rw[kq]at hc jz;have vB:=RI.start (fam:=tr g.fam) (i:=(i:Int)) (l:=l) (fun y c hs=>by have:=sK c _ y hs;rwa [kq]at this) (ABt hn gn.ok (fr:=(i:Int)) k8 (ks:=st.map (·.1.2)) l (s:=([],[])) (fun x hx=>mq i x (by rw[kq];exact hx)) (fun _ h=>absurd h (by simp)));obtain⟨Y,hY⟩:∃Y,Y=visitM st i (tr g.fam) l ([],[]):=⟨_,rfl⟩;rw[←hY]at hc jz qd rH vB;simp only[Sp,m6]at hc;refine Az fun K hK=>?_;refine xJ ?_;simp[t0,C6];refine AS.ghost (AJ.eX 140 (d:=AA g.fam) (by simp[AA])) ?_;refine xF (hc) [5,8,3,10,4,7,2,9] rfl ?_;simp;refine xJ ?_;simp;refine Aj (hK _ _ ?_);refine xB ?_;generalize o6:st.map (·.1.2)=ks at *;have wK:Y.2.length+mu n ks Y.1≤2 ^ 29:=by
       have h1:=V9 n ([]:List (Int×DT)) ks;have h2:2 ^ n≤2 ^ 12:=Nat.pow_le_pow_right (by decide) hn;have h3:=Nat.mul_le_mul (show ks.length≤65536 by rw[←o6];simpa using jx) h2;have h4:=qd.2.1;simp only[List.length_nil]at h4;omega
      have tN:Y.2≠[]→wq1=true:=fun dI=>by
       rcases jz with h|h
       ·exact absurd (List.length_eq_zero_iff.1 h) dI
       ·exact h
      refine AW.loop (fun k tm S=>tm 0=.ptr 0 1 0 0∧tm 4=.ptr 3 1 0 0∧tm 14=.ptr 5 1 0 0∧tm 16=.map 6∧tm 122=.d (.int .i64 g.BC.length)∧tm 123=.d (.int .i64 i)∧tm 17=.d (.int .i64 i)∧tm 18=.ptr 8 1 0 0∧tm 19=.ptr 10 1 0 0∧tm 20=.fn (.func 116) [] [.ptr 5 1 0 0,.ptr 8 1 0 0,.ptr 3 1 0 0,.ptr 10 1 0 0]∧Tc n ks g ps m st nl out i k S) ⟨Y.2.length+2 * mu n ks Y.1+1,_,_,AJ.refl,by simp[t0],by simp[t4],by simp[t14],by simp[t16],by simp[t122],by simp[t123],by simp,by simp,by simp,by simp,(by unfold Tc;exact⟨Y.1,Y.2,wq1,vB,qd.1,tN,rH,wK,Nat.lt_succ_self _,by simp[QC,Em,C6,AA]⟩)⟩ ?_;rintro k tm S ⟨t0,t4,t14,t16,t122,t123,t17,t18,t19,t20,hQ⟩;unfold Tc at hQ;obtain⟨rch,q,wq,hR,mr,qN,tO,wL,wM,rfl⟩:=hQ;unfold QC Em mI m2;cases q with
      |nil=>
       refine xS (xW fun K hK=>?_);simp[t19];apply hK;refine AU ?_;simp;refine Cu ?_;have gz:=QI rch (i:Int);refine BX fun K hK=>?_;refine xJ ?_;simp[t16,t17,t18];refine xF (gz) [7] rfl ?_;simp[mI];refine xJ ?_;simp;refine Aj (hK _ _ ?_);refine xV fun K hK=>?_;simp[t123];apply hK;refine⟨cx,_,_,AJ.drop 7 (by simp) (by simp) (by simp),?_⟩;simp[clean,t0,t4,t14,t16,t122,AQ cx a4];exact⟨CU out i (EN rch i),lV.put _ (mr.at _),sL.CU _ _,nM.put hR,rfl⟩
      |cons x q=>
       have wN:=qN (by simp);subst wN;refine xS (xW fun K hK=>?_);simp[t19];apply hK;refine AU ?_;simp;refine xK ?_;refine Bw ?_;refine xW fun K hK=>?_;simp[t19];apply hK;refine Az fun K hK=>?_;(repeat(refine B7 ?_ ?_;(·simp[t19]);simp[t19]));refine AS.OL 9 (q.length+1) 1 ((x::q).map fun x=>.d (.int .i64 x)) 1 (q.length+1) rfl (by simp;omega) ?_;simp;refine xJ ?_;simp[t19];refine Aj (hK _ _ ?_);refine AW.ghost (AJ.Cy [0,1,2,3,4,5,6,7,8,11,10] (S0:=QC g ps m st nl out++[mI rch,.row true 1 [.map 7],.row true 1 (q.map fun x=>.d (.int .i64 x)),.row true 1 [.row 9 q.length]]) ?_ ?_ ?_) ?_
       ·simp[QC,Em,List.take_of_length_le]
       ·simp
       ·rfl
       generalize j9:pick _ _=tmr;have r0:tmr 0=.ptr 0 1 0 0:=by rw[←j9];simp[pick,t0];try decide
       have r4:tmr 4=.ptr 3 1 0 0:=by rw[←j9];simp[pick,t4];try decide
       have r14:tmr 14=.ptr 5 1 0 0:=by rw[←j9];simp[pick,t14];try decide
       have r16:tmr 16=.map 6:=by rw[←j9];simp[pick,t16];try decide
       have r122:tmr 122=.d (.int .i64 g.BC.length):=by rw[←j9];simp[pick,t122]
       have r123:tmr 123=.d (.int .i64 i):=by rw[←j9];simp[pick,t123]
       have r17:tmr 17=.d (.int .i64 i):=by rw[←j9];simp[pick,t17]
       have r18:tmr 18=.ptr 8 1 0 0:=by rw[←j9];simp[pick,t18];try decide
       have r19:tmr 19=.ptr 10 1 0 0:=by rw[←j9];simp[pick,t19];try decide
       have r20:tmr 20=.fn (.func 116) [] [.ptr 5 1 0 0,.ptr 8 1 0 0,.ptr 3 1 0 0,.ptr 10 1 0 0]:=by rw[←j9];simp[pick,t20];try decide
       have r21:tmr 21=.d (.int .i64 x):=by rw[←j9];simp[pick]
       obtain⟨dd,tP⟩:=Option.isSome_iff_exists.1 (tO x (by simp));have qf:D9 n dd:=mr _ (F3 tP);simp only[List.length_cons]at wL wM;obtain⟨wq2,nr,wO,gx⟩:=Lm hn nl st gn.ok rch mr true q x dd qf ks (mq x) (by omega);have pd:=HH hn gn.ok (fr:=x) qf (ks:=ks) ((look nl x).getD []) (s:=(rch,q)) (mq x) mr;have rI:=HE st x dd ((look nl x).getD []) (s:=(rch,q)) (fun y hy=>tO y (by simp[hy]));have vC:=ABt hn gn.ok (fr:=x) qf (ks:=ks) ((look nl x).getD []) (s:=(rch,q)) (mq x) mr;have wP:dd=EN rch x:=by unfold EN;rw[tP];rfl
       obtain⟨Z,hZ⟩:∃Z,Z=visitM st x dd ((look nl x).getD []) (rch,q):=⟨_,rfl⟩;rw[←hZ]at gx nr pd rI vC;obtain⟨v1,v2,v3⟩:=pd;simp only at v2 v3;have tQ:=wO rfl;subst tQ;simp only[Sp]at gx;unfold QC Em mI m2;refine xW fun K hK=>?_;simp[r21,r17];apply hK;refine AU ?_;simp;refine⟨fun tR=>?_,fun tS=>?_⟩
       ·refine BX fun K hK=>?_;refine xJ ?_;simp[r20,r21,r18,tP,vT];refine xF (gx) [5,8,3,10,4,7,2,9] rfl ?_;simp;refine xJ ?_;simp;refine Aj (hK _ _ ?_);refine⟨k - 1,by omega,_,_,AJ.refl,by simp[r0],by simp[r4],by simp[r14],by simp[r16],by simp[r122],by simp[r123],by simp[r17],by simp[r18],by simp[r19],by simp[r20],(by unfold Tc;exact⟨Z.1,Z.2,true,hR.visit (by simpa using tR) (fun y c hs=>sK c x y hs) (wP▸vC),v1,fun _=>rfl,rI,by omega,by omega,by simp[QC,Em]⟩)⟩
       ·refine CC ?_;refine⟨k - 1,by omega,_,_,AJ.refl,by simp[r0],by simp[r4],by simp[r14],by simp[r16],by simp[r122],by simp[r123],by simp[r17],by simp[r18],by simp[r19],by simp[r20],(by unfold Tc;exact⟨rch,q,true,(by have e:x=(i:Int):=(by simpa using tS);rw[e]at hR;exact hR.pass),mr,fun _=>rfl,fun y hy=>tO y (by simp[hy]),by omega,by omega,by simp[QC,Em]⟩)⟩
   ·have iD:i=g.BC.length:=by omega
    subst iD;refine Cu ?_;refine xW fun K hK=>?_;simp[t16];apply hK;refine Ag ?_;(try simp only[xQ,reduceIte]);refine⟨_,_,AJ.Cy [0,6] (S0:=[.row true 10 [.d (C6 g ps)],.map (BO (D.int .i64) vT out)]) ?_ ?_ ?_,?_,_,_,⟨out,lV,by simpa using(nM.found sL lV).trans (AEU (wI▸gn)),rfl,rfl⟩,.inr ⟨?_,rfl⟩⟩
    ·simp
    ·simp
    ·rfl
    ·simp;try decide
    ·simp[pick];try decide
open Go.Proofs Tryz DT
def fX(g:AF)(ps:List DT)(X:Prop)(ch:Bool)(T:Sg)(S':Sg):Prop:=∃c':Bool,(c'=true↔ch=true∨X)∧S'=[Em g ps,.row true 1 [.d (.bool c')]]++T
def gU(n:Nat)(g:AF)(ps:List DT)(ch:Bool)(v:V)(S':Sg):Prop:=v=.Bd []∧fX g ps (ADs n g ps) ch [] S'
def ABu(out:List (Int×DT))(vis:List Nat):Prop:=∃j∈vis,∃hj:j<out.length,out[j].2≠.leaf false
theorem ABu.add{out:List (Int×DT)}{vis:List Nat}{i:Nat}{a:Int}{t:DT}(hi:i<out.length)(h:out[i]=(a,t)):ABu out (vis++[i])↔ABu out vis∨t≠.leaf false:=by
 constructor
 ·rintro⟨j,hj,hl,dI⟩;rcases List.mem_append.1 hj with hj|hj
  ·exact .inl ⟨j,hj,hl,dI⟩
  ·simp only[List.mem_singleton]at hj;subst hj;rw[h]at dI;exact .inr dI
 ·rintro(⟨j,hj,hl,dI⟩|dI)
  ·exact⟨j,List.mem_append_left _ hj,hl,dI⟩
  ·exact⟨i,List.mem_append_right _ (by simp),hi,by rw[h];exact dI⟩
theorem ABu.all{out:List (Int×DT)}{vis:List Nat}(h:∀i,i<out.length→i∈vis):ABu out vis↔∃q∈out,q.2≠.leaf false:=by
 constructor
 ·rintro⟨j,_,hl,dI⟩;exact⟨_,List.getElem_mem hl,dI⟩
 ·rintro⟨q,hq,dI⟩;obtain⟨j,hj,rfl⟩:=List.mem_iff_getElem.1 hq;exact⟨j,h j hj,hj,dI⟩
theorem P1{n:Nat}(hn:n≤12)(g:AF)(ps:List DT)(hlen:ps.length=g.AD.length)(kZ:∀t∈ps,D9 n t)(k8:D9 n (tr g.fam))(iI:Valid g.fam)(l9:Fits g)(ch:Bool):
  At prog 31 [.ptr 0 1 0 0,.ptr 1 1 0 0] [Em g ps,.row true 1 [.d (.bool ch)]] (gU n g ps ch):=by
 refine At.AI func31 (by kernel_rfl) rfl (by simp) fun wf wfs=>?_;rw[ntmps31];refine AW.RK 2 7 ?_ ⟨rfl,rfl,rfl,?_⟩ ⟨rfl,rfl,rfl,?_⟩ fun K hK=>?_
 ·simp
 ·simp
 ·simp
 refine Er.op ?_ ?_
 ·simp
 simp;refine Er.Cf (Q8 hn g ps hlen kZ k8 iI l9) [0] rfl ?_ ?_ ?_
 ·simp[Em]
 ·rintro v S0' ⟨out,_,_,rfl,rfl⟩;simp
 rintro v S0' ⟨out,lV,tT,rfl,rfl⟩;have tU:=tT;simp[Em];refine Er.range (es:=BO (D.int .i64) vT out) rfl ?_ fun it=>?_
 ·simp
 refine hK (BO (D.int .i64) vT out) (fun it vis tm S=>tm 1=.ptr 1 1 0 0∧tm 7=.d (.raw (.pointer (some ⟨it,0,none⟩)))∧fX g ps (ABu out vis) ch [mI out] S) it _ _ ?_ ⟨?_,?_,?_⟩
 ·simp[EJ];exact⟨ch,by simp[ABu],rfl⟩
 ·rintro it vis tm S ⟨_,q7,c',_,rfl⟩;exact⟨rfl,q7⟩
 ·rintro it vis tm S i hi ⟨q1,q7,c',nN,rfl⟩ nq;have iD:i<out.length:=by simpa[BO]using hi
  obtain⟨a,t,mj⟩:∃a t,out[i]=(a,t):=⟨_,_,rfl⟩;have iB:(BO (D.int .i64) vT out)[i]=(.int .i64 a,vT t):=by simp[BO,mj]
  have jg:(B2 t).root=0↔t=.leaf false:=Jw (lV (a,t) (by rw[←mj];exact List.getElem_mem iD)).GM;have qH:=ABu.add (vis:=vis) iD mj;unfold Em mI;simp[iB,vT];refine xJ ?_;simp;refine Aj ?_;simp[q7];refine xJ ?_;simp;refine Aj ?_;refine BX fun K hK=>?_;refine xJ ?_;simp[q1];cases c' with
  |true=>
   refine xJ ?_;simp;refine Aj (hK _ _ ?_);refine⟨_,_,AJ.drop 3 (by simp) (by simp) (by simp),by simp[clean,q1],by simp[clean,q7],?_⟩;exact⟨true,by rw[qH,←or_assoc,←nN];simp,by simp[Em]⟩
  |false=>
   refine xJ ?_;simp;refine Aj (hK _ _ ?_);refine⟨_,_,AJ.drop 3 (by simp) (by simp) (by simp),by simp[clean,q1],by simp[clean,q7],?_⟩;exact⟨((B2 t).root !=0),by rw[qH,←or_assoc,←nN];simp[jg],by simp[Em]⟩
 ·rintro it vis tm S ⟨q1,q7,c',nN,rfl⟩ gg;refine xJ ?_;simp;refine Aj ⟨by simp,?_⟩;refine⟨_,_,AJ.AY 2 rfl (by simp) (by simp) (by simp[Em]),by simp,.Bd [],_,⟨rfl,c',by rw[nN,ABu.all (fun i hi=>gg i (by simpa[BO]using hi)),tU],rfl⟩,.inr ⟨by simp,rfl⟩⟩
end Go.Koi
