/-
  Part 18 of the proof that the law ChangeRestricts returns true for every input.
-/
import Derived.Test.YtbpjppgjnkklnaaGreatDoorG16
import Derived.Shelf.SlicesG.Cmp
import Derived.Shelf.SlGeneric
import Derived.Ground.SlsfProg
import Derived.Ground.SlgcProg
import Derived.RangeFuncLeaves
import Derived.RangeFuncSeq
set_option maxHeartbeats 64000000
set_option maxRecDepth 100000
open List renaming length->Z,getD->i5
open Go.IntKind renaming wrap->b8
open Bool renaming true->J,false->ap
open Option renaming some->am,none->bi
open Go.Proofs.Tryz renaming prog->ao
open Go.Proofs.Tryz
open Go renaming World->cR
namespace Go.Proofs
open Go.Shelf Go.RowKit Go.Lib Go.Sort Go.Koi
def sortA_ren:Ren:=⟨fun|6=>131|15=>207|14=>206|28=>262|29=>263|20=>254|21=>255|22=>256|23=>257|24=>258|25=>259|26=>260|27=>261|46=>289|47=>290|48=>291|49=>292|50=>293|57=>300|n=>n, fun|22=>68|24=>128|25=>218|3=>3|39=>228|0=>0|53=>340|55=>42|4=>4|46=>334|45=>333|50=>199|5=>5|9=>9|66=>366|70=>370|76=>377|77=>94|n=>n, fun|n=>n⟩
theorem sortA:SlLaysF0.n6 prog sortA_ren:={mixed:=by kernel_rfl,f6:=⟨f131.name,by decide,func131.trans (congrArg some (by kernel_rfl))⟩,f14:=⟨f206.name,by decide,func206.trans (congrArg some (by kernel_rfl))⟩,f15:=func207.trans (congrArg some (by kernel_rfl)),f20:=⟨f254.name,by decide,func254.trans (congrArg some (by kernel_rfl))⟩,f21:=⟨f255.name,by decide,func255.trans (congrArg some (by kernel_rfl))⟩,f22:=⟨f256.name,by decide,func256.trans (congrArg some (by kernel_rfl))⟩,f23:=⟨f257.name,by decide,func257.trans (congrArg some (by kernel_rfl))⟩,f24:=⟨f258.name,by decide,func258.trans (congrArg some (by kernel_rfl))⟩,f25:=⟨f259.name,by decide,func259.trans (congrArg some (by kernel_rfl))⟩,f26:=⟨f260.name,by decide,func260.trans (congrArg some (by kernel_rfl))⟩,f27:=⟨f261.name,by decide,func261.trans (congrArg some (by kernel_rfl))⟩,f28:=func262.trans (congrArg some (by kernel_rfl)),f29:=func263.trans (congrArg some (by kernel_rfl)),f46:=⟨f289.name,by decide,func289.trans (congrArg some (by kernel_rfl))⟩,f47:=func290.trans (congrArg some (by kernel_rfl)),f48:=func291.trans (congrArg some (by kernel_rfl)),f49:=⟨f292.name,by decide,func292.trans (congrArg some (by kernel_rfl))⟩,f50:=⟨f293.name,by decide,func293.trans (congrArg some (by kernel_rfl))⟩,f57:=⟨f300.name,by decide,func300.trans (congrArg some (by kernel_rfl))⟩,t0:=underlying0,a0:=isAgg0,z0:=sizeOf0,v0:=zeroValue0,t3:=underlying3,a3:=isAgg3,z3:=sizeOf3,v3:=zeroValue3,t4:=underlying4,a4:=isAgg4,z4:=sizeOf4,v4:=zeroValue4,t5:=underlying5,a5:=isAgg5,z5:=sizeOf5,v5:=zeroValue5,t9:=underlying9,a9:=isAgg9,z9:=sizeOf9,v9:=zeroValue9,t22:=underlying68,a22:=isAgg68,z22:=sizeOf68,v22:=zeroValue68,t25:=underlying218,a25:=isAgg218,z25:=sizeOf218,v25:=zeroValue218,t39:=underlying228,a39:=isAgg228,z39:=sizeOf228,v39:=zeroValue228,t45:=underlying333,a45:=isAgg333,z45:=sizeOf333,v45:=zeroValue333,t46:=underlying334,a46:=isAgg334,z46:=sizeOf334,v46:=zeroValue334,t50:=underlying199,a50:=isAgg199,z50:=sizeOf199,v50:=zeroValue199,t53:=underlying340,a53:=isAgg340,z53:=sizeOf340,v53:=zeroValue340,t55:=underlying42,a55:=isAgg42,z55:=sizeOf42,v55:=zeroValue42,t66:=underlying366,a66:=isAgg366,z66:=sizeOf366,v66:=zeroValue366,t70:=underlying370,a70:=isAgg370,z70:=sizeOf370,v70:=zeroValue370,t76:=underlying377,a76:=isAgg377,z76:=sizeOf377,v76:=zeroValue377,t77:=underlying94,a77:=isAgg94,z77:=sizeOf94,v77:=zeroValue94}
def cmpA_ren:Ren:=⟨fun|5=>133|7=>208|n=>n, fun|22=>3|3=>3|4=>4|n=>n, fun|n=>n⟩
theorem cmpA:SlLaysC2.n5 prog cmpA_ren:={mixed:=by kernel_rfl,f5:=⟨f133.name,by decide,func133.trans (congrArg some (by kernel_rfl))⟩,f7:=⟨f208.name,by decide,func208.trans (congrArg some (by kernel_rfl))⟩,t3:=underlying3,a3:=isAgg3,z3:=sizeOf3,v3:=zeroValue3,t4:=underlying4,a4:=isAgg4,z4:=sizeOf4,v4:=zeroValue4,t22:=underlying3,a22:=isAgg3,z22:=sizeOf3,v22:=zeroValue3}
theorem Us(x y:WA)(W:World):Calls prog 132 #[.agg (EZ x).toArray,.agg (EZ y).toArray] W fun e w'=>e=.returned (.int .i64 (Wu x y))∧∃q os',w'=Go.Sort.grow (W.drewN q) os':=by
 have hcon:=fun W'=>AnyG.cmp_Compare_int cmpA x.1.fr y.1.fr W';change ∀W',Calls prog 133 _ _ _ at hcon;unfold Wu;generalize Lib.compareInt x.1.fr y.1.fr=r at hcon⊢;show Calls prog 132 #[.agg #[.int .i64 x.1.fr,.int .i64 x.1.to,.int .i64 x.1.pq,.bool x.1.first,.slice x.2.1 x.2.2.1 x.2.2.2],.agg #[.int .i64 y.1.fr,.int .i64 y.1.to,.int .i64 y.1.pq,.bool y.1.first,.slice y.2.1 y.2.2.1 y.2.2.2]] W _
 go_enter func132,ntmps132;go_wp2_with (go_at_call 133;refine(hcon _).mono ?_;rintro e w' ⟨rfl,rfl⟩);go_ret;exact⟨rfl,0,_,by rw[alloc_eq_grow,alloc_eq_grow,grow_grow];rfl⟩
theorem oG:Mu ao 131=true:=by simp only[Mu,func131];kernel_rfl
theorem ic(ws:List Wd)(h:Z ws<=2 ^ 30):BH ao 131 [.row 0 (Z ws),.fn (.func 132) [] []] [.row J 5 (ws.map λx=>.d (Cb x))] λv i=>v=.CX []/\∃g:List Wd,g.Perm ws/\g.Pairwise (λa b=>a.fr<=b.fr)/\i=[.row J 5 (g.map λx=>.d (Cb x))]:=
 ZI sortA Tryz.isAgg128 Tryz.sizeOf128 132 (enters_of func132 rfl rfl) Us oG ws h
end Go.Proofs
namespace Go.Koi
open Go renaming World->cR,maxLen->a8
open Go.Proofs Tryz DT
theorem iF:Pure ao 207 [.int .u64 0] (encI 0):=by
 refine⟨by simp only[Mu,func207];kernel_rfl,λG w g R j m=>?_⟩;have h:=Any.bits_Len (SlLaysF0.n15.bits (P:=prog) (ρ:=sortA_ren) {sortA with}) 0 w (by omega) (by omega);have h0:=m 0 (by simp) (by simp[j]);have o:g=#[g[0]'(by simp[j])]:=by
  apply adR
  .simp[j]
  .intro i u k;have:i=0:=by simp at k;exact k
   subst this;simp
 rw[o];generalize g[0]'(by simp[j])=c0 at h0;simp at h0;cases h0 with
 |d _ _ q=>
  cases q;refine Calls.mono (show Calls ao 207 _ _ _ from h) ?_;rintro e v ⟨rfl,rfl⟩;exact⟨_,G,rfl,.d _ _ (.int _ _ (by decide)),R,tv _ _ _,aer _ _ _⟩
def Qi:Sg:=[.row false 5 []]
theorem jG:AG ao 254 [.row 0 0,.d (encI 0),.d (encI 0),.fn (.func 132) [] []] Qi (.CX []) Qi:=by
 have g:b8 .i64 1=1:=by decide
 refine zC func254 53 rfl λwf _=>?_;unfold Qi;apply yW;simp[g];apply Bo;refine aes (λm tm S=>tm 8=.d (encI 1)/\tm 2=.d (encI 0)/\S=[.row false 5 []]) ⟨0,_,_,a9,by simp,by simp,by simp⟩ ?_;rintro m tm S ⟨t8,t2,rfl⟩;refine xS (yW ?_);simp[t8,t2];apply AP;simp;apply Ci;refine⟨_,a9,?_⟩;simp[Aq]
theorem jE:AG ao 206 [.row 0 0,.d (encI 0),.d (encI 0),.d (encI 0),.fn (.func 132) [] []] Qi (.CX []) Qi:=by
 have g:b8 .i64 0=0:=by decide
 have hi:=jG;refine zC func206 148 rfl λwf _=>?_;unfold Qi at hi⊢;apply yW;simp;apply yW;simp;apply Bo;refine aes (λm tm S=>tm 0=.row 0 0/\tm 1=.d (encI 0)/\tm 2=.d (encI 0)/\tm 4=.fn (.func 132) [] []/\S=[.row false 5 []]) ⟨0,_,_,a9,by simp,by simp,by simp,by simp,by simp⟩ ?_;rintro m tm S ⟨t0,t1,t2,t4,rfl⟩;apply Bo;apply yW;simp[t1,t2,g];refine xS (yW ?_);simp;apply AP;simp;(repeat apply xS);apply yT;apply yJ;simp[t0,t1,t2,t4];refine xF (hi) [0] rfl ?_;simp;apply BY;(apply Aj;refine⟨_,a9,?_⟩;simp[Aq])
theorem Zf:AG ao 131 [.row 0 0,.fn (.func 132) [] []] Qi (.CX []) Qi:=by
 have g:=jE;have h:b8 .u64 0=0:=by decide
 refine zC func131 14 rfl λwf _=>?_;unfold Qi at g⊢;apply yW;simp;apply yT;apply yJ;simp[h];refine Bq (iF) rfl (by simp) (yJ ?_);simp;refine xF (g) [0] rfl ?_;simp;apply BY;refine⟨_,a9,?_⟩;simp[Aq]
open Go.RowKit
abbrev y4:=@wpIn_mono
abbrev acD:=@World.putObj_heap_other
section
variable {P:Program} {n b l m:Nat} {tm:Tm} {S:Sg} {Q:Exit->Tm->Sg->Prop}
theorem Rel.quiet{G:Gh}{w w':cR}(R:Rel P G S w)(g:w.heap.size<=w'.heap.size)(i:∀k,k<w.heap.size->(Own G S k\/G.I k)->w'.heap[k]?=w.heap[k]?):Rel P G S w'/\BA G S w G S w':=by
 have L:BA G S w G S w':=⟨λ_ h=>h,λk h=>i k (R.JH k h) (.inr h),c9 _,λr _ n h=>⟨n,h,c9 _,λ_=>⟨rfl,rfl,rfl,.inl rfl⟩⟩,λr _ h=>⟨h,rfl⟩⟩;exact⟨⟨R.Gl.later L,λr o h=>(R.Da r o h).later L (λj=>i _ (R.IJ _ ⟨r,o,h,j,rfl⟩) (.inl ⟨r,o,h,j,rfl⟩)) rfl rfl rfl,R.inj,R.nI,λk h=>su (R.JH k h) g,λk h=>su (R.IJ k h) g⟩,L⟩
theorem EL.le{G:Gh}{g:Gh}{S':Sg}{c:Nat}(h:EL c G S g S')(hb:b<=c):EL b G S g S':=
 ⟨ms hb h.len,λr i=>h.row r (by omega),λr i=>h.map r (by omega)⟩
def E6(P:Program)(l n b:Nat)(c:Code)(Q:Exit->Tm->Sg->Prop)(tm:Tm)(S:Sg):Prop:=
 ∀G w a,St P n G S w a tm->b<=Z S->c.wpIn (fR (am l)) 1 P (QO P n b Q G S w a.defers) a w
theorem E6.skip(h:Q .normal tm S):E6 P l n b .skip Q tm S:=λ_ _ _ st hb=>wpIn_skip ⟨_,_,_,.refl st hb,h⟩
theorem E6.ret(h:Q .ret tm S):E6 P l n b .ret Q tm S:=λ_ _ _ st hb=>wpIn_ret ⟨_,_,_,.refl st hb,h⟩
theorem E6.seq{x y:Code}(h:E6 P l n b x (B5 (E6 P l n b y Q) Q) tm S):E6 P l n b (.seq x y) Q tm S:=by
 intro G w a st hb;refine wpIn_seq (y4 (h G w a st hb) ?_);intro e q u i;obtain⟨k,v,j,g,o⟩:=i;cases e with
 |normal=>
  have:=o k u q g.st g.late.len;rw[g.ds]at this;exact y4 this λ_ _ _ i=>i.trans g.tr g.late
 |_=>exact⟨k,v,j,g,o⟩
abbrev zu:=@E6.seq
theorem E6.ghost{c:Code}{i:Tm}{S':Sg}(g:AI P n b tm S i S')(h:E6 P l n b c Q i S'):E6 P l n b c Q tm S:=by
 intro G w a st hb;obtain⟨o,j,t,k⟩:=g G w a st hb;exact y4 (h o w a j k.len) λ_ _ _ q=>q.trans t k
theorem E6.BF{c:Operand}{x y:Code}{t:Bool}(i:ev tm c=.d (.bool t))(j:t=J->E6 P l n b x Q tm S)(k:t=false->E6 P l n b y Q tm S):E6 P l n b (.cond c x y) Q tm S:=by
 intro G w a st g;have o:a.eval c=.bool t:=by
  have:=BS st c;rw[i]at this;generalize a.eval c=x at this;cases this with|d _ _ h=>cases h;rfl
 exact wpIn_cond_split o (λhb=>j hb G w a st g) (λhb=>k hb G w a st g)
theorem E6.cond{c:Operand}{x y:Code}(h:match ev tm c with|.d (.bool t)=>(t=J->E6 P l n b x Q tm S)/\(t=false->E6 P l n b y Q tm S)|_=>False):E6 P l n b (.cond c x y) Q tm S:=by
 split at h
 .rename_i t g;exact E6.BF g h.1 h.2
 .exact h.elim
theorem E6.bF{id:Nat}{ops:Array Oper}(g:∀(i:Nat) o c,ops[i]?=am o->o.op≠.defer c)(j:∀tm S,¬Q .outgrown tm S)(h:∀K:Tm->Sg->Prop,(∀tm S,Q .normal tm S->K tm S)->AS P n b ops ops.toList tm S K):E6 P l n b (.region id ops false) Q tm S:=
 λ_ _ _ st hb=>(h _ λ_ _ h=>h).oM g st hb (λ_ _ k=>k) λ⟨_,_,_,_,_,_,h⟩=>j _ _ h
theorem E6.mono{c:Code}{j:Exit->Tm->Sg->Prop}(h:E6 P l n b c Q tm S)(o:∀k tm S,Q k tm S->j k tm S):E6 P l n b c j tm S:=
 λG w a st hb=>y4 (h G w a st hb) λ_ _ _ q=>let⟨u,v,g,A,i⟩:=q;⟨u,v,g,A,o _ _ _ i⟩
structure T5(W W':cR):Prop where
 size:W.heap.size<=W'.heap.size
 DB:∀k,k<W.heap.size->W'.heap[k]?=W.heap[k]?
 os:W'.os=W.os
 out:W'.output=W.output
def XS(P:Program)(gf:FuncId)(j:Array Value)(xs:List Int)(Rd:cR->cR->Prop):Prop:=
 ∀(l:Nat) (g:Nat->cR->Prop) (i:cR),(∀m W,g m W->Rd i W)->(∀m W h,g m W->T5 W h->g m h)->(∀m x W,xs[m]?=am x->g m W->YieldAt Fence.wide 1 P l #[.int .i64 x] W λe h=>e=.returned (.bool J)/\g (m+1) h)->g 0 i->CallsIn Fence.wide 2 P gf (#[.func (.yield l) #[] #[]]++j) i λe h=>(∃v,e=.returned v)/\g (Z xs) h
def ni(P:Program)(caps:List V)(I:Nat->Sg->Prop)(g:Array Value)(j W:cR):Prop:=
 (∃G S,Rel P G S j/\I 0 S/\g.size=Z caps/\(∀i (h:i<Z caps) (k:i<g.size),CV G S j caps[i] g[i])/\∀b,G.I b->W.heap[b]?=j.heap[b]?)/\∃G S m,Rel P G S W/\I m S/\g.size=Z caps/\∀i (h:i<Z caps) (k:i<g.size),CV G S W caps[i] g[i]
def yC(D:Nat):Deferred:={target:=.collected D,args:=#[]}
theorem ZK{g:Operand}{p:Tmp}{assign body:Code}{gf:FuncId}{caps:List V}{xs:List Int}(hp:p<n)(hg:ev tm g=.fn (.func gf) [] caps)(eg:∀args w,(callFunc gf args).run P w=.ok (.enter gf args) w)
  (I:Nat→Sg→Prop) (h0:I 0 S) (hx:∀x∈xs,GZ .i64 x=true) (hit:∀lb,XS P gf lb xs (ni P caps I lb))
  (hbody:∀l m x S1,xs[m]?=some x→I m S1→E6 P l n S1.length assign (fun ex tm1 S1'=>ex=.normal∧S1'=S1∧E6 P l n S1.length body (fun ex _ S2=>ex=.normal∧I (m+1) S2) tm1 S1) (put tm (some p) (.d (.int .i64 x))) S1)
  {G:Gh} {w:World} {a:Act} (st:St P n G S w a tm) (hb:b≤S.length):
  (Code.rangeFunc g #[p] assign body).wpIn Fence.wide 3 P (fun ex a' w'=>ex=.normal∧∃G' S' D,a'={a with defers:=yC D::a.defers}∧St P n G' S' w' a' tm∧Tr G S w G' S' w'∧EL b G S G' S'∧I xs.length S'∧¬Own G' S' D∧¬G'.I D∧w'.heap[D]?=some (.deferred (some []))∧w.heap.size≤D) a w:=by
 refine wpIn_rangeFunc ?_;intro fn hfn;obtain⟨rec,hrec⟩:∃rec:LoopState→Option Code→Loop,rec=fun st pe=>{state:=st,pending:=pe,fn,tmps:=a.tmps,params:=#[p],assign,body,defers:=w.heap.size}:=⟨_,rfl⟩;obtain⟨W1,hW1⟩:∃W1,(w.alloc (.deferred (some []))).alloc (.loop (rec .ready none))=W1:=⟨_,rfl⟩;obtain⟨D,hD⟩:∃D,w.heap.size=D:=⟨_,rfl⟩;have hL1:W1.heap[D+1]?=some (.loop (rec .ready none)):=by
  rw[←hW1,←hD];have:=World.alloc_heap_new (w.alloc (.deferred (some []))) (.loop (rec .ready none));rwa [World.size_alloc]at this
 have hK1:W1.heap[D]?=some (.deferred (some [])):=by
  rw[←hW1,←hD];exact(Below.heap_alloc _ _ _ (by simp)).trans (World.alloc_heap_new w _)
 have hs1:W1.heap.size=D+2:=by rw[←hW1,←hD];simp
 have hold:∀k,k<w.heap.size→W1.heap[k]?=w.heap[k]?:=fun k hk=>by
  rw[←hW1];exact(Below.heap_alloc _ _ _ (by simp;omega)).trans (Below.heap_alloc w _ _ hk)
 have hos1:W1.os=w.os:=by rw[←hW1];rfl
 have hout1:W1.output=w.output:=by rw[←hW1];rfl
 obtain⟨R1,L1⟩:=st.rel.quiet (w':=W1) (by omega) (fun k hk _=>hold k hk);have hnoD:∀k,D≤k→k<W1.heap.size→∀G' S' W,Tr G S W1 G' S' W→¬Own G' S' k∧¬G'.I k:=fun k hk hk2 G' S' W t=>by
  have n1:¬Own G S k:=fun h=>by have:=st.rel.IJ k h;omega
  have n2:¬G.I k:=fun h=>by have:=st.rel.JH k h;omega
  exact⟨fun h=>(t.own k h).elim n1 (fun h=>by omega),fun h=>(t.im k h).elim n2 (fun h=>h.elim n1 (fun h=>by omega))⟩
 let J:Nat→World→Prop:=fun m W=>∃G' S',Rel P G' S' W∧ma G' S' W a.tmps tm∧Tr G S W1 G' S' W∧EL b G S G' S'∧I m S';have hev:=BS st g;rw[hg]at hev;generalize hfv:a.eval g=fv at hev;cases hev with
 |fn _ _ _ xs0 lb e1 e2 _ e4=>
 have hx0:xs0=#[]:=Array.eq_empty_of_size_eq_zero (by simpa using e1);subst hx0;refine⟨D+1,[yC D],W1,{target:=.fn (.func gf) lb,args:=#[.func (.yield (D+1)) #[] #[]]},W1,gf,#[.func (.yield (D+1)) #[] #[]]++lb,W1,?_,?_,?_,?_,fun _=>by omega,?_⟩
 ·rw[←hW1,hrec,←hD];exact run_enterLoop_outer _ _ _ _ _
 ·simp only[resolve,hfv];simp[go_sem]
 ·intro f' hf';exact trivial
 ·simp[invoke,go_sem,eg]
 ·have hJ0:J 0 W1:=⟨G,S,R1,st.tm.later L1,Tr.refl _ _ _,EL.refl hb,h0⟩;refine(hit lb (D+1) J W1 ?_ ?_ ?_ hJ0).mono ?_
  ·rintro m W ⟨G',S',R',T',t,_,hi⟩;refine⟨⟨G,S,R1,h0,e2,fun i h h'=>?_,fun k hk=>t.DB k (R1.JH k hk) fun ho=>R1.nI k ho hk⟩,G',S',m,R',hi,e2,fun i h h'=>?_⟩
   ·have h6:=BS (P:=P) (n:=n) (a:=a) (tm:=tm) ⟨st.size,st.tm.later L1,R1⟩ g;rw[hg,hfv]at h6;cases h6 with|fn _ _ _ _ _ _ _ _ h7=>exact h7 i h
   ·have h6:=BS (P:=P) (n:=n) (a:=a) (tm:=tm) ⟨st.size,T',R'⟩ g;rw[hg,hfv]at h6;cases h6 with|fn _ _ _ _ _ _ _ _ h7=>exact h7 i h
  ·rintro m W W' ⟨G',S',R',T',t,la,hi⟩ gw;obtain⟨R2,L2⟩:=R'.quiet (w':=W') gw.size (fun k hk _=>gw.DB k hk);exact⟨G',S',R2,T'.later L2,⟨by have:=t.size;have:=gw.size;omega,t.I,fun k hk hn=>(gw.DB k (by have:=t.size;omega)).trans (t.DB k hk hn),t.own,t.im,gw.os.trans t.os,gw.out.trans t.out⟩,la,hi⟩
  ·
   rintro m x W hxm ⟨G',S',R',T',t,la,hi⟩;obtain⟨nl1,nl2⟩:=hnoD (D+1) (by omega) (by omega) G' S' W t;have nS:∀k,Own G S k→k<D:=fun k h=>by have:=st.rel.IJ k h;omega
   have hl:W.heap[D+1]?=some (.loop (rec .ready none)):=(t.DB (D+1) (by omega) (fun h=>by have:=nS _ h;omega)).trans hL1;have zg:D+1<W.heap.size:=(Array.getElem?_eq_some_iff.1 hl).1;have hy:(Instr.yield (D+1) #[.int .i64 x]).run P W=.ok (.round (D+1) fn (a.tmps.setIfInBounds p (.int .i64 x)) assign body) W:=by
    have:=run_yield (P:=P) (args:=#[.int .i64 x]) hl (by rw[hrec];rfl);rw[hrec]at this;rw[this];simp
   have hxr:GZ .i64 x=true:=hx x (List.mem_of_getElem? hxm);have stA:St P n G' S' W {tmps:=a.tmps.setIfInBounds p (.int .i64 x),defers:=[]} (put tm (some p) (.d (.int .i64 x))):=by
    have h7:=ma.put (a:={tmps:=a.tmps,defers:=[]}) (d:=some p) (v:=.d (.int .i64 x)) (cv:=.int .i64 x) T' st.size hp (.d _ _ (.int _ _ hxr));exact⟨by simp[st.size],by simpa[Act.put]using h7,R'⟩
   refine⟨fn,_,assign,body,hy,roundIn_of_wpIn trivial ?_⟩;refine wpIn_mono (hbody (D+1) m x S' hxm hi G' W {tmps:=a.tmps.setIfInBounds p (.int .i64 x),defers:=[]} stA (Nat.le_refl _)) ?_;rintro ex a1 Wa ⟨Ga,Sa,tma,ca,rfl,eSa,hbd⟩;subst eSa;have hla:Wa.heap[D+1]?=some (.loop (rec .ready none)):=(ca.tr.DB (D+1) zg nl1).trans hl;have hlta:D+1<Wa.heap.size:=(Array.getElem?_eq_some_iff.1 hla).1;refine⟨_,run_beginRound hla (by rw[hrec]),?_⟩;have nla1:¬Own Ga Sa (D+1):=fun h=>(ca.tr.own _ h).elim nl1 (fun h=>by omega);have nla2:¬Ga.I (D+1):=fun h=>(ca.tr.im _ h).elim nl2 (fun h=>h.elim nl1 (fun h=>by omega));obtain⟨Wb,hWb⟩:∃Wb,Wa.putObj (D+1) (.loop {rec .ready none with state:=.busy})=Wb:=⟨_,rfl⟩;rw[hWb];have hsb:Wb.heap.size=Wa.heap.size:=by rw[←hWb];simp
   have zq:∀k,k≠D+1→Wb.heap[k]?=Wa.heap[k]?:=fun k hk=>by rw[←hWb];exact World.putObj_heap_other hk
   have hlb:Wb.heap[D+1]?=some (.loop {rec .ready none with state:=.busy}):=by rw[←hWb];exact World.putObj_heap_same hlta
   obtain⟨Rb,Lb⟩:=ca.st.rel.quiet (w':=Wb) (by omega) (fun k _ h=>zq k (fun e=>by subst e;exact h.elim nla1 nla2));have stB:St P n Ga Sa Wb a1 tma:=⟨ca.st.size,ca.st.tm.later Lb,Rb⟩;refine wpIn_mono (hbd Ga Wb a1 stB (Nat.le_refl _)) ?_;rintro ex a3 Wc ⟨Gc,Sc,tmc,cc,rfl,hic⟩;have hltb:D+1<Wb.heap.size:=by omega
   have hlc:Wc.heap[D+1]?=some (.loop {rec .ready none with state:=.busy}):=(cc.tr.DB (D+1) hltb nla1).trans hlb;have hltc:D+1<Wc.heap.size:=(Array.getElem?_eq_some_iff.1 hlc).1;have hend:=run_endRound (P:=P) none hlc;refine⟨_,_,hend,rfl,?_⟩;have hre:({rec .ready none with state:=if(none:Option Code).isNone then .ready else .done,pending:=none}:Loop)=rec .ready none:=by rw[hrec];rfl
   have hre2:({{rec .ready none with state:=.busy}with state:=if(none:Option Code).isNone then .ready else .done,pending:=none}:Loop)=rec .ready none:=by rw[hrec];rfl
   rw[hre2];obtain⟨Wd,hWd⟩:∃Wd,Wc.putObj (D+1) (.loop (rec .ready none))=Wd:=⟨_,rfl⟩;rw[hWd];have hsd:Wd.heap.size=Wc.heap.size:=by rw[←hWd];simp
   have hod:∀k,k≠D+1→Wd.heap[k]?=Wc.heap[k]?:=fun k hk=>by rw[←hWd];exact World.putObj_heap_other hk
   have hld:Wd.heap[D+1]?=some (.loop (rec .ready none)):=by rw[←hWd];exact World.putObj_heap_same hltc
   have nlc1:¬Own Gc Sc (D+1):=fun h=>(cc.tr.own _ h).elim nla1 (fun h=>by omega);have nlc2:¬Gc.I (D+1):=fun h=>(cc.tr.im _ h).elim nla2 (fun h=>h.elim nla1 (fun h=>by omega));obtain⟨Rd,Ld⟩:=cc.st.rel.quiet (w':=Wd) (by omega) (fun k _ h=>hod k (fun e=>by subst e;exact h.elim nlc1 nlc2));have trAll:∀k,k<W1.heap.size→¬Own G S k→k≠D+1→Wd.heap[k]?=W1.heap[k]?:=fun k hk hn zi=>by
    have o1:¬Own G' Sa k:=fun h=>(t.own k h).elim hn (fun h=>by omega);have z1:=t.size;have o2:¬Own Ga Sa k:=fun h=>(ca.tr.own k h).elim o1 (fun h=>by omega);have z2:=ca.tr.size;rw[hod k zi,cc.tr.DB k (by omega) o2,zq k zi,ca.tr.DB k (by omega) o1,t.DB k hk hn]
   have TT:Tr G S W1 Gc Sc Wd:=by
    have z1:=t.size;have z2:=ca.tr.size;have z3:=cc.tr.size;refine⟨by omega,fun k h=>cc.tr.I k (ca.tr.I k (t.I k h)),fun k hk hn=>?_,fun k h=>?_,fun k h=>?_,?_,?_⟩
    ·by_cases e:k=D+1
     ·subst e;rw[hld,hL1]
     ·exact trAll k hk hn e
    ·rcases cc.tr.own k h with h|h
     ·rcases ca.tr.own k h with h|h
      ·exact t.own k h
      ·exact .inr (by omega)
     ·exact .inr (by omega)
    ·rcases cc.tr.im k h with h|h|h
     ·rcases ca.tr.im k h with h|h|h
      ·exact t.im k h
      ·rcases t.own k h with h|h
       ·exact .inr (.inl h)
       ·exact .inr (.inr h)
      ·exact .inr (.inr (by omega))
     ·rcases ca.tr.own k h with h|h
      ·rcases t.own k h with h|h
       ·exact .inr (.inl h)
       ·exact .inr (.inr h)
      ·exact .inr (.inr (by omega))
     ·exact .inr (.inr (by omega))
    ·rw[←hWd];show Wc.os=_;rw[cc.tr.os,←hWb];show Wa.os=_;rw[ca.tr.os,t.os]
    ·rw[←hWd];show Wc.output=_;rw[cc.tr.out,←hWb];show Wa.output=_;rw[ca.tr.out,t.out]
   have la1:BA G' Sa W Gc Sc Wd:=(((ca.late.later R' ca.tr).trans Lb).trans (cc.late.later Rb cc.tr)).trans Ld;exact⟨Gc,Sc,Rd,T'.later la1,TT,(la.trans (ca.late.le la.len)).trans (cc.late.le la.len),hic⟩
  ·rintro e W2 ⟨⟨v,rfl⟩,G',S',R',T',t,la,hi⟩;have nS:∀k,Own G S k→k<D:=fun k h=>by have:=st.rel.IJ k h;omega
   have hl:W2.heap[D+1]?=some (.loop (rec .ready none)):=(t.DB (D+1) (by omega) (fun h=>by have:=nS _ h;omega)).trans hL1;have hk:W2.heap[D]?=some (.deferred (some [])):=(t.DB D (by omega) (fun h=>by have:=nS _ h;omega)).trans hK1;have zg:D+1<W2.heap.size:=(Array.getElem?_eq_some_iff.1 hl).1;have hend:=run_endLoop (P:=P) hl (by rw[hrec];simp);obtain⟨nl1,nl2⟩:=hnoD (D+1) (by omega) (by omega) G' S' W2 t;obtain⟨nd1,nd2⟩:=hnoD D (by omega) (by omega) G' S' W2 t;obtain⟨W3,hW3⟩:∃W3,W2.putObj (D+1) (.loop {rec .ready none with state:=.exhausted})=W3:=⟨_,rfl⟩;rw[hW3]at hend;have hs3:W3.heap.size=W2.heap.size:=by rw[←hW3];simp
   have ho3:∀k,k≠D+1→W3.heap[k]?=W2.heap[k]?:=fun k hk=>by rw[←hW3];exact World.putObj_heap_other hk
   obtain⟨R3,L3⟩:=R'.quiet (w':=W3) (by omega) (fun k _ h=>ho3 k (fun e=>by subst e;exact h.elim nl1 nl2));have z:=t.size;refine⟨none,W3,by rw[hrec]at hend;exact hend,rfl,G',S',D,rfl,⟨st.size,T'.later L3,R3⟩,⟨by omega,t.I,fun k hk hn=>by rw[ho3 k (by omega),t.DB k (by omega) hn,hold k hk],fun k h=>(t.own k h).imp_right (fun h=>by omega),fun k h=>(t.im k h).imp_right (fun h=>h.imp_right (fun h=>by omega)),?_,?_⟩,la,hi,nd1,nd2,(ho3 D (by omega)).trans hk,by omega⟩
   ·rw[←hW3];show W2.os=_;rw[t.os,hos1]
   ·rw[←hW3];show W2.output=_;rw[t.out,hout1]
def cV(g:Nat)(k:Bool)(G:Gh)(S:Sg)(w:cR)(ds:List Deferred):Prop:=
 match k with
 |false=>ds=[]
 |true=>∃D,ds=[yC D]/\¬Own G S D/\¬G.I D/\w.heap[D]?=am (.deferred (am []))/\g<=D
theorem cV.next{i:Nat}{k:Bool}{G:Gh}{w:cR}{ds:List Deferred}(h:cV i k G S w ds){j:Gh}{S':Sg}{w':cR}(t:Tr G S w j S' w'):cV i k j S' w' ds:=by
 cases k with
 |false=>exact h
 |true=>
  obtain⟨D,q,g,u,o,v⟩:=h;have A:D<w.heap.size:=(abg.1 o).1;exact⟨D,q,λh=>(t.own D h).elim g (λh=>by omega),λh=>(t.im D h).elim u (λh=>h.elim g (λh=>by omega)),(t.DB D A g).trans o,v⟩
def LiftM(P:Program)(n b q:Nat)(Q:Bool->Exit->Tm->Sg->Prop)(G:Gh)(S:Sg)(w:cR):Exit->Act->cR->Prop:=
 λu o j=>∃k i g h,St P n i g j o h/\Tr G S w i g j/\EL b G S i g/\cV q k i g j o.defers/\Q k u h g
def HK(P:Program)(n b g:Nat)(k:Bool)(c:Code)(Q:Bool->Exit->Tm->Sg->Prop)(tm:Tm)(S:Sg):Prop:=
 ∀G w a,St P n G S w a tm->b<=Z S->g<=w.heap.size->cV g k G S w a.defers->c.wpIn Fence.wide 3 P (LiftM P n b g Q G S w) a w
variable {N0:Nat} {k:Bool} {QM:Bool->Exit->Tm->Sg->Prop}
theorem HK.of{c:Code}(h:AW P n b c (QM k) tm S):HK P n b N0 k c QM tm S:=λG w a st hb _ j=>
 wpIn_wide.2 (K2 (h G w a st hb) λ_ _ _ ⟨o,q,i,g,u⟩=>⟨k,o,q,i,g.st,g.tr,g.late,by rw[g.ds];exact j.next g.tr,u⟩)
abbrev Fr:=@HK.of
theorem HK.K8{x y:Code}(h:HK P n b N0 k x (λg=>B5 (HK P n b N0 g y QM) (QM g)) tm S):HK P n b N0 k (.seq x y) QM tm S:=by
 intro G w a st hb o B;refine wpIn_seq (y4 (h G w a st hb o B) ?_);rintro e C E ⟨g,q,F,i,u,t1,l1,v,A⟩;cases e with
 |normal=>
  exact y4 (A q E C u l1.len (ms o t1.size) v) λ_ _ _ ⟨k2,H,K,j,L,t2,l2,m2,M⟩=>⟨k2,H,K,j,L,t1.trans t2,l1.trans l2,m2,M⟩
 |_=>exact⟨g,q,F,i,u,t1,l1,v,A⟩
abbrev v9:=@HK.K8
theorem HK.block{id:Nat}{c:Code}(h:HK P n b N0 k c (λj=>A2 id (QM j)) tm S):HK P n b N0 k (.block id c) QM tm S:=by
 intro G w a st hb A B;refine wpIn_block (y4 (h G w a st hb A B) ?_);rintro e E F ⟨j,o,q,g,u,t1,l1,v,i⟩;cases e with
 |exit C=>
  simp only[Exit.inBlock,A2]at i⊢;split
  .rename_i h;simp only[h,ip]at i;exact⟨j,o,q,g,u,t1,l1,v,i⟩
  .rename_i h;simp only[h,jw]at i;exact⟨j,o,q,g,u,t1,l1,v,i⟩
 |_=>exact⟨j,o,q,g,u,t1,l1,v,i⟩
theorem HK.range{g:Operand}{p:Tmp}{h body:Code}{gf:FuncId}{caps:List V}{xs:List Int}(I:Nat->Sg->Prop)(F:p<n)(H:ev tm g=.fn (.func gf) [] caps)(K:∀args w,(callFunc gf args).run P w=.ok (.enter gf args) w)
  (h0:I 0 S) (L:∀x∈xs,GZ .i64 x=J) (q:∀E,XS P gf E xs (ni P caps I E))
  (i:∀l m x j,xs[m]?=am x->I m j->E6 P l n (Z j) h (λu v A=>u=.normal/\A=j/\E6 P l n (Z j) body (λu _ M=>u=.normal/\I (m+1) M) v j) (put tm (am p) (.d (.int .i64 x))) j)
  (N:∀o,I (Z xs) o->QM J .normal tm o):HK P n b N0 false (.rangeFunc g #[p] h body) QM tm S:=by
 intro G w a st hb X R;refine y4 (ZK F H K I h0 L q i st hb) ?_;rintro e Y w' ⟨rfl,T,o,D,ha,B,t,U,hi,n1,W,hD,hs⟩;have C:a.defers=[]:=R;exact⟨J,T,o,tm,B,t,U,⟨D,by rw[ha,C],n1,W,hD,by omega⟩,N o hi⟩
theorem AG.tG{f:FuncId}{fn:Func}{c:Code}{args:List V}{v:V}{S':Sg}(hf:P.funcs[f]?=am fn)(H:(fn.name== "runtime.NumGoroutine")=false)(hb:fn.body=am c)(hn:Z args<=fn.ntmps)
  (h:∀N0,HK P fn.ntmps (Z S) N0 false c (λ_=>Pm P fn.ntmps (Z S) fn.results.toList λK o=>K=v/\o=S') (ER args) S):AG P f args S v S':=by
 refine⟨by simp[Mu,hf,H,hb],λG w j R zp zl=>?_⟩;refine callsIn_wide.1 (callsIn_of_wp_marks (n:=3) hf hb trivial ?_ rfl);have st:St P fn.ntmps G S w {tmps:=j++Array.replicate (fn.ntmps - j.size) undef,defers:=[]} (ER args):=by
  refine⟨by simp;omega,λk=>?_,R⟩;unfold ER;by_cases U:k<Z args
  .have e1:args.getD k .any=args[k]:=by simp[List.getD,U]
   have e2:(j++Array.replicate (fn.ntmps - j.size) undef).getD k undef=j[k]'(by omega):=by
    rw[rg,abE (by omega)];simp[show k<j.size by omega]
   simp only[e1,e2];exact zl k U (by omega)
  .have e1:args.getD k .any=.any:=by simp[List.getD,pu (show Z args<=k by omega)]
   rw[e1];exact .any _
 refine y4 (h w.heap.size G w _ st (c9 _) (c9 _) rfl) ?_;rintro ex L w' ⟨k,u,S0,M,s1,t1,l1,m1,A⟩;have fin:∀q,St P fn.ntmps u S0 q L M->Tr G S w u S0 q->(∃B C,AI P fn.ntmps (Z S) M S0 B C/\Ix P B C fn.results.toList/\∀G w a,St P fn.ntmps G C w a B->Z S<=Z C->∃u K o,(∀cv,CV G C w (Kg P B C fn.results.toList) cv->CV u o w K cv)/\Rel P u o w/\Tr G C w u o w/\EL (Z S) G C u o/\K=v/\o=S')->∃x,(results fn L.tmps).run P q=.ok x q/\∃cv u,Ending.returned x=.returned cv/\CV u S' q v cv/\Rel P u S' q/\Tr G S w u S' q/\BA G S w u S' q:=by
  intro q st2 tr2 A;obtain⟨B,C,g,h1,h2⟩:=A;obtain⟨G1,W,t1,X⟩:=g u q L st2 l1.len;obtain⟨F,v1,N,v3⟩:=LD W fn.results.toList h1;obtain⟨G2,K,o,g1,g2,g3,g4,rfl,rfl⟩:=h2 G1 q L W X.len;have T:∀(F:List Value) (rs:List V),Z F=Z rs->(∀i (h:i<Z F) (h':i<Z rs),CV G1 C q rs[i] F[i])->CV G1 C q (UC rs) (pack F):=λF rs N v3=>by
   match F,rs with
   |[],[]=>exact .CX _ _ rfl (λi h=>by simp at h)
   |[x],[y]=>exact v3 0 (by simp) (by simp)
   |x::x'::xs,y::y'::ys=>
    refine .CX _ _ (by simpa using N) (λi h=>?_);have:=v3 i (by omega) h;simpa using this
   |[],_::_=>simp at N
   |_::_,[]=>simp at N
   |[_],_::_::_=>simp at N
   |_::_::_,[_]=>simp at N
  have hcv:=T F _ N v3;have tr:=(tr2.trans t1).trans g3;have la:=(l1.trans X).trans g4;exact⟨_,GW v1,_,G2,rfl,g1 _ hcv,g2,tr,la.later R tr⟩
 have out:Pm P fn.ntmps (Z S) fn.results.toList (λK o=>K=v/\o=S') .normal M S0->LeavesInM Fence.wide 3 P fn L.tmps (λe w'=>∃cv u,e=.returned cv/\CV u S' w' v cv/\Rel P u S' w'/\Tr G S w u S' w'/\BA G S w u S' w') L.defers .returning w':=λA=>by
  cases k with
  |false=>
   have e:L.defers=[]:=m1;rw[e];exact fin w' s1 t1 A
  |true=>
   obtain⟨D,e,n1,n2,hD,hN⟩:=m1;rw[e];have zg:D<w'.heap.size:=(abg.1 hD).1;obtain⟨q,E⟩:=ce (w'.putObj D (.deferred bi));have Y:=run_takeDeferred (P:=P) hD;rw[E]at Y;have hs2:q.heap.size=w'.heap.size:=by rw[<-E];simp
   have ho2:∀k,k≠D->q.heap[k]?=w'.heap[k]?:=λk U=>by rw[<-E];exact acD U
   obtain⟨R2,L2⟩:=s1.rel.quiet (w':=q) (by omega) (λk _ h=>ho2 k (λe=>by subst e;exact h.elim n1 n2));refine⟨by simp,.inl ⟨D,q,rfl,Y,?_⟩⟩;refine fin q ⟨s1.size,s1.tm.later L2,R2⟩ ⟨by have:=t1.size;omega,t1.I,λk U hn=>by rw[ho2 k (by omega),t1.DB k U hn],t1.own,t1.im,?_,?_⟩ A
   .rw[<-E];exact t1.os
   .rw[<-E];exact t1.out
 cases ex with
 |normal=>exact out A
 |ret=>exact out A
 |exit=>exact A.elim
 |goto=>exact A.elim
 |panic=>exact A.elim
 |outgrown=>exact A.elim
end
end Go.Koi
namespace Go.Proofs
open Go.RowKit Go.Maps Go.Sort Go.Shelf Go.Koi
attribute [local go_sem] Oper.semAt_some
theorem gL(l:Nat)(pi pe:Addr)(es:List Int)(_:es.length≤maxLen)(i e:Int)(hi0:0≤i)(hi:es[i.toNat]?=some e)(hrg:∀x∈es,0≤x∧x≤2000000)(hil:i≤2000000)(J:Nat→World→Prop)(ks:List Int)(hk:Gm es e (i+1) ks)
  (rd:∀m W,J m W→∃ad cap,W.cell? pi=some (.int .i64 i)∧W.cell? pe=some (.slice (some ad) es.length cap)∧∀j,j<es.length→W.cell? (ad.add j)=some (.int .i64 (es[j]?.getD 0)))
  (hY:∀m x W,ks[m]?=some x→J m W→YieldAt Fence.wide 1 prog l #[.int .i64 x] W fun e W'=>e=.returned (.bool true)∧J (m+1) W')
  (W:World) (h0:J 0 W):
  CallsIn Fence.wide 2 prog 253 #[.func (.yield l) #[] #[],.pointer (some pi),.pointer (some pe)] W fun e W'=>(∃v,e=.returned v)∧J ks.length W':=by
 refine callsIn_of_wp func253 rfl trivial ?_ rfl;simp only[ntmps253,List.size_toArray,List.length_cons,List.length_nil,Nat.reduceAdd,Nat.reduceSub,Array.replicate_succ,Array.replicate_zero,List.push_toArray,List.append_toArray,List.nil_append,List.cons_append];obtain⟨ad,cap,r1,r2,r3⟩:=rd _ _ h0;obtain⟨hil',he⟩:=List.getElem?_eq_some_iff.1 hi;gi_wp2;gi_loopw [4] (fun j wr=>∃(x:Int) (m:Nat) (rest:List Int),j=.int .i64 x∧0≤x∧x≤2000001∧Gm es e x rest∧ks.drop m=rest∧m≤ks.length∧J m wr)
  (fun j _=>(e - nZ j).toNat)
 case atStart=>exact⟨_,0,ks,rfl,by omega,by omega,hk,rfl,Nat.zero_le _,h0⟩
 case round=>
  obtain⟨x,m,rest,rfl,hx0,hx1,hkr,hpr,hml,hJ⟩:=hrel;clear r1 r2 r3;obtain⟨ad2,cap2,r1,r2,r3⟩:=rd _ _ hJ;have r4:=r3 i.toNat hil';rw[hi]at r4;simp only[Option.getD_some]at r4;cases hkr with
  |nil h=>
   have h:=Int.le_of_eq h;have hm:m=ks.length:=by
    have:=congrArg List.length hpr;simp at this;omega
   gi_wp2;go_end0;subst hm;exact⟨⟨_,rfl⟩,hJ⟩
  |cons h h0' hj zg hk'=>
   obtain⟨hxl,rfl⟩:=List.getElem?_eq_some_iff.1 hj;have hmx:ks[m]?=some x:=by
    have:=congrArg (·[0]?) hpr;simpa using this
   obtain⟨fn,tmps,assign,body,hy,hR⟩:=hY m x wr hmx hJ;gi_wp2;apply hR.mono;rintro e' W3 ⟨rfl,hJ3⟩;clear r1 r2 r3 r4;obtain⟨ad3,cap3,q1,q2,q3⟩:=rd _ _ hJ3;have q4:=q3 x.toNat hxl;rw[hj]at q4;simp only[Option.getD_some]at q4;gi_wp2;go_roundw;case rel=>exact⟨_,m+1,_,rfl,(hrg _ (List.mem_of_getElem? hj)).1,by have:=(hrg _ (List.mem_of_getElem? hj)).2;omega,hk',by rw[←List.drop_drop,hpr];rfl,(List.getElem?_eq_some_iff.1 hmx).1,hJ3⟩
   case measure=>simp[nZ];omega
def QL(T:List XN)(k:Nat):List Int:=(((List.range (Z T)).drop k).filter λj=>decide ((T.getD j ⟨0,0,0,0⟩).prod<0)).map λ(j:Nat)=>(j:Int)
theorem jg(T:List XN){k:Nat}(h:k<Z T):QL T k=(if T[k].prod<0 then [(k:Int)]else [])++QL T (k+1):=by
 unfold QL;have i:k<Z (List.range (Z T)):=by simpa using h
 rw[Hh i,List.filter_cons];have e:(List.range (Z T))[k]=k:=by simp
 have j:T.getD k ⟨0,0,0,0⟩=T[k]:=by simp[List.getD,h]
 rw[e,j];split
 .next g=>rw[ca (by simpa using g)];rfl
 .next g=>rw[bv (by simpa using g)];rfl
theorem Xw(T:List XN):QL T (Z T)=[]:=by rw[QL,adl (by simp)];rfl
def jk:Value->Nat
 |.int _ n=>n.toNat
 |_=>0
theorem T5.alloc(W:cR)(o:Obj):T5 W (W.alloc o):=⟨by simp,λk g=>Below.heap_alloc W o k g,rfl,rfl⟩
theorem WU(l:Nat)(pt ad:Addr)(cap:Nat)(T:List XN)(hT:T.length≤2000000)(J:Nat→World→Prop)(W1:World)
  (r0:W1.cell? pt=some (.slice (some ad) T.length cap))
  (rd:∀m W,J m W→∀k (h:k<T.length),W.cell? (ad.add (k * 4))=some (.int .i64 T[k].prod)∧W.cell? ⟨(ad.add (k * 4)).block,(ad.add (k * 4)).off,none⟩=some (.int .i64 T[k].prod)∧W.cell? ⟨(ad.add (k * 4)).block,(ad.add (k * 4)).off+1,none⟩=some (.int .i64 T[k].tok)∧W.cell? ⟨(ad.add (k * 4)).block,(ad.add (k * 4)).off+2,none⟩=some (.int .i64 T[k].fr)∧W.cell? ⟨(ad.add (k * 4)).block,(ad.add (k * 4)).off+3,none⟩=some (.int .i64 T[k].to))
  (hG:∀m W W',J m W→T5 W W'→J m W')
  (hY:∀m x W,(QL T 0)[m]?=some x→J m W→YieldAt Fence.wide 1 prog l #[.int .i64 x] W fun e W'=>e=.returned (.bool true)∧J (m+1) W')
  (h0:J 0 W1):
  CallsIn Fence.wide 2 prog 209 #[.func (.yield l) #[] #[],.pointer (some pt)] W1 fun e W'=>(∃v,e=.returned v)∧J (QL T 0).length W':=by
 refine callsIn_of_wp func209 rfl trivial ?_ rfl;simp only[ntmps209,List.size_toArray,List.length_cons,List.length_nil,Nat.reduceAdd,Nat.reduceSub,Array.replicate_succ,Array.replicate_zero,List.push_toArray,List.append_toArray,List.nil_append,List.cons_append];gi_wp2;gi_loopw [7] (fun j wr=>∃(k m:Nat),j=.int .i64 k∧k≤T.length∧(QL T 0).drop m=QL T k∧m≤(QL T 0).length∧J m wr)
  (fun j _=>T.length - jk j)
 case atStart=>exact⟨0,0,rfl,by omega,rfl,Nat.zero_le _,h0⟩
 case round=>
  obtain⟨k,m,rfl,hk,hpr,hml,hJ⟩:=hrel;by_cases zg:k<T.length
  ·obtain⟨q0,q00,q1,q2,q3⟩:=rd _ _ hJ k zg;have zv:=jg T zg;obtain⟨xp,hxp⟩:∃x,T[k]=x:=⟨_,rfl⟩;simp only[hxp]at q0 q00 q1 q2 q3 zv;have hJ2:=hG _ _ _ hJ (T5.alloc wr (.cells #[.int .i64 xp.prod,.int .i64 xp.tok,.int .i64 xp.fr,.int .i64 xp.to] 77));by_cases hp:xp.prod<0
   ·rw[if_pos hp]at zv;have hmx:(QL T 0)[m]?=some (k:Int):=by
     have:=congrArg (·[0]?) hpr;rw[zv]at this;simpa using this
    obtain⟨fn,tmps,assign,body,hy,hR⟩:=hY m k _ hmx hJ2;gi_wp2;apply hR.mono;rintro e' W3 ⟨rfl,hJ3⟩;gi_wp2;go_roundw;case rel=>exact⟨k+1,m+1,by simp,by omega,by rw[←List.drop_drop,hpr,zv];rfl,(List.getElem?_eq_some_iff.1 hmx).1,hJ3⟩
    case measure=>simp[jk];omega
   ·rw[if_neg hp,List.nil_append]at zv;have hp0:0≤xp.prod:=by omega
    gi_wp2;refine⟨fun _ h=>(by cases h),?_⟩;gi_wp2;go_roundw;case rel=>exact⟨k+1,m,by simp,by omega,by rw[hpr,zv],hml,hJ2⟩
    case measure=>simp[jk];omega
  ·have e:k=T.length:=by omega
   subst e;have hm:m=(QL T 0).length:=by
    rw[Xw]at hpr;have:=congrArg List.length hpr;simp at this;omega
   gi_wp2;go_end0;subst hm;exact⟨⟨_,rfl⟩,hJ⟩
end Go.Proofs
namespace Go.Koi
open Go renaming World->cR,maxLen->a8
open Go.Proofs Tryz
theorem Ws{P Q:Nat}{es:List Int}{i e:Int}{ks:List Int}{I:Nat->Sg->Prop}(B:∀m S,I m S->S[P]?=am (.row J 1 [.d (encI i)])/\S[Q]?=am (.row J 1 [.d (BZ es)]))
  (E:0<=i) (hi:es[i.toNat]?=am e) (F:∀x∈es,0<=x/\x<=2000000) (H:i<=2000000) (hk:Gm es e (i+1) ks) (k:Z es<=maxLen) (C:Array Value):
  XS ao 253 C ks (ni ao [.ptr P 1 0 0,.ptr Q 1 0 0] I C):=by
 intro l K T o _ hY h0;have zi:es≠[]:=by intro h;subst h;simp at hi
 obtain⟨⟨G,S,R,q,L,u,_⟩,_⟩:=o 0 T h0;have w:C.size=2:=L;have y0:=u 0 (by simp) (by omega);have y1:=u 1 (by simp) (by omega);obtain⟨U,vi,e0,_,_,_,_⟩:=Ic R (B 0 S q).1 y0 (λv h=>by cases h;rfl);obtain⟨X,ve,e1,_,_,_,_⟩:=Ic R (B 0 S q).2 y1 (λv h=>Lu h);have M:C=#[.pointer (am U),.pointer (am X)]:=by
  apply adR
  .simp[w]
  .intro i h1 h2;have:i=0\/i=1:=by omega
   rcases this with rfl|rfl
   .exact e0
   .exact e1
 subst M;refine gL l U X es k i e E hi F H K ks hk (λm W hJ=>?_) hY T h0;obtain⟨_,G',Y,m',N,A,hls',g⟩:=o m W hJ;have z0:=g 0 (by simp) (by simp);have z1:=g 1 (by simp) (by simp);obtain⟨p0,v0,f0,c0,d0,_,_⟩:=Ic N (B m' Y A).1 z0 (λv h=>by cases h;rfl);obtain⟨p1,v1,f1,c1,d1,_,_⟩:=Ic N (B m' Y A).2 z1 (λv h=>Lu h);obtain⟨ad,cap,rfl,_,_,j⟩:=XD N d1 zi;cases d0;simp at f0 f1;subst f0;subst f1;exact⟨ad,cap,c0,c1,j⟩
theorem r9(b off n:Nat):(⟨b,off,bi⟩:Addr).add n=⟨b,off+n,bi⟩:=by
 unfold Addr.add;split
 .next h=>subst h;simp
 .simp
theorem Py{I:Nat->Prop}{w:cR}{T:List XN}{v:Value}(h:CD I w (CE T) v)(h0:T≠[]):
  ∃b off cap,v=.slice (am ⟨b,off,bi⟩) (Z T) cap/\I b/\∀k (h:k<Z T),w.cell? ⟨b,off+k * 4,bi⟩=am (.int .i64 T[k].prod)/\w.cell? ⟨b,off+k * 4+1,bi⟩=am (.int .i64 T[k].tok)/\w.cell? ⟨b,off+k * 4+2,bi⟩=am (.int .i64 T[k].fr)/\w.cell? ⟨b,off+k * 4+3,bi⟩=am (.int .i64 T[k].to):=by
 simp only[CE]at h;generalize m:T.map Ei=G at h;cases h with
 |nil=>simp at m;exact absurd m h0
 |sl sz G b off cap H K R S L M=>
  subst m;refine⟨b,off,cap,by simp,K,λk E=>?_⟩;have o:=L k (by simpa using E);obtain⟨F,i⟩:=M k (by simpa using E);simp only[m6,Ei]at o;generalize H k=U at o F i;cases o with
  |agg ds g N j W=>
   have P:g.size=4:=by simpa using N
   have e0:=j 0 (by simp);have q:=j 1 (by simp);have u:=j 2 (by simp);have A:=j 3 (by simp);simp only[wv,Kf]at e0 q u A;have Q:sz=4:=by rw[<-F];simpa[Value.cells]using P
   subst Q;have B:=i 0 (by omega);have r1:=i 1 (by omega);have r2:=i 2 (by omega);have C:=i 3 (by omega);simp only[Value.cells,ll (show 0<g.size by omega),ll (show 1<g.size by omega),ll (show 2<g.size by omega),ll (show 3<g.size by omega)]at B r1 r2 C;generalize g[0]=X at e0 B;generalize g[1]=Y at q r1;generalize g[2]=u2 at u r2;generalize g[3]=u3 at A C;cases e0;cases q;cases u;cases A;exact⟨B,r1,r2,C⟩
theorem SL{M:Nat}{T:List XN}{I:Nat->Sg->Prop}(N:∀m S,I m S->S[M]?=am (.row J 1 [.d (CE T)]))(hT:Z T<=2000000)(h0:T≠[])(B:Array Value):
  XS ao 209 B (QL T 0) (ni ao [.ptr M 1 0 0] I B):=by
 intro l C P o hG hY q;obtain⟨⟨G,S,R,E,F,H,_⟩,_⟩:=o 0 P q;have u:B.size=1:=F;have y0:=H 0 (by simp) (by omega);obtain⟨Q,v,e0,c0,d0,_,_⟩:=Ic R (N 0 S E) y0 (λv h=>Lu h);obtain⟨b,off,cap,rfl,hIb,g⟩:=Py d0 h0;have K:B=#[.pointer (am Q)]:=by
  apply adR
  .simp[u]
  .intro i h1 h2;have:i=0:=by omega
   subst this;exact e0
 subst K;refine WU l Q ⟨b,off,bi⟩ cap T hT C P c0 (λm W hJ k hk=>?_) hG hY q;obtain⟨⟨G',S',R',L,_,w,j⟩,_⟩:=o m W hJ;have z0:=w 0 (by simp) (by simp);obtain⟨p1,v1,f1,c1,d1,_,_⟩:=Ic R' (N 0 S' L) z0 (λv h=>Lu h);simp at f1;subst f1;rw[c0]at c1;cases c1;obtain⟨b2,U,X,Y,A,_⟩:=Py d1 h0;simp at Y;obtain⟨⟨rfl,rfl⟩,_⟩:=Y;have hb:=j b A;obtain⟨g0,g1,g2,g3⟩:=g k hk;rw[r9];exact⟨(FA hb _).trans g0,(FA hb _).trans g0,(FA hb _).trans g1,(FA hb _).trans g2,(FA hb _).trans g3⟩
open Go.Proofs DT
def dW:Wd:=⟨0,0,0,false,0⟩
def lf(n:BD):Bool:=decide (n.prod<0)
def lc(N:List BD)(i:Nat):Nat:=(N.take i).countP lf
def gp(ws:List Wd)(e:Int)(k:Nat):Int:=match ws[k]? with
 |some w=>w.fr
 |none=>e
theorem H7(N:List BD){i:Nat}(h:i<Z N):lc N (i+1)=lc N i+if lf N[i]then 1 else 0:=by
 unfold lc;rw[pt h,List.countP_append,List.countP_singleton]
theorem YJ(N:List BD){i j:Nat}(h:i<=j):lc N i<=lc N j:=by
 unfold lc;rw[show N.take i=(N.take j).take i by rw[List.take_take,adh h]];exact(List.take_sublist i _).countP_le
theorem pQ(N:List BD){i:Nat}(h:i<Z N)(g:lf N[i]=J):lc N i<lc N (Z N):=by
 have j:=H7 N h;have k:=YJ N (show i+1<=Z N from h);rw[g,ca rfl]at j;omega
theorem Qp(N:List BD)(i:Nat):lc N i<=i:=by
 unfold lc;exact ms adr (List.length_take_le ..)
structure R9(ws rs:List Wd)(e:Int):Prop where
 w1:ws.Pairwise λa b=>a.to<=b.fr
 r1:rs.Pairwise λa b=>a.to<=b.fr
 x1:∀a∈ws,∀b∈rs,a.to<=b.fr\/b.to<=a.fr
 b1:∀a∈ws++rs,0<=a.fr/\a.fr<a.to/\a.to<=e
 e0:0<=e
theorem R9.zero:R9 [] [] 0:=⟨.nil,.nil,by simp,by simp,q6 _⟩
abbrev adA:=@List.pairwise_append
theorem R9.word{ws rs:List Wd}{e g:Int}(h:R9 ws rs e){w:Wd}(i:w.fr=e)(j:e<w.to)(k:w.to<=g):R9 (ws++[w]) rs g:=by
 have h0:=h.e0;refine⟨adA.2 ⟨h.w1,List.pairwise_singleton _ _,λa ha b hb=>?_⟩,h.r1,λa ha b hb=>?_,λa ha=>?_,by omega⟩
 .rw[go.1 hb];have:=h.b1 a (fi.2 (.inl ha));omega
 .rcases fi.1 ha with ha|ha
  .exact h.x1 a ha b hb
  .rw[go.1 ha];have:=h.b1 b (fi.2 (.inr hb));omega
 .rw[fi,fi]at ha;rcases ha with(ha|ha)|ha
  .have:=h.b1 a (fi.2 (.inl ha));omega
  .rw[go.1 ha];omega
  .have:=h.b1 a (fi.2 (.inr ha));omega
theorem R9.rem{ws rs:List Wd}{e g:Int}(h:R9 ws rs e){w:Wd}(i:w.fr=e)(j:e<w.to)(k:w.to<=g):R9 ws (rs++[w]) g:=by
 have h0:=h.e0;refine⟨h.w1,adA.2 ⟨h.r1,List.pairwise_singleton _ _,λa ha b hb=>?_⟩,λa ha b hb=>?_,λa ha=>?_,by omega⟩
 .rw[go.1 hb];have:=h.b1 a (fi.2 (.inr ha));omega
 .rcases fi.1 hb with hb|hb
  .exact h.x1 a ha b hb
  .rw[go.1 hb];have:=h.b1 a (fi.2 (.inl ha));omega
 .rw[fi,fi]at ha;rcases ha with ha|ha|ha
  .have:=h.b1 a (fi.2 (.inl ha));omega
  .have:=h.b1 a (fi.2 (.inr ha));omega
  .rw[go.1 ha];omega
theorem NP{ws:List Wd}{e:Int}{k:Nat}(h:k<Z ws):gp ws e k=ws[k].fr:=by simp[gp,h]
theorem NJ{ws:List Wd}{e:Int}{k:Nat}(h:Z ws<=k):gp ws e k=e:=by simp[gp,h]
theorem R9.step{ws rs:List Wd}{e:Int}(h:R9 ws rs e){k:Nat}(g:k<Z ws):ws[k].to<=gp ws e (k+1):=by
 by_cases i:k+1<Z ws
 .rw[NP i];exact abQ.1 h.w1 k (k+1) g i (acq k)
 .rw[NJ (by omega)];exact(h.b1 _ (fi.2 (.inl (cL g)))).2.2
theorem R9.zS{ws rs:List Wd}{e:Int}(h:R9 ws rs e){i j:Nat}(g:i<=j):gp ws e i<=gp ws e j:=by
 obtain⟨d,rfl⟩:∃d,j=i+d:=⟨j - i,by omega⟩;clear g;induction d with
 |zero=>exact q6 _
 |succ d m=>
  refine Int.le_trans m ?_;by_cases k:i+d<Z ws
  .rw[NP k];have o:=h.b1 _ (fi.2 (.inl (cL k)));have q:=h.step k;rw[show i+(d+1)=i+d+1 from rfl];omega
  .rw[NJ (by omega),NJ (by omega)];exact q6 _
theorem R9.yY{ws rs:List Wd}{e:Int}(h:R9 ws rs e)(i:Nat):0<=gp ws e i/\gp ws e i<=e:=by
 by_cases g:i<Z ws
 .rw[NP g];have j:=h.b1 _ (fi.2 (.inl (cL g)));omega
 .rw[NJ (by omega)];exact⟨h.e0,q6 _⟩
theorem Zl(u:TF)(i:Nat):∀y (h:y<Z u.flat),u.flat[y].prod<0->(u.ends i)[y]?=some ((i+y+1:Nat):Int):=by
 induction u generalizing i with
 |nil=>intro y h;simp[TF.flat]at h
 |leaf k s r x j=>
  intro y h g;cases y with
  |zero=>simp[TF.ends]
  |succ y=>
   have:=j (i+1) y (by simpa[TF.flat]using h) (by simpa[TF.flat]using g);simp only[TF.ends,ri];rw[this];congr 2;omega
 |node p k x m j=>
  intro y h g;cases y with
  |zero=>simp[TF.flat,Gs]at g;omega
  |succ y=>
   simp only[TF.ends,ri];simp only[TF.flat,Kf]at g;simp only[TF.flat,gr,jp]at h;by_cases o:y<Z k.flat
   .rw[io (by rw[TF.C3];exact o)];rw[oi o]at g;have:=m (i+1) y o g;rw[this];congr 2;omega
   .rw[z9 (by rw[TF.C3];omega)];rw[wn (by omega)]at g;have:=j (i+1+Z k.flat) (y - Z k.flat) (by omega) g;rw[TF.C3,this];congr 2;omega
theorem XX(u:TF)(i:Nat):∀y (_:y<Z u.flat),∃a:Nat,(u.ends i)[y]?=some (a:Int)/\i+y<a/\a<=i+Z u.flat:=by
 induction u generalizing i with
 |nil=>intro y h;simp[TF.flat]at h
 |leaf k s r x j=>
  intro y h;simp only[TF.flat,gr]at h⊢;cases y with
  |zero=>exact⟨i+1,by simp[TF.ends],by omega,by omega⟩
  |succ y=>
   obtain⟨a,g,o,q⟩:=j (i+1) y (by omega);exact⟨a,by simpa[TF.ends]using g,by omega,by omega⟩
 |node p k x m j=>
  intro y h;simp only[TF.flat,gr,jp]at h⊢;cases y with
  |zero=>exact⟨i+1+Z k.flat,by simp[TF.ends],by omega,by omega⟩
  |succ y=>
   simp only[TF.ends,ri];by_cases v:y<Z k.flat
   .rw[io (by rw[TF.C3];exact v)];obtain⟨a,g,o,q⟩:=m (i+1) y v;exact⟨a,g,by omega,by omega⟩
   .rw[z9 (by rw[TF.C3];omega),TF.C3];obtain⟨a,g,o,q⟩:=j (i+1+Z k.flat) (y - Z k.flat) (by omega);exact⟨a,g,by omega,by omega⟩
def Dd(N:List BD)(A:List Int)(ws:List Wd)(e:Int)(i:Nat):XN:=
 if(N.getD i (Gs 0)).prod<0 then⟨(N.getD i (Gs 0)).prod,(N.getD i (Gs 0)).token,(ws.getD (lc N i) dW).fr,(ws.getD (lc N i) dW).to⟩
 else⟨(N.getD i (Gs 0)).prod,(N.getD i (Gs 0)).token,gp ws e (lc N i),gp ws e (lc N (A.getD i 0).toNat)⟩
def Cg(N:List BD)(A:List Int)(ws:List Wd)(e:Int):List XN:=(List.range (Z N)).map (Dd N A ws e)
theorem Dy(N:List BD)(A:List Int)(ws:List Wd)(e:Int):Z (Cg N A ws e)=Z N:=by simp[Cg]
theorem C4{N:List BD}{A:List Int}{ws:List Wd}{e:Int}{i:Nat}(h:i<Z (Cg N A ws e)):(Cg N A ws e)[i]=Dd N A ws e i:=by simp[Cg]
structure Kz(u:TF)(N:List BD)(A:List Int)(ws rs:List Wd)(e:Int):Prop where
 n:N=u.flat
 a:A=u.ends 0
 sp:R9 ws rs e
 wl:Z ws=lc N (Z N)
section
variable {u:TF} {N:List BD} {A:List Int} {ws rs:List Wd} {e:Int} (D:Kz u N A ws rs e) {y:Nat} (hy:y<Z N)
include D hy
theorem Kz.GZ:∃a:Nat,A[y]?=some (a:Int)/\y<a/\a<=Z N:=by
 have h:=D.n;have g:=D.a;subst h;subst g;obtain⟨a,i,g,j⟩:=XX u 0 y hy;exact⟨a,i,by omega,by omega⟩
theorem Kz.y8(h:N[y].prod<0):A[y]?=some ((y+1:Nat):Int):=by
 have g:=D.n;have i:=D.a;subst g;subst i;have:=Zl u 0 y hy h;rw[this];congr 2;omega
theorem Kz.xp:(Dd N A ws e y).prod=N[y].prod/\(Dd N A ws e y).tok=N[y].token:=by
 have _:=D;unfold Dd;have g:N.getD y (Gs 0)=N[y]:=by simp[i5,hy]
 rw[g];split<;>exact⟨rfl,rfl⟩
theorem Kz.wk(h:N[y].prod<0):lc N y<Z ws:=by rw[D.wl];exact pQ N hy (by simpa[lf]using h)
theorem Kz.xl(h:N[y].prod<0):Dd N A ws e y=⟨N[y].prod,N[y].token,(ws[lc N y]'(D.wk hy h)).fr,(ws[lc N y]'(D.wk hy h)).to⟩:=by
 unfold Dd;have g:N.getD y (Gs 0)=N[y]:=by simp[i5,hy]
 have i:ws.getD (lc N y) dW=ws[lc N y]'(D.wk hy h):=by simp[i5,D.wk hy h]
 rw[g,ca h,i]
theorem Kz.xi(h:¬N[y].prod<0){a:Nat}(ha:A[y]?=some (a:Int)):Dd N A ws e y=⟨N[y].prod,N[y].token,gp ws e (lc N y),gp ws e (lc N a)⟩:=by
 have _:=D;unfold Dd;have g:N.getD y (Gs 0)=N[y]:=by simp[i5,hy]
 have i:A.getD y 0=a:=by simp[i5,ha]
 rw[g,bv h,i,ne]
theorem Kz.fr:(Dd N A ws e y).fr=gp ws e (lc N y):=by
 by_cases h:N[y].prod<0
 .rw[D.xl hy h,NP (D.wk hy h)]
 .obtain⟨a,ha,_,_⟩:=D.GZ hy;rw[D.xi hy h ha]
theorem Kz.to{a:Nat}(ha:A[y]?=some (a:Int)):(Dd N A ws e y).to<=gp ws e (lc N a)/\(¬N[y].prod<0->(Dd N A ws e y).to=gp ws e (lc N a)):=by
 by_cases h:N[y].prod<0
 .have g:=D.y8 hy h;rw[g]at ha;have i:y+1=a:=by simp at ha;omega
  subst i;rw[D.xl hy h,H7 N hy];rw[show lf N[y]=J by simpa[lf]using h,ca rfl];exact⟨D.sp.step (D.wk hy h),λj=>absurd h j⟩
 .rw[D.xi hy h ha];exact⟨q6 _,λ_=>rfl⟩
theorem Kz.pos:0<=(Dd N A ws e y).fr/\(Dd N A ws e y).to<=e/\(N[y].prod<0->(Dd N A ws e y).fr<(Dd N A ws e y).to)/\(Dd N A ws e y).fr<=(Dd N A ws e y).to:=by
 by_cases h:N[y].prod<0
 .rw[D.xl hy h];have:=D.sp.b1 _ (fi.2 (.inl (cL (D.wk hy h))));exact⟨this.1,this.2.2,λ_=>this.2.1,Int.le_of_lt this.2.1⟩
 .obtain⟨a,ha,i,_⟩:=D.GZ hy;rw[D.xi hy h ha];exact⟨(D.sp.yY _).1,(D.sp.yY _).2,λg=>absurd g h,D.sp.zS (YJ N (by omega))⟩
end
def TF.at:TF->Nat->Nat->Nat
 |.nil,j,_=>j
 |.leaf _ _ _ _,j,0=>j
 |.leaf _ _ _ x,j,m+1=>x.at (j+1) m
 |.node _ _ _,j,0=>j
 |.node _ k x,j,m+1=>x.at (j+1+Z k.flat) m
theorem TF.TG(x:TF)(j:Nat):x.at j 0=j:=by cases x<;>rfl
theorem TF.q9{g:AE}(x:TF):∀(j:Nat) {i:List Symbol},x.fit g i->x.at j (Z i)=j+Z x.flat:=by
 induction x with
 |nil=>intro j i h;simp[TF.at,TF.flat]
 |leaf k s r x m=>
  intro j i h;obtain⟨_,_,o,rfl,h⟩:=h;simp only[gr,TF.at,TF.flat,m (j+1) h];omega
 |node p k x _ m=>
  intro j i h;obtain⟨q,_,_,o,rfl,h⟩:=h;simp only[gr,jp,TF.at,TF.flat,m (j+1+Z k.flat) h];omega
def IE(a0:Int)(T:List XN)(pre:List Int):Int×Bool:=match pre.getLast? with
 |none=>(a0,J)
 |some k=>((T.getD k.toNat ⟨0,0,0,0⟩).to,decide (0<=(T.getD k.toNat ⟨0,0,0,0⟩).prod))
def bE(N:List BD)(ws:List Wd)(e:Int)(s:Int×Bool)(j:Nat):Prop:=s.1<=gp ws e (lc N j)/\(s.2=J->s.1=gp ws e (lc N j))
theorem Kz.ur{u:TF}{N:List BD}{A:List Int}{ws rs:List Wd}{e:Int}(D:Kz u N A ws rs e){i:Nat}(hi:i<Z N)(h:¬N[i].prod<0)(T:List XN):
  bE N ws e (IE (Dd N A ws e i).fr T []) (i+1):=by
 have g:lc N (i+1)=lc N i:=by rw[H7 N hi,bv (by simpa[lf]using h)];rfl
 unfold bE IE;rw[g,D.fr hi];exact⟨q6 _,λ_=>rfl⟩
theorem Kz.vc{u:TF}{N:List BD}{A:List Int}{ws rs:List Wd}{e:Int}(D:Kz u N A ws rs e)(a0:Int)(pre:List Int){j a:Nat}(hj:j<Z N)(ha:A[j]?=some (a:Int)):
  bE N ws e (IE a0 (Cg N A ws e) (pre++[(j:Int)])) a:=by
 have g:j<Z (Cg N A ws e):=by rw[Dy];exact hj
 have i:(Cg N A ws e).getD j ⟨0,0,0,0⟩=Dd N A ws e j:=by simp[i5,g,C4]
 unfold bE IE;simp only[List.getLast?_append,List.getLast?_singleton,Option.some_or,ne,i];refine⟨(D.to hj ha).1,λh=>(D.to hj ha).2 ?_⟩;rw[(D.xp hj).1]at h;simpa using h
open Go.Proofs Tryz DT
theorem dy(d:AL)(B:Valid d)(h0:F7 d=0)(c:Nat)(C:c<2 ^ 64):Pure prog 10 [AB d,Dt c] (.bool ((tr d).CG (cfg c))):=by
 have E:Bf d.nodes (tr d) d.root:=by have:=Fp (tr d);rwa [EE B]at this
 have F:=KT d;have g:=L5 d;rw[h0]at g;generalize tr d=t0 at *;refine hW func10 rfl rfl (by simp) λwf=>?_;have j:Z d.nodes<=a8:=by simp[Bm,DY]at wf;omega
 rw[ntmps10];apply yW;simp;refine xS (yS ?_);apply yJ;simp;refine Bq (g) rfl (by simp[xN]) (yJ ?_);simp;apply AP;simp;apply xK;apply yW;simp[AB];apply xB;refine aes (λm tm S=>tm 1=.d (Dt c)/\tm 2=.ptr 0 1 0 0/\(∃t:DT,∃n:Int,tm 5=.d (encI n)/\t.size=m/\t.Good/\Bf d.nodes t n/\t.CG (cfg c)=t0.CG (cfg c))/\S=[.row J 2 [.d (AB d)]]) ⟨t0.size,_,_,a9,by simp,by simp,⟨t0,d.root,by simp,rfl,F,E,rfl⟩,by simp[AB]⟩ ?_;rintro m tm S ⟨t1,t2,⟨t,n,t5,rfl,G,tr,i⟩,rfl⟩;cases t with
 |leaf b=>
  have H:n=if b then 1 else 0:=tr;subst H;refine xS (yW ?_);simp[t5];cases b with
  |false=>
   apply AP;simp;apply Ci;apply yW;simp[t5];apply zT;simp[<-i,CG]
  |true=>
   apply AP;simp;apply Ci;apply yW;simp[t5];apply zT;simp[<-i,CG]
 |node v lo hi=>
  obtain⟨k,rfl,l,h,A,K,L⟩:=tr;obtain⟨P,Q,-,-,-,M,gh⟩:=G;refine xS (yW ?_);simp[t5];have c1:(1:Int)<k+2:=by omega
  apply AP;simp[c1];apply xK;apply Bo;have o:=(gq.1 A).1;have q:=(gq.1 A).2;have N:b8 .i64 (k:Int)=k:=by rw[c8];unfold a8 at j;omega
  (repeat apply xS);apply yV;simp[t2,t5,AB,o,q,N];obtain⟨m,rfl⟩:∃m:Nat,v=m:=⟨v.toNat,by omega⟩;have u:=pY c m C;have w:(c:Int).fdiv (2 ^ (min m IntKind.u64.bits))=(c:Int) / 2 ^ m:=by
   have e:IntKind.u64.bits=64:=rfl;rw[e,adh (by omega),abO _ (by exact_mod_cast er _)]
  (repeat apply xS);apply yV;simp[t1,w,u];by_cases hb:c / 2 ^ m % 2=1
  .apply AP;simp[hb];apply yV;simp;refine⟨hi.size,by simp[size];try omega,_,_,n8 1 (S':=[.row J 2 [.d (AB d)]]) rfl (by simp) (by simp) (by simp),?_⟩;simp[clean,AJ,t1,t2,AB];exact⟨hi,rfl,gh,L,by rw[<-i];simp[CG,cfg,hb]⟩
  .apply AP;simp[hb];apply yV;simp;refine⟨lo.size,by simp[size];try omega,_,_,n8 1 (S':=[.row J 2 [.d (AB d)]]) rfl (by simp) (by simp) (by simp),?_⟩;simp[clean,AJ,t1,t2,AB];exact⟨lo,rfl,M,K,by rw[<-i];simp[CG,cfg,hb]⟩
theorem jb{d:AL}{n:Int}(h:B1 d n=J):F7 d=0:=by
 simp only[B1,cF,fc]at h;exact h.1
theorem Ip{d:AL}{n:Nat}(h:B1 d n=J)(c:Nat)(g:c<2 ^ 64):Pure prog 10 [AB d,Dt c] (.bool (D6 d c)):=
 dy d (FM h).1 (jb h) c g
theorem ZX(g:AE)(o:B3 g=0)(v:Z g.conds<=12)(c:Nat)(q:c<2 ^ 64):Pure prog 33 [AA g,Dt c] (.bool (hasB g c)):=by
 have m:=(Bx o).2.1;simp only[En,cF]at m;have j:=Ip m.1.2 c q;have i:(c:Int).fdiv (2 ^ (min (Z g.conds) IntKind.u64.bits))=((c / 2 ^ Z g.conds:Nat):Int):=by
  have e:IntKind.u64.bits=64:=rfl;rw[e,adh (by omega),abO _ (by exact_mod_cast er _)];push_cast;rfl
 unfold hasB;refine hW func33 (by kernel_rfl) rfl (by simp) λwf=>?_;rw[ntmps33];refine xW λK k=>?_;simp;apply k;(repeat refine xS ?_);refine FG λK k=>?_;(repeat((first|refine FI rfl ?_ ?_;(·simp)|refine Pe rfl ?_ ?_;(·simp)|refine Cc ?_ ?_;(·simp));simp[i,AA]));refine vj (ds:=[AB g.fam,Dt c]) rfl rfl (by simp;rfl) (λ_=>j) (by simp[AB,AB]) ?_;simp;refine xH ?_;simp;refine BY (k _ _ ?_);(try simp only[xQ,reduceIte]);refine Aj ⟨_,_,a9,?_⟩;(try simp);congr 1;have e:(c:Int) / 2 ^ Z g.conds=((c / 2 ^ Z g.conds:Nat):Int):=by push_cast;rfl
 rw[e,gI,acV,fc];have u:c / 2 ^ Z g.conds=0↔c<2 ^ Z g.conds:=Nat.div_eq_zero_iff_lt (adL _);rw[<-u];exact⟨λh=>by exact_mod_cast h,λh=>by exact_mod_cast h⟩
theorem ft(g:AE)(h:B3 g=0)(j:Z g.conds<=12)(c:Nat)(k:c<2 ^ 64):Pure prog 9 [AA g,Dt c] (.bool (hasB g c)):=by
 have i:=Rc g;rw[h]at i;have m:=ZX g h j c k;refine zP func9 13 rfl λwf=>?_;apply yW;simp;(repeat apply xS);apply yT;apply yJ;simp;refine Bq (i) rfl (by simp[xN]) ?_;simp;apply yH;simp;refine li (m) rfl rfl (by simp[xN];try rfl) ?_;simp;apply yH;simp;apply zT;try simp
theorem Yo(g:AE)(h:okF g)(i:Z g.conds<=12)(c:Nat)(k:c<2 ^ 64):Pure prog 35 [AA g,Dt c] (encI (if hasB g c then 0 else 1)):=by
 have j:=Hd g i;rw[D0.2 h]at j;have m:=ft g h.1 i c k;refine zP func35 15 rfl λwf=>?_;apply yW;simp;refine xS (yS ?_);apply yJ;simp;refine Bq (j) rfl (by simp[xN]) (yJ ?_);simp;apply yW;simp;apply AP;simp;apply xK;refine xS (yS ?_);apply yJ;simp;refine Bq (m) rfl (by simp[xN]) (yJ ?_);simp;cases hb:hasB g c with
 |true=>
  apply AP;simp;apply xK;apply yW;simp;apply zT;try simp
 |false=>
  apply AP;simp;apply yW;simp;refine Aj ⟨_,_,a9,?_⟩;try simp
theorem rW(p:PT)(k:Nat)(_:k<=2 ^ 30):Pure prog 31 [C7 p,encI k] (encI (gp p.ws p.e k)):=by
 refine zP func31 18 rfl λwf=>?_;apply yW;simp;refine xS (yW ?_);simp[C7];by_cases h:k<Z p.ws
 .rw[NP h];have g:=Cb.eq_1 p.ws[k];apply AP;simp[h];apply yW;simp[h,g];refine Aj ⟨_,_,a9,?_⟩;try simp
 .rw[NJ (by omega)];apply AP;simp[h];apply xK;apply yW;simp;apply zT;try simp
theorem VC(g:AE)(n:BD)(h:LI g n):Pure prog 115 [AA g,Bs n] (.bool J):=by
 have i:=Bs.eq_1 n;refine zP func115 46 rfl λwf=>?_;apply yW;simp;refine xS (yW ?_);simp[i];rcases h with⟨j,k,m⟩|⟨j,k,m,o,q⟩
 .apply AP;simp[j];(repeat apply xS);apply yT;apply yH;simp[k,m,AA];refine Aj ⟨_,_,a9,?_⟩;try simp
 .have:¬n.prod= -1:=by omega
  apply AP;simp[this];apply xK;(repeat apply xS);apply yT;apply yH;simp[j,k,m,o,q,AA];apply zT;(try simp);rfl
theorem gD(g:AE)(w:B3 g=0)(n:BD)(h:LI g n):Pure prog 116 [AA g,Bs n] (AH (HX g n.prod n.token)):=by
 have i:=Bs.eq_1 n;refine zP func116 19 rfl λwf=>?_;apply yW;simp;refine xS (yW ?_);simp[i];rcases h with⟨m,A,B⟩|⟨m,A,B,C,E⟩
 .have e:HX g n.prod n.token=⟨J,n.token⟩:=ca (by omega);rw[e];apply AP;simp[m];apply yW;simp;refine Aj ⟨_,_,a9,?_⟩;simp[AH]
 .have e:HX g n.prod n.token=⟨false,Co g n.prod.toNat⟩:=bv (by omega);rw[e];obtain⟨p,o⟩:∃p:Nat,n.prod=p:=⟨n.prod.toNat,by omega⟩;have j:p<Z g.AD:=by omega
  have u:((Co g p:Nat):Int)=g.AD[p].left:=by
   have:=Gy w (cL j);unfold Co;rw[ej j];simp only[];omega
  obtain⟨q,v⟩:=ce (g.AD[p]);rw[v]at u;have k:=AF.eq_1 q;have:¬n.prod= -1:=by omega
  apply AP;simp[this];apply xK;apply yW;simp[AA,o,j,v,k];apply zT;simp[AH,o,u]
theorem gY(g:AE)(N:List BD)(v:Z N<=2000000){j:Nat}(hj:j<Z N)(o:LI g N[j])(q:N[j].prod<0):Pure prog 30 [AA g,Dh N,encI j] (encI ((j+1:Nat):Int)):=by
 have k:=VC g _ o;obtain⟨n,i⟩:=ce (N[j]);rw[i]at o q k;have h:=Bs.eq_1 n;have u:b8 .i64 ((j:Int)+1)=((j+1:Nat):Int):=by rw[c8];omega
 have c1:¬(Z N:Int)<=j:=by omega
 have m:¬Z N<=j:=by omega
 refine zP func30 70 rfl λwf=>?_;apply yW;simp;apply xS;refine yD (A7 13 []) (by kernel_rfl) ?_;simp;apply yZ;simp[c1,hj,i];refine Ab.C0 (ds:=[AA g,Bs n]) rfl rfl (by simp;rfl) (λ_=>k) (by simp[h,xN]) ?_;simp;apply yZ;simp;apply AP;simp;apply xK;apply yW;simp[u];refine xS (yW ?_);simp[hj,i,h];apply AP;simp[q];apply yW;simp;refine Aj ⟨_,_,a9,?_⟩;try simp
theorem fk(g:AE)(hG:B3 g=0)(N:List BD)(hN:Z N<=2000000){j p:Nat}(hj:j<Z N)(L:N[j]=Gs p)(M:p<Z g.AD)(k:Nat->Nat)(K0:k 0=j+1)
  (A:∀i (h:i<Z g.AD[p].right),∃(h1:k i<Z N),HX g N[k i].prod N[k i].token=g.AD[p].right[i]/\LI g N[k i]/\Pure prog 30 [AA g,Dh N,encI (k i)] (encI (k (i+1)))):
  Pure prog 30 [AA g,Dh N,encI j] (encI (k (Z g.AD[p].right))):=by
 have P:=VC g (Gs p) (M8 M);have Q:=λn h=>gD g hG n h;obtain⟨q,R⟩:=ce (g.AD[p]);have T:q∈g.AD:=R▸cL M;have a1:Z q.right<=a8:=by have:=D9 hG q T;unfold a8;omega
 simp only[R]at A⊢;have U:=AF.eq_1 q;have W:(Gs p).prod=p:=rfl;have X:(Gs p).token= -1:=rfl;have Y:(Gs p).text=ByteArray.empty:=rfl;have i4:(Gs p).rem=[]:=rfl;have m:Bs (Gs p)=.agg [encI p,encI (-1),BQ ByteArray.empty,.sl []]:=rfl;have hw:b8 .i64 ((j:Int)+1)=((k 0:Nat):Int):=by rw[c8,K0];omega
 have c1:¬(Z N:Int)<=j:=by omega
 have K:¬Z N<=j:=by omega
 have c3:¬((p:Int)<0):=by omega
 refine zP func30 70 rfl λwf=>?_;apply yW;simp;apply xS;refine yD (A7 13 []) (by kernel_rfl) ?_;simp;apply yZ;simp[c1,hj,L];refine Ab.C0 (ds:=[AA g,Bs (Gs p)]) rfl rfl (by simp[W,X,Y,i4];rfl) (λ_=>P) (by simp[m,W,X,Y,i4,xN]) ?_;simp[W,X,Y,i4];apply yZ;simp;apply AP;simp;apply xK;apply yW;simp[hw];refine xS (yW ?_);simp[hj,L,m,c3];apply AP;simp;apply xK;refine yD (A7 11 []) (by kernel_rfl) ?_;simp;apply yA 1;simp[hj,L,m,M,R,U,AA];refine xS (yW ?_);simp;apply Bo;refine zL (Z q.right) (λi tm S=>tm 1=.d (Dh N)/\tm 3=.ptr 0 1 0 0/\tm 7=.d (encI (k i))/\tm 8=.d (.sl (q.right.map AH))/\tm 9=.d (encI i)/\S=[.row J 9 [.d (AA g)]]) (by simp[AA]) ?_;rintro i tm S hi ⟨t1,t3,t7,t8,t9,rfl⟩;refine xS (yW ?_);simp[t8,t9];apply AP;simp;refine⟨λB=>?_,λzu=>?_⟩
 .obtain⟨C,E,F,hk4⟩:=A i B;obtain⟨nn,u⟩:=ce (N[k i]);rw[u]at E F;have v:=Q nn F;rw[E]at v;have o:=Bs.eq_1 nn;obtain⟨sy,w⟩:=ce (q.right[i]);rw[w]at v;have G:=AH.eq_1 sy;have H:¬((k (i+1):Int)<0):=by omega
  apply xK;apply xB;apply yS;apply yJ;simp[t1,t3,t7];refine Bq (hk4) rfl (by simp[xN]) (yJ ?_);simp;apply xS;refine yD (A7 15 []) (by kernel_rfl) ?_;simp;apply yZ;simp[t1,t3,t7,H,C,u,B];refine Ab.C0 (ds:=[AA g,Bs nn]) rfl rfl (by simp;rfl) (λ_=>v) (by simp[o,xN]) ?_;simp;apply yZ;simp[t8,t9,B,w,G];apply AP;simp;apply xK;apply yV;simp;apply yV;simp[t9];refine⟨B,_,_,a9,?_⟩;simp[t1,t3,t8,AK B a1]
 .have e:i=Z q.right:=by omega
  subst e;apply Ci;apply yW;simp[t7];apply zT;try simp
def PB(n:Nat):Bool:=decide (n=32)||decide (n=9)
def NA(s:ByteArray):Nat->Nat
 |0=>0
 |m+1=>if(s.get! m).toNat=10 then 0 else NA s m+1
def O0(s:ByteArray):Nat->Bool
 |0=>J
 |m+1=>if(s.get! m).toNat=10 then J else PB (s.get! m).toNat&&O0 s m
theorem mz(s:ByteArray)(m:Nat):NA s m<=m:=by
 induction m with
 |zero=>exact c9 _
 |succ m g=>unfold NA;split<;>omega
def JN(g:AE)(DG:ByteArray)(h i:V)(e k:Int):V:=.agg [.d (By g.conds),.d (AV g.fam.nodes),.d (encI g.fam.root),.d (Cm g.AT),.d (By g.A0),.d (CJ g.AD),.d (encI g.start),.d (Be g.levels),.d (BL g.AR),.d (BQ DG),h,i,.d (encI e),.d (encI k)]
def Kd(g:AE)(DG:ByteArray)(ws rs:List Wd)(w1 h:Bool)(e k:Int):Sg:=
 [.row J 14 [JN g DG (.row 1 (Z ws)) (.row 2 (Z rs)) e k],.row w1 5 (ws.map λx=>.d (Cb x)),.row h 5 (rs.map λx=>.d (Cb x))]
theorem Z4(g:AE)(DG:ByteArray)(R:DG.size<=2 ^ 20)(ws rs:List Wd)(w1 H:Bool)(e k:Int):
  AG prog 114 [.ptr 0 1 0 0] (Kd g DG ws rs w1 H e k) (.d (.CX [encI (NA DG DG.size),Cu (O0 DG DG.size)])) (Kd g DG ws rs w1 H e k):=by
 obtain⟨Q,o⟩:=ce (Kd g DG ws rs w1 H e k);have L:b8 .i64 ((DG.size:Int) - 1)=(DG.size:Int) - 1:=by rw[c8];omega
 refine AG.Gp func114 (by kernel_rfl) rfl (by simp) λwf _=>?_;rw[ntmps114];unfold Kd JN at o⊢;refine xW λK h=>?_;simp;apply h;refine xW λK h=>?_;simp;apply h;refine xW λK h=>?_;simp;apply h;refine xS (xW λK h=>?_);simp[L];apply h;refine Bo ?_;refine aes (λE tm S=>tm 0=.ptr 0 1 0 0/\E<=DG.size/\tm 6=.d (encI ((E:Int) - 1))/\(∃n:Nat,tm 4=.d (encI n)/\n+NA DG E=NA DG DG.size)/\(∃b:Bool,tm 5=.d (.bool b)/\(b&&O0 DG E)=O0 DG DG.size)/\S=Q) ⟨DG.size,_,_,a9,by simp,by simp,by simp,⟨0,by simp⟩,⟨J,by simp⟩,o⟩ ?_;rintro E tm S ⟨t0,T,t6,⟨n,t4,F⟩,⟨b,t5,hb⟩,rfl⟩;rw[<-o];cases E with
 |zero=>
  have v:NA DG 0=0:=rfl;have w:O0 DG 0=true:=rfl;rw[v,tl]at F;rw[w,adB]at hb;subst F;subst hb;refine xS (E5 λK h=>?_);refine xH ?_;simp[t6];refine BY (h _ _ ?_);(try simp only[xQ,reduceIte]);refine AP ?_;simp;refine Ci ?_;(repeat refine xS ?_);refine xV λK h=>?_;simp[t4,t5];refine h _ _ ?_;(try simp only[xQ,reduceIte]);(refine Aj ?_;(try simp only[xQ,reduceIte]);refine⟨_,_,_,a9,by simp,by simp[BO,B4,F5,Ht],a9⟩)
 |succ m=>
  have c0:(0:Int)<=((m+1:Nat):Int) - 1:=by omega
  have M:((m+1:Nat):Int) - 1=m:=by omega
  have j:m<DG.size:=by omega
  rw[M]at t6;generalize u:(DG.get! m).toNat=c;by_cases A:c=10
  .have v:NA DG (m+1)=0:=by unfold NA;rw[u,ca A]
   have w:O0 DG (m+1)=true:=by unfold O0;rw[u,ca A]
   rw[v,tl]at F;rw[w,adB]at hb;subst F;subst hb;refine xS (E5 λK h=>?_);refine xH ?_;simp[t0,t6,j,u,A];refine BY (h _ _ ?_);(try simp only[xQ,reduceIte]);refine AP ?_;simp;refine Ci ?_;(repeat refine xS ?_);refine xV λK h=>?_;simp[t4,t5];refine h _ _ ?_;(try simp only[xQ,reduceIte]);(refine Aj ?_;(try simp only[xQ,reduceIte]);refine⟨_,_,_,a9,by simp,by simp[BO,B4,F5,Ht],a9⟩)
  .have v:NA DG (m+1)=NA DG m+1:=by rw[NA,u,bv A]
   have w:O0 DG (m+1)=(PB c&&O0 DG m):=by rw[O0,u,bv A]
   have G:¬((c:Int)=10):=by omega
   have N:b8 .i64 ((n:Int)+1)=((n+1:Nat):Int):=by have:=mz DG DG.size;rw[c8];omega
   have B:b8 .i64 ((m:Int) - 1)=(m:Int) - 1:=by rw[c8];omega
   rw[v]at F;rw[w]at hb;refine xS (E5 λK h=>?_);refine xH ?_;simp[t0,t6,j,u];refine BY (h _ _ ?_);(try simp only[xQ,reduceIte]);refine AP ?_;simp[G];refine xK ?_;refine xB ?_;(repeat refine xS ?_);refine xV λK h=>?_;simp[t4,N];refine h _ _ ?_;(try simp only[xQ,reduceIte]);cases b with
   |false=>
    refine FG λK h=>?_;refine xH ?_;simp[t5];refine BY (h _ _ ?_);refine xV λK h=>?_;simp[t6,B];apply h;refine⟨m,by omega,_,_,a9,by simp[t0],(by omega),by simp,⟨n+1,by simp,by omega⟩,(.inl ⟨by simp,by simpa using hb.symm⟩),by simp⟩
   |true=>
    by_cases C:c=32
    .have i:(c:Int)=32:=by omega
     refine FG λK h=>?_;refine xH ?_;simp[t0,t5,t6,j,u,C];refine BY (h _ _ ?_);refine xV λK h=>?_;simp[t6,B];apply h;refine⟨m,by omega,_,_,a9,by simp[t0],(by omega),by simp,⟨n+1,by simp,by omega⟩,(.inr ⟨by simp,by simpa[PB,C]using hb⟩),by simp⟩
    .have i:¬(c:Int)=32:=by omega
     by_cases P:c=9
     .have q:(c:Int)=9:=by omega
      refine FG λK h=>?_;refine xH ?_;simp[t0,t5,t6,j,u,P];refine BY (h _ _ ?_);refine xV λK h=>?_;simp[t6,B];apply h;refine⟨m,by omega,_,_,a9,by simp[t0],(by omega),by simp,⟨n+1,by simp,by omega⟩,(.inr ⟨by simp,by simpa[PB,P]using hb⟩),by simp⟩
     .have q:¬(c:Int)=9:=by omega
      (repeat refine xS ?_);refine FG λK h=>?_;(repeat((first|refine FI rfl ?_ ?_;(·simp[i])|refine Pe rfl ?_ ?_;(·simp[j,i])|refine Cc ?_ ?_;(·simp));simp[t0,t5,t6,u]));refine BY (h _ _ ?_);(try simp only[B5,A2]);refine xV λK h=>?_;simp[t6,B];apply h;refine⟨m,by omega,_,_,a9,by simp[t0],(by omega),by simp,⟨n+1,by simp,by omega⟩,(.inl ⟨by simp[i,q],by simpa[PB,C,P]using hb.symm⟩),by simp⟩
def Ss(DG s:ByteArray)(t:Int):Wd:=⟨DG.size,((DG.size+s.size:Nat):Int),NA DG DG.size,O0 DG DG.size,t⟩
theorem Xc(g:AE)(DG:ByteArray)(o:DG.size<=2 ^ 20)(ws rs:List Wd)(w1 h:Bool)(e k:Int)(s:ByteArray)(q:s.size<=2 ^ 20)(t:Int):
  AG prog 29 [.ptr 0 1 0 0,.d (BQ s),.d (encI t)] (Kd g DG ws rs w1 h e k) (.d (Cb (Ss DG s t))) (Kd g (DG++s) ws rs w1 h e k):=by
 have m:=Z4 g DG o ws rs w1 h e k;have i:b8 .i64 ((DG.size:Int)+s.size)=((DG.size+s.size:Nat):Int):=by rw[c8];omega
 have u:DG.size+s.size<=a8:=by unfold a8;omega
 have j:1<=a8:=by simp[a8]
 refine zD func29 43 rfl λwf _=>?_;unfold Kd JN at m⊢;apply yW;simp;apply yS;apply yJ;simp;refine xF (m) [0,1,2] rfl ?_;simp;apply yJ;simp;refine yD (A7 18 [37,39]) (by kernel_rfl) ?_;simp;apply yA 1;simp[i,j];apply xX 0 (by kernel_rfl);simp[AY,j];apply xX 262143 (by kernel_rfl);simp[AY,j];apply xM;apply yW;simp[u];(repeat apply xS);apply yV;simp;(apply Aj;refine⟨_,_,_,a9,by simp,by simp[BO,B4,DL,Cb,Ss],j1 3 (by simp)⟩)
def R8(p:Token->Bool):List Token->Nat->Option Nat
 |[],_=>none
 |t::l,k=>if p t then some k else R8 p l (k+1)
noncomputable def Zs(s:ByteArray)(t:Token):Bool:=decide (t.cls=2)&&kU t s
abbrev kH:=ByteArray×List Wd×Bool
noncomputable def Hy(g:AE)(st:kH)(s:ByteArray):kH:=match R8 (Zs s) g.AT 0 with
 |none=>st
 |some t=>(st.1++s++⟨#[10]⟩,st.2.1++[Ss st.1 s t],J)
noncomputable def EF(g:AE)(st:kH)(l:List ByteArray):kH:=l.foldl (Hy g) st
abbrev acs:=@ByteArray.size_append
theorem cm(g:AE)(st:kH)(s:ByteArray)(h:s.size<=8):(Hy g st s).1.size<=st.1.size+9/\Z (Hy g st s).2.1<=Z st.2.1+1:=by
 unfold Hy;split
 .omega
 .rw[acs,acs];have:(⟨#[10]⟩:ByteArray).size=1:=rfl;simp;omega
theorem IT(g:AE):∀(l:List ByteArray) (st:kH),(∀s∈l,s.size<=8)->(EF g st l).1.size<=st.1.size+9 * Z l/\Z (EF g st l).2.1<=Z st.2.1+Z l
 |[],st,_=>by simp[EF]
 |s::l,st,h=>by
  have j:=cm g st s (h s (by simp));have k:=IT g l (Hy g st s) λx i=>h x (by simp[i]);have e:EF g st (s::l)=EF g (Hy g st s) l:=rfl;rw[e,gr];omega
theorem Vk(g:AE)(st:kH)(l:List ByteArray){i:Nat}(h:i<Z l):EF g st (l.take (i+1))=Hy g (EF g st (l.take i)) l[i]:=by
 unfold EF;rw[pt h,abU];rfl
def PK(g:AE)(st:kH)(ws:List Wd)(w1:Bool):Sg:=Kd g st.1 ws st.2.1 w1 st.2.2 0 0
theorem Nd(g:AE)(hT:Z g.AT<=256)(l:List ByteArray)(W:∀s∈l,s.size<=8)(hll:Z l<=12)(ws:List Wd)(w1:Bool)(st:kH)(X:st.1.size<=2 ^ 19)(hr:Z st.2.1<=2 ^ 20):
  AG prog 28 [.ptr 0 1 0 0,.d (By l)] (PK g st ws w1) (.CX []) (PK g (EF g st l) ws w1):=by
 have P:1<=a8:=by simp[a8]
 have Y:Z l<=a8:=by unfold a8;omega
 have a2:Z g.AT<=a8:=by unfold a8;omega
 refine zC func28 73 rfl λwf _=>?_;apply yW;simp;apply Bo;refine zL (Z l) (λi tm S=>tm 0=.ptr 0 1 0 0/\tm 1=.d (By l)/\tm 4=.d (encI i)/\S=PK g (EF g st (l.take i)) ws w1) (by simp[EF]) ?_;rintro i tm S hi ⟨t0,t1,t4,rfl⟩;refine xS (yW ?_);simp[t1,t4];apply AP;simp;refine⟨λq=>?_,λzu=>?_⟩
 .have A:=IT g (l.take i) st λs X=>W s (ab2 X);have v:=Vk g st l q;have Q:Z (l.take i)=i:=by simp;omega
  rw[Q]at A;obtain⟨s,m⟩:=ce (l[i]);have hs8:s.size<=8:=W s (m▸cL q);rw[m]at v;obtain⟨u,hu⟩:=ce (EF g st (l.take i));rw[hu]at A v⊢;obtain⟨DG,rs,E⟩:=u;simp only at A;have R:(⟨#[10]⟩:ByteArray).size=1:=rfl;have zp:DG.size+s.size+1<=a8:=by unfold a8;omega
  have hb:Z rs+1<=2 ^ 30:=by omega
  have F:=λt=>Xc g DG (by omega) ws rs w1 E 0 0 s (by omega) t;have T:=λt=>LU t s (by omega);apply xK;apply xB;apply yW;simp;apply Bo;refine zL (Z g.AT) (λj tm S=>tm 0=.ptr 0 1 0 0/\tm 1=.d (By l)/\tm 4=.d (encI i)/\tm 5=.d (encI j)/\R8 (Zs s) (g.AT.drop j) j=R8 (Zs s) g.AT 0/\S=PK g (DG,rs,E) ws w1) (by simp[t0,t1,t4]) ?_;rintro j tm S hj ⟨t0,t1,t4,t5,B,rfl⟩;unfold PK Kd JN at F⊢;simp only[]at *;refine xS (yW ?_);simp[t0,t5];apply AP;simp;refine⟨λo=>?_,λzu=>?_⟩
  .obtain⟨t,w⟩:=ce (g.AT[j]);have k:=AX.eq_1 t;have hd:g.AT.drop j=t::g.AT.drop (j+1):=by rw[<-w];exact Hh o
   rw[hd,R8]at B;have L:=T t;have no:Zs s t=false->R8 (Zs s) (g.AT.drop (j+1)) (j+1)=R8 (Zs s) g.AT 0:=λh=>by rw[h]at B;simpa using B
   apply xK;apply xB;by_cases c1:t.cls=2
   .cases M:kU t s with
    |false=>
     have C:Zs s t=false:=by simp[Zs,M]
     rw[M]at L;refine yD (A7 25 []) (by kernel_rfl) ?_;simp;apply yZ;simp[t0,t1,t4,t5,o,w,k,c1,q,m];refine Ab.C0 (ds:=[AX t,BQ s]) rfl rfl (by simp;rfl) (λ_=>L) (by simp[k,c1]) ?_;simp;apply yZ;simp;apply AP;simp;apply CF;apply yV;simp[t5];refine⟨o,_,_,a9,?_⟩;simp[t0,t1,t4,AK o a2];exact no C
    |true=>
     have U:Zs s t=true:=by simp[Zs,c1,M]
     rw[U,ca rfl]at B;have N:Hy g (DG,rs,E) s=(DG++s++⟨#[10]⟩,rs++[Ss DG s j],J):=by unfold Hy;rw[<-B]
     rw[M]at L;have G:=F j;obtain⟨wd,H⟩:=ce (Ss DG s j);rw[H]at G N;have K:=Cb.eq_1 wd;refine yD (A7 25 []) (by kernel_rfl) ?_;simp;apply yZ;simp[t0,t1,t4,t5,o,w,k,c1,q,m];refine Ab.C0 (ds:=[AX t,BQ s]) rfl rfl (by simp;rfl) (λ_=>L) (by simp[k,c1]) ?_;simp;apply yZ;simp;apply AP;simp;refine yD (A7 12 [25,26,29,30,32,34,37]) (by kernel_rfl) ?_;simp;apply yA 1;simp[t0,t1,t4,t5,q,m];refine ul (xT [1,1,0,0,0,1,0,0,0,0,0,0]) (G) [0,1,2] (by kernel_rfl) rfl (by simp[AY,t0,t1,t4,t5,q,m];try rfl) ?_;simp;apply yA 1;simp[P];apply xX 17 (by kernel_rfl);simp[AY,P,hb,Ac,K];apply yA 1;simp;apply xX 2041 (by kernel_rfl);simp[AY];apply xM;apply yW;simp[t0,P,zp,R];apply Ci;apply yV;simp[t4];refine⟨q,_,_,a9,?_⟩;simp[t0,t1,AK q Y,v,N,K]
   .have C:Zs s t=false:=by simp[Zs,c1]
    have c1':¬(t.cls=2):=c1;refine yD (A7 25 []) (by kernel_rfl) ?_;simp;(repeat((first|refine PW rfl rfl ?_ ?_;(·simp[c1])|refine gT rfl rfl ?_ ?_;(·simp[t0,t1,t4,t5,o,w,k,c1,q,m])|refine Hs ?_ ?_;(·simp[o,w,k,c1]));simp[t0,t5,o,w,k]));apply xM;apply AP;simp;apply CF;apply yV;simp[t5];refine⟨o,_,_,a9,?_⟩;simp[t0,t1,t4,AK o a2];exact no C
  .have e:j=Z g.AT:=by omega
   subst e;rw[List.drop_length]at B;have N:Hy g (DG,rs,E) s=(DG,rs,E):=by unfold Hy;rw[<-B];rfl
   apply Ci;apply yV;simp[t4];refine⟨q,_,_,a9,?_⟩;simp[t0,t1,AK q Y,v,N]
 .have e:i=Z l:=by omega
  subst e;rw[ns];apply Ci;refine⟨_,a9,?_⟩;simp[Aq]
theorem WY{n:Nat}(t:DT):∀L:List DT,(∀x∈L,x.Below n)->t.Below n->∀x∈emit t L,x.Below n:=by
 induction t with
 |leaf b=>intro L h _ x g;exact h x g
 |node v l h i j=>
  intro L k hb x g;unfold emit at g;split at g
  .exact k x g
  .rcases fi.1 g with g|g
   .exact j _ (i L k hb.2.1) hb.2.2 x g
   .rw[go.1 g];exact hb
theorem Pj{n:Nat}(i:n<=12){t:DT}(h:FE n t):B1 (Ce t) n=true:=by
 have j:F7 (Ce t)=0:=h.F7 i;simp only[B1,j,acQ,rx,ol,tg,fc];intro b hb;obtain⟨x,g,rfl⟩:=g7.1 hb;obtain⟨v,l,r,rfl⟩:=RX t [] (by simp) x g;have k:v<n:=(WY t [] (by simp) h.below _ g).1;show ¬(n:Int)<=v
 omega
theorem PA{n:Nat}(g:n<=12){a b:AL}(ha:B1 a n=J)(hb:B1 b n=J):(Dl and a b).2=0/\B1 (Dl and a b).1 n=true:=by
 obtain⟨h,i⟩:=FM ha;obtain⟨j,k⟩:=FM hb;obtain⟨m,o⟩:=KA g (EE h) (EE j) i k;rw[m];exact⟨rfl,Pj g o⟩
def ku(v:Int):DT:=.node v (.leaf false) (.leaf J)
theorem fX(v:Int):Ce (ku v)=⟨[⟨v,0,1⟩],2⟩:=by
 simp[Ce,ku,emit,kz,ar,num]
theorem Xv{n v:Nat}(g:n<=12)(h:v<n):FE n (ku v):=
 ⟨⟨by omega,by omega,by simp,by simp[level];omega,by simp[level];omega,trivial,trivial⟩,by simp;omega,trivial,trivial⟩
theorem eK{n:Nat}(g:n<=12){x:AZ}{v:Nat}(h:x.number=v)(i:v<n):(I9 x).2=0/\B1 (I9 x).1 n=true:=by
 have j:Ar x.number=Ce (ku v):=by
  rw[fX,h];unfold Ar;rw[bv (by omega)]
 have k:Rs x.number=0:=by rw[h];unfold Rs;rw[bv (by omega)]
 unfold I9;split
 .exact⟨k,by rw[j];exact Pj g (Xv g i)⟩
 .obtain⟨o1,_,m⟩:=Ex XZ g (Xv g i) (FE.leaf n false);have e:Ce (.leaf false)=⟨[],0⟩:=rfl;rw[j,<-e,m];exact⟨rfl,Pj g o1⟩
structure Ee(g h:AE):Prop where
 cn:h.conds=g.conds
 tk:h.AT=g.AT
 nt:h.A0=g.A0
 st:h.start=g.start
 pl:Z h.AD=Z g.AD
 pr:∀(i:Nat) p,g.AD[i]?=some p->∃d,h.AD[i]?=some {p with cond:=d}
 ck:B3 h=0
theorem Ee.sJ{g h:AE}(H:Ee g h){N:Int->Bool}{r:Int->Nat}(A:Kl g N r):Kl h N r:=by
 have j:∀p∈h.AD,∃q∈g.AD,p.left=q.left/\p.right=q.right:=λp k=>by
  obtain⟨i,hi,rfl⟩:=lm.1 k;have m:i<Z g.AD:=by rw[<-H.pl];exact hi
  obtain⟨d,o⟩:=H.pr i _ (ej m);rw[ej hi]at o;simp only[j3]at o;exact⟨_,cL m,by rw[o],by rw[o]⟩
 refine⟨λp k=>?_,λp k=>?_⟩
 .obtain⟨q,w,u,v⟩:=j p k;rw[u,v];exact A.1 q w
 .obtain⟨q,w,u,v⟩:=j p k;obtain⟨B,pl,pr,C,E,F,G,K⟩:=p;simp only at u v;subst u;subst v;exact A.2 q w
theorem Ee.wg{g h:AE}(H:Ee g h)(m:MD g=0)(o:MD h=0):cE g h []=0:=by
 unfold cE;rw[bv (by simpa using m),bv (by simpa using o),bv (by rw[H.tk,H.nt];omega),ca];refine⟨rfl,ed.2 λp q=>?_⟩;have i:p<Z g.AD:=by simpa using q
 obtain⟨d,k⟩:=H.pr p _ (ej i);have j:p<Z h.AD:=by rw[H.pl];exact i
 rw[ej j]at k;simp only[j3]at k;have u:g.AD[p]?.getD G9=g.AD[p]:=by simp[i]
 simp[Jg,j,u,k]
theorem Rp{g:AE}(C:B3 g=0){n:Nat}(m:n<Z g.AD){d:AL}(E:B1 d (Z g.conds)=J):Ee g {g with AD:=g.AD.set n {g.AD[n]with cond:=d}}:=by
 obtain⟨k1,k2,k3,k4,k5,F,G⟩:=Bx C;obtain⟨n1,H⟩:=(HV _ _).1 k5;have B:∀(i:Nat) p,g.AD[i]?=some p->∃u,(g.AD.set n {g.AD[n]with cond:=d})[i]?=some {p with cond:=u}:=λi p k=>by
  by_cases e:n=i
  .subst e;rw[ej m]at k;cases k;exact⟨d,by rw[abm m]⟩
  .exact⟨p.cond,by rw[pv e,k]⟩
 refine⟨rfl,rfl,rfl,rfl,by simp,B,?_⟩;obtain⟨h,j⟩:∃h:AE,h={g with AD:=g.AD.set n {g.AD[n]with cond:=d}}:=⟨_,rfl⟩;have v:Cs h [⟨#[]⟩] h.AD=0:=by
  rw[HV,j];refine⟨λp k=>?_,?_⟩
  .rcases abx k with k|rfl
   .exact n1 p k
   .obtain⟨K,o,L⟩:=n1 _ (cL m);refine⟨K,?_,L⟩;simp only[HR,cF]at o⊢;exact⟨⟨⟨E,o.1.1.2⟩,o.1.2⟩,o.2⟩
  .have e:(g.AD.set n {g.AD[n]with cond:=d}).map (·.name)=g.AD.map (·.name):=by
    rw[g9];have:(g.AD.map (·.name)).set n g.AD[n].name=g.AD.map (·.name):=by
     have q:n<Z (g.AD.map (·.name)):=by simpa using m
     have:=List.set_getElem_self q;simpa using this
    exact this
   rw[e];exact H
 have M:Cq h=false:=by
  rw[j];simp only[Cq,WF,SS,Pi]at k1⊢;refine⟨k1.1,tg.2 λp k=>?_⟩;have q:=tg.1 k1.2;rcases abx k with k|rfl
  .exact q p k
  .exact q g.AD[n] (cL m)
 have w:EH h [] h.levels=true:=by
  have e:h.levels=g.levels:=by rw[j]
  rw[e];exact E1 (by rw[j]) (by rw[j];simp) F
 have A:Du h=true:=by
  have e:h.AR=g.AR:=by rw[j]
  unfold Du;rw[e];exact ed.2 λf N=>N4 (by rw[j]) (by rw[j]) (by rw[j]) (λi p k=>by
   obtain⟨u,e⟩:=B i p k;exact⟨{p with cond:=u},by rw[j];exact e,rfl,rfl⟩) (ed.1 G f N)
 have P:En h=true:=by rw[j];exact k2
 have Q:Eh h=true:=by rw[j];exact k3
 have R:Hp h=true:=by rw[j];exact k4
 rw[<-j];simp[B3,M,DN,P,Q,R,v,w,A,FY]
theorem Wk{g:AE}(v:B3 g=0){d:AL}(w:B1 d (Z g.conds)=J):B3 {g with fam:=d}=(if d.root=0 then 54 else 0)/\(d.root≠0->Ee g {g with fam:=d}):=by
 obtain⟨k1,k2,k3,k4,k5,A,B⟩:=Bx v;have o:B3 {g with fam:=d}=if d.root=0 then 54 else 0:=by
  obtain⟨h,j⟩:∃h:AE,h={g with fam:=d}:=⟨_,rfl⟩;have q:Cq h=false:=by rw[j];exact k1
  have C:Eh h=true:=by rw[j];exact k3
  have E:Hp h=true:=by rw[j];exact k4
  have F:Cs h [⟨#[]⟩] h.AD=0:=by
   have e:h.AD=g.AD:=by rw[j]
   rw[e];exact(Ff (λ_=>by rw[j];rfl) (λ_=>by rw[j];rfl) _ _).trans k5
  have G:EH h [] h.levels=true:=by
   have e:h.levels=g.levels:=by rw[j]
   rw[e];exact E1 (by rw[j]) (by rw[j];exact c9 _) A
  have H:Du h=true:=by
   have e:h.AR=g.AR:=by rw[j]
   unfold Du;rw[e];exact ed.2 λf K=>N4 (by rw[j]) (by rw[j]) (by rw[j]) (λi p m=>⟨p,by rw[j];exact m,rfl,rfl⟩) (ed.1 B f K)
  have u:En h=!decide (d.root=0):=by
   simp only[En,cF]at k2;rw[j];simp[En,k2.1.1.1,k2.1.1.2,w]
  rw[<-j];by_cases k:d.root=0
  .simp[B3,q,DN,u,k,FY]
  .simp[B3,q,DN,u,C,E,F,G,H,k,FY]
 refine⟨o,λk=>⟨rfl,rfl,rfl,rfl,rfl,λi p m=>⟨p.cond,by simpa using m⟩,by rw[o,bv k]⟩⟩
theorem nf{g:AE}(U:B3 g=0){N:List BD}(W:Z N<=2000000)(u:TF):∀(j:Nat) {A:List Symbol},u.fit g A->(∀y (h:y<Z u.flat),N[j+y]?=am u.flat[y])->(∀y,y<Z u.flat->∃(n:BD) (a:Nat),N[j+y]?=am n/\LI g n/\(u.ends j)[y]?=am (a:Int)/\Pure prog 30 [AA g,Dh N,encI ((j+y:Nat):Int)] (encI a))/\∀m (h:m<Z A),∃n,N[u.at j m]?=am n/\HX g n.prod n.token=A[m]/\LI g n/\Pure prog 30 [AA g,Dh N,encI ((u.at j m:Nat):Int)] (encI ((u.at j (m+1):Nat):Int)):=by
 induction u with
 |nil=>
  intro j A E _;have:A=[]:=E;subst this;exact⟨λy h=>absurd h (by simp[TF.flat]),λm h=>absurd h (by simp)⟩
 |leaf k s r x K=>
  intro j A E B;obtain⟨k1,k2,ts,rfl,L⟩:=E;have h0:=B 0 (by simp[TF.flat]);simp only[TF.flat,wv,tl]at h0;obtain⟨hj,o⟩:=gq.1 h0;have ok:LI g ⟨-1,k,s,r⟩:=On k1 k2;have C:=gY g N W hj (by rw[o];exact ok) (by rw[o];show(-1:Int)<0;decide);obtain⟨M,P⟩:=K (j+1) L (λy h=>by
   have:=B (y+1) (by simp[TF.flat];omega);rw[show j+1+y=j+(y+1) by omega,this];simp[TF.flat])
  refine⟨λy h=>?_,λm h=>?_⟩
  .cases y with
   |zero=>exact⟨_,j+1,h0,ok,by simp[TF.ends],C⟩
   |succ y=>
    obtain⟨n,a,v,F,G,w⟩:=M y (by simp[TF.flat]at h;omega);rw[show j+1+y=j+(y+1) by omega]at v w;exact⟨n,a,v,F,by simpa[TF.ends]using G,w⟩
  .cases m with
   |zero=>
    refine⟨_,h0,by simp[HX],ok,?_⟩;show Pure prog 30 [AA g,Dh N,encI ((j:Nat):Int)] (encI ((x.at (j+1) 0:Nat):Int))
    rw[TF.TG];exact C
   |succ m=>simpa[TF.at]using P m (by simpa using h)
 |node p k x Q K=>
  intro j A E B;obtain⟨q,k1,X,ts,rfl,L⟩:=E;obtain⟨C,R⟩:=gq.1 k1;have h0:=B 0 (by simp[TF.flat]);simp only[TF.flat,wv,tl]at h0;obtain⟨hj,o⟩:=gq.1 h0;have c1:∀y (h:y<Z k.flat),N[j+1+y]?=am k.flat[y]:=λy h=>by
   have:=B (y+1) (by simp[TF.flat];omega);rw[show j+1+y=j+(y+1) by omega,this];simp[TF.flat,oi h]
  have c2:∀y (h:y<Z x.flat),N[j+1+Z k.flat+y]?=am x.flat[y]:=λy h=>by
   have:=B (Z k.flat+y+1) (by simp[TF.flat];omega);rw[show j+1+Z k.flat+y=j+(Z k.flat+y+1) by omega,this];simp[TF.flat]
  obtain⟨M,P⟩:=Q (j+1) X c1;obtain⟨i3,i4⟩:=K (j+1+Z k.flat) L c2;have H:=fk g U N W hj o C (λi=>k.at (j+1) i) (TF.TG k (j+1)) (λi h=>by
   obtain⟨n,b1,b2,b3,b4⟩:=P i (by rw[R]at h;exact h);obtain⟨l1,l2⟩:=gq.1 b1;exact⟨l1,by rw[l2,b2];simp only[R],by rw[l2];exact b3,b4⟩)
  simp only[R]at H;rw[k.q9 (j+1) X]at H;have S:((Co g p:Nat):Int)=q.left:=by
   have:=Gy U (oj k1);unfold Co;rw[k1];simp only[];omega
  have T:¬((p:Int)<0):=by omega
  refine⟨λy h=>?_,λm h=>?_⟩
  .cases y with
   |zero=>exact⟨_,_,h0,M8 C,by simp[TF.ends],H⟩
   |succ y=>
    simp only[TF.flat,gr,jp]at h;by_cases Y:y<Z k.flat
    .obtain⟨n,a,v,F,G,w⟩:=M y Y;rw[show j+1+y=j+(y+1) by omega]at v w;exact⟨n,a,v,F,by simp only[TF.ends,ri];rw[io (by rw[TF.C3];exact Y)];exact G,w⟩
    .obtain⟨n,a,v,F,G,w⟩:=i3 (y - Z k.flat) (by omega);rw[show j+1+Z k.flat+(y - Z k.flat)=j+(y+1) by omega]at v w;exact⟨n,a,v,F,by simp only[TF.ends,ri];rw[z9 (by rw[TF.C3];omega),TF.C3];exact G,w⟩
  .cases m with
   |zero=>
    refine⟨_,h0,by simp[HX,Gs,T,S],M8 C,?_⟩;show Pure prog 30 [AA g,Dh N,encI ((j:Nat):Int)] (encI ((x.at (j+1+Z k.flat) 0:Nat):Int))
    rw[TF.TG];exact H
   |succ m=>simpa[TF.at]using i4 m (by simpa using h)
def QP(lines:List Int)(k:Nat):ByteArray:=if k<=Z lines/\(lines.getD (k - 1) 0).tmod 2=0 then⟨#[10]⟩else⟨#[32]⟩
structure xx where
 DG:ByteArray
 ws:List Wd
 rs:List Wd
 f1:Bool
 f2:Bool
noncomputable def J9(g:AE)(lines:List Int)(a:xx)(n:BD):xx:=
 if n.prod<0 then
  ⟨(EF g (a.DG,a.rs,a.f2) n.rem).1++n.text++QP lines (Z a.ws+1),a.ws++[Ss (EF g (a.DG,a.rs,a.f2) n.rem).1 n.text n.token],(EF g (a.DG,a.rs,a.f2) n.rem).2.1,J,(EF g (a.DG,a.rs,a.f2) n.rem).2.2⟩
 else a
noncomputable def Cv(g:AE)(lines:List Int)(N:List BD):xx:=N.foldl (J9 g lines) ⟨ByteArray.empty,[],[],ap,ap⟩
theorem LF(g:AE)(lines:List Int)(N:List BD){i:Nat}(h:i<Z N):Cv g lines (N.take (i+1))=J9 g lines (Cv g lines (N.take i)) N[i]:=by
 unfold Cv;rw[pt h,abU];rfl
def vC(n:BD):Prop:=Z n.rem<=12/\(∀s∈n.rem,s.size<=8)/\n.text.size<=64
theorem VJ(g:AE)(lines:List Int)(N:List BD)(j:∀n∈N,vC n):∀i,i<=Z N->(Cv g lines (N.take i)).DG.size<=200 * i/\Z (Cv g lines (N.take i)).ws=lc N i/\Z (Cv g lines (N.take i)).rs<=12 * i:=by
 intro i;induction i with
 |zero=>intro _;simp[Cv,lc]
 |succ i k=>
  intro hi;obtain⟨u,v,w⟩:=k (by omega);rw[LF g lines N hi,H7 N hi];obtain⟨n1,m,n3⟩:=j _ (cL hi);generalize Cv g lines (N.take i)=a at *;unfold J9;by_cases h:N[i].prod<0
  .rw[ca h,ca (by simpa[lf]using h)];have o:=IT g N[i].rem (a.DG,a.rs,a.f2) m;have q:(QP lines (Z a.ws+1)).size=1:=by unfold QP;split<;>rfl
   simp only[acs,jp,List.length_singleton,q]at o⊢;omega
  .rw[bv h,bv (by simpa[lf]using h)];omega
def VU(N:List BD)(A:List Int)(ws:List Wd)(e:Int):List D:=(List.range (Z N)).map λj=>Ei (Dd N A ws e j)
def vB(g:AE)(DG:ByteArray)(ws rs:List Wd):D:=.agg [By g.conds,AV g.fam.nodes,encI g.fam.root,Cm g.AT,By g.A0,CJ g.AD,encI g.start,Be g.levels,BL g.AR,BQ DG,D5 ws,D5 rs,encI DG.size,.int .i64 (-1)]
theorem Z6(g:AE)(hG:B3 g=0)(hT:Z g.AT<=256)(t:Term)(u:TF)(l:Int)(hu:t.nodes=u.flat)(hf:u.fit g [⟨ap,l⟩])(hlen:Z t.nodes<=100)(lines:List Int)
  (hN:∀n∈t.nodes,vC n) (htl:Z t.tail<=12) (Kx:∀s∈t.tail,s.size<=8):
  ∃(DG:ByteArray) (rs:List Wd) (f:Bool),EF g ((Cv g lines t.nodes).DG,(Cv g lines t.nodes).rs,(Cv g lines t.nodes).f2) t.tail=(DG,rs,f)/\Pure prog 8 [AA g,BN t,.sl (lines.map (D.int .u8))] (.CX [BQ DG,C7 ⟨(Cv g lines t.nodes).ws,rs,DG.size⟩,CE (Cg t.nodes (u.ends 0) (Cv g lines t.nodes).ws DG.size)]):=by
 obtain⟨R,hR⟩:=ce (EF g ((Cv g lines t.nodes).DG,(Cv g lines t.nodes).rs,(Cv g lines t.nodes).f2) t.tail);refine⟨R.1,R.2.1,R.2.2,hR,?_⟩;have N:1<=maxLen:=by simp[maxLen]
 have a1:Z t.nodes<=maxLen:=by unfold maxLen;omega
 have b1:=VJ g lines t.nodes hN;refine zP func8 203 rfl λwf=>?_;apply yW;simp;apply yW;simp;refine gs (AI.Lr 3 0 10 5 (xs:=[]) (by simp;exact⟨rfl,rfl⟩) rfl rfl) ?_;simp;refine gs (AI.Lr 3 0 11 5 (xs:=[]) (by simp;exact⟨rfl,rfl⟩) rfl rfl) ?_;simp;apply yW;simp;refine gs (oa 10 1 (xs:=[]) (by simp)) ?_;simp;refine xS (yW ?_);simp;apply Bo;refine zL (Z t.nodes) (λi tm S=>tm 2=.d (.sl (lines.map (D.int .u8)))/\tm 3=.ptr 0 1 0 0/\tm 4=.ptr 1 1 0 0/\tm 7=.ptr 2 1 0 0/\tm 9=.ptr 3 1 0 0/\tm 11=.d (encI i)/\∃a,Cv g lines (t.nodes.take i)=a/\tm 10=.row 6 (Z a.ws)/\∃js:List Nat,Z js=Z a.ws/\S=[.row J 9 [.d (AA g)],.row J 2 [.d (BN t)],.row J 4 [.agg [.full [],.full [],.d (encI 0),.d (encI 0)]],.row J 14 [JN g a.DG (.row 4 (Z a.ws)) (.row 5 (Z a.rs)) 0 0],.row a.f1 5 (a.ws.map λx=>.d (Cb x)),.row a.f2 5 (a.rs.map λx=>.d (Cb x)),.row (!js.isEmpty) 1 (js.map λ(x:Nat)=>.d (encI x))]) ?_ ?_
 .refine⟨by simp,by simp,by simp,by simp,by simp,by simp,⟨ByteArray.empty,[],[],ap,ap⟩,by simp[Cv],by simp,[],rfl,?_⟩;simp[JN,AA]
 rintro i tm S hi ⟨t2,t3,t4,t7,t9,t11,a,ha,t10,js,F,rfl⟩;obtain⟨c1,c2,c3⟩:=b1 i hi;rw[ha]at c1 c2 c3;obtain⟨DG,ws,rs,f1,f2⟩:=a;simp only[]at c1 c2 c3 t10 F;unfold JN;refine xS (yW ?_);simp[t4,t11,BN];apply AP;simp;refine⟨λq=>?_,λzu=>?_⟩
 .obtain⟨n,L⟩:=ce (t.nodes[i]);have P:=Bs.eq_1 n;have v:=LF g lines t.nodes q;rw[ha,L]at v;obtain⟨n1,n2,n3⟩:=hN n (L▸cL q);apply xK;apply xB;apply yW;simp[t4,t11,q,L,P];refine xS (yW ?_);simp;by_cases Q:n.prod<0
  .have hp':¬(0<=n.prod):=by omega
   apply AP;simp[hp'];apply CF;have hr:=Nd g hT n.rem n2 n1 ws f1 (DG,rs,f2) (by simp only[];omega) (by simp only[];omega);unfold PK Kd JN at hr;simp only[]at hr;(repeat apply xS);apply yT;apply yJ;simp[t9];refine xF (hr) [3,4,5] rfl ?_;simp;apply yJ;simp;have T:=IT g n.rem (DG,rs,f2) n2;obtain⟨r,hrr⟩:=ce (EF g (DG,rs,f2) n.rem);rw[hrr]at T;have zn:J9 g lines ⟨DG,ws,rs,f1,f2⟩ n=⟨r.1++n.text++QP lines (Z ws+1),ws++[Ss r.1 n.text n.token],r.2.1,J,r.2.2⟩:=by
    unfold J9;rw[ca Q];simp only[hrr]
   rw[zn]at v;simp only[hrr];obtain⟨o,C,g2⟩:=r;simp only[]at T v⊢;have hwj:=Xc g o (by omega) ws C f1 g2 0 0 n.text (by omega) n.token;obtain⟨wd,hwde⟩:=ce (Ss o n.text n.token);rw[hwde]at hwj v;have G:=Cb.eq_1 wd;unfold Kd JN at hwj;have hb:Z ws+1<=2 ^ 30:=by have:=Qp t.nodes i;omega
   have hb2:Z js+1<=2 ^ 30:=by omega
   refine yD (A7 11 [23,24,27,28,30,32,35]) (by kernel_rfl) ?_;simp;apply yA 1;simp[t9];refine ul (xT [1,0,1,0,1,0,0,0,0,0,0]) (hwj) [3,4,5] (by kernel_rfl) rfl (by simp[AY,t9];try rfl) ?_;simp;apply yA 1;simp[N];apply xX 9 (by kernel_rfl);simp[AY,N,hb,Ac,G];apply yA 1;simp;apply xX 1017 (by kernel_rfl);simp[AY];apply xM;apply yW;simp[t10,t11,N,hb,F,Ac];(repeat apply xS);apply yV;simp[F];have hw:b8 .i64 (Z ws:Int)=Z ws:=by rw[c8];have:=Qp t.nodes i;omega
   have hs1:(⟨#[10]⟩:ByteArray).size=1:=rfl;have hs2:(⟨#[32]⟩:ByteArray).size=1:=rfl;have zp:o.size+n.text.size+1<=maxLen:=by unfold maxLen;omega
   by_cases K:Z ws+1<=Z lines
   .obtain⟨x,hx⟩:=ce (lines[Z ws]);have H:(Z ws:Int)+1<=Z lines:=by omega
    have U:Z ws<Z lines:=by omega
    have hgd:lines.getD (Z ws+1 - 1) 0=x:=by simp[U,hx]
    have hse:QP lines (Z ws+1)=if x.tmod 2=0 then⟨#[10]⟩else⟨#[32]⟩:=by
     unfold QP;rw[hgd];simp[K]
    rw[hse]at v;by_cases M:x.tmod 2=0
    .rw[ca M]at v;apply yS;apply yH;simp[t2,H,U,hw,hx,M];apply AP;simp;apply yV;simp[t9,N,zp,hs1];apply yV;simp[t11];refine⟨q,_,_,gc 7 rfl (by simp),?_⟩;refine⟨by simp[clean,AJ,t2],by simp[clean,AJ,t3],by simp[clean,AJ,t4],by simp[clean,AJ,t7],by simp[clean,AJ,t9],by simp[clean,AJ,AK q a1],by simp[clean,AJ,v],js++[i],by simp[F,v],?_⟩;simp[G,v]
    .rw[bv M]at v;apply yS;apply yH;simp[t2,H,U,hw,hx];apply AP;simp[M];apply yV;simp[t9,N,zp,hs2];apply yV;simp[t11];refine⟨q,_,_,gc 7 rfl (by simp),?_⟩;refine⟨by simp[clean,AJ,t2],by simp[clean,AJ,t3],by simp[clean,AJ,t4],by simp[clean,AJ,t7],by simp[clean,AJ,t9],by simp[clean,AJ,AK q a1],by simp[clean,AJ,v],js++[i],by simp[F,v],?_⟩;simp[G,v]
   .have H:¬(Z ws:Int)+1<=Z lines:=by omega
    have hse:QP lines (Z ws+1)=⟨#[32]⟩:=by
     unfold QP;rw[bv (λh=>K h.1)]
    rw[hse]at v;apply yS;apply yH;simp[t2,H];apply AP;simp;apply yV;simp[t9,N,zp,hs2];apply yV;simp[t11];refine⟨q,_,_,gc 7 rfl (by simp),?_⟩;refine⟨by simp[clean,AJ,t2],by simp[clean,AJ,t3],by simp[clean,AJ,t4],by simp[clean,AJ,t7],by simp[clean,AJ,t9],by simp[clean,AJ,AK q a1],by simp[clean,AJ,v],js++[i],by simp[F,v],?_⟩;simp[G,v]
  .have hp':0<=n.prod:=by omega
   have zn:J9 g lines ⟨DG,ws,rs,f1,f2⟩ n=⟨DG,ws,rs,f1,f2⟩:=by
    unfold J9;rw[bv Q]
   rw[zn]at v;apply AP;simp[hp'];apply Ci;apply yV;simp[t11];refine⟨q,_,_,gc 7 rfl (by simp),?_⟩;refine⟨by simp[clean,AJ,t2],by simp[clean,AJ,t3],by simp[clean,AJ,t4],by simp[clean,AJ,t7],by simp[clean,AJ,t9],by simp[clean,AJ,AK q a1],by simp[clean,AJ,t10,v],js,by simp[F,v],?_⟩;simp[v]
 .have e:i=Z t.nodes:=by omega
  subst e;rw[ns]at ha;rw[ha]at hR⊢;obtain⟨o,C,g2⟩:=R;simp only[]at hR⊢;have T:=IT g t.tail (DG,rs,f2) Kx;rw[hR]at T;simp only[]at T;have hr:=Nd g hT t.tail Kx htl ws f1 (DG,rs,f2) (by simp only[];omega) (by simp only[];omega);rw[hR]at hr;unfold PK Kd JN at hr;simp only[]at hr;apply Ci;apply yS;apply yJ;simp[t9,t4];refine xF (hr) [3,4,5] rfl ?_;simp;apply yJ;simp;apply yW;simp[t9];apply yW;simp[t9];refine gs (gl 4 (xs:=ws.map Cb) rfl (by simp)) ?_;simp;refine gs (gl 5 (xs:=C.map Cb) rfl (by simp)) ?_;simp;refine gs (j2 3 (xs:=[vB g o ws C]) rfl (by simp[vB,Df,BO,B4,DL])) ?_;simp;refine gs (gc 4 rfl (by simp)) ?_;apply yW;simp;refine gs (oa 14 4 (xs:=[]) (by simp)) ?_;simp;apply yW;simp;refine xS (yW ?_);simp;apply Bo;have hN2:Z t.nodes<=2000000:=by omega
  obtain⟨hea,-⟩:=nf hG hN2 u 0 hf (λy h=>by rw[sn,hu,ej h]);have hwl:Z ws=lc t.nodes (Z t.nodes):=c2;have hgap:=λk K=>rW ⟨ws,C,o.size⟩ k K;obtain⟨A,hA⟩:=ce (u.ends 0);rw[hA]at hea⊢;refine zL (Z t.nodes) (λi tm S=>tm 3=.ptr 0 1 0 0/\tm 4=.ptr 1 1 0 0/\tm 7=.ptr 2 1 0 0/\tm 9=.ptr 3 1 0 0/\tm 14=.row 4 i/\tm 15=.d (encI (lc t.nodes i))/\tm 16=.d (encI i)/\S=[.row J 9 [.d (AA g)],.row J 2 [.d (BN t)],.row J 4 [.agg [.full [],.full [],.d (encI 0),.d (encI 0)]],.row J 14 [.d (vB g o ws C)],.row (decide (0<i)) 4 ((List.range i).map λj=>.d (Ei (Dd t.nodes A ws o.size j)))]) ?_ ?_
  .simp[clean,AJ,t3,t4,t7,t9,BN,lc]
  rintro i tm S hi ⟨t3,t4,t7,t9,t14,t15,t16,rfl⟩;have B:=vB.eq_1 g o ws C;refine xS (yW ?_);simp[t4,t16,BN];apply AP;simp;refine⟨λq=>?_,λzu=>?_⟩
  .obtain⟨n,L⟩:=ce (t.nodes[i]);have P:=Bs.eq_1 n;have W:=H7 t.nodes q;rw[L]at W;have hll:=Qp t.nodes i;obtain⟨n',a,e1,e2,e3,e4⟩:=hea i (by rw[<-hu];exact q);rw[sn]at e1 e4;have:n'=n:=by rw[ej q,L]at e1;exact(nu e1).symm
   subst this;have hb:i+1<=2 ^ 30:=by omega
   apply xK;apply xB;refine yD (A7 13 [27,29]) (by kernel_rfl) ?_;simp;apply yA 1;simp[t4,t16,q,L,P];apply xX 0 (by kernel_rfl);simp[AY,t4,t16,q,L,P];apply yA 1;simp;apply xX 8191 (by kernel_rfl);simp[AY,t4,t16,q,L,P];apply xM;refine xS (yW ?_);simp;by_cases Q:n'.prod<0
   .have K:lc t.nodes i<Z ws:=by rw[hwl];exact pQ t.nodes q (by rw[L];simpa[lf]using Q)
    obtain⟨w,hw⟩:=ce (ws[lc t.nodes i]);have G:=Cb.eq_1 w;rw[ca (by simpa[lf]using Q)]at W;have hx:Dd t.nodes A ws o.size i=⟨n'.prod,n'.token,w.fr,w.to⟩:=by
     unfold Dd;have h1:t.nodes.getD i (Gs 0)=n':=by simp[i5,q,L]
     have h2:ws.getD (lc t.nodes i) dW=w:=by simp[i5,K,hw]
     rw[h1,ca Q,h2]
    have hw1:b8 .i64 ((lc t.nodes i:Int)+1)=((lc t.nodes i+1:Nat):Int):=by rw[c8];omega
    apply AP;simp[Q];apply yW;simp[t9,t15,B,K,hw,G];apply yW;simp[t9,t15,K,hw,G];apply yV;simp[t15,hw1];apply yV;simp[t14,N,hb,Ac];apply yV;simp[t16];refine⟨q,_,_,gc 5 rfl (by simp),?_⟩;simp[clean,AJ,t3,t4,t7,t9,AK q a1,W,hx,acf,B,Ei]
   .rw[bv (by simpa[lf]using Q)]at W;obtain⟨X,r1,r2,r3⟩:=XX u 0 i (by rw[<-hu];exact q);rw[hA,e3]at r1;have hle2:Z u.flat<=100:=by rw[<-hu];exact hlen
    have haa:X=a:=by have:=nu r1;omega
    subst haa;have hra:X<=Z t.nodes:=by rw[hu];omega
    have hgd:A.getD i 0=X:=by simp[i5,e3]
    have hx:Dd t.nodes A ws o.size i=⟨n'.prod,n'.token,gp ws o.size (lc t.nodes i),gp ws o.size (lc t.nodes X)⟩:=by
     unfold Dd;have h1:t.nodes.getD i (Gs 0)=n':=by simp[i5,q,L]
     rw[h1,bv Q,hgd,ne]
    have hg1:=hgap (lc t.nodes i) (by omega);have hg2:=hgap (lc t.nodes X) (by have:=Qp t.nodes X;omega);apply AP;simp[Q];apply yW;simp[t15];refine xS (yW ?_);simp[t16];apply Bo;refine zL (X - i) (λd tm S=>tm 3=.ptr 0 1 0 0/\tm 4=.ptr 1 1 0 0/\tm 7=.ptr 2 1 0 0/\tm 9=.ptr 3 1 0 0/\tm 14=.row 4 i/\tm 15=.d (encI (lc t.nodes i))/\tm 16=.d (encI i)/\tm 17=.ptr 5 1 0 0/\tm 18=.d (encI (lc t.nodes (i+d)))/\tm 19=.d (encI ((i+d:Nat):Int))/\S=[.row J 9 [.d (AA g)],.row J 2 [.d (BN t)],.row J 4 [.agg [.full [],.full [],.d (encI 0),.d (encI 0)]],.row J 14 [.d (vB g o ws C)],.row (decide (0<i)) 4 ((List.range i).map λj=>.d (Ei (Dd t.nodes A ws o.size j))),.row J 4 [.agg [.d (encI n'.prod),.d (encI n'.token),.d (encI 0),.d (encI 0)]]]) (by simp[t3,t4,t7,t9,t14,t15,t16,BN]) ?_;rintro d tm S hd ⟨t3,t4,t7,t9,t14,t15,t16,t17,t18,t19,rfl⟩;obtain⟨j,hj⟩:=ce (i+d);have hj2:i+(d+1)=j+1:=by omega
    rw[hj]at t18 t19;refine xS (yS ?_);apply yJ;simp[t3,t4,t16,t19,BN];refine Bq (e4) rfl (by simp[xN]) (yJ ?_);simp;by_cases hda:j<X
    .have Y:(j:Int)<X:=by omega
     have hdl:j<Z t.nodes:=by omega
     obtain⟨m,hm⟩:=ce (t.nodes[j]);have hme:=Bs.eq_1 m;have E:=H7 t.nodes hdl;rw[hm]at E;have hll2:=Qp t.nodes j;have hw2:b8 .i64 ((j:Int)+1)=((j+1:Nat):Int):=by rw[c8];omega
     have hw3:b8 .i64 ((lc t.nodes j:Int)+1)=((lc t.nodes j+1:Nat):Int):=by rw[c8];omega
     apply AP;simp[hda];apply xK;apply xB;(repeat apply xS);apply yV;simp[t4,t19,hdl,hm,hme];by_cases hmp:m.prod<0
     .rw[ca (by simpa[lf]using hmp)]at E;apply AP;simp[hmp];apply yV;simp[t18,hw3];apply yV;simp[t19,hw2];refine⟨by omega,_,_,a9,?_⟩;simp[t3,t4,t7,t9,t14,t15,t16,t17,E,hj2];omega
     .rw[bv (by simpa[lf]using hmp)]at E;apply AP;simp[hmp];apply CF;apply yV;simp[t19,hw2];refine⟨by omega,_,_,a9,?_⟩;simp[t3,t4,t7,t9,t14,t15,t16,t17,t18,E,hj2];omega
    .have Y:¬(j:Int)<X:=by omega
     have hde:j=X:=by omega
     rw[hde]at t18;apply AP;simp[hda];apply Ci;apply yS;apply yJ;simp[t9,t15,B];refine Bq (hg1) rfl (by simp[C7,xN]) (yJ ?_);simp[t17,C7];apply yT;apply yJ;simp[t9,t18];refine Bq (hg2) rfl (by simp[C7,xN]) (yJ ?_);simp[t17];apply yV;simp[t14,t17,N,hb,Ac];apply yV;simp[t16];refine⟨q,_,_,gc 5 rfl (by simp),?_⟩;simp[clean,AJ,t3,t4,t7,t9,t15,AK q a1,W,hx,acf,B,Ei]
  .have e:i=Z t.nodes:=by omega
   subst e;apply Ci;(repeat apply xS);refine yE (A7 10 [21,22]) (by kernel_rfl) ?_;simp;apply yA 1;simp[t9,t14,B];apply xX 1021 (by kernel_rfl);simp[AY,t7,t9,t14];apply yA 1;simp;apply Aj;refine⟨_,_,gl 4 (xs:=VU t.nodes A ws o.size) rfl (by simp[VU]),?_⟩;simp[BO,B4,t7,C7,VU,Cg]
def oT(g:AE)(x:XN):Prop:=(x.prod= -1/\0<=x.tok/\x.tok<Z g.AT/\0<=x.fr/\x.fr<x.to)\/(0<=x.prod/\x.prod<Z g.AD/\x.tok= -1/\0<=x.fr/\x.fr<=x.to)
theorem Ww(g:AE)(T:List XN)(i:Nat)(hi:i<Z T)(v:oT g T[i]):
  AG prog 202 [.d (encI i),.ptr 0 1 0 0,.ptr 1 1 0 0] [.row J 1 [.d (CE T)],.row J 9 [.d (AA g)]] (.d (.CX [encI T[i].prod,encI T[i].tok,.bool J])) [.row J 1 [.d (CE T)],.row J 9 [.d (AA g)]]:=by
 obtain⟨n,k⟩:=ce (T[i]);rw[k]at v⊢;have h:=Ei.eq_1 n;refine zD func202 72 rfl λwf _=>?_;apply yW;simp;apply yW;simp[hi,k];refine xS (yW ?_);simp;rcases v with⟨j,m,o,q,u⟩|⟨j,m,o,q,u⟩
 .apply AP;simp[j];(repeat apply xS);refine yE (A7 28 []) (by kernel_rfl) ?_;simp;apply yA 1;simp[AA,m,o,q,u];apply Aj;exact⟨_,_,_,a9,by simp,by simp[BO,B4,F5,Ht],fd 2 (by simp) (by simp) (by simp) (by simp)⟩
 .have:¬(n.prod= -1):=by omega
  apply AP;simp[this];apply xK;(repeat apply xS);refine yE (A7 35 []) (by kernel_rfl) ?_;simp;apply yA 1;simp[AA,j,m,o,q,u];apply Aj;exact⟨_,_,_,a9,by simp,by simp[BO,B4,F5,Ht,o],fd 2 (by simp) (by simp) (by simp) (by simp)⟩
theorem UU(g:AE)(m:B3 g=0)(T:List XN)(N:List BD)(u:TF)(l:Int)(o:N=u.flat)(q:u.fit g [⟨ap,l⟩])(j:Z u.flat<=2000000)(v:Z T=Z N)
  (w:∀(i:Nat) (h:i<Z T) (E:i<Z N),T[i].prod=N[i].prod/\T[i].tok=N[i].token/\oT g T[i]):
  Pure prog 127 [AA g,CE T] (BZ (u.ends 0)):=by
 have k:=vo g m 1 (CE T) 202 N u l o q j λi hi _=>by
  obtain⟨A,B,C⟩:=w i (by omega) hi;have:=Ww g T i (by omega) C;rw[A,B]at this;exact this
 rw[<-v]at k;refine zP func127 11 rfl λwf=>?_;unfold OH OY at k;apply yW;simp;(repeat apply xS);apply yT;apply yJ;simp;refine xF (k) [1,0] rfl ?_;simp[AA];apply yJ;simp;apply zT;try simp
section
variable {P:Program} {n b l m:Nat} {tm:Tm} {S:Sg} {Q:Exit->Tm->Sg->Prop} {N0:Nat} {k:Bool} {QM:Bool->Exit->Tm->Sg->Prop}
theorem E6.block{id:Nat}{c:Code}(h:E6 P l n b c (A2 id Q) tm S):E6 P l n b (.block id c) Q tm S:=by
 intro G w a st hb;refine wpIn_block (y4 (h G w a st hb) ?_);rintro e v A ⟨j,o,g,q,i⟩;cases e with
 |exit u=>
  simp only[Exit.inBlock,A2]at i⊢;split
  .rename_i h;simp only[h,ip]at i;exact⟨j,o,g,q,i⟩
  .rename_i h;simp only[h,jw]at i;exact⟨j,o,g,q,i⟩
 |_=>exact⟨j,o,g,q,i⟩
theorem E6.post{c:Code}(h:E6 P l n b c (λv tm S=>∃i u,AI P n b tm S i u/\Q v i u) tm S):E6 P l n b c Q tm S:=λG w a st hb=>
 y4 (h G w a st hb) λ_ _ _ ⟨_,_,_,j,o,A,g,B⟩=>let⟨C,q,t2,l2⟩:=g _ _ _ j.st j.late.len;⟨C,A,o,⟨q,j.ds,j.tr.trans t2,j.late.trans l2⟩,B⟩
theorem sI{A:Option Nat}{m:Nat}{ops:Array Oper}{Q:Exit->Act->World->Prop}(g:∀(i:Nat) o c,ops[i]?=am o->o.op≠.defer c)(B:¬LetsOut Q)(i:Nat){K v:Act->World->Prop}(j:∀a w,K a w->v a w){a:Act}{w:World}(h:wpOp P ops Q i K a w):wpOpIn (fR A) m P ops Q i v a w:=by
 unfold wpOp at h;unfold wpOpIn;cases q:ops[i]? with
 |none=>rw[q]at h;exact j _ _ h
 |some o=>
  rw[q]at h;simp only[]at h⊢;split at h
  .next u=>
   rw[ca u];rcases h with h|h
   .exact qI (λc=>g i o c q) j h
   .exact absurd h.2 B
  .next u=>
   rw[bv u];exact⟨λ_ _=>trivial,j _ _ h⟩
theorem uW{v:Option Nat}{m:Nat}{ops:Array Oper}{Q:Exit->Act->World->Prop}(q:∀(i:Nat) o c,ops[i]?=am o->o.op≠.defer c)(u:¬LetsOut Q):∀(g:Nat) (j:Array Bool) (a:Act) (w:World),wpAny P .any ops Q g j a w->wpAnyIn (fR v) m P .any ops Q g j a w
 |0,_,_,_,h=>h
 |g+1,_,_,_,h=>⟨h.1,λi hi=>sI q u i (λa w=>uW q u g _ a w) (h.2 i hi)⟩
theorem E6.Jm{id:Nat}{ops:Array Oper}(pl:List (Nat×Bool))(F:P.follows .mixedOrders=J)(g:Z pl=ops.size)(j:Ed ops pl (Array.replicate ops.size ap)=J)
  (v:pl.all (λp=>decide (p.1<ops.size))=J) (A:∀(i:Nat) o c,ops[i]?=am o->o.op≠.defer c) (H:∀tm S,¬Q .outgrown tm S) (h:∀K:Tm->Sg->Prop,(∀tm S,Q .normal tm S->K tm S)->Ab P n b ops [] (Em ops pl) tm S K):E6 P l n b (.region id ops J) Q tm S:=λG w a st hb=>by
 refine wpIn_region_any F (uW (Q:=QO P n b Q G S w a.defers) A (λ⟨_,_,_,_,_,_,h⟩=>H _ _ h) _ _ _ _ ?_);obtain⟨r1,r2,C⟩:=st.rel.drawn (w':={w with drawn:=w.drawn+1}) rfl rfl rfl;have E:=h (Q .normal) (λ_ _ h=>h) (Array.replicate ops.size ap) (λp j=>by
  simp only[Em,g7]at j;obtain⟨q,L,rfl⟩:=j;have M:q.1<ops.size:=by simpa using ed.1 v q L
  simp[M]) (by
   have e:(Em ops pl).map (λp=>(p.1,p.2.1))=pl:=by simp[Em,nc]
   rw[e];exact j)
 have N:Z (Em ops pl)=ops.size:=by simp[Em,g]
 rw[N]at E;refine Iy _ _ _ _ E G {w with drawn:=w.drawn+1} a ⟨st.size,st.tm.later C,r1⟩ hb λX w' R=>?_;obtain⟨T,U,B,u,W⟩:=R;exact⟨T,U,B,⟨u.st,u.ds,r2.trans u.tr,(C.late hb).trans u.late⟩,W⟩
def vh(ops:Array Oper):Bool:=ops.toList.all λo=>match o.op with|.defer _=>ap|_=>J
theorem MR{ops:Array Oper}(h:vh ops=J):∀(i:Nat) o c,ops[i]?=am o->o.op≠.defer c:=λi o c g e=>by
 have:=ed.1 h o (Array.mem_toList_iff.2 (acL g));rw[e]at this;exact absurd this (by simp)
theorem HK.mono{c:Code}{g:Bool->Exit->Tm->Sg->Prop}(h:HK P n b N0 k c QM tm S)(o:∀k j tm S,QM k j tm S->g k j tm S):HK P n b N0 k c g tm S:=
 λG w a st hb q u=>y4 (h G w a st hb q u) λ_ _ _ ⟨v,A,B,i,C,t1,l1,E,F⟩=>⟨v,A,B,i,C,t1,l1,E,o _ _ _ _ F⟩
theorem Vh.to{rs:List ResultVar}{d:D}{S':Sg}{q:Exit}(h:Vh P n b rs d S' q tm S):Pm P n b rs (λu i=>u=.d d/\i=S') q tm S:=by
 have key:(∃g j o,AI P n b tm S g j/\Ix P g j rs/\BO j (Kg P g j rs)=am d/\AI P n b g j o S')->Pm P n b rs (λu i=>u=.d d/\i=S') .ret tm S:=λ⟨g,j,o,B,C,E,F⟩=>
  ⟨g,j,B,C,λG w a st H=>let⟨K,v,t2,l2⟩:=F G w a st H;⟨K,.d d,S',λcv A=>.d _ _ ((A.BO st.rel E).mono t2.I (λ_ _=>rfl)),v.rel,t2,l2,rfl,rfl⟩⟩
 cases q with
 |normal=>exact key h
 |ret=>exact key h
 |exit=>exact h.elim
 |goto=>exact h.elim
 |panic=>exact h.elim
 |outgrown=>exact h.elim
theorem AG.XU{f:FuncId}{fn:Func}{c:Code}{args:List V}{d:D}{S':Sg}(i:P.funcs[f]?=am fn)(g:(fn.name== "runtime.NumGoroutine")=ap)(hb:fn.body=am c)(j:Z args<=fn.ntmps)
  (h:∀N0,HK P fn.ntmps (Z S) N0 ap c (λ_=>Vh P fn.ntmps (Z S) fn.results.toList d S') (ER args) S):AG P f args S (.d d) S':=
 AG.tG i g hb j λN0=>(h N0).mono λ_ _ _ _=>Vh.to
end
theorem U4{P:Program}{f:FuncId}{fn:Func}{c:Code}(h:P.funcs[f]?=am fn)(g:(fn.name== "runtime.NumGoroutine")=ap)(hb:fn.body=am c)(args:Array Value)(w:World):(callFunc f args).run P w=.ok (.enter f args) w:=by
 have i:fn.name≠ "runtime.NumGoroutine":=by simpa using g
 simp[callFunc,h,i,hb]
theorem eU(es:List Int)(i:Nat):AG prog 204 [.d (BZ es),.d (encI i)] [] (.fn (.func 253) [] [.ptr 1 1 0 0,.ptr 0 1 0 0]) [.row J 1 [.d (BZ es)],.row J 1 [.d (encI i)]]:=by
 refine zC func204 6 rfl λwf _=>?_;apply yW;simp;apply yW;simp;apply Aj;refine⟨_,a9,?_⟩;simp[Aq]
def wE(T:List XN)(A:List Int)(i:Nat)(s:Int×Bool):Sg:=[.row J 1 [.d (CE T)],.row J 1 [.d (.bool ap)],.row J 1 [.d (encI s.1)],.row J 1 [.d (.bool s.2)],.row J 1 [.d (BZ A)],.row J 1 [.d (encI i)]]
theorem Wj(T:List XN)(A:List Int)(i:Nat)(hi:i<Z T)(hT:Z T<=2000000)(ks:List Int)(e:Int)(he:A[i]?=am e)(G:∀x∈A,0<=x/\x<=2000000)(hk:Gm A e ((i:Int)+1) ks)(B:Z A<=maxLen)
  (H:∀m (h:m<Z ks),∃j:Nat,ks[m]=j/\∃(hj:j<Z T),((IE T[i].fr T (ks.take m)).2=J->T[j].fr=(IE T[i].fr T (ks.take m)).1)/\(IE T[i].fr T (ks.take m)).1<=T[j].fr)
  (g:if(IE T[i].fr T ks).2=J then(IE T[i].fr T ks).1=T[i].to else(IE T[i].fr T ks).1<=T[i].to):Pure prog 128 [CE T,BZ A,encI i] (.bool J):=by
 obtain⟨ti,q⟩:=ce (T[i]);simp only[q]at H g;have u:=Ei.eq_1 ti;have L:=eU A i;refine AG.XU func128 (by kernel_rfl) rfl (by simp) λN0=>?_;rw[ntmps128];simp only[mp,ii,W2];(repeat refine v9 ?_);refine Fr ?_;refine xV λK o=>?_;simp;apply o;(repeat refine v9 ?_);refine Fr ?_;refine xV λK o=>?_;simp[hi,q,u];apply o;(repeat refine v9 ?_);refine Fr ?_;refine FG λK o=>?_;refine xJ ?_;simp;refine xF (L) [] rfl ?_;simp;refine xJ ?_;simp;refine BY (o _ _ ?_);(repeat refine v9 ?_);refine HK.block ?_;refine HK.range (xs:=ks) (gf:=253) (caps:=[.ptr 5 1 0 0,.ptr 4 1 0 0]) (λm S=>S=wE T A i (IE ti.fr T (ks.take m))) (by decide) (by simp) (λargs w=>U4 func253 (by kernel_rfl) rfl args w) (by simp[wE,IE]) ?_ ?_ ?_ ?_
 .intro x hx;obtain⟨m,M,rfl⟩:=lm.1 hx;obtain⟨j,h1,h2,_⟩:=H m M;rw[h1];simp[GZ];omega
 .exact Ws (λm S h=>by subst h;exact⟨rfl,rfl⟩) (by omega) (by simpa using he) G (by omega) hk B
 .rintro l m x S1 M rfl;obtain⟨C,N⟩:=gq.1 M;obtain⟨j,hj,E,o1,P⟩:=H m C;have Q:x=j:=by rw[<-N,hj]
  subst Q;have R:ks.take (m+1)=ks.take m++[(j:Int)]:=by rw[pt C,hj]
  obtain⟨F,v⟩:=ce (T[j]);have k:=Ei.eq_1 F;have U:IE ti.fr T (ks.take (m+1))=(F.to,decide (0<=F.prod)):=by
   rw[R];unfold IE;simp[i5,E,v]
  rw[U];simp only[v]at o1 P;obtain⟨W,a2⟩:=ce (IE ti.fr T (ks.take m));simp only[a2]at o1 P⊢;obtain⟨c1,X⟩:=W;simp only[]at o1 P;unfold wE;(repeat refine zu ?_);refine E6.bF (MR rfl) (by simp) λK o=>?_;refine xJ ?_;simp;refine BY (o _ _ ?_);refine⟨rfl,rfl,?_⟩;refine E6.post ?_;(repeat refine zu ?_);refine E6.block ?_;(repeat refine zu ?_);refine E6.bF (MR rfl) (by simp[B5,A2]) λK o=>?_;refine xJ ?_;simp[E,v,k];refine BY (o _ _ ?_);have Y:¬F.fr<c1:=by omega
  cases X with
  |true=>
   have o1:=o1 rfl;(repeat refine zu ?_);refine E6.bF (MR rfl) (by simp[B5,A2]) λK o=>?_;refine xH ?_;simp[o1];refine BY (o _ _ ?_);(repeat refine zu ?_);refine E6.cond ?_;simp;refine E6.skip ?_;(try simp only[xQ,reduceIte]);(repeat refine zu ?_);refine E6.Jm [(0,J),(1,J),(2,J),(3,J),(4,J),(5,ap),(6,ap)] (by kernel_rfl) rfl (by kernel_rfl) (by decide) (MR rfl) (by simp[A2]) λK o=>?_;simp;refine xA 1 ?_;simp;refine xX 24 (by kernel_rfl) ?_;simp[AY];refine xA 1 ?_;simp;refine xX 7 (by kernel_rfl) ?_;simp[AY];refine xA 1 ?_;simp;refine xM (o _ _ ?_);(try simp only[A2]);exact⟨⟨_,gc 6 rfl (by simp)⟩,trivial⟩
  |false=>
   (repeat refine zu ?_);refine E6.bF (MR rfl) (by simp[B5,A2]) λK o=>?_;refine xH ?_;simp[Y];refine BY (o _ _ ?_);(repeat refine zu ?_);refine E6.cond ?_;simp;refine E6.skip ?_;(try simp only[xQ,reduceIte]);(repeat refine zu ?_);refine E6.Jm [(0,J),(1,J),(2,J),(3,J),(4,J),(5,ap),(6,ap)] (by kernel_rfl) rfl (by kernel_rfl) (by decide) (MR rfl) (by simp[A2]) λK o=>?_;simp;refine xA 1 ?_;simp;refine xX 24 (by kernel_rfl) ?_;simp[AY];refine xA 1 ?_;simp;refine xX 7 (by kernel_rfl) ?_;simp[AY];refine xA 1 ?_;simp;refine xM (o _ _ ?_);(try simp only[A2]);exact⟨⟨_,gc 6 rfl (by simp)⟩,trivial⟩
 .rintro S' rfl;rw[ns];obtain⟨W,hc⟩:=ce (IE ti.fr T ks);rw[hc]at g⊢;obtain⟨c1,X⟩:=W;simp only[B5,A2,wE]at g⊢;(repeat refine v9 ?_);refine Fr ?_;refine xV λK o=>?_;simp;apply o;cases X with
  |true=>
   have g:c1=ti.to:=by simpa using g
   (repeat refine v9 ?_);refine Fr ?_;refine AP ?_;simp;(repeat refine xS ?_);refine xE (A7 7 [15]) (by kernel_rfl) λK o=>?_;simp;refine xA 1 ?_;simp[hi,q,u,g];refine xX 127 (by kernel_rfl) ?_;simp[AY,hi,q,u];refine xM (o _ _ ?_);(try simp only[xQ,reduceIte]);refine Aj ?_;(try simp only[xQ,reduceIte]);refine⟨_,_,_,a9,by simp,by simp[BO,B4],gc 0 rfl (by simp)⟩
  |false=>
   have g:c1<=ti.to:=by simpa using g
   (repeat refine v9 ?_);refine Fr ?_;refine AP ?_;simp;refine CF ?_;(repeat refine v9 ?_);refine Fr ?_;refine xE (A7 7 [15]) (by kernel_rfl) λK o=>?_;simp;refine xA 1 ?_;simp[hi,q,u,g];refine xX 127 (by kernel_rfl) ?_;simp[AY,hi,q,u,g];refine xM (o _ _ ?_);(repeat refine v9 ?_);refine Fr ?_;refine Aj ?_;(try simp only[xQ,reduceIte]);refine⟨_,_,_,a9,by simp,by simp[BO,B4],gc 0 rfl (by simp)⟩
theorem ZL(T:List XN):AG prog 134 [.d (CE T)] [] (.fn (.func 209) [] [.ptr 0 1 0 0]) [.row J 1 [.d (CE T)]]:=by
 refine zC func134 4 rfl λwf _=>?_;apply yW;simp;apply yW;simp;apply Aj;refine⟨_,a9,?_⟩;simp[Aq]
def wL(p:PT)(T:List XN)(m:Nat):Sg:=[.row J 4 [.d (C7 p)],.row J 1 [.d (CE T)],.row J 1 [.d (.bool ap)],.row J 1 [.d (encI m)],.row J 1 [.d (CE T)]]
theorem Yv(p:PT)(T:List XN)(R:Z T<=2000000)(h0:T≠[])(U:Z (QL T 0)=Z p.ws)(hw:Z p.ws<=2000000)
  (Q:∀m (h:m<Z (QL T 0)),∃j:Nat,(QL T 0)[m]=j/\∃(hj:j<Z T) (F:m<Z p.ws),T[j].fr=p.ws[m].fr/\T[j].to=p.ws[m].to/\T[j].tok=p.ws[m].tok):Pure prog 38 [C7 p,CE T] (.bool J):=by
 have g:=C7.eq_1 p;have G:=ZL T;have H:=λ(w:Wd)=>JJ [w.tok] w.tok;refine AG.XU func38 (by kernel_rfl) rfl (by simp) λN0=>?_;rw[ntmps38];simp only[mp,ii,W2];(repeat refine v9 ?_);refine Fr ?_;refine xV λK i=>?_;simp;apply i;(repeat refine v9 ?_);refine Fr ?_;refine xV λK i=>?_;simp;apply i;(repeat refine v9 ?_);refine Fr ?_;refine FG λK i=>?_;refine xJ ?_;simp;refine xF (G) [] rfl ?_;simp;refine xJ ?_;simp;refine BY (i _ _ ?_);(repeat refine v9 ?_);refine HK.block ?_;refine HK.range (xs:=QL T 0) (gf:=209) (caps:=[.ptr 4 1 0 0]) (λm S=>S=wL p T m) (by decide) (by simp) (λargs w=>U4 func209 (by kernel_rfl) rfl args w) (by simp[wL]) ?_ ?_ ?_ ?_
 .intro x W;obtain⟨m,F,rfl⟩:=lm.1 W;obtain⟨j,X,h2,_⟩:=Q m F;rw[X];simp[GZ];omega
 .exact SL (λm S h=>by subst h;rfl) R h0
 .rintro l m x S1 F rfl;obtain⟨L,M⟩:=gq.1 F;obtain⟨j,hj,q,u,o1,B,C⟩:=Q m L;have N:x=j:=by rw[<-M,hj]
  subst N;obtain⟨Y,k⟩:=ce (T[j]);have v:=Ei.eq_1 Y;obtain⟨w,o⟩:=ce (p.ws[m]);have A:=Cb.eq_1 w;simp only[k,o]at o1 B C;have hc:=H w;have n1:¬((m:Int)=Z p.ws):=by omega
  have E:¬(m=Z p.ws):=by omega
  have n3:((m:Int)==(Z p.ws:Int))=false:=by rw[ac5];exact n1
  have P:b8 .i64 ((m:Int)+1)=((m+1:Nat):Int):=by rw[c8];omega
  unfold wL;(repeat refine zu ?_);refine E6.bF (MR rfl) (by simp) λK i=>?_;refine xJ ?_;simp;refine BY (i _ _ ?_);refine⟨rfl,rfl,?_⟩;(repeat refine zu ?_);refine E6.block ?_;(repeat refine zu ?_);refine E6.Jm [(0,J),(1,J),(2,J),(3,J),(4,J),(5,J),(6,J),(7,J),(8,J),(9,J),(10,J),(11,J),(12,J),(13,J),(14,J),(15,J),(16,J),(17,J),(18,J),(19,J),(20,J),(21,J),(22,J),(23,J),(24,J),(25,J),(26,J),(27,J),(28,J),(29,J),(30,J),(31,J),(32,J),(33,J),(34,J),(35,J),(36,J),(37,J),(38,J),(39,J),(40,J),(41,J),(42,J),(43,J),(44,J),(45,J),(46,J),(47,J)] (by kernel_rfl) rfl (by kernel_rfl) (by decide) (MR rfl) (by simp[B5,A2]) λK i=>?_;simp;refine xZ ?_;simp[g,n3,q,k,v,u,o,A,o1,B,C];refine Ab.C0 (ds:=[BZ [w.tok],encI w.tok]) rfl rfl (by simp;rfl) (λ_=>hc) (by simp) ?_;simp;refine xZ ?_;simp;refine xM (i _ _ ?_);(repeat refine zu ?_);refine E6.cond ?_;simp;refine E6.skip ?_;(try simp only[xQ,reduceIte]);(repeat refine zu ?_);refine E6.bF (MR rfl) (by simp[A2]) λK i=>?_;refine xJ ?_;simp[P];refine BY (i _ _ ?_);(try simp only[A2]);exact⟨trivial,by simp[g]⟩
 .rintro S' rfl;rw[U];simp only[B5,A2,wL];(repeat refine v9 ?_);refine Fr ?_;refine xV λK i=>?_;simp[g];apply i;(repeat refine v9 ?_);refine Fr ?_;refine Aj ?_;(try simp only[xQ,reduceIte]);refine⟨_,_,_,a9,by simp,by simp[BO,B4],gc 0 rfl (by simp)⟩
def T8(ws:List Wd)(i:Nat):Int:=match i with
 |0=>0
 |i+1=>(ws.getD i dW).to
structure W7(g:AE)(ws:List Wd)(e cl:Int):Prop where
 pw:ws.Pairwise λa b=>a.to<=b.fr
 b:∀a∈ws,0<=a.fr/\a.fr<a.to/\a.to<=e
 t:∀a∈ws,∃k:Nat,a.tok=k/\∃h:k<Z g.AT,g.AT[k].cls=cl
theorem W7.y9{g:AE}{ws:List Wd}{e k:Int}(h:W7 g ws e k){i:Nat}(hi:i<Z ws):T8 ws i<=ws[i].fr:=by
 cases i with
 |zero=>exact(h.b _ (cL hi)).1
 |succ i=>
  have j:i<Z ws:=by omega
  have:T8 ws (i+1)=ws[i].to:=by simp[T8,i5,j]
  rw[this];exact abQ.1 h.pw i (i+1) j hi (acq i)
theorem PQ(g:AE)(ws:List Wd)(e q:Int)(h:W7 g ws e q):Pure prog 129 [AA g,D5 ws,encI e,encI q] (.bool J):=by
 refine hW func129 rfl rfl (by simp) λwf=>?_;have G:Z ws<=maxLen:=by simp[Bm,DY]at wf;omega
 rw[ntmps129];apply yW;simp;apply yW;simp;refine xS (yW ?_);simp;apply Bo;refine zL (Z ws) (λi tm S=>tm 2=.d (encI e)/\tm 3=.d (encI q)/\tm 4=.ptr 0 1 0 0/\tm 9=.d (encI (T8 ws i))/\tm 15=.d (D5 ws)/\tm 16=.d (encI (Z ws))/\tm 17=.d (encI i)/\S=[.row J 9 [.d (AA g)]]) (by simp[T8]) ?_;rintro i tm S hi ⟨t2,t3,t4,t9,t15,t16,t17,rfl⟩;apply yW;simp[t16,t17];apply xC;simp;refine⟨λm=>?_,λQ=>?_⟩
 .have B:=h.y9 m;obtain⟨H,K,L⟩:=h.b _ (cL m);obtain⟨k,k1,k2,k3⟩:=h.t _ (cL m);have o:T8 ws (i+1)=ws[i].to:=by simp[T8,i5,m]
  obtain⟨w,C⟩:=ce (ws[i]);rw[C]at B H K L k1 o;have j:=Cb.eq_1 w;obtain⟨t,E⟩:=ce (g.AT[k]);rw[E]at k3;have u:=AX.eq_1 t;obtain⟨M,v⟩:=ce (T8 ws i);rw[v]at B t9;have n1:¬w.fr<M:=by omega
  have F:¬w.to<=w.fr:=by omega
  have n3:¬e<w.to:=by omega
  have N:¬(k:Int)<=-1:=by omega
  have n5:¬(Z g.AT:Int)<=k:=by omega
  have n6:¬Z g.AT<=k:=by omega
  apply xK;apply xB;apply yW;simp[t15,t17,m,C];refine xS (yS ?_);apply yH;simp[t2,t9,n1,F,n3];apply AP;simp;apply xK;apply yW;simp;apply yW;simp;apply yW;simp;apply Bo;refine FO 1 (λd tm S=>tm 2=.d (encI e)/\tm 3=.d (encI q)/\tm 4=.ptr 0 1 0 0/\tm 9=.d (encI w.to)/\tm 15=.d (D5 ws)/\tm 16=.d (encI (Z ws))/\tm 17=.d (encI i)/\tm 41=.d (.sl [encI k])/\tm 42=.d (encI 1)/\tm 43=.d (encI d)/\(d=0->tm 12=.d (encI (-1)))/\S=[.row J 9 [.d (AA g)],.row J 5 [.d (Cb w)]]) (i0:=0) (by omega) (by simp[t2,t3,t4,t15,t16,t17,j,k1]) ?_;rintro d tm S R ⟨t2,t3,t4,t9,t15,t16,t17,t41,t42,t43,t12,rfl⟩;by_cases A:d=0
  .subst A;have t12:=t12 rfl;apply yW;simp[t42,t43];apply xC;simp;apply xK;apply xB;apply yW;simp[t41,t43];refine xS (yS ?_);apply yH;simp[t3,t4,t12,N,n5,AA,k2,E,u,k3];apply AP;simp;apply xK;apply yV;simp;apply yV;simp[t43];refine⟨_,_,a9,?_⟩;simp[t2,t3,t4,t9,t15,t16,t17,t41,t42,j];rw[c8];decide
  .have P:d=1:=by omega
   subst P;apply yW;simp[t42,t43];apply xC;simp;apply Ci;apply yV;simp[t17];refine⟨m,_,_,gc 1 rfl (by simp),?_⟩;simp[clean,AJ,t2,t3,t4,t9,t15,t16,AK m G,o]
 .apply Ci;apply yW;simp;apply zT;try simp
def vQ:V:=.agg [.d (.int .i64 0),.d (.int .i64 0),.d (.int .i64 0),.d (.bool false),.full []]
@[simp] theorem tc:Ae vQ=[.d (.int .i64 0),.d (.int .i64 0),.d (.int .i64 0),.d (.bool false),.full []]:=rfl
def Ke{α:Type}(g:List (List α))(i:Nat):List α:=(g.take i).flatten
theorem Qq{α:Type}(g:List (List α)){i:Nat}(h:i<Z g):Ke g (i+1)=Ke g i++g[i]:=by
 unfold Ke;rw[pt h,ab8];simp only[List.flatten_cons,List.flatten_nil,acd]
theorem Ut{α:Type}(g:List (List α)):Ke g (Z g)=g.flatten:=by unfold Ke;rw[ns]
theorem mr{α:Type}(g:List (List α))(i:Nat):Z (Ke g i)<=Z g.flatten:=by
 unfold Ke;conv=>rhs;rw[<-abV i g,ab8,jp]
 omega
theorem fA(n:Nat)(k:n<=2 ^ 30):AG prog 205 [.full [],.d (encI n)] [] (.row 0 0) [.row (decide (0<n)) 5 []]:=by
 refine zC func205 27 rfl λwf _=>?_;apply yW;simp;refine xS (yW ?_);simp;apply AP;simp;refine⟨λh=>absurd h (by omega),?_⟩;apply xK;have i:b8 .i64 (n:Int)=n:=by rw[c8];omega
 have g:b8 .i64 0=0:=by decide
 refine xS (yW ?_);simp[i,g];apply yW;simp;apply AP;simp;refine⟨λh=>?_,λh=>?_⟩
 .have h0:0<n:=by omega
  have j:prog.underlying 3=some (.int .i64):=by kernel_rfl
  apply yT;(iterate 3 (refine Cc (by simp) ?_;simp));refine AS.dQ (E:=128) (sz:=5) rfl (by simp) (by simp) (by simp) ?_;simp;(iterate 1 (refine Cc (by simp) ?_;simp));refine AS.Xz (E:=128) (bt:=(56)) n vQ 5 rfl rfl rfl rfl (by simp) j (by simp) (by simp[vQ]) (by simp) (by simp) (by simp) (by simp[vQ]) h0 k ?_;simp;(iterate 2 (refine Cc (by simp) ?_;simp));(refine AS.Ma 0 n 5 (List.replicate n vQ) 0 0 rfl ?_ ?_)
  .simp[wS]
  .simp;apply yJ;simp;apply yW;simp;apply Aj;refine⟨_,vk [1] (S0:=[.row (decide (0<n)) 5 []]) (by simp[h0]) (by simp) (by simp),?_⟩;simp[Aq,pick];try decide
 .have h0:n=0:=by omega
  subst h0;apply xK;apply yW;simp;apply Aj;refine⟨_,oa 4 5 (xs:=[]) (by simp),?_⟩;simp[Aq]
theorem WH(g:List (List Wd))(L:List Wd)(u:g.flatten=L)(A:Z L<=2 ^ 30):AG prog 130 [.d (.sl (g.map λo=>D5 o))] [] (.row 0 (Z L)) [.row (decide (0<Z L)) 5 (L.map λx=>.d (Cb x))]:=by
 have v:∀i,Z (Ke g i)<=2 ^ 30:=λi=>ms (mr g i) (u▸A);have q:Ke g 0=[]:=rfl;refine oF func130 rfl rfl (by simp) λwf _=>?_;have B:Z g<=maxLen:=by have:=wf.1;simp[Ij,DY]at this;exact this.1
 rw[ntmps130];apply yW;simp;apply yW;simp;refine xS (yW ?_);simp;apply Bo;refine FO (Z g) (λi tm S=>tm 0=.d (.sl (g.map λo=>D5 o))/\tm 9=.d (.sl (g.map λo=>D5 o))/\tm 11=.d (encI i)/\tm 10=.d (encI (Z g))/\tm 3=.d (encI (Z (Ke g i)))/\S=[]) (er _) (by simp[q]) ?_;rintro i tm S hi ⟨t0,t9,t11,t10,t3,rfl⟩;apply yW;simp[t10,t11];apply xC;simp;refine⟨λk=>?_,λC=>?_⟩
 .apply xK;apply xB;have j:Z (Ke g (i+1))=Z (Ke g i)+Z g[i]:=by rw[Qq g k,jp]
  have m:=v (i+1);have E:=v i;rw[j]at m;have G:b8 .i64 (Z (Ke g i)+Z g[i]:Int)=(Z (Ke g (i+1)):Int):=by rw[c8,j];omega
  apply yW;simp[t9,t11,k];apply yW;simp[t3,G];apply yW;simp;apply AP;simp;refine⟨λh=>?_,?_⟩
  .exact absurd h (by omega)
  .apply CF;apply yV;simp[t11];refine⟨k,_,_,a9,?_⟩;simp[t0,t9,t10,AK k B]
 .have e:i=Z g:=by omega
  subst e;rw[Ut,u]at t3;apply Ci;apply yS;apply yJ;simp[t3];refine xF (fA (Z L) A) [] rfl ?_;simp;apply yJ;simp;refine xS (yW ?_);simp[t0];apply Bo;generalize w:Z L=F at *;refine FO (Z g) (λi tm S=>tm 25=.d (.sl (g.map λo=>D5 o))/\tm 27=.d (encI i)/\tm 26=.d (encI (Z g))/\tm 6=.row 0 (Z (Ke g i))/\S=[.row (decide (0<F)) 5 ((Ke g i).map λx=>.d (Cb x))]) (er _) (by simp[q,<-w]) ?_;rintro i tm S hi ⟨t25,t27,t26,t6,rfl⟩;apply yW;simp[t26,t27];apply xC;simp;refine⟨λk=>?_,λC=>?_⟩
  .have j:=Qq g k;have m:=v (i+1);rw[j,jp]at m;have H:(decide (0<F)||!g[i].isEmpty)=decide (0<F):=by
    cases h:g[i]with
    |nil=>simp
    |cons y K=>
     have:y∈L:=u▸List.mem_flatten.2 ⟨_,cL k,by rw[h];simp⟩;have:0<F:=by rw[<-w];exact acH this
     simp[this]
   apply xK;apply xB;apply yW;simp[t25,t27,k];apply yT;apply yJ;simp[t6,m,Ac];apply yV;simp[t27];refine⟨k,_,_,a9,?_⟩;simp[t25,t26,AK k B,j,H]
  .have e:i=Z g:=by omega
   subst e;rw[Ut,u]at t6⊢;apply Ci;apply yW;simp[t6];apply Aj;refine⟨_,a9,?_⟩;simp[Aq,w]
theorem dP{L g:List Wd}(j:g.Perm L)(k:L.Pairwise λa b=>a.to<=b.fr\/b.to<=a.fr)(hb:∀a∈L,a.fr<a.to)(m:g.Pairwise λa b=>a.fr<=b.fr):∀i (h:i+1<Z g),(g[i]'(by omega)).to<=g[i+1].fr:=by
 intro i h;have o:=(j.pairwise_iff (R:=λa b:Wd=>a.to<=b.fr\/b.to<=a.fr) (λh=>h.symm)).2 k;have q:=abQ.1 o i (i+1) (by omega) h (acq i);have u:=abQ.1 m i (i+1) (by omega) h (acq i);have v:=hb g[i+1] (j.mem_iff.1 (cL h));omega
theorem Y2(g:AE)(p:PT)(B:W7 g p.ws p.e 0)(C:W7 g p.rs p.e 2)(Y:∀a∈p.ws,∀b∈p.rs,a.to<=b.fr\/b.to<=a.fr)(he:0<=p.e)(hl:Z (p.ws++p.rs)<=2 ^ 20):Pure prog 37 [AA g,C7 p] (.bool J):=by
 obtain⟨L,A⟩:=ce (p.ws++p.rs);rw[A]at hl;have m:=C7.eq_1 p;have i1:=PQ g p.ws p.e 0 B;have i2:=PQ g p.rs p.e 2 C;have E:=(WH [p.ws,p.rs] L (by simpa using A) (by omega)).Fg (args':=[.full [D5 p.ws,D5 p.rs]]) rfl λi h h'=>by
  match i,h with
  |0,_=>exact .inr ⟨_,by simp[BO,B4],rfl⟩
 have hd:L.Pairwise λa b=>a.to<=b.fr\/b.to<=a.fr:=by
  rw[<-A];exact adA.2 ⟨B.pw.imp λh=>.inl h,C.pw.imp λh=>.inl h,Y⟩
 have hb:∀a∈L,a.fr<a.to:=λa ha=>by
  rw[<-A]at ha;rcases fi.1 ha with ha|ha
  .exact(B.b a ha).2.1
  .exact(C.b a ha).2.1
 have F:¬p.e<0:=by omega
 have b2:2<=maxLen:=by simp[maxLen]
 refine zP func37 59 rfl λwf=>?_;apply yW;simp;refine xS (yS ?_);apply yH;simp[m,F];refine li (i1) rfl rfl (by simp[xN];try rfl) ?_;simp;apply yH;simp;refine li (i2) rfl rfl (by simp[xN];try rfl) ?_;simp;apply yH;simp;apply AP;simp;apply xK;apply yS;apply yJ;simp[b2];refine xF (E) [] rfl ?_;simp;apply yJ;simp;refine m7 (R:=λtm S=>∃j:List Wd,j.Perm L/\j.Pairwise (λa b=>a.fr<=b.fr)/\tm 5=.row 2 (Z j)/\S=[.row J 9 [.d (AA g)],.row J 4 [.d (C7 p)],.row (decide (0<Z L)) 5 (j.map λx=>.d (Cb x))]) ?_ ?_
 .by_cases h0:0<Z L
  .apply yT;apply yJ;simp;refine AS.Jq (ic L (by omega)) [2] rfl ?_ ?_ ?_
   .simp[h0]
   .rintro v G ⟨rfl,j,_,_,rfl⟩;simp
   rintro v G ⟨rfl,j,u,H,rfl⟩;simp;apply yJ;simp;exact⟨j,u,H,by simp[u.length_eq],by simp[h0,m]⟩
  .have e0:L=[]:=abF.1 (by omega);subst e0;have W:=Zf;unfold Qi at W;apply yT;apply yJ;simp;refine xF (W) [2] rfl ?_;simp;apply yJ;simp;exact⟨[],List.Perm.refl _,.nil,by simp,by simp[m]⟩
 .rintro tm S ⟨j,u,H,t5,rfl⟩;have hll:=u.length_eq;have K:=dP u hd hb H;refine xS (yW ?_);simp;apply Bo;refine FO (max 1 (Z j)) (λi tm S=>1<=i/\tm 5=.row 2 (Z j)/\tm 6=.d (encI i)/\S=[.row J 9 [.d (AA g)],.row J 4 [.d (C7 p)],.row (decide (0<Z L)) 5 (j.map λx=>.d (Cb x))]) (i0:=1) (by omega) (by simp[t5]) ?_;rintro i tm S hi ⟨hi1,t5,t6,rfl⟩;by_cases X:i<Z j
  .have o:(i:Int)<Z j:=by omega
   obtain⟨k,rfl⟩:∃k,i=k+1:=⟨i - 1,by omega⟩;have hs:=K k X;have M:k<Z j:=by omega
   obtain⟨a,ha⟩:=ce (j[k]);obtain⟨b,hb⟩:=ce (j[k+1]);rw[ha,hb]at hs;have N:=Cb.eq_1 a;have P:=Cb.eq_1 b;have n1:¬b.fr<a.to:=by omega
   have Q:b8 .i64 (((k+1:Nat):Int) - 1)=(k:Int):=by rw[c8];omega
   have T:b8 .i64 (((k+1:Nat):Int)+1)=((k+1+1:Nat):Int):=by rw[c8];omega
   obtain⟨k1,U⟩:=ce (k+1);simp only[U]at *;have q:k1<Z j:=by omega
   have w:(k1:Int)<Z j:=by omega
   refine xS (yW ?_);simp[t5,t6];apply AP;simp[q];apply xK;apply xB;refine yD (A7 12 []) (by kernel_rfl) ?_;simp;apply yA 1;simp[t5,t6,q,hb,P,Q,M,ha,N,n1];apply AP;simp;apply CF;apply yV;simp[t6,T];refine⟨by omega,_,_,a9,?_⟩;simp[t5]
  .have o:¬(i:Int)<Z j:=by omega
   refine xS (yW ?_);simp[t5,t6];apply AP;simp[X];apply Ci;apply yW;simp;apply zT;try simp
open Go.RowKit
section
variable {P:Program} {n b:Nat} {ops:Array Oper} {o:Oper} {tm:Tm} {S:Sg} {K:Tm->Sg->Prop}
def gJ:D:=.raw (.slice bi 0 0)
theorem Xx{T U:TypeId}{x:Operand}{xs:List D}(h:o.op=.binOp .eql T x (.const (.slice bi 0 0)) U)(i:(Al P T).isSome=J)(j:need (ev tm x))(k:strip (ev tm x)=.d (.sl xs)\/strip (ev tm x)=.full xs)(m:xs≠[]):CR P n o tm S (.d (.bool false)) S:=by
 intro G w a next Q st g
 obtain⟨E,q⟩:=md.1 i;obtain⟨t,u,v⟩:=A4 q;obtain⟨B,hb,A⟩:=nil_eq (neg:=false) h u v j k st;unfold Oper.wp;rw[A];simp only[Oper.upon];rw[hb m];exact g _ _ G (.d _ _ (.bool _)) st.rel (tv _ _ _) (aer _ _ _)
theorem mB{T U:TypeId}{x:Operand}(q:o.op=.binOp .eql T x (.const (.slice bi 0 0)) U)(u:(Al P T).isSome=J)(v:need (ev tm x))(A:strip (ev tm x)=.d gJ):CR P n o tm S (.d (.bool J)) S:=by
 intro G w a next Q st g
 obtain⟨E,B⟩:=md.1 u;obtain⟨t,C,F⟩:=A4 B;have j:=(BS st x).strip v;rw[A]at j;have H:a.eval x=.slice bi 0 0:=by
  generalize a.eval x=X at j;cases j with|d _ _ h=>cases h;rfl
 have L:(execOp a.eval o).run P w=.ok (.value (.bool J)) w:=by
  obtain⟨i,d,W,M,_,_,_,k⟩:=H4 C;have m:d=.slice E:=by rw[F]at k;cases d<;>simp[tk]at k⊢;exact k
  subst m;have N:=run_equal_slice_nil w T E bi 0 0 M;have R:a.eval (.const (.slice bi 0 0))=.slice bi 0 0:=rfl;simp[execOp,q,H,R,eqGuard,binOp,N]
 unfold Oper.wp;rw[L];simp only[Oper.upon];exact g _ _ G (.d _ _ (.bool _)) st.rel (tv _ _ _) (aer _ _ _)
theorem lY(h:o.op=.assign (.const (.slice bi 0 0))):CR P n o tm S (.d gJ) S:=by
 intro G w a next Q st g
 have i:(execOp a.eval o).run P w=.ok (.value (.slice bi 0 0)) w:=by
  have j:a.eval (.const (.slice bi 0 0))=.slice bi 0 0:=rfl;simp[execOp,h,j]
 unfold Oper.wp;rw[i];simp only[Oper.upon];exact g _ _ G (.d _ _ (.raw _)) st.rel (tv _ _ _) (aer _ _ _)
theorem Bu.ef{i:Nat}{T U:TypeId}{x:Operand}{xs:List D}(hi:ops[i]?=some o)(g:o.op=.binOp .eql T x (.const (.slice bi 0 0)) U)(h:o.guard=bi)(j:A6 n o.dst)(k:(Al P T).isSome=J)(m:need (ev tm x))(q:strip (ev tm x)=.d (.sl xs)\/strip (ev tm x)=.full xs)(u:xs≠[]):Bu P n b ops i o tm S (.d (.bool false)) S:=λv w=>by
 have e:=Hj w x (by rw[g];simp[Op.operands]);exact Do hi j h (Xx g k (by rw[e];exact m) (by rw[e];exact q) u)
theorem Ab.ef{B:List (Nat×(Sg->Prop))}{i:Nat}{rest:List (Nat×Bool×Oper)}{T U:TypeId}{x:Operand}(xs:List D)(h:o.op=.binOp .eql T x (.const (.slice bi 0 0)) U)
  (j:o.guard=bi/\A6 n o.dst/\(Al P T).isSome=J/\need (ev tm x)/\(strip (ev tm x)=.d (.sl xs)\/strip (ev tm x)=.full xs)) (k:xs≠[])
  (m:Ab P n b ops ((i,λg=>g=S)::B) rest (put tm o.dst (.d (.bool false))) S K):Ab P n b ops B ((i,J,o)::rest) tm S K:=by
 obtain⟨q,u,v,w,A⟩:=j;exact q7 (λg=>g=S) rfl (λhi g hS=>by subst hS;exact Bu.ef hi h q u v w A k) m
theorem AS.ef{rest:List Oper}{T U:TypeId}{x:Operand}(xs:List D)(h:o.op=.binOp .eql T x (.const (.slice bi 0 0)) U)
  (g:o.guard=bi/\A6 n o.dst/\(Al P T).isSome=J/\need (ev tm x)/\(strip (ev tm x)=.d (.sl xs)\/strip (ev tm x)=.full xs)) (i:xs≠[])
  (j:AS P n b ops rest (put tm o.dst (.d (.bool false))) S K):AS P n b ops (o::rest) tm S K:=
 EQ (λ_ hi=>Do hi g.2.1 g.1 (Xx h g.2.2.1 g.2.2.2.1 g.2.2.2.2 i)) j
theorem AS.wz{rest:List Oper}{T U:TypeId}{x:Operand}(h:o.op=.binOp .eql T x (.const (.slice bi 0 0)) U)
  (g:o.guard=bi/\A6 n o.dst/\(Al P T).isSome=J/\need (ev tm x)/\strip (ev tm x)=.d gJ)
  (i:AS P n b ops rest (put tm o.dst (.d (.bool J))) S K):AS P n b ops (o::rest) tm S K:=
 EQ (λ_ hi=>Do hi g.2.1 g.1 (mB h g.2.2.1 g.2.2.2.1 g.2.2.2.2)) i
theorem AS.yB{rest:List Oper}(h:o.op=.assign (.const (.slice bi 0 0)))(g:o.guard=bi/\A6 n o.dst)
  (i:AS P n b ops rest (put tm o.dst (.d gJ)) S K):AS P n b ops (o::rest) tm S K:=
 EQ (λ_ hi=>Do hi g.2 g.1 (lY h)) i
end
def JR(T:List XN)(hb:Nat->Bool):Bool:=T.all λx=>decide (x.prod<0)||hb x.prod.toNat
theorem RL(T:List XN)(hb:Nat->Bool){i:Nat}(h:i<Z T):JR (T.take (i+1)) hb=(JR (T.take i) hb&&(decide (T[i].prod<0)||hb T[i].prod.toNat)):=by
 unfold JR;rw[pt h,List.all_append];simp
theorem oU{T:List XN}{hb:Nat->Bool}{i:Nat}(h:i<Z T)(g:(decide (T[i].prod<0)||hb T[i].prod.toNat)=false):JR T hb=false:=by
 unfold JR;rw[ab7];exact⟨_,cL h,by rw[g];simp⟩
structure se(h:AE)(c:Nat)(T:List XN)(A:List Int)(hb:Nat->Bool):Prop where
 te:Pure prog 127 [AA h,CE T] (BZ A)
 a0:A≠[]
 root:∃(p:Nat) (h0:0<Z T) (hp:p<Z h.AD),T[0].prod=p/\h.AD[p].left=h.start
 lf:∀i (hi:i<Z T),T[i].prod<0->∃(k:Nat) (hk:k<Z h.AT),T[i].tok=k/\Pure prog 10 [AB h.AT[k].cond,Dt c] (.bool J)
 nd:∀i (hi:i<Z T),¬T[i].prod<0->∃(p:Nat) (hp:p<Z h.AD),T[i].prod=p/\Pure prog 10 [AB h.AD[p].cond,Dt c] (.bool (hb p))/\Pure prog 128 [CE T,BZ A,encI i] (.bool J)
theorem jh{h:AE}{c:Nat}{T:List XN}{A:List Int}{hb:Nat->Bool}(H:se h c T A hb)(hT:Z T<=2000000):Pure prog 36 [AA h,Dt c,CE T] (if JR T hb then BZ A else gJ):=by
 have v:=H.te;have w:=H.a0;obtain⟨p0,h0,U,r1,r2⟩:=H.root;obtain⟨x0,F⟩:=ce (T[0]);rw[F]at r1;have G:=Ei.eq_1 x0;obtain⟨q0,K⟩:=ce (h.AD[p0]);rw[K]at r2;have L:=AF.eq_1 q0;have n0:¬(p0:Int)<0:=by omega
 have a1:Z T<=maxLen:=by unfold maxLen;omega
 have W:A.isEmpty=false:=by cases A with|nil=>exact absurd rfl w|cons _ _=>rfl
 refine zP func36 75 rfl λwf=>?_;apply yW;simp;apply yS;apply yJ;simp;refine Bq (v) rfl (by simp[xN]) (yJ ?_);simp;apply xS;refine yD (A7 23 []) (by kernel_rfl) ?_;simp;(iterate 1 (refine Hs (by simp) ?_;simp));refine Ab.ef (A.map encI) rfl (by simp) (by simpa using w) ?_;simp;apply yZ;simp[h0,F,G,r1,n0,AA,U,K,L,r2];apply AP;simp;apply xK;refine xS (yW ?_);simp;apply Bo;refine zL (Z T) (λi tm S=>tm 1=.d (Dt c)/\tm 2=.d (CE T)/\tm 3=.ptr 0 1 0 0/\tm 7=.d (BZ A)/\tm 36=.d (CE T)/\tm 37=.d (encI (Z T))/\tm 38=.d (encI i)/\JR (T.take i) hb=J/\S=[.row J 9 [.d (AA h)]]) (by simp[JR,AA]) ?_;rintro i tm S hi ⟨t1,t2,t3,t7,t36,t37,t38,B,rfl⟩;by_cases u:i<Z T
 .have M:(i:Int)<Z T:=by omega
  obtain⟨x,X⟩:=ce (T[i]);have o:=Ei.eq_1 x;have m:=RL T hb u;have N:=H.lf i u;have P:=H.nd i u;have Y:=oU (hb:=hb) u;rw[X,B]at m;rw[X]at N P Y;apply yW;simp[t37,t38];apply xC;simp[u];apply xK;apply xB;apply yW;simp[t36,t38,u,X];refine xS (yW ?_);simp;by_cases C:x.prod<0
  .obtain⟨k,R,j,g⟩:=N C;obtain⟨t,ht⟩:=ce (h.AT[k]);rw[ht]at g;have v:=AX.eq_1 t;have hd:AB t.cond=.agg [AV t.cond.nodes,encI t.cond.root]:=rfl;rw[hd]at g;apply AP;simp[C];refine xS (yS ?_);apply yJ;simp[t1,t3,j,AA,R,ht,v];refine Bq (g) rfl (by simp) (yJ ?_);simp;apply AP;simp;apply xK;apply Ci;apply yV;simp[t38];refine⟨_,_,gc 1 rfl (by simp),?_⟩;simp[clean,AJ,t1,t2,t3,t7,t36,t37,AK u a1,m,C]
  .obtain⟨k,R,j,g,hk3⟩:=P C;obtain⟨q,hq⟩:=ce (h.AD[k]);rw[hq]at g;have Q:=AF.eq_1 q;have hd:AB q.cond=.agg [AV q.cond.nodes,encI q.cond.root]:=rfl;rw[hd]at g;have hp':decide (x.prod<0)=false:=WP C;rw[hp',j,ne,acX]at m Y;rw[j]at C;apply AP;simp[j,C];apply xK;cases E:hb k with
   |true=>
    rw[E]at m g;apply yS;apply yJ;simp[t1,t3,AA,R,hq,Q];refine Bq (g) rfl (by simp) ?_;simp;apply yH;simp[t2,t7];refine li (hk3) rfl rfl (by simp;try rfl) ?_;simp;apply yH;simp;apply AP;simp;apply CF;apply yV;simp[t38];refine⟨_,_,gc 1 rfl (by simp),?_⟩;simp[clean,AJ,t1,t2,t3,t7,t36,t37,AK u a1,m]
   |false=>
    have hF:=Y E;rw[E]at g;rw[hF];apply yS;apply yJ;simp[t1,t3,AA,R,hq,Q];refine Bq (g) rfl (by simp) ?_;simp;apply yH;simp;apply AP;simp;(repeat apply xS);apply yT;refine AS.yB rfl (by simp) ?_;simp;apply BY;refine Aj ⟨_,_,a9,?_⟩;try simp
 .have e:i=Z T:=by omega
  subst e;rw[ns]at B;rw[B];apply yW;simp[t37,t38];apply xC;simp;apply Ci;apply yW;simp[t7];apply zT;try simp
theorem cp(p:PT)(k:Nat)(_:k<=2 ^ 30):AG prog 39 [.d (encI k),.ptr 0 1 0 0] [.row J 4 [.d (C7 p)]] (.d (encI (gp p.ws p.e k))) [.row J 4 [.d (C7 p)]]:=by
 have g:=C7.eq_1 p;refine zD func39 17 rfl λwf _=>?_;apply yW;simp;refine xS (yW ?_);simp[g];by_cases h:k<Z p.ws
 .rw[NP h];have j:=Cb.eq_1 p.ws[k];have i:(k:Int)<Z p.ws:=by omega
  apply AP;simp[h];(repeat apply xS);apply yV;simp[h,j];(apply Aj;refine⟨_,_,_,a9,by simp,by simp[BO,B4],rc (by simp[g])⟩)
 .rw[NJ (by omega)];have i:¬(k:Int)<Z p.ws:=by omega
  apply AP;simp[h];apply xK;(repeat apply xS);apply yV;simp;(apply Aj;refine⟨_,_,_,a9,by simp,by simp[BO,B4],rc (by simp[g])⟩)
structure v7(T:List XN)(A:List Int)(p:PT)(lq:Nat->Nat):Prop where
 z:lq 0=0
 s:∀i (hi:i<Z T),lq (i+1)=lq i+if T[i].prod<0 then 1 else 0
 x:∀i (hi:i<Z T),¬T[i].prod<0->∃a:Nat,A[i]?=some (a:Int)/\a<=Z T/\T[i].fr=gp p.ws p.e (lq i)/\T[i].to=gp p.ws p.e (lq a)
theorem v7.le{T:List XN}{A:List Int}{p:PT}{g:Nat->Nat}(h:v7 T A p g):∀i,i<=Z T->g i<=i
 |0,_=>by rw[h.z];exact c9 _
 |i+1,hi=>by
  have:=h.le i (by omega);rw[h.s i hi];split<;>omega
def NW(g:Nat->Nat)(n i:Nat):List Int:=(List.range (n+1)).map λj=>if j<=i then(g j:Int)else 0
theorem Jl(g:Nat->Nat)(n i:Nat):Z (NW g n i)=n+1:=by simp[NW]
theorem Ub(g:Nat->Nat){n i j:Nat}(h:j<=i)(_:i<=n)(m:j<Z (NW g n i)):(NW g n i)[j]=g j:=by simp[NW,h]
theorem dG(g:Nat->Nat){n i:Nat}(_:i<n):(NW g n i).set (i+1) (g (i+1))=NW g n (i+1):=by
 apply xv
 .simp[Jl]
 .intro j m o;rw[ac3];simp only[NW,m6,acI];by_cases e:i+1=j
  .subst e;simp
  .rw[bv e];by_cases k:j<=i
   .rw[ca k,ca (by omega)]
   .rw[bv k,bv (by omega)]
theorem Zv{g:AE}{c:Nat}{T:List XN}{A:List Int}{hb:Nat->Bool}{p:PT}{mb:Bool}{E:Nat->Nat}(H:se g c T A hb)(hT:Z T<=2000000)(u:Pure prog 35 [AA g,Dt c] (encI (if mb then 0 else 1)))
  (hus:Pure prog 37 [AA g,C7 p] (.bool J)) (hco:Pure prog 38 [C7 p,CE T] (.bool J)) (hc:v7 T A p E):
  Pure prog 11 [AA g,Dt c,C7 p,CE T] (encI (if mb then if JR T hb then 0 else 90 else 1)):=by
 have M:=jh H hT;have U:=λk hk=>cp p k hk;have P:=hc.le;have a1:Z T<=maxLen:=by unfold maxLen;omega
 refine zP func11 108 rfl λwf=>?_;cases mb with
 |false=>
  simp only[jw,ob]at u⊢;apply yW;simp;refine xS (yS ?_);apply yJ;simp;refine Bq (u) rfl (by simp[xN]) (yJ ?_);simp;apply yW;simp;apply AP;simp;apply yW;simp;refine Aj ⟨_,_,a9,?_⟩;try simp
 |true=>
  simp only[ip]at u⊢;cases W:JR T hb with
  |false=>
   simp only[W,jw,ob]at M⊢;apply yW;simp;refine xS (yS ?_);apply yJ;simp;refine Bq (u) rfl (by simp[xN]) (yJ ?_);simp;apply yW;simp;apply AP;simp;apply xK;apply yS;apply yJ;simp;refine Bq (M) rfl (by simp[xN]) (yJ ?_);simp;refine xS (yS ?_);(repeat(refine Cc ?_ ?_;(·simp);simp));refine AS.wz rfl (by simp) ?_;simp;apply yH;simp;apply AP;simp;apply yW;simp;refine Aj ⟨_,_,a9,?_⟩;try simp
  |true=>
   simp only[W,ip]at M⊢;have hA0:=H.a0;obtain⟨n1,Q⟩:=ce (Z T+1);have hwl:b8 .i64 ((Z T:Int)+1)=(n1:Int):=by rw[c8];omega
   have hmk:(n1:Int)<=1073741824:=by omega
   have hmx:n1<=maxLen:=by unfold maxLen;omega
   have hc0:NW E (Z T) 0=List.replicate n1 0:=by
    rw[<-Q];apply xv
    .simp[Jl]
    .intro j h1 h2;simp only[NW,m6,acI,List.getElem_replicate];split
     .have:j=0:=by omega
      subst this;rw[hc.z];rfl
     .rfl
   apply yW;simp;refine xS (yS ?_);apply yJ;simp;refine Bq (u) rfl (by simp[xN]) (yJ ?_);simp;apply yW;simp;apply AP;simp;apply xK;apply yS;apply yJ;simp;refine Bq (M) rfl (by simp[xN]) (yJ ?_);simp;refine xS (yS ?_);(repeat(refine Cc ?_ ?_;(·simp);simp));refine AS.ef (A.map encI) rfl (by simp) (by simpa using hA0) ?_;simp;apply yH;simp;refine li (hus) rfl rfl (by simp[xN];try rfl) ?_;simp;apply yH;simp;refine li (hco) rfl rfl (by simp[xN];try rfl) ?_;simp;apply yH;simp;apply AP;simp;apply xK;apply yW;simp;apply yW;simp[hwl,hmk];refine xS (yW ?_);simp;apply Bo;refine zL (Z T) (λi tm S=>tm 3=.d (CE T)/\tm 10=.d (BZ A)/\tm 11=.fn (.func 39) [] [.ptr 1 1 0 0]/\tm 12=.row 2 n1/\tm 46=.d (CE T)/\tm 47=.d (encI (Z T))/\tm 48=.d (encI i)/\S=[.row J 9 [.d (AA g)],.row J 4 [.d (C7 p)],.row J 1 ((NW E (Z T) i).map λx=>.d (encI x))]) (by simp[hc0]) ?_;rintro i tm S hi ⟨t3,t10,t11,t12,t46,t47,t48,rfl⟩;by_cases N:i<Z T
   .have L:(i:Int)<Z T:=by omega
    obtain⟨x,X⟩:=ce (T[i]);have w:=Ei.eq_1 x;have K:=hc.s i N;rw[X]at K;have hle:=P i hi;have F:=dG E N;have m:=Jl E (Z T) i;have B:=Ub E (n:=Z T) (c9 i) hi (by rw[m];omega);obtain⟨C,hC⟩:=ce (NW E (Z T) i);simp only[hC]at F m B⊢;rw[Q]at m;obtain⟨i1,R⟩:=ce (i+1);rw[R]at F K;have Y:∀v:Int,Au 3 ((C.map λx=>V.d (D.int .i64 x)).set i1 (V.d (.int .i64 v)))=true:=λv=>KN λy hy=>by
     rcases abx hy with hy|rfl
     .obtain⟨d,_,rfl⟩:=g7.1 hy;exact⟨_,rfl⟩
     .exact⟨_,rfl⟩
    have o:b8 .i64 ((i:Int)+1)=(i1:Int):=by rw[c8];omega
    have k1:i<n1:=by omega
    have k2:i1<n1:=by omega
    apply yW;simp[t47,t48];apply xC;simp[N];apply xK;apply xB;apply yW;simp[t46,t48,N,X];apply yW;simp[t12,o,k1,k2,m,B];(repeat apply xS);apply yV;simp;by_cases G:x.prod<0
    .rw[ca G]at K;have hw2:b8 .i64 ((E i:Int)+1)=(E i1:Int):=by rw[c8,K];omega
     apply AP;simp[G];apply yV;simp[t12,o,k2,m,hw2];apply yV;simp[t48,o];refine⟨_,_,fd 3 rfl (by simp) (by simp) (by simp[Y]),?_⟩;simp[clean,AJ,t3,t10,t11,t12,t46,t47,R,<-F];omega
    .rw[bv G]at K;apply AP;simp[G];apply CF;apply yV;simp[t48,o];refine⟨_,_,fd 3 rfl (by simp) (by simp) (by simp[Y]),?_⟩;simp[clean,AJ,t3,t10,t11,t12,t46,t47,R,<-F,K];omega
   .have e:i=Z T:=by omega
    subst e;apply yW;simp[t47,t48];apply xC;simp;apply Ci;obtain⟨C,hC⟩:=ce (NW E (Z T) (Z T));have m:=Jl E (Z T) (Z T);have B:=λ(j:Nat) (h:j<=Z T)=>Ub E (n:=Z T) h (c9 _) (by rw[Jl];omega);simp only[hC]at m B⊢;rw[Q]at m;refine xS (yW ?_);simp[t3];apply Bo;refine zL (Z T) (λi tm S=>tm 10=.d (BZ A)/\tm 11=.fn (.func 39) [] [.ptr 1 1 0 0]/\tm 12=.row 2 n1/\tm 72=.d (CE T)/\tm 73=.d (encI (Z T))/\tm 74=.d (encI i)/\S=[.row J 9 [.d (AA g)],.row J 4 [.d (C7 p)],.row J 1 (C.map λx=>.d (encI x))]) (by simp[t10,t11,t12]) ?_;rintro i tm S hi ⟨t10,t11,t12,t72,t73,t74,rfl⟩;by_cases N:i<Z T
    .have L:(i:Int)<Z T:=by omega
     obtain⟨x,X⟩:=ce (T[i]);have w:=Ei.eq_1 x;have hxx:=hc.x i N;rw[X]at hxx;have o:b8 .i64 ((i:Int)+1)=((i+1:Nat):Int):=by rw[c8];omega
     apply yW;simp[t73,t74];apply xC;simp[N];apply xK;apply xB;(repeat apply xS);apply yV;simp[t72,t74,N,X];by_cases G:x.prod<0
     .have q:¬0<=x.prod:=by omega
      refine yD (A7 28 []) (by kernel_rfl) ?_;simp;apply yZ;simp[q];apply AP;simp;apply CF;apply yV;simp[t74,o];refine⟨_,_,gc 3 rfl (by simp),?_⟩;simp[clean,AJ,t10,t11,t12,t72,t73]
     .have q:0<=x.prod:=by omega
      obtain⟨a,e1,e2,e3,e4⟩:=hxx G;obtain⟨al,ae⟩:=gq.1 e1;have c1:=B i hi;have c2:=B a e2;have k1:i<n1:=by omega
      have k2:a<n1:=by omega
      have p1:=U (E i) (by have:=P i hi;omega);have p2:=U (E a) (by have:=P a e2;omega);refine yD (A7 28 []) (by kernel_rfl) ?_;simp;apply yZ;simp[q,t11,t12,k1,m,c1,e3,e4];refine Ab.Ob p1 [1] rfl rfl (by simp;try rfl) ?_;simp;apply yZ;simp[t10,t11,t12,k2,m,c2,al,ae];refine Ab.Ob p2 [1] rfl rfl (by simp;try rfl) ?_;simp;apply yZ;simp;apply AP;simp;apply CF;apply yV;simp[t74,o];refine⟨_,_,gc 3 rfl (by simp),?_⟩;simp[clean,AJ,t10,t11,t12,t72,t73]
    .have e:i=Z T:=by omega
     subst e;apply yW;simp[t73,t74];apply xC;simp;apply Ci;apply yW;simp;apply zT;try simp
theorem ZP{N:List BD}{T:List XN}(E:Z T=Z N)(F:∀i (h:i<Z T) (L:i<Z N),T[i].prod=N[i].prod):∀d k,Z T=k+d->lc N k+Z (QL T k)=lc N (Z N)/\∀m (h:m<Z (QL T k)),∃j:Nat,(QL T k)[m]=j/\∃(hj:j<Z N),N[j].prod<0/\lc N j=lc N k+m:=by
 intro d;induction d with
 |zero=>
  intro k G;have e:k=Z T:=by omega
  subst e;rw[Xw,E];exact⟨by simp,λm h=>absurd h (by simp)⟩
 |succ d H=>
  intro k G;have o:k<Z T:=by omega
  have g:k<Z N:=by omega
  obtain⟨M,B⟩:=H (k+1) (by omega);have C:=H7 N g;have q:=F k o g;rw[jg T o,q];by_cases h:N[k].prod<0
  .rw[show lf N[k]=J by simpa[lf]using h,ca rfl]at C;rw[ca h];refine⟨by simp only[jp,List.length_singleton];omega,λm u=>?_⟩;cases m with
   |zero=>exact⟨k,rfl,g,h,rfl⟩
   |succ m=>
    obtain⟨j,v,w,A,K⟩:=B m (by simpa using u);exact⟨j,by simpa using v,w,A,by omega⟩
  .rw[show lf N[k]=false by simpa[lf]using h,bv (by simp)]at C;rw[bv h];refine⟨by simp only[K1];omega,λm u=>?_⟩;obtain⟨j,v,w,A,K⟩:=B m (by simpa using u);exact⟨j,by simpa using v,w,A,by omega⟩
theorem Kz.kids{u:TF}{N:List BD}{A:List Int}{ws rs:List Wd}{e:Int}(D:Kz u N A ws rs e)(U:Z A=Z N){B:Int}{ks:List Int}(a0:Int):
  ∀(j:Nat) (pre:List Int),Gm A B (j:Int) ks->bE N ws e (IE a0 (Cg N A ws e) pre) j->(∀m (h:m<Z ks),∃i:Nat,ks[m]=i/\∃(hi:i<Z (Cg N A ws e)),((IE a0 (Cg N A ws e) (pre++ks.take m)).2=J->(Cg N A ws e)[i].fr=(IE a0 (Cg N A ws e) (pre++ks.take m)).1)/\(IE a0 (Cg N A ws e) (pre++ks.take m)).1<=(Cg N A ws e)[i].fr)/\∃z:Nat,B=z/\bE N ws e (IE a0 (Cg N A ws e) (pre++ks)) z:=by
 induction ks with
 |nil=>
  intro j pre q o;cases q with
  |nil h=>exact⟨λm h=>absurd h (by simp),j,h,by simpa using o⟩
 |cons x ks C=>
  intro j pre q o;cases q with
  |@cons _ E _ W X v Y F=>
   rw[ne]at v;have G:j<Z A:=(gq.1 v).1;have g:j<Z N:=by omega
   obtain⟨a,ha,H,K⟩:=D.GZ g;have w:E=a:=by rw[v]at ha;exact nu ha
   subst w;have k:j<Z (Cg N A ws e):=by rw[Dy];exact g
   have L:(Cg N A ws e)[j]=Dd N A ws e j:=C4 k;obtain⟨r1,r2⟩:=C a (pre++[(j:Int)]) F (D.vc a0 pre g ha);refine⟨λm M=>?_,?_⟩
   .cases m with
    |zero=>
     refine⟨j,rfl,k,?_⟩;rw[L,D.fr g];simp only[List.take_zero,acd];exact⟨λh=>(o.2 h).symm,o.1⟩
    |succ m=>
     obtain⟨i,P,Q,R⟩:=r1 m (by simpa using M);refine⟨i,by simpa using P,Q,?_⟩;simpa using R
   .obtain⟨z,S,T⟩:=r2;exact⟨z,S,by simpa using T⟩
theorem lr(u:TF):∀(A R:List Int) (i:Nat),A.drop i=u.ends i++R->∀y (h:y<Z u.flat),¬u.flat[y].prod<0->∃(e:Nat) (ks:List Int),(u.ends i)[y]?=some (e:Int)/\Gm A e ((i+y:Nat)+1) ks:=by
 induction u with
 |nil=>intro A R i _ y h;exact absurd h (by simp[TF.flat])
 |leaf k s r x q=>
  intro A R i v y h g;cases y with
  |zero=>exact absurd (by simp[TF.flat]:(TF.leaf k s r x).flat[0].prod<0) g
  |succ y=>
   have j:=Lx (x:=((i+1:Nat):Int)) v;obtain⟨e,ks,m,o⟩:=q A R (i+1) j y (by simpa[TF.flat]using h) (by simpa[TF.flat]using g);exact⟨e,ks,by simpa[TF.ends]using m,by rw[show i+(y+1)=i+1+y by omega];exact o⟩
 |node p k x w q=>
  intro A R i v y h g;have j:=Lx (x:=((i+1+Z k.flat:Nat):Int)) (L:=k.ends (i+1)++x.ends (i+1+Z k.flat)) v;cases y with
  |zero=>
   refine⟨i+1+Z k.flat,k.pos (i+1),by simp[TF.ends],?_⟩;have:=lB k A (x.ends (i+1+Z k.flat)++R) (i+1) (by rw[j,acm]);simpa using this
  |succ y=>
   simp only[TF.flat,gr,jp]at h;simp only[TF.flat,Kf]at g;by_cases B:y<Z k.flat
   .rw[oi B]at g;obtain⟨e,ks,m,o⟩:=w A (x.ends (i+1+Z k.flat)++R) (i+1) (by rw[j,acm]) y B g;exact⟨e,ks,by simp only[TF.ends,ri];rw[io (by rw[TF.C3];exact B)];exact m,by rw[show i+(y+1)=i+1+y by omega];exact o⟩
   .rw[wn (by omega)]at g;have C:=YW j;rw[TF.C3]at C;obtain⟨e,ks,m,o⟩:=q A R (i+1+Z k.flat) C (y - Z k.flat) (by omega) g;exact⟨e,ks,by simp only[TF.ends,ri];rw[z9 (by rw[TF.C3];omega),TF.C3];exact m,by rw[show i+(y+1)=i+1+Z k.flat+(y - Z k.flat) by omega];exact o⟩
theorem Kz.nN{u:TF}{N:List BD}{A:List Int}{ws rs:List Wd}{e:Int}(D:Kz u N A ws rs e)(B:Z N<=2000000){i:Nat}(hi:i<Z N)(m:¬N[i].prod<0):
  Pure prog 128 [CE (Cg N A ws e),BZ A,encI i] (.bool J):=by
 have C:Z A=Z N:=by rw[D.a,D.n,TF.C3]
 have o:i<Z u.flat:=by rw[<-D.n];exact hi
 obtain⟨z,ks,k,q⟩:=lr u A [] 0 (by rw[D.a];simp) i o (by have:=D.n;subst this;exact m);rw[<-D.a]at k;rw[sn]at q;obtain⟨a,ha,F,G⟩:=D.GZ hi;have v:z=a:=by rw[k]at ha;have:=nu ha;omega
 subst v;have g:i<Z (Cg N A ws e):=by rw[Dy];exact hi
 have j:(Cg N A ws e)[i]=Dd N A ws e i:=C4 g;obtain⟨r1,H,M,w⟩:=D.kids C (Dd N A ws e i).fr (i+1) [] (by simpa using q) (D.ur hi m _);have K:H=z:=by omega
 rw[K]at w;simp only[K1]at r1 w;refine Wj _ A i g (by rw[Dy];exact B) ks z k (λx j=>?_) (by simpa using q) (by rw[C];unfold maxLen;omega) (by rw[j];exact r1) ?_
 .rw[D.a]at j;have P:=TF.jc u 0 x j;have Q:Z u.flat<=2000000:=by rw[<-D.n];exact B
  omega
 .rw[j];have E:=(D.to hi k).2 m;obtain⟨w1,L⟩:=w;split
  .next h=>rw[L h,E]
  .rw[E];exact w1
theorem Qr{p:Token->Bool}:∀{l:List Token} {k t:Nat},R8 p l k=some t->∃i,t=k+i/\∃h:i<Z l,p l[i]=J
 |[],_,_,h=>by cases h
 |x::l,k,t,h=>by
  unfold R8 at h;by_cases g:p x=J
  .rw[ca g]at h;exact⟨0,by have:=nu h;omega,by simp,g⟩
  .rw[bv g]at h;obtain⟨i,o,j,m⟩:=Qr h;exact⟨i+1,by omega,by simpa using j,by simpa using m⟩
def oq(g:AE)(r:Wd):Prop:=∃k:Nat,r.tok=k/\∃h:k<Z g.AT,g.AT[k].cls=2
theorem Wf(g:AE)(ws:List Wd):∀(l:List ByteArray) (st:kH),(∀s∈l,0<s.size)->R9 ws st.2.1 st.1.size->(∀r∈st.2.1,oq g r)->R9 ws (EF g st l).2.1 (EF g st l).1.size/\∀r∈(EF g st l).2.1,oq g r
 |[],st,_,h,k=>⟨h,k⟩
 |s::l,st,o,h,k=>by
  have e:EF g st (s::l)=EF g (Hy g st s) l:=rfl;rw[e];refine Wf g ws l _ (λx v=>o x (by simp[v])) ?_ ?_
  .unfold Hy;split
   .exact h
   .have h0:=o s (by simp);have m:(⟨#[10]⟩:ByteArray).size=1:=rfl;refine h.rem rfl ?_ ?_
    .show(st.1.size:Int)<((st.1.size+s.size:Nat):Int);omega
    .show((st.1.size+s.size:Nat):Int)<=_
     simp only[acs,m];omega
  .unfold Hy;split
   .exact k
   .next t w=>
    intro r j;rcases fi.1 j with j|j
    .exact k r j
    .rw[go.1 j];obtain⟨i,q,A,u⟩:=Qr w;rw[sn]at q;subst q;refine⟨t,rfl,A,?_⟩;simp only[Zs,cF,fc]at u;exact u.1
def wD(n:BD):Prop:=(∀s∈n.rem,0<s.size)/\(n.prod<0->0<n.text.size)
theorem mw(g:AE)(lines:List Int)(N:List BD)(v:∀n∈N,wD n)(A:∀i,i<=Z N->Z (Cv g lines (N.take i)).ws=lc N i):∀i,i<=Z N->R9 (Cv g lines (N.take i)).ws (Cv g lines (N.take i)).rs (Cv g lines (N.take i)).DG.size/\(∀r∈(Cv g lines (N.take i)).rs,oq g r)/\∀j (h:j<Z N),j<i->N[j].prod<0->∃w,(Cv g lines (N.take i)).ws[lc N j]?=some w/\w.tok=N[j].token:=by
 intro i;induction i with
 |zero=>intro _;exact⟨R9.zero,by simp[Cv],λj _ h=>absurd h (by omega)⟩
 |succ i B=>
  intro hi;obtain⟨o,q,u⟩:=B (by omega);have C:=A i (by omega);rw[LF g lines N hi];obtain⟨n1,E⟩:=v _ (cL hi);generalize Cv g lines (N.take i)=a at *;unfold J9;by_cases h:N[i].prod<0
  .rw[ca h];obtain⟨F,m2⟩:=Wf g a.ws N[i].rem (a.DG,a.rs,a.f2) n1 o q;generalize EF g (a.DG,a.rs,a.f2) N[i].rem=r at *;have G:(QP lines (Z a.ws+1)).size=1:=by unfold QP;split<;>rfl
   have h0:=E h;refine⟨F.word rfl ?_ ?_,m2,λj hj m k=>?_⟩
   .show(r.1.size:Int)<((r.1.size+N[i].text.size:Nat):Int);omega
   .show((r.1.size+N[i].text.size:Nat):Int)<=_
    simp only[acs,G];omega
   .by_cases e:j=i
    .subst e;exact⟨Ss r.1 N[j].text N[j].token,by rw[<-C];simp,rfl⟩
    .obtain⟨w,w1,H⟩:=u j hj (by omega) k;exact⟨w,by rw[io (gq.1 w1).1];exact w1,H⟩
  .rw[bv h];refine⟨o,q,λj hj m k=>?_⟩;by_cases e:j=i
   .subst e;exact absurd k h
   .exact u j hj (by omega) k
theorem gW{g:AE}{c:Nat}(u:TF):∀{o:List Symbol},u.fit g o->(∀s∈o,NV g c s=J)->(∀n∈u.flat,TY g c n)->∀n∈u.flat,n.prod<0->∃k:Nat,n.token=k/\∃H:k<Z g.AT,D6 g.AT[k].cond c=true:=by
 induction u with
 |nil=>intro o _ _ _ n i;exact absurd i (by simp[TF.flat])
 |leaf k s r x C=>
  intro o E A v n i w;obtain⟨k1,k2,L,rfl,F⟩:=E;rw[TF.flat,ke]at i;rcases i with rfl|i
  .have h:=A ⟨J,k⟩ (by simp);obtain⟨m,rfl⟩:∃m:Nat,k=m:=⟨k.toNat,by omega⟩;have K:m<Z g.AT:=by omega
   refine⟨m,rfl,K,?_⟩;simpa[NV,List.getD,K]using h
  .exact C F (λs j=>A s (by simp[j])) (λn i=>v n (by simp[TF.flat,i])) n i w
 |node p k x G C=>
  intro o E A v n i w;obtain⟨q,k1,H,L,rfl,F⟩:=E;rw[TF.flat,ke,fi]at i;rcases i with rfl|i|i
  .exact absurd w (by simp[Gs])
  .have B:=(v (Gs p) (by simp[TF.flat])).2.2.2 p rfl;unfold Bk at B;rw[k1]at B;simp only[cF,ed]at B;exact G H B.1 (λn i=>v n (by simp[TF.flat,i])) n i w
  .exact C F (λs j=>A s (by simp[j])) (λn i=>v n (by simp[TF.flat,i])) n i w
theorem MX{g:AE}(u:TF):∀{i:List Symbol},u.fit g i->∀n∈u.flat,LI g n:=by
 induction u with
 |nil=>intro i _ n h;exact absurd h (by simp[TF.flat])
 |leaf k s r x j=>
  intro i m n h;obtain⟨k1,k2,w,rfl,o⟩:=m;rw[TF.flat,ke]at h;rcases h with rfl|h
  .exact On k1 k2
  .exact j o n h
 |node p k x v j=>
  intro i m n h;obtain⟨q,k1,A,w,rfl,o⟩:=m;rw[TF.flat,ke,fi]at h;rcases h with rfl|h|h
  .exact M8 (gq.1 k1).1
  .exact v A n h
  .exact j o n h
theorem Ee.fit{g h:AE}(H:Ee g h)(u:TF):∀{i:List Symbol},u.fit g i->u.fit h i:=by
 induction u with
 |nil=>intro i j;exact j
 |leaf k s r x m=>
  intro i j;obtain⟨k1,k2,o,rfl,v⟩:=j;exact⟨k1,by rw[H.tk];exact k2,o,rfl,m v⟩
 |node p k x w m=>
  intro i j;obtain⟨q,k1,A,o,rfl,v⟩:=j;obtain⟨d,B⟩:=H.pr p q k1;exact⟨_,B,w A,o,rfl,m v⟩
theorem Kz.zO{g:AE}{u:TF}{N:List BD}{A:List Int}{ws rs:List Wd}{e:Int}(D:Kz u N A ws rs e){ss:List Symbol}(m:u.fit g ss){i:Nat}(hi:i<Z N):oT g (Dd N A ws e i):=by
 have o:LI g N[i]:=MX u m _ (by rw[<-D.n];exact cL hi);obtain⟨x1,q⟩:=D.xp hi;obtain⟨p1,p2,v,w⟩:=D.pos hi;unfold oT;rw[x1,q];rcases o with⟨h,j,k⟩|⟨h,j,k,B,C⟩
 .exact .inl ⟨h,j,k,p1,v (by omega)⟩
 .exact .inr ⟨h,j,k,p1,w⟩
theorem Kz.zW{u:TF}{N:List BD}{A:List Int}{ws rs:List Wd}{e:Int}(D:Kz u N A ws rs e):v7 (Cg N A ws e) A ⟨ws,rs,e⟩ (lc N):=by
 refine⟨rfl,λi hi=>?_,λi hi h=>?_⟩
 .have g:i<Z N:=by rw[Dy]at hi;exact hi
  rw[C4 hi,(D.xp g).1,H7 N g];simp[lf]
 .have g:i<Z N:=by rw[Dy]at hi;exact hi
  rw[C4 hi]at h⊢;rw[(D.xp g).1]at h;obtain⟨a,ha,k,j⟩:=D.GZ g;exact⟨a,ha,by rw[Dy];exact j,D.fr g,(D.to g ha).2 h⟩
noncomputable def V6(h:AE)(c:Nat)(p:Nat):Bool:=match h.AD[p]? with
 |some q=>D6 q.cond c
 |none=>false
theorem Kz.yx{h:AE}{c:Nat}(C:B3 h=0)(_:Z h.conds<=12)(K:c<2 ^ 64){u:TF}{N:List BD}{A:List Int}{ws rs:List Wd}{e:Int}(D:Kz u N A ws rs e)(w:u.fit h [⟨false,h.start⟩])(L:Z N<=2000000)
  (T:∀n∈u.flat,n.prod<0->∃k:Nat,n.token=k/\∃hk:k<Z h.AT,D6 h.AT[k].cond c=J):se h c (Cg N A ws e) A (V6 h c):=by
 obtain⟨k1,k2,k3,k4,k5,k6,k7⟩:=Bx C;obtain⟨n1,_⟩:=(HV _ _).1 k5;have M:Z A=Z N:=by rw[D.a,D.n,TF.C3]
 have B:Z (Cg N A ws e)=Z N:=Dy ..;obtain⟨f0,-,-⟩:=EI.first C w
 have h0:0<Z N:=by rw[D.n];exact f0
 refine⟨?_,λh=>by rw[h]at M;simp at M;omega,?_,λi hi j=>?_,λi hi j=>?_⟩
 .have:=UU h C (Cg N A ws e) N u h.start D.n w (by rw[<-D.n];exact L) B (λi hi m=>by
   rw[C4 hi];exact⟨(D.xp m).1,(D.xp m).2,D.zO w m⟩)
  rw[<-D.a]at this;exact this
 .have U:(Cg N A ws e)[0]'(by rw[B];exact h0)=Dd N A ws e 0:=C4 _;cases u with
  |nil=>simp[TF.flat]at f0
  |leaf k s r x=>obtain⟨_,_,W,E,_⟩:=w;cases E
  |node p k x=>
   obtain⟨q,X,q2,W,Y,q4⟩:=w;have q5:h.start=q.left:=(Symbol.mk.inj (List.cons.inj Y).1).2;obtain⟨p1,p2⟩:=gq.1 X;have F:N[0]=Gs p:=by have:=D.n;subst this;rfl
   exact⟨p,by rw[B];exact h0,p1,by rw[U,(D.xp h0).1,F];rfl,by rw[p2,q5]⟩
 .have g:i<Z N:=by rw[B]at hi;exact hi
  rw[C4 hi]at j⊢;obtain⟨x1,P⟩:=D.xp g;rw[x1]at j;rw[P];obtain⟨k,e1,Q,e3⟩:=T N[i] (by rw[<-D.n];exact cL g) j;have o:B1 h.AT[k].cond (Z h.conds)=true:=by
   simp only[Eh,cF,ed]at k3;have:=k3.2 _ (cL Q);simp only[Hg,cF]at this;exact this.1.2
  refine⟨k,Q,e1,?_⟩;have:=Ip o c K;rw[e3]at this;exact this
 .have g:i<Z N:=by rw[B]at hi;exact hi
  rw[C4 hi]at j⊢;obtain⟨x1,P⟩:=D.xp g;rw[x1]at j⊢;have zx:=MX u w N[i] (by rw[<-D.n];exact cL g);rcases zx with⟨R,_⟩|⟨R,h2,_⟩
  .exact absurd R (by omega)
  .obtain⟨p,G⟩:∃p:Nat,N[i].prod=p:=⟨N[i].prod.toNat,by omega⟩;have v:p<Z h.AD:=by omega
   have o:B1 h.AD[p].cond (Z h.conds)=true:=by
    have S:=(n1 _ (cL v)).2.1;simp only[HR,cF]at S;exact S.1.1.1
   have E:=Ip o c K;have H:V6 h c p=D6 h.AD[p].cond c:=by unfold V6;rw[ej v]
   exact⟨p,v,G,by rw[H];exact E,D.nN L g j⟩
end Go.Koi
