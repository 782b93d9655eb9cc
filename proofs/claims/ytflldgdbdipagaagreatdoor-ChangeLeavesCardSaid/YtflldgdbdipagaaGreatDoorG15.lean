/-
  Part 16 of the proof that the law ChangeLeaves returns true for every input.
-/
import Derived.Test.YtflldgdbdipagaaGreatDoorG14
import Derived.RangeFuncRecord
import Derived.Shelf.SlIterI.Collect
import Derived.Ground.GgzProg
import Derived.RangeFuncBox
import Derived.WalkKit
import Derived.LoopIn
set_option maxHeartbeats 64000000
set_option maxRecDepth 100000
open List renaming length->Z,append_toArray->afe,cons_append->afh,length_cons->afi,length_nil->afj,nil_append->afk,push_toArray->afl,size_toArray->aff,replicate->ke
open Array renaming replicate_succ->afm,replicate_zero->afg
open Go.Value renaming cells->aeV
open Bool renaming true->J,false->am
open Option renaming some->al
open Go renaming World->cl,maxLen->ao
open Go.IntKind renaming wrap->bv,i64->K1
open ByteArray renaming empty->gs
open Go.Proofs.Tryz renaming prog->a8
open Go.Koi.D renaming int->bi,sl->k7
open Go.Proofs.Tryz
namespace Go.Koi
open Go.Proofs Tryz DT
structure Input where
 x:Raw
 config:Nat
 l:List Int
 lines:List Int
def De(x:Input):D:=.agg [bi .u8 (x.x.base:Nat),bi .u8 (x.x.n:Nat),k7 (x.x.fam.map λ(k:Nat)=>bi .u8 k),k7 (x.x.lines.map CY),k7 (x.x.rules.map Ce),bi .u8 (x.config:Nat),k7 (x.l.map (bi .u8)),k7 (x.lines.map (bi .u8))]
@[simp] theorem cE(x:Input):Aj (.d (De x))=[.d (bi .u8 (x.x.base:Nat)),.d (bi .u8 (x.x.n:Nat)),.d (k7 (x.x.fam.map λ(k:Nat)=>bi .u8 k)),.d (k7 (x.x.lines.map CY)),.d (k7 (x.x.rules.map Ce)),.d (bi .u8 (x.config:Nat)),.d (k7 (x.l.map (bi .u8))),.d (k7 (x.lines.map (bi .u8)))]:=rfl
@[simp] theorem dD(x:Input):Ap (.d (De x))=true:=rfl
@[simp] theorem kb(x:Input):Bu (.d (De x))=false:=rfl
@[simp] theorem bu(x:Input):BE (De x)=[bi .u8 (x.x.base:Nat),bi .u8 (x.x.n:Nat),k7 (x.x.fam.map λ(k:Nat)=>bi .u8 k),k7 (x.x.lines.map CY),k7 (x.x.rules.map Ce),bi .u8 (x.config:Nat),k7 (x.l.map (bi .u8)),k7 (x.lines.map (bi .u8))]:=rfl
@[simp] theorem kV(x:Input):CR.oneD (De x)=true:=rfl
@[simp] theorem pW(x:Input):Da (De x)=Bq [bi .u8 (x.x.base:Nat),bi .u8 (x.x.n:Nat),k7 (x.x.fam.map λ(k:Nat)=>bi .u8 k),k7 (x.x.lines.map CY),k7 (x.x.rules.map Ce),bi .u8 (x.config:Nat),k7 (x.l.map (bi .u8)),k7 (x.lines.map (bi .u8))]:=rfl
@[simp] theorem jd(S:Sg)(x:Input):Dp S (.d (De x))=al [bi .u8 (x.x.base:Nat),bi .u8 (x.x.n:Nat),k7 (x.x.fam.map λ(k:Nat)=>bi .u8 k),k7 (x.x.lines.map CY),k7 (x.x.rules.map Ce),bi .u8 (x.config:Nat),k7 (x.l.map (bi .u8)),k7 (x.lines.map (bi .u8))]:=rfl
def yt(v:V)(S':Sg):Prop:=S'=[]/\∃(g:AD) (c:Nat) (t:Term) (ok kn:Bool),v=.d (.CA [AA g,EH c,Af t,.bool ok])/\Xl g kn 10 6/\c<8/\hasB g c=J/\(ok=J->∃u:TF,t.nodes=u.flat/\u.fit g [⟨false,g.start⟩]/\Z u.flat<=50000/\(∀n∈u.flat,Vy g c n)/\Z t.tail<=12/\∀s∈t.tail,s∈T9/\Mj g c s=J)
theorem dW(y:Input):BL prog 5 [.d (De y)] [] yt:=by
 refine Ks func5 rfl rfl (by simp) λwf _=>?_;have u:y.config<256:=by have:=wf.1;simp[K0,Da,Bq,IX]at this;omega
 have w:∀k∈y.l,0<=k/\k<256:=by
  have:=wf.1;simp[K0,Da,Bq,Dh,IX]at this;exact λk z=>by have:=this.2.2.2.2.2.2.1.2 k z;omega
 have N:Z y.l<=maxLen:=by have:=wf.1;simp[K0,Da,Bq]at this;exact this.2.2.2.2.2.2.1.1
 rw[ntmps5];apply yW;simp;(repeat apply xS);apply yT;apply yJ;simp[De];have A:=(dz y.x).E5 (args':=[.agg [.d (.int .u8 y.x.base),.d (.int .u8 y.x.n),.d (.sl (y.x.fam.map λ(k:Nat)=>bi .u8 k)),.d (.sl (y.x.lines.map CY)),.d (.sl (y.x.rules.map Ce))]]) rfl λi h R=>by
  match i,h with
  |0,_=>exact .inr ⟨_,by simp[BC,Ed,CZ,HD],rfl⟩
 refine AY.Ih A [] rfl ?_ ?_ ?_
 .simp
 .rintro v B ⟨rfl,g,rfl,_⟩;simp
 rintro v B ⟨rfl,g,rfl,kn,m⟩;simp;apply yJ;simp;have C:=m.okF.1;obtain⟨c,E,F,o⟩:=Y7 g C m.c1 y.config u;have P:=(Bt C).2.2.2.1;simp[IF]at P;obtain⟨s,q⟩:∃s:Nat,g.start=s:=⟨g.start.toNat,by omega⟩;obtain⟨M,G,H,Q⟩:∃M:Nat,(if(40:Int)<(Z y.l:Int)then(40:Int)else Z y.l)=M/\M<=Z y.l/\M<=40:=by
  by_cases h:40<Z y.l
  .exact⟨40,by rw[b8 (by omega)];rfl,by omega,by omega⟩
  .exact⟨Z y.l,by rw[a9 (by omega)],by omega,by omega⟩
 have K:(M:Int)<=Z y.l:=by omega
 obtain⟨t,ok,L,j⟩:=fE g C (by have:=m.c1;omega) m.n1 m.sh.r c (by omega) s (by omega) (y.l.take M) (by simp;omega) (λk z=>w k (abr z));apply yS;apply yJ;simp;refine Bz (o) rfl (by simp[xN]) (yJ ?_);simp;refine yD (A3 15 [31,33,34]) (by kernel_rfl) ?_;simp;apply yA 1;simp[AA,q,G,K];refine Bs (j) rfl (by simp[AA,q]) ?_;simp[AA,q];apply yA 1;simp;apply xX 0 (by kernel_rfl);simp[Aa,Ag];apply xX 32766 (by kernel_rfl);simp[Aa,Ag];apply yA 1;simp;(repeat apply xS);refine yE (A3 4 [9,10,13,14]) (by kernel_rfl) ?_;simp;apply yA 1;simp;apply xX 8 (by kernel_rfl);simp[Aa];apply yA 1;simp;apply xX 13 (by kernel_rfl);simp[Aa];apply yA 1;simp;apply Am;refine⟨_,_,ap,?_,_,_,⟨rfl,g,c,t,ok,kn,rfl,m,E,F,by rw[q];exact L⟩,.inl ⟨.CA [AA g,EH c,Af t,.bool ok],_,?_,rfl,fi 0 rfl (by simp)⟩⟩
 .simp[Af]
 .simp[BC,LS,CZ,LK,AA,Af,q]
def fR(g:Option Nat):Fence:={fn:=λ_=>True,depth:=none,alive:=false,round:=g}
section
variable {P:Program} {ro:Option Nat} {m:Nat}
theorem rQ{f:FuncId}{args:Array Value}{w:cl}{R:Ending->cl->Prop}(h:Calls P f args w R):CallsIn (fR ro) m P f args w R:=
 show CallsIn Fence.wide m P f args w R from callsIn_wide.2 h
theorem vc{row:String}{args:Array Value}{w:cl}{R:Value->cl->Prop}(h:Rows P row args w R):RowsIn (fR ro) m P row args w R:=
 show RowsIn Fence.wide m P row args w R from λc g _=>by
  obtain⟨v,i,r,s⟩:=h c g;exact⟨v,i,r,stepsIn_wide.2 s⟩
theorem tw{o:Oper}(k:∀c,o.op≠.defer c){a:Act}{w:cl}{next g:Act->cl->Prop}{Q:Exit->Act->cl->Prop}(hn:∀a w,next a w->g a w)(h:o.wp P a w next Q):o.wpIn (fR ro) m P a w g Q:=by
 refine⟨λ_ _=>trivial,?_⟩;rw[show o.semAt (fR ro).round a.eval=execOp a.eval o from Oper.semAt_eq _ _ _ k];unfold Oper.wp at h;generalize(execOp a.eval o).run P w=r at h⊢;cases r with
 |ok v q=>
  cases v with
  |value v=>exact hn _ _ h
  |skip=>exact hn _ _ h
  |enter f args=>
   refine⟨(by intro i;cases i),rQ (Calls.mono h λe j i=>?_)⟩;cases e with
   |returned v=>exact hn _ _ i
   |panicked c=>exact i
   |outgrown=>exact i
  |row r args=>exact⟨(by intro i;cases i),vc (Rows.mono h λv j i=>hn _ _ i)⟩
  |_=>first|exact h.elim|exact hn _ _ h
 |halt i q=>cases i with
  |panic v=>exact h
  |_=>exact h.elim
theorem nz{ops:Array Oper}{Q:Exit->Act->cl->Prop}(g:∀(i:Nat) o c,ops[i]?=al o->o.op≠.defer c)(j:¬LetsOut Q):∀(l:List Nat) (a:Act) (w:cl),wpOps P ops Q l a w->wpOpsIn (fR ro) m P ops Q l a w
 |[],_,_,h=>h
 |i::l,a,w,h=>by
  simp[wpOps]at h;simp[wpOpsIn];cases k:ops[i]? with
  |none=>rw[k]at h;exact nz g j l a w h
  |some o=>
   rw[k]at h;simp[]at h⊢;split at h
   .next q=>
    rw[b8 q];rcases h with h|h
    .exact tw (λc=>g i o c k) (λa w=>nz g j l a w) h
    .exact absurd h.2 j
   .next q=>
    rw[a9 q];exact⟨λ_ _=>trivial,nz g j l _ w h⟩
variable {n b:Nat} {tm:Tm} {S:Sg}
theorem AY.pz{id:Nat}{ops:Array Oper}{K:Tm->Sg->Prop}(t:∀(i:Nat) o c,ops[i]?=al o->o.op≠.defer c)(h:AY P n b ops ops.toList tm S K){G:Gh}{w:cl}{a:Act}{Q:Exit->Act->cl->Prop}
  (st:St P n G S w a tm) (hb:b<=Z S) (u:∀k q,(∃v s g,Iy P n b G S w a.defers k q v s g/\K g s)->Q .normal k q) (z:¬LetsOut Q):(Code.region id ops false).wpIn (fR ro) m P Q a w:=by
 refine wpIn_region (nz t z _ _ _ ?_);have:=h 0 (λj=>by simp) G w a Q st hb u;rw[acE];simpa using this
end
end Go.Koi
namespace Go.Proofs
open Go.RowKit Go.Maps Go.Sort Go.Shelf Go.Koi
def collA_ren:Go.Shelf.Ren:=⟨fun|8=>31|11=>122|n=>n,fun|26=>3|28=>121|24=>89|0=>0|33=>70|4=>4|n=>n,fun|n=>n⟩
theorem collA:SlLaysZI.n8 Tryz.prog collA_ren:={mixed:=by kernel_rfl,f8:=⟨Tryz.f31.name,by decide,Tryz.func31.trans (congrArg some (by kernel_rfl))⟩,f11:=⟨Tryz.f122.name,by decide,Tryz.func122.trans (congrArg some (by kernel_rfl))⟩,t0:=Tryz.underlying0,a0:=Tryz.isAgg0,z0:=Tryz.sizeOf0,v0:=Tryz.zeroValue0,t24:=Tryz.underlying89,a24:=Tryz.isAgg89,z24:=Tryz.sizeOf89,v24:=Tryz.zeroValue89,t26:=Tryz.underlying3,a26:=Tryz.isAgg3,z26:=Tryz.sizeOf3,v26:=Tryz.zeroValue3,t28:=Tryz.underlying121,a28:=Tryz.isAgg121,z28:=Tryz.sizeOf121,v28:=Tryz.zeroValue121,i26:=by kernel_rfl}
inductive Fc(es:List Int)(e:Int):Int->List Int->Prop
 |nil {j:Int} (h:e=j):Fc es e j []
 |cons {j j':Int} {ks:List Int} (h:j<e) (h0:0<=j) (hj:es[j.toNat]?=al j') (y7:j<j') (hk:Fc es e j' ks):Fc es e j (j::ks)
def vH:Value->Int
 |.int _ n=>n
 |_=>0
attribute [local go_sem] Oper.semAt_some
theorem gT(n:Nat)(hn:1≤n)(l:Nat)(pi pe ad:Addr)(cap N:Nat)(es:List Int)(_:Z es≤maxLen)(i e:Int)(hi0:0≤i)(hi:es[i.toNat]?=al e)(hrg:∀x∈es,0≤x∧x≤2000000)(zs:i≤2000000)(jQ0:List Int→cl→Prop)
  (rd:∀pre W,jQ0 pre W→W.cell? pi=al (.int .i64 i)∧W.cell? pe=al (.slice (al ad) (Z es) cap)∧∀j,j<Z es→W.cell? (ad.add j)=al (.int .i64 (es[j]?.getD 0)))
  (hY:∀pre x W,jQ0 pre W→Z pre<N→YieldAt Fence.wide (n - 1) prog l #[.int .i64 x] W fun e W'=>e=.returned (.bool J)∧jQ0 (pre++[x]) W')
  (ks:List Int) (hk:Fc es e (i+1) ks) (hN:Z ks≤N) (W:cl) (h0:jQ0 [] W):
  CallsIn Fence.wide n prog 123 #[.func (.yield l) #[] #[],.pointer (al pi),.pointer (al pe)] W fun e W'=>(∃v,e=.returned v)∧jQ0 ks W':=by
 refine callsIn_of_wp func123 rfl trivial ?_ rfl;simp[ntmps123,aff,afi,afj,Nat.reduceAdd,Nat.reduceSub,afm,afg,afl,afe,afk,afh];obtain⟨r1,r2,r3⟩:=rd _ _ h0;obtain⟨hil',he⟩:=List.getElem?_eq_some_iff.1 hi;gi_wp2;gi_loopw [4] (fun j wr=>∃(x:Int) (pre rest:List Int),j=.int .i64 x∧0≤x∧x≤2000001∧Fc es e x rest∧pre++rest=ks∧jQ0 pre wr)
  (fun j _=>(e - vH j).toNat)
 case atStart=>exact⟨_,[],ks,rfl,by omega,by omega,hk,rfl,h0⟩
 case round=>
  obtain⟨x,pre,rest,rfl,hx0,hx1,hkr,hpr,hJ⟩:=hrel;clear r1 r2 r3;obtain⟨r1,r2,r3⟩:=rd _ _ hJ;have r4:=r3 i.toNat hil';rw[hi]at r4;simp[Option.getD_some]at r4;cases hkr with
  |nil h=>
   have h:=Int.le_of_eq h;gi_wp2;go_end0;simp[List.append_nil]at hpr;subst hpr;exact⟨⟨_,rfl⟩,hJ⟩
  |cons h h0' hj y7 hk'=>
   obtain⟨hxl,rfl⟩:=List.getElem?_eq_some_iff.1 hj;obtain⟨fn,tmps,assign,body,hy,hR⟩:=hY _ x wr hJ (by rw[←hpr]at hN;simp at hN;omega);gi_wp2;apply hR.mono;rintro e' W3 ⟨rfl,hJ3⟩;obtain⟨q1,q2,q3⟩:=rd _ _ hJ3;have q4:=q3 x.toNat hxl;rw[hj]at q4;simp[Option.getD_some]at q4;gi_wp2;go_roundw;case rel=>exact⟨_,pre++[x],_,rfl,(hrg _ (List.mem_of_getElem? hj)).1,by have:=(hrg _ (List.mem_of_getElem? hj)).2;omega,hk',by simpa using hpr,hJ3⟩
   case measure=>simp[vH];omega
theorem Zw(n:Nat)(hn:4≤n)(pi pe ad:Addr)(cap:Nat)(es:List Int)(hcap:Z es≤maxLen)(i e:Int)(hi0:0≤i)(hi:es[i.toNat]?=al e)(hrg:∀x∈es,0≤x∧x≤2000000)(zs:i≤2000000)
  (w:cl) (b1:pi.block<w.heap.size) (b2:pe.block<w.heap.size) (b3:ad.block<w.heap.size)
  (r1:w.cell? pi=al (.int .i64 i)) (r2:w.cell? pe=al (.slice (al ad) (Z es) cap)) (r3:∀j,j<Z es→w.cell? (ad.add j)=al (.int .i64 (es[j]?.getD 0)))
  (ks:List Int) (hk:Fc es e (i+1) ks) (hN:Z ks≤2000000):
  CallsIn Fence.wide n prog 122 #[.slice none 0 0,.func (.func 123) #[] #[.pointer (al pi),.pointer (al pe)]] w fun e w'=>∃v:Value,e=.returned v∧w'.ownsRow w.heap.size 3 1 v (Z ks) (ks.map encZ)∧Below w.heap.size w w':=by
 refine callsIn_of_wp_marks func122 rfl trivial ?_ rfl;simp[ntmps122,aff,afi,afj,Nat.reduceAdd,Nat.reduceSub,afm,afg,afl,afe,afk,afh];gi_wp2;apply wpIn_rangeFunc;intro fn hfn;have hsv:∃sv:Value,sv=.func (.func 123) #[] #[.pointer (al pi),.pointer (al pe)]:=⟨_,rfl⟩;obtain⟨sv,hsv⟩:=hsv;have y9:(89:TypeId)≠3:=by decide
 have hmx:2000000≤maxLen:=by decide
 have hW0:∃W0,w.alloc (.cells #[.slice none 0 0] 89)=W0:=⟨_,rfl⟩;obtain⟨W0,hW0⟩:=hW0;have zt:W0.heap.size=w.heap.size+1:=by rw[←hW0];simp
 have hv0:W0.heap[w.heap.size]?=al (.cells #[.slice none 0 0] 89 (0,0)):=by rw[←hW0];exact World.alloc_heap_new w _
 have hb0:Below w.heap.size w W0:=by rw[←hW0];exact(Below.refl _ w).alloc (Nat.le_refl _) _
 rw[hW0];have hW1:∃W1,(W0.alloc (.deferred (al []))).alloc (.loop (AnyZI.apRec collA_ren fn sv w.heap.size W0.heap.size .ready none))=W1:=⟨_,rfl⟩;obtain⟨W1,hW1⟩:=hW1;have hold:∀k,k<W0.heap.size→W1.heap[k]?=W0.heap[k]?:=fun k hk=>by
  rw[←hW1];exact(Below.heap_alloc _ _ k (by simp;omega)).trans (Below.heap_alloc _ _ k hk)
 have zO:Below w.heap.size w W1:=by rw[←hW1];exact(hb0.alloc hb0.size _).alloc (by have:=hb0.size;simp;omega) _
 have hM:AnyZI.ApAt collA_ren w fn sv w.heap.size (W0.heap.size+1) W0.heap.size [] W1:=
  ⟨⟨_,(hold w.heap.size (by omega)).trans hv0,⟨rfl,.inl ⟨rfl,rfl⟩⟩,by simp⟩,by rw[←hW1];have:=World.alloc_heap_new (W0.alloc (.deferred (al []))) (.loop (AnyZI.apRec collA_ren fn sv w.heap.size W0.heap.size .ready none));rwa [World.size_alloc]at this,by rw[←hW1];exact(Below.heap_alloc _ _ _ (by simp)).trans (World.alloc_heap_new W0 _),zO⟩
 refine⟨W0.heap.size+1,[{target:=.collected W0.heap.size,args:=#[]}],W1,{target:=.fn (.func 123) #[.pointer (al pi),.pointer (al pe)],args:=#[.func (.yield (W0.heap.size+1)) #[] #[]]},W1,123,#[.func (.yield (W0.heap.size+1)) #[] #[],.pointer (al pi),.pointer (al pe)],W1,?_,?_,?_,?_,fun _=>by omega,?_⟩
 ·rw[←hW1,hsv];exact run_enterLoop_outer _ _ _ _ _
 ·simp[resolve,go_sem]
 ·intro f' hf';exact trivial
 ·simp[invoke,go_sem]
 ·have cell:∀(a:Addr) pre W,a.block<w.heap.size→AnyZI.ApAt collA_ren w fn sv w.heap.size (W0.heap.size+1) W0.heap.size pre W→W.cell? a=w.cell? a:=fun a pre W ha h=>h.below.cell ha;refine(gT (n - 1) (by omega) (W0.heap.size+1) pi pe ad cap (Z ks) es hcap i e hi0 hi hrg zs (AnyZI.ApAt collA_ren w fn sv w.heap.size (W0.heap.size+1) W0.heap.size)
   (fun pre W h=>⟨(cell pi pre W b1 h).trans r1,(cell pe pre W b2 h).trans r2,fun j hj=>(cell (ad.add j) pre W (by unfold Addr.add;split<;>exact b3) h).trans (r3 j hj)⟩)
   (fun pre x W hJ hl=>?_) ks hk (Nat.le_refl _) W1 hM).mono ?_
  ·obtain⟨f,t,a,b,y1,y2⟩:=AnyZI.apYield {collA with} Fence.wide (n - 1 - 1) w fn hfn sv w.heap.size (W0.heap.size+1) W0.heap.size (by omega) (by omega) (by omega) (Nat.le_refl _) (by omega) (Z ks) (by omega) (by omega) pre x W hJ hl;exact⟨f,t,a,b,y1,y2.mono fun e W' h=>⟨h.1,h.2.1⟩⟩
  ·rintro e W2 ⟨⟨v0,rfl⟩,h2⟩;obtain⟨v,hv,hrow,hnil⟩:=h2.box;have hend:=run_endLoop (P:=prog) h2.L (by simp[AnyZI.apRec]);have hW3:∃W3,W2.putObj (W0.heap.size+1) (.loop {AnyZI.apRec collA_ren fn sv w.heap.size W0.heap.size .ready none with state:=.exhausted})=W3:=⟨_,rfl⟩;obtain⟨W3,hW3⟩:=hW3;rw[hW3]at hend;have hg3:W2.grownBy W3 (al (W0.heap.size+1)):=by rw[←hW3];exact grownBy_putObj_a _ _ _
   have hv3:W3.heap[w.heap.size]?=al (.cells #[v] 89 (0,0)):=by rw[←hW3];exact(World.putObj_heap_other (by omega)).trans hv
   have hK3:W3.heap[W0.heap.size]?=al (.deferred (al [])):=by rw[←hW3];exact(World.putObj_heap_other (by omega)).trans h2.K
   have hrow3:=hrow.kept hg3 (ownsRow_ne_a hrow h2.L (fun cur e=>by first|cases e|exact y9 (Obj.cells.inj e).2.1));have hb3:Below w.heap.size w W3:=h2.below.grown hg3 h2.below.size (fun k e=>by cases e;omega);obtain⟨hc3,hf3⟩:=cell_of_box_a hv3;clear hW3;refine⟨none,W3,hend,?_⟩;gi_wp2;rw[←zt];refine⟨by simp,.inl ⟨_,_,rfl,run_takeDeferred hK3,?_⟩⟩;exact⟨_,results_tmp rfl _ _ _,v,rfl,hrow3.kept (grownBy_putObj_a _ _ _) (ownsRow_ne_a hrow3 hK3 (fun cur e=>by first|cases e|exact y9 (Obj.cells.inj e).2.1)),hb3.grown (grownBy_putObj_a _ _ _) hb3.size (fun k e=>by cases e;omega)⟩
theorem pD(n:Nat)(hn:5≤n)(pi pe ad:Addr)(cap:Nat)(es:List Int)(hcap:Z es≤maxLen)(i e:Int)(hi0:0≤i)(hi:es[i.toNat]?=al e)(hrg:∀x∈es,0≤x∧x≤2000000)(zs:i≤2000000)
  (w:cl) (b1:pi.block<w.heap.size) (b2:pe.block<w.heap.size) (b3:ad.block<w.heap.size)
  (r1:w.cell? pi=al (.int .i64 i)) (r2:w.cell? pe=al (.slice (al ad) (Z es) cap)) (r3:∀j,j<Z es→w.cell? (ad.add j)=al (.int .i64 (es[j]?.getD 0)))
  (ks:List Int) (hk:Fc es e (i+1) ks) (hN:Z ks≤2000000):
  CallsIn Fence.wide n prog 31 #[.func (.func 123) #[] #[.pointer (al pi),.pointer (al pe)]] w fun e w'=>∃v:Value,e=.returned v∧w'.ownsRow w.heap.size 3 1 v (Z ks) (ks.map encZ)∧Below w.heap.size w w':=by
 refine callsIn_of_wp func31 rfl trivial ?_ rfl;simp[ntmps31,aff,afi,afj,afm,afg,afl,afe,afk,afh];have ht:Fence.wide.fn 122:=trivial;have h1:1≤n:=by omega
 gi_wp2_with (gi_at_call 122;refine(Zw (n - 1) (by omega) pi pe ad cap es hcap i e hi0 hi hrg zs w b1 b2 b3 r1 r2 r3 ks hk hN).mono ?_;rintro e w' ⟨v,rfl,hrow,hb⟩);go_ret;exact⟨v,rfl,hrow,hb⟩
end Go.Proofs
namespace Go.Koi
open Go.Proofs Tryz
theorem Rel.wider{P:Program}{G:Gh}{S:Sg}{w w':cl}(R:Rel P G S w)(g:Nat->Prop)(h1:∀b,G.I b->g b)(i:∀b,g b->G.I b\/(w.heap.size<=b/\b<w'.heap.size))
  (q:w.heap.size<=w'.heap.size) (j:∀b,b<w.heap.size->w'.heap[b]?=w.heap[b]?) (s:w'.os=w.os) (t:w'.output=w.output):
  Rel P {G with I:=g} S w'/\Tr G S w {G with I:=g} S w'/\BH G S w {G with I:=g} S w':=by
 have L:BH G S w {G with I:=g} S w':=
  ⟨h1,λk h=>j k (R.Kf k h),ci _,λr _ n h=>⟨n,h,ci _,λ_=>⟨rfl,rfl,rfl,.inl rfl⟩⟩,λr _ h=>⟨h,rfl⟩⟩
 have z:∀b,HG {G with I:=g} S b↔HG G S b:=λb=>Iff.rfl;refine⟨⟨R.HU.later L,λr x m=>(R.DX r x m).later L (λu=>j _ (R.Ik _ ⟨r,x,m,u,rfl⟩)) rfl rfl rfl,R.inj,λb hb v=>?_,λb hb=>?_,λb hb=>?_⟩,⟨q,h1,λb hb _=>j b hb,λb hb=>.inl hb,λb hb=>?_,s,t⟩,L⟩
 .have o:HG G S b:=hb;rcases i b v with h|h
  .exact R.nI b o h
  .have:=R.Ik b o;omega
 .rcases i b hb with h|h
  .have:=R.Kf b h;omega
  .exact h.2
 .have:=R.Ik b (show HG G S b from hb);omega
 .rcases i b hb with h|h
  .exact .inl h
  .exact .inr (.inr h.1)
theorem UW{P:Program}{G:Gh}{S:Sg}{w:cl}(R:Rel P G S w){r:Nat}{d:D}{y:Value}(i:S[r]?=al (.row J 1 [.d d]))(o:CV G S w (.ptr r 1 0 0) y)(q:∀v,CD G.I w d v->v.cells=#[v]):
  ∃a v,y=.pointer (al a)/\w.cell? a=al v/\CD G.I w d v/\a.block<w.heap.size/\v.cells.size=1:=by
 have g:=R.DX r _ i;cases o with
 |ptr _ _ _ _ _ h1 z s=>
  have e:=(s 1 (by simp[lenOf,i])).2 rfl 1 (by simp[C0,i]);simp only[OK]at g;cases j:G.BJ r with
  |some a=>rw[j]at g;exact absurd g.1 (by simp)
  |none=>
   rw[j]at g;obtain⟨c,T,k,A,B,C,t⟩:=g;obtain⟨v,k1,k2,k3,k4⟩:=t 0 (by simp);refine⟨_,v,by rw[e];simp[Gh.addr,j];rfl,?_,?_,?_,k2⟩
   .have m:=k4 0 (by omega);have k5:CD G.I w d v:=by cases k1 with|d _ _ h=>exact h
    have u:v.cells[0]?=al v:=by rw[q v k5];rfl
    rw[u]at m;simp[World.cell?,k];simpa using m
   .cases k1 with|d _ _ h=>exact h
   .exact(ac2.1 k).1
theorem Ww{P:Program}{G:Gh}{S:Sg}{w:cl}(R:Rel P G S w){es:List Int}{v:Value}(g:CD G.I w (A2 es) v)(h0:es≠[]):
  ∃ad cap,v=.slice (al ad) (Z es) cap/\ad.block<w.heap.size/\Z es<=maxLen/\∀j,j<Z es->w.cell? (ad.add j)=al (.int .i64 (es[j]?.getD 0)):=by
 simp[A2]at g;generalize i:es.map AF=t at g;cases g with
 |nil=>simp at i;exact absurd i h0
 |sl sz t b off cap u z A K B C=>
  subst i;have o:Z (es.map AF)=Z es:=by simp
  refine⟨⟨b,off,none⟩,cap,by simp,R.Kf b z,by simpa using A,λj hj=>?_⟩;have k:=B j (by simpa using hj);obtain⟨q,s⟩:=C j (by simpa using hj);simp[AF]at k;generalize E:u j=L at k q s;cases k;have m:sz=1:=by simpa[aeV]using q.symm
  subst m;have F:=s 0 (by omega);have H:(⟨b,off,none⟩:Addr).add j=⟨b,off+j * 1+0,none⟩:=by
   unfold Addr.add;split
   .next h=>subst h;simp
   .simp
  rw[H,F];simp[aeV,hj]
theorem om{es:List Int}{e j:Int}{ks:List Int}(h:Fc es e j ks)(m:e<=2000000):∀k∈ks,0<=k/\k<=2000000:=by
 induction h with
 |nil=>simp
 |cons h h0 hj o g i=>intro k g;rcases ge.1 g with rfl|g;exact⟨h0,by omega⟩;exact i k g
theorem fe{I:Nat->Prop}{w:cl}{xs:List D}{v:Value}(h:CD I w (.sl xs) v):v.cells=#[v]:=by cases h<;>rfl
abbrev ada:=@List.getElem?_take_of_lt
theorem Wc{S:Sg}{ri re:Nat}{es:List Int}{i e:Int}{ks:List Int}(B:S[ri]?=al (.row J 1 [.d (AF i)]))(C:S[re]?=al (.row J 1 [.d (A2 es)]))
  (E:0<=i) (hi:es[i.toNat]?=al e) (q:∀x∈es,0<=x/\x<=2000000) (zs:i<=2000000) (X:Fc es e (i+1) ks) (hN:Z ks<=2000000):
  AH prog 31 [.fn (.func 123) [] [.ptr ri 1 0 0,.ptr re 1 0 0]] S (.d (A2 ks)) S:=by
 refine⟨by simp only[S5,func31];kernel_rfl,λG w k R s Y=>?_⟩;have F:=Y 0 (by simp) (by simp[s]);have hc:k=#[k[0]'(by simp[s])]:=by
  apply Array.ext
  .simp[s]
  .intro i h1 m;have:i=0:=by simp at m;exact m
   subst this;simp
 rw[hc];generalize k[0]'(by simp[s])=c0 at F;clear hc s Y;simp at F;cases F with
 |fn _ _ _ xs ys k1 k2 k3 k4=>
  have y0:=k4 0 (by simp);have y1:=k4 1 (by simp);obtain⟨pi,vi,e0,c0,d0,b0,_⟩:=UW R B (by simpa using y0) (λv h=>by cases h;rfl);obtain⟨pe,ve,e1,c1,d1,b1,_⟩:=UW R C (by simpa using y1) (λv h=>fe h);have H:xs=#[]:=by apply adw;simpa using k1
  have K:ys=#[.pointer (al pi),.pointer (al pe)]:=by
   apply Array.ext
   .simpa using k2
   .intro i h1 m;have:i=0\/i=1:=by simp at m;omega
    rcases this with rfl|rfl
    .simpa using e0
    .simpa using e1
  subst H K;have y9:es≠[]:=by intro h;subst h;simp at hi
  obtain⟨ad,cap,rfl,b2,L,o⟩:=Ww R d1 y9;cases d0;have zU:=om X (q e (pu hi)).2;refine Calls.mono ((callsIn_wide (n:=6)).1 (pD 6 (by omega) pi pe ad cap es L i e E hi q zs w b0 b1 b2 c0 c1 o ks X hN)) λe' w' h=>?_;obtain⟨v,rfl,t,hb⟩:=h;have hmax:2000000<=maxLen:=by decide
  rcases t.2 with⟨rfl,h0⟩|⟨g,cp,M,rfl,h1,m,h3,h4,h5,h6⟩
  .obtain⟨N,P,Q⟩:=R.wider G.I (λ_ h=>h) (λ_ h=>.inl h) hb.size (λb T=>hb.block b T) hb.os hb.output;have U:ks=[]:=by simpa using h0
   subst U;exact⟨_,_,rfl,.d _ _ (.nil _ _),N,P,Q⟩
  .have hg:g<w'.heap.size:=(ac2.1 m).1;obtain⟨N,P,Q⟩:=R.wider (λb=>G.I b\/b=g) (λ_ h=>.inl h) (λb h=>h.elim .inl (λh=>.inr (by omega))) hb.size (λb T=>hb.block b T) hb.os hb.output;refine⟨_,_,rfl,.d _ _ ?_,N,P,Q⟩;have u:Z (ks.map AF)=Z ks:=by simp
   show CD _ w' (.sl (ks.map AF)) _
   rw[<-u];refine .sl 1 (ks.map AF) g 0 cp (λj=>.int .i64 (ks[j]?.getD 0)) (.inr rfl) (by simp;omega) (by simp;omega) (λj hj=>?_) (λj hj=>⟨by simp[aeV],λj' z=>?_⟩)
   .have z:j<Z ks:=by simpa using hj
    have:=zU ks[j] (cF _);simp[AF,dl z];exact .int _ _ (by simp[IX];omega)
   .have A:j<Z ks:=by simpa using hj
    have:j'=0:=by omega
    subst this;have W:(M.toList.take (Z ks * 1))[j]?=(ks.map encZ)[j]?:=by rw[h6]
    simp[World.cell?,m];rw[ada (by omega)]at W;simp[aeV,A,encZ]at W⊢;exact W
open Go.Proofs DT
namespace TF
def ends:TF->Nat->List Int
 |nil,_=>[]
 |leaf _ _ _ x,i=>((i+1:Nat):Int)::x.ends (i+1)
 |node _ k x,i=>((i+1+Z k.flat:Nat):Int)::(k.ends (i+1)++x.ends (i+1+Z k.flat))
def pos:TF->Nat->List Int
 |nil,_=>[]
 |leaf _ _ _ x,i=>(i:Int)::x.pos (i+1)
 |node _ k x,i=>(i:Int)::x.pos (i+1+Z k.flat)
theorem I0(u:TF)(i:Nat):Z (u.ends i)=Z u.flat:=by
 induction u generalizing i with
 |nil=>rfl
 |leaf k s r x g=>simp[ends,flat,g]
 |node p k x h g=>simp[ends,flat,g,h]
theorem Xw(u:TF)(i:Nat):Z (u.pos i)=Z u.roots:=by
 induction u generalizing i with
 |nil=>rfl
 |leaf k s r x g=>simp[pos,roots,g]
 |node p k x h g=>simp[pos,roots,g]
theorem Uf(u:TF):Z u.roots<=Z u.flat:=by
 induction u with
 |nil=>exact ci _
 |leaf k s r x g=>simp[roots,flat,g]
 |node p k x h g=>simp[roots,flat];omega
theorem dK(u:TF)(i:Nat):∀x∈u.ends i,(i:Int)<x/\x<=i+Z u.flat:=by
 induction u generalizing i with
 |nil=>simp[ends]
 |leaf k s r x h=>
  intro y g;simp[ends]at g;simp[flat];rcases g with rfl|g
  .omega
  .have:=h (i+1) y g;omega
 |node p k x j h=>
  intro y g;simp[ends]at g;simp[flat];rcases g with rfl|g|g
  .omega
  .have:=j (i+1) y g;omega
  .have:=h (i+1+Z k.flat) y g;omega
end TF
theorem GX{α:Type}{A L R:List α}{i:Nat}(h:A.drop i=L++R)(j:Nat)(hj:j<Z L):A[i+j]?=al L[j]:=by
 rw[<-acP,h,i5 hj,dl hj]
theorem Gv{α:Type}{A L R:List α}{i:Nat}{x:α}(h:A.drop i=x::L++R):A.drop (i+1)=L++R:=by
 rw[<-acC,h];rfl
theorem Tp{α:Type}{A L M R:List α}{i:Nat}(h:A.drop i=(L++M)++R):A.drop (i+Z L)=M++R:=by
 rw[<-acC,h,abC,List.drop_left]
theorem mJ(u:TF)(A R:List Int)(i:Nat)(h:A.drop i=u.ends i++R):Fc A ((i+Z u.flat:Nat):Int) i (u.pos i):=by
 induction u generalizing i R with
 |nil=>exact .nil (by simp[TF.flat])
 |leaf k s r x g=>
  have j:=Gv (x:=((i+1:Nat):Int)) h;have:=g R (i+1) j;have e:i+Z (TF.leaf k s r x).flat=i+1+Z x.flat:=by simp[TF.flat];omega
  rw[e];refine .cons (by omega) (by omega) ?_ (by omega) this;have m:=GX h 0 (by simp[TF.ends]);simpa[TF.ends]using m
 |node p k x q g=>
  have j:=Gv (x:=((i+1+Z k.flat:Nat):Int)) (L:=k.ends (i+1)++x.ends (i+1+Z k.flat)) h;have o:=Tp j;rw[TF.I0]at o;have:=g R (i+1+Z k.flat) o;have e:i+Z (TF.node p k x).flat=i+1+Z k.flat+Z x.flat:=by simp[TF.flat];omega
  rw[e];refine .cons (by omega) (by omega) ?_ (by omega) this;have m:=GX h 0 (by simp[TF.ends]);simpa[TF.ends]using m
abbrev Rz:=List (Nat×List Symbol)
def Fz(g:AD)(n:A1):List Symbol:=if n.prod<0 then []else EM g n.prod.toNat
def Q6:Rz->Rz
 |(_,[])::K=>Q6 K
 |(s,x::g)::K=>(s,x::g)::K
 |[]=>[]
def SV(e:Int):Rz->List Int->List Int
 |(s,[])::K,E=>SV e K (E.set s e)
 |(_,_::_)::_,E=>E
 |[],E=>E
def KC(g:AD)(n:A1)(i:Nat):Rz->Rz
 |[]=>[(i,Fz g n)]
 |(s,h)::K=>(i,Fz g n)::(s,h.tail)::K
def ON(g:AD)(p k:Int):Symbol:=if p<0 then⟨J,k⟩else⟨false,C9 g p.toNat⟩
def Ux(g:AD)(n:A1):Prop:=(n.prod= -1/\0<=n.token/\n.token<Z g.AU)\/(0<=n.prod/\n.prod<Z g.AE/\n.token= -1/\n.text=ByteArray.empty/\n.rem=[])
def x5(g:AD)(A:List Int):Rz->List TF->Nat->Prop
 |[],[],_=>True
 |(s,h)::K,x::j,i=>x.fit g h/\A[s]?=al ((i+Z x.flat:Nat):Int)/\x5 g A K j (i+Z x.flat)
 |_,_,_=>False
def N9:List TF->Nat->List Int
 |[],_=>[]
 |x::g,i=>x.ends i++N9 g (i+Z x.flat)
structure EI(g:AD)(A:List Int)(N:List A1)(i:Nat)(K:Rz)(E:List Int)(xs:List TF):Prop where
 st:x5 g A K xs i
 nd:N.drop i=(xs.map TF.flat).flatten
 ad:A.drop i=N9 xs i
 el:Z E=Z A
 ok:∀j,j<i->j∉K.map (·.1)->E[j]?=A[j]?
def nq:Rz->Prop
 |(_,[])::_=>False
 |_=>True
theorem EI.pop{g:AD}{A:List Int}{N:List A1}{i:Nat}:∀{K:Rz} {E:List Int} {xs:List TF},EI g A N i K E xs->∃m,EI g A N i (Q6 K) (SV i K E) m/\nq (Q6 K)
 |[],E,xs,h=>⟨xs,h,trivial⟩
 |(s,y::B)::K,E,xs,h=>⟨xs,h,trivial⟩
 |(s,[])::K,E,xs,h=>by
  match xs,h with
  |[],h=>exact h.st.elim
  |x::xs,⟨⟨h1,o,q⟩,t,u,v,w⟩=>
   have z:x=.nil:=by cases x with|nil=>rfl|leaf k s r x=>obtain⟨_,_,_,h,_⟩:=h1;cases h|node p k x=>obtain⟨_,_,_,_,h,_⟩:=h1;cases h
   subst z;simp[TF.flat]at o q;refine EI.pop (K:=K) (E:=E.set s i) (xs:=xs) ⟨q,by simpa[TF.flat]using t,by simpa[N9,TF.ends,TF.flat]using u,by simp[v],λj hj hn=>?_⟩;by_cases e:s=j
   .subst e;rw[o];have:s<Z A:=(er.1 o).1;rw[abf (by omega)]
   .rw[sn e];exact w j hj (by simp;exact⟨λh=>e h.symm,by simpa using hn⟩)
theorem Vt{g:AD}{k:Int}{s:ByteArray}{r:List ByteArray}(h1:0<=k)(h:k<Z g.AU):Ux g ⟨-1,k,s,r⟩:=.inl ⟨rfl,h1,h⟩
theorem XN{g:AD}{p:Nat}(h:p<Z g.AE):Ux g (ES p):=.inr ⟨by simp[ES],by simp[ES];omega,rfl,rfl,rfl⟩
theorem EI.step{g:AD}(Q:B4 g=0){A:List Int}{N:List A1}{i:Nat}{K:Rz}{E:List Int}{xs:List TF}(h:EI g A N i K E xs)(C:nq K)(_:Z N=Z A)(S:K≠[])(hi:i<Z N):
  Ux g N[i]/\(∃s o T,K=(s,ON g N[i].prod N[i].token::o)::T)/\∃F,EI g A N (i+1) (KC g N[i] i K) E F:=by
 match K,xs,h,C with
 |[],_,_,_=>exact absurd rfl S
 |(s,[])::K,_,_,C=>exact C.elim
 |(s,y::o)::K,[],h,_=>exact h.st.elim
 |(s,y::o)::K,x::xs,⟨⟨h1,H,w⟩,z,B,M,P⟩,_=>
  cases x with
  |nil=>simp[TF.fit]at h1
  |leaf k t r x=>
   obtain⟨k1,k2,U,k3,k4⟩:=h1;cases k3;have hn:N[i]=⟨-1,k,t,r⟩:=by
    have:=GX (L:=(TF.leaf k t r x).flat) (R:=(xs.map TF.flat).flatten) (by simpa using z) 0 (by simp[TF.flat]);simpa[TF.flat,hi]using this
   have ha:A[i]?=al ((i+1:Nat):Int):=by
    have:=GX (L:=(TF.leaf k t r x).ends i) (R:=N9 xs (i+Z (TF.leaf k t r x).flat)) B 0 (by simp[TF.ends]);simpa[TF.ends]using this
   rw[hn];have u:Z (TF.leaf k t r x).flat=Z x.flat+1:=by simp[TF.flat]
   refine⟨Vt k1 k2,⟨s,o,K,by simp[ON]⟩,.nil::x::xs,⟨⟨?_,?_,?_,?_,?_⟩,?_,?_,M,λj hj m=>?_⟩⟩
   .simp[Fz,TF.fit]
   .simpa[TF.flat]using ha
   .simpa using k4
   .rw[H,u];congr 1;simp[TF.flat];omega
   .rw[u]at w;simp[TF.flat];rw[show i+1+0+Z x.flat=i+(Z x.flat+1) by omega];exact w
   .rw[<-acC,z];simp[TF.flat]
   .rw[<-acC,B];simp[N9,TF.ends,List.drop_succ_cons,TF.flat];rw[show i+(Z x.flat+1)=i+1+Z x.flat by omega]
   .simp[KC]at m;exact P j (by omega) (by simp;exact⟨m.2.1,by simpa using m.2.2⟩)
  |node p k x=>
   obtain⟨q,k1,k2,U,k3,k4⟩:=h1;cases k3;have W:p<Z g.AE:=(er.1 k1).1;have hn:N[i]=ES p:=by
    have:=GX (L:=(TF.node p k x).flat) (R:=(xs.map TF.flat).flatten) (by simpa using z) 0 (by simp[TF.flat]);simpa[TF.flat,hi]using this
   have ha:A[i]?=al ((i+1+Z k.flat:Nat):Int):=by
    have:=GX (L:=(TF.node p k x).ends i) (R:=N9 xs (i+Z (TF.node p k x).flat)) B 0 (by simp[TF.ends]);simpa[TF.ends]using this
   have G:((C9 g p:Nat):Int)=q.left:=by
    have:=JW Q (pu k1);unfold C9;rw[k1];simp[];omega
   rw[hn];have u:Z (TF.node p k x).flat=Z k.flat+Z x.flat+1:=by simp[TF.flat]
   have v:¬((p:Int)<0):=by omega
   refine⟨XN W,⟨s,o,K,by simp[ON,ES,v,G]⟩,k::x::xs,⟨⟨?_,?_,?_,?_,?_⟩,?_,?_,M,λj hj m=>?_⟩⟩
   .simp[Fz,ES,v,EM,k1];exact k2
   .exact ha
   .simpa using k4
   .rw[H,u];congr 1;omega
   .rw[u]at w;rw[show i+1+Z k.flat+Z x.flat=i+(Z k.flat+Z x.flat+1) by omega];exact w
   .rw[<-acC,z];simp[TF.flat]
   .rw[<-acC,B];simp[N9,TF.ends,List.drop_succ_cons,TF.flat];rw[show i+(Z k.flat+Z x.flat+1)=i+1+Z k.flat+Z x.flat by omega]
   .simp[KC]at m;exact P j (by omega) (by simp;exact⟨m.2.1,by simpa using m.2.2⟩)
theorem EI.first{g:AD}(_:B4 g=0){u:TF}{l:Int}(i:u.fit g [⟨false,l⟩]):
  ∃(h0:0<Z u.flat),Ux g u.flat[0]/\∃m,EI g (u.ends 0) u.flat 1 (KC g u.flat[0] 0 []) (List.replicate (Z u.flat) 0) m:=by
 cases u with
 |nil=>simp[TF.fit]at i
 |leaf k A r x=>obtain⟨_,_,t,h,_⟩:=i;cases h
 |node p k x=>
  obtain⟨q,k1,k2,t,k3,k4⟩:=i;cases k3;have v:x=.nil:=by cases x with|nil=>rfl|leaf k s r x=>obtain⟨_,_,_,h,_⟩:=k4;cases h|node p k x=>obtain⟨_,_,_,_,h,_⟩:=k4;cases h
  subst v;have w:p<Z g.AE:=(er.1 k1).1;have o:¬((p:Int)<0):=by omega
  refine⟨by simp[TF.flat],by simpa[TF.flat]using XN w,[k],⟨⟨?_,?_,trivial⟩,by simp[TF.flat],by simp[TF.ends,N9],by simp[TF.I0],λj hj hn=>?_⟩⟩
  .simp[TF.flat,Fz,ES,o,EM,k1];exact k2
  .simp[TF.ends]
  .exact absurd (by
    have:j=0:=by omega
    subst this;simp[KC]) hn
theorem EI.last{g:AD}{A:List Int}{N:List A1}{i:Nat}{K:Rz}{E:List Int}{xs:List TF}(h:EI g A N i K E xs)(m:nq K)(u:Z N=Z A)(hi:i=Z N):K=[]/\E=A:=by
 have q:K=[]:=by
  match K,xs,h,m with
  |[],_,_,_=>rfl
  |(s,[])::K,_,_,m=>exact m.elim
  |(s,y::t)::K,[],h,_=>exact h.st.elim
  |(s,y::t)::K,x::xs,⟨⟨h1,v,w⟩,o,_,_,_⟩,_=>
   rw[acO (by omega)]at o;cases x with
   |nil=>simp[TF.fit]at h1
   |leaf k z r x=>simp[TF.flat]at o
   |node p k x=>simp[TF.flat]at o
 subst q;refine⟨rfl,acr λj=>?_⟩;by_cases hj:j<i
 .exact h.ok j hj (by simp)
 .rw[ut (by have:=h.el;omega),ut (by omega)]
open Go.Proofs Tryz DT
theorem m7(g:AD)(m:B4 g=0)(p k:Int)(s:p<Z g.AE):Pure prog 184 [AA g,AF p,AF k] (AI (ON g p k)):=by
 refine zP func184 18 rfl λwf=>?_;apply yW;simp;refine xS (yW ?_);simp;by_cases h:p<0
 .have e:ON g p k=⟨J,k⟩:=b8 h;rw[e];apply AQ;simp[h];apply yW;simp;refine Am ⟨_,_,ap,?_⟩;simp[AI]
 .have e:ON g p k=⟨false,C9 g p.toNat⟩:=a9 h;rw[e];obtain⟨n,rfl⟩:∃n:Nat,p=n:=⟨p.toNat,by omega⟩;have hn:n<Z g.AE:=by omega
  have i:((C9 g n:Nat):Int)=g.AE[n].left:=by
   have:=JW m (cF hn);unfold C9;rw[dl hn];simp[];omega
  obtain⟨q,j⟩:=ce (g.AE[n]);rw[j]at i;have o:=AG.eq_1 q;apply AQ;simp[h];apply xK;apply yW;simp[AA,hn,j,o];apply zT;simp[AI,i]
theorem bF(g:AD)(t:Term)(i:Nat)(hi:i<Z t.nodes)(hn:Ux g t.nodes[i]):
  AH prog 120 [.d (AF i),.ptr 0 1 0 0,.ptr 1 1 0 0] [.row J 2 [.d (Af t)],.row J 9 [.d (AA g)]] (.d (.CA [AF t.nodes[i].prod,AF t.nodes[i].token,.bool J])) [.row J 2 [.d (Af t)],.row J 9 [.d (AA g)]]:=by
 obtain⟨n,h⟩:=ce (t.nodes[i]);rw[h]at hn⊢;have m:=Ax.eq_1 n;refine zD func120 60 rfl λwf _=>?_;apply yW;simp;apply yW;simp[Af,hi,h];refine xS (yW ?_);simp;rcases hn with⟨h1,j,k⟩|⟨h1,j,k,o,q⟩
 .apply AQ;simp[h1];(repeat apply xS);refine yE (A3 16 []) (by kernel_rfl) ?_;simp;apply yA 1;simp[AA,j,k];apply Am;exact⟨_,_,_,ap,by simp,by simp[BC,CZ,LK,LS],ea 2 (by simp) (by simp) (by simp) (by simp)⟩
 .have:¬(n.prod= -1):=by omega
  apply AQ;simp[this];apply xK;(repeat apply xS);refine yE (A3 34 []) (by kernel_rfl) ?_;simp;apply yA 1;simp[AA,h1,j,k,o,q];apply Am;exact⟨_,_,_,ap,by simp,by simp[BC,CZ,LK,LS,k];rfl,ea 2 (by simp) (by simp) (by simp) (by simp)⟩
end Go.Koi
open Go.Koi.D renaming int->bi
namespace Go.Koi
open Go.Proofs Tryz DT
def lL(x:Nat×List Symbol):D:=.agg [AF x.1,.sl (x.2.map AI)]
def cY(x:Nat×List Symbol):V:=.d (lL x)
def Jg(K:Rz):List V:=K.reverse.map cY
theorem GD(x:Nat×List Symbol)(K:Rz):Jg (x::K)=Jg K++[cY x]:=by simp[Jg]
theorem Gt(K:Rz):Z (Jg K)=Z K:=by simp[Jg]
theorem nW(K:Rz):∀y,y∈Jg K->Z (Aj y)=2/\(Ap y=J\/Bu y=J):=λy g=>by
 simp only[Jg,fd]at g;obtain⟨x,_,rfl⟩:=g;simp[cY,lL]
theorem WA{k:Nat}{K:Rz}{B:List V}(h:Jg K=B):Au k B=true:=by
 subst h;unfold Jg;generalize K.reverse=L;induction L with
 |nil=>rfl
 |cons x L g=>simp[Au,AP,cY,g]
theorem Sv{f:Nat->Nat}:∀{xs:List V},(∀x∈xs,∃d,x=V.d d)->CE f xs=xs
 |[],_=>rfl
 |x::xs,h=>by
  obtain⟨d,rfl⟩:=h x (by simp);simp[CE,BU,Sv (f:=f) (xs:=xs) λy g=>h y (by simp[g])]
theorem I1{k:Nat}:∀{xs:List V},(∀x∈xs,∃d,x=V.d d)->Au k xs=J
 |[],_=>rfl
 |x::xs,h=>by
  obtain⟨d,rfl⟩:=h x (by simp);simp[Au,AP,I1 (k:=k) (xs:=xs) λy g=>h y (by simp[g])]
theorem iP{g:AD}{A:List Int}:∀{K:Rz} {k:List TF} {i:Nat},x5 g A K k i->∀x∈K,x.1<Z A
 |[],_,_,_=>by simp
 |(s,m)::K,[],_,h=>h.elim
 |(s,m)::K,x::k,i,⟨_,o,q⟩=>by
  intro y j;rcases ge.1 j with rfl|j
  .exact(er.1 o).1
  .exact iP q y j
def Nz(sz:Nat)(h:D)(g:AD):Sg:=[.row J sz [.d h],.row J 9 [.d (AA g)]]
def Om(g:AD)(F:FuncId)(n:Nat):List V:=(BE (AA g)).map V.d++[.d (AF n),.fn (.func F) [] [.ptr 0 1 0 0,.ptr 1 1 0 0]]
def M6(sz:Nat)(h:D)(g:AD)(F:FuncId)(N:List A1)(E:List Int)(w:Bool)(K:Rz):Sg:=Nz sz h g++[.row J 11 [.agg (Om g F (Z N))],.row J 1 (E.map λx=>.d (AF x)),.row w 2 (Jg K)]
theorem uo(g:AD)(hG:B4 g=0)(sz:Nat)(M:D)(F:FuncId)(N:List A1)(u:TF)(l:Int)(hu:N=u.flat)(hf:u.fit g [⟨false,l⟩])(hlen:Z u.flat<=2000000)
  (hsl:∀(i:Nat) (hi:i<Z N),Ux g N[i]->AH a8 F [.d (AF i),.ptr 0 1 0 0,.ptr 1 1 0 0] [.row J sz [.d M],.row J 9 [.d (AA g)]] (.d (.CA [AF N[i].prod,AF N[i].token,.bool J])) [.row J sz [.d M],.row J 9 [.d (AA g)]]):
  AH a8 121 [.agg (Om g F (Z N))] (Nz sz M g) (.d (A2 (u.ends 0))) (Nz sz M g):=by
 obtain⟨h0,hok0,xs0,hx0⟩:=EI.first hG hf
 have hNA:Z N=Z (u.ends 0):=by rw[hu,TF.I0]
 have zI:0<Z N:=by rw[hu];exact h0
 have hn1:Z N<=2000000:=by rw[hu];exact hlen
 obtain⟨A,hA⟩:=ce (u.ends 0);obtain⟨n,hn⟩:=ce (Z N);rw[hA]at hx0 hNA⊢;rw[hn]at zI hn1;have zY:¬(n=0):=by omega
 have hc3:¬(2000000<n):=by omega
 have zj:¬((2000000:Int)<n):=by omega
 have hmk:(n:Int)<=1073741824:=by omega
 have hmx:n<=maxLen:=by unfold maxLen;omega
 refine AH.F8 func121 (by kernel_rfl) rfl (by simp) λwf _=>?_;rw[ntmps121];unfold Om Nz;rw[hn];refine xW λK j=>?_;simp;apply j;refine xS (Gb λK j=>?_);(repeat((first|refine FD rfl ?_ ?_;(·simp[zY])|refine Ov rfl ?_ ?_;(·simp[zY])|refine Cg ?_ ?_;(·simp));simp[zj]));refine CO (j _ _ ?_);(try simp only[C8,Bh,reduceIte]);refine AQ ?_;simp[zY];refine B8 ?_;(try simp only[C8]);(repeat refine xS ?_);refine xV λK j=>?_;simp[hmk];refine j _ _ ?_;(try simp only[xQ,reduceIte]);refine xW λK j=>?_;simp;apply j;refine io (tv 4 2 (xs:=[]) (by simp)) ?_;refine xS (xW λK j=>?_);simp;apply j;refine Bp ?_;refine FH n (λi tm S=>tm 1=.ptr 2 1 0 0/\tm 3=.row 3 n/\tm 24=.d (AF n)/\tm 25=.d (AF i)/\∃o E w,tm 4=.row 4 (Z o)/\S=M6 sz M g F N E w o/\(i=0/\o=[]/\E=ke n 0\/0<i/\∃xs,EI g A N i o E xs)/\nq o/\Z o<=i/\Z E=n/\(o≠[]->w=J)) (i0:=0) (ed _) (by simp;exact⟨[],rfl,ke n 0,.inl ⟨by simp[M6,Nz,Om,Jg,hn,AA],⟨rfl,rfl⟩,trivial,rfl,by simp,rfl⟩⟩) ?_;rintro i tm S hi ⟨t1,t3,t24,t25,o,E,w,t4,rfl,hI,htp,hKl,hEl,hw⟩;unfold M6 Nz Om;rw[hn];refine xW λK j=>?_;simp[t24,t25];apply j;refine xC ?_;simp;refine⟨λy7=>?_,λzf=>?_⟩
 .have hit:i<Z N:=by omega
  have zn:Ux g N[i]/\((i=0/\o=[])\/0<i/\∃s Q K',o=(s,ON g N[i].prod N[i].token::Q)::K')/\∃xs2,EI g A N (i+1) (KC g N[i] i o) E xs2:=by
   rcases hI with⟨rfl,rfl,rfl⟩|⟨h1,xs,h2⟩
   .have e1:N[0]=u.flat[0]:=by simp only[hu]
    rw[e1];refine⟨hok0,.inl ⟨rfl,rfl⟩,xs0,?_⟩;have e2:Z u.flat=n:=by rw[<-hu];exact hn
    rw[hu,<-e2];exact hx0
   .by_cases j:o=[]
    .subst j;exfalso;have h3:=h2.st;match xs,h3 with
     |[],_=>
      have:=h2.nd;simp at this;omega
    .obtain⟨a1,a2,a3⟩:=h2.step hG htp (by omega) j hit;exact⟨a1,.inr ⟨h1,a2⟩,a3⟩
  obtain⟨zo,hsy,xs2,hE2⟩:=zn;obtain⟨xs3,T,htp3⟩:=hE2.pop;have hsl:=hsl i hit zo;obtain⟨nd,zG⟩:=ce (N[i]);rw[zG]at zo hsy hE2 T htp3 hsl;refine xK ?_;refine xB ?_;refine xW λK j=>?_;simp[t25];apply j;refine Gb λK j=>?_;refine xJ ?_;simp[t1];refine AY.Ei (hsl) [0,1] rfl (by simp;try rfl) ?_;simp;refine xJ ?_;simp;refine CO (j _ _ ?_);have hpr:nd.prod<Z g.AE:=by
   rcases zo with h|h
   .have:=h.1;omega
   .exact h.2.1
  have hsb:=m7 g hG nd.prod nd.token hpr;obtain⟨sy,hsye⟩:=ce (ON g nd.prod nd.token);rw[hsye]at hsy hsb;have hse:=AI.eq_1 sy;refine nt (R:=λtm S=>tm 1=.ptr 2 1 0 0/\tm 3=.row 3 n/\tm 4=.row 4 (Z o)/\tm 5=.d (AF i)/\tm 6=.d (AF nd.prod)/\tm 7=.d (AF nd.token)/\tm 24=.d (AF n)/\tm 25=.d (AF i)/\S=M6 sz M g F N E w o) ?_ ?_
  .rcases hsy with⟨rfl,rfl⟩|⟨hi0,s,Q,K',rfl⟩
   .skip;refine Gb λK j=>?_;refine xH ?_;simp;refine CO (j _ _ ?_);refine AQ ?_;simp;refine B8 ?_;simp[t1,t3,t4,t24,t25,M6,Nz,Om,hn,AA]
   .have hk1:¬((Z K':Int)+1=0):=by omega
    refine Gb λK j=>?_;refine xH ?_;simp[t4,hi0,Gt];refine CO (j _ _ ?_);refine AQ ?_;simp[hk1];refine B8 ?_;simp[t1,t3,t4,t24,t25,M6,Nz,Om,hn,AA]
  rintro tm S ⟨t1,t3,t4,t5,t6,t7,t24,t25,rfl⟩;unfold M6 Nz Om;rw[hn];(repeat refine xS ?_);refine H9 λK j=>?_;refine xJ ?_;simp[t1,t6,t7];refine Bz (hsb) rfl (by simp[AA]) ?_;simp[AA];refine xJ ?_;simp;refine CO (j _ _ ?_);(try simp only[xQ,reduceIte]);obtain⟨P,hK1⟩:∃P:Rz,P=(match o with|[]=>[]|(s,Q)::K=>(s,Q.tail)::K):=⟨_,rfl⟩;have hK1l:Z P=Z o:=by rw[hK1];cases o<;>rfl
  have hsK:KC g nd i o=(i,Fz g nd)::P:=by rw[hK1];cases o<;>rfl
  refine PP (R:=λtm S=>tm 1=.ptr 2 1 0 0/\tm 3=.row 3 n/\tm 4=.row 4 (Z P)/\tm 5=.d (AF i)/\tm 6=.d (AF nd.prod)/\tm 24=.d (AF n)/\tm 25=.d (AF i)/\S=M6 sz M g F N E w P++[.row J 2 [.d (AI sy)]]) ?_ ?_
  .rcases hsy with⟨rfl,rfl⟩|⟨hi0,s,Q,K',rfl⟩
   .have hK2:P=[]:=hK1;subst hK2;have hwm:bv .i64 (-1)= -1:=by decide
    refine xW λK j=>?_;simp[t4,Gt];apply j;refine xW λK j=>?_;simp;apply j;refine AQ ?_;simp[hwm];refine B8 ?_;refine⟨_,_,ap,?_⟩;simp[t1,t3,t4,t5,t6,t24,t25,M6,Nz,Om,hn,AA,hse]
   .subst hK1;have hwt:w=true:=hw (by simp);subst hwt;rw[GD];obtain⟨B,Y⟩:=ce (Jg K');have hBl:Z B=Z K':=by rw[<-Y,Gt]
    simp only[gr,<-hBl]at t4⊢;rw[Y];obtain⟨m,G⟩:=ce (Z B);have hm2:m<=2000000:=by simp only[gr]at hKl;omega
    have zx:bv .i64 (m:Int)=m:=by rw[c8];omega
    simp only[cY,lL]at *;refine xW λK j=>?_;simp[t4,zx,G];apply j;refine xW λK j=>?_;simp;apply j;refine AQ ?_;simp;refine xS ?_;refine xD (A3 9 []) (by kernel_rfl) λK j=>?_;simp;have t:(m:Int)<m+1:=by omega
    (repeat(refine xG ?_ ?_;(·simp[G,hse,t]);simp[t4,G,hse]));refine xM (j _ _ ?_);(try simp only[xQ,reduceIte]);refine AQ ?_;simp;refine B8 ?_;(try simp only[xQ,reduceIte]);refine H9 λK j=>?_;(repeat(refine Cg ?_ ?_;(·simp[G,t]);simp[t4,G]));refine Cg ?_ ?_
    .simp;exact⟨by omega,by cases Q<;>simp⟩
    simp;refine xJ ?_;simp[G,t];refine CO (j _ _ ?_);refine⟨_,_,jp 4 (xs:=((s,Q)::K').reverse.map lL) rfl ?_,?_⟩
    .rw[Be,<-Y];simp[Jg,cY,lL,BC,CZ,lm];exact vq (by simp)
    simp[t1,t3,t4,t5,t6,t24,t25,M6,Nz,Om,hn,AA,hse,Jg,cY,G]
  rintro tm S ⟨t1,t3,t4,t5,t6,t24,t25,rfl⟩;unfold M6 Nz Om;rw[hn];refine xW λK j=>?_;simp;apply j;refine PP (R:=λtm S=>tm 1=.ptr 2 1 0 0/\tm 3=.row 3 n/\tm 4=.row 4 (Z P)/\tm 5=.d (AF i)/\tm 11=.d (.sl ((Fz g nd).map AI))/\tm 24=.d (AF n)/\tm 25=.d (AF i)/\S=M6 sz M g F N E w P++[.row J 2 [.d (AI sy)]]) ?_ ?_
  .by_cases hp0:nd.prod<0
   .have hp1:¬(0<=nd.prod):=by omega
    have hr0:Fz g nd=[]:=b8 hp0;refine xW λK j=>?_;simp[t6];apply j;refine AQ ?_;simp[hp1];refine B8 ?_;refine⟨_,_,AJ.te 11 (d:=.sl []) (by simp[BC,CZ]),?_⟩;simp[t1,t3,t4,t5,t24,t25,M6,Nz,Om,hn,AA,hr0]
   .have hp1:0<=nd.prod:=by omega
    obtain⟨p,hp⟩:∃p:Nat,nd.prod=p:=⟨nd.prod.toNat,by omega⟩;have hpl:p<Z g.AE:=by omega
    obtain⟨q,hq⟩:=ce (g.AE[p]);have hr0:Fz g nd=q.right:=by
     unfold Fz;rw[a9 hp0,hp,jw];unfold EM;rw[dl hpl,hq]
    have hqe:=AG.eq_1 q;rw[hp]at t6;refine xW λK j=>?_;simp[t6];apply j;refine AQ ?_;simp;refine xV λK j=>?_;simp[t1,t6,hpl,hq,hqe];apply j;refine⟨_,_,ap,?_⟩;simp[t1,t3,t4,t5,t24,t25,M6,Nz,Om,hn,AA,hr0]
  rintro tm S ⟨t1,t3,t4,t5,t11,t24,t25,rfl⟩;unfold M6 Nz Om;rw[hn];obtain⟨C,hC⟩:=ce (Jg P);have hCl:Z C=Z P:=by rw[<-hC,Gt]
  have zO:Z P+1<=2 ^ 30:=by omega
  have zB:Z C+1<=2 ^ 30:=by omega
  have hb3:1<=maxLen:=by simp[maxLen]
  rw[hC];(repeat refine xS ?_);refine H9 λK j=>?_;(repeat(refine Cg ?_ ?_;(·simp[zO,hb3,hCl,Ac]);simp[t4,t5,t11]));refine Cg ?_ ?_
  .simp[zO,hCl,Ac];rw[<-hC];exact nW P
  simp;refine xJ ?_;simp;refine CO (j _ _ ?_);(try simp only[xQ,reduceIte]);obtain⟨K3,hK3⟩:∃K3:Rz,K3=(i,Fz g nd)::P:=⟨_,rfl⟩;have hKE:Q6 K3=Q6 (KC g nd i o)/\SV (i+1) K3 E=SV (i+1) (KC g nd i o) E:=by rw[hsK,hK3];exact⟨rfl,rfl⟩
  obtain⟨K4,hK4⟩:∃K4,K4=Q6 (KC g nd i o):=⟨_,rfl⟩;obtain⟨E4,hE4⟩:∃E4,E4=SV (i+1) (KC g nd i o) E:=⟨_,rfl⟩;rw[<-hK4,show((i+1:Nat):Int)=(i:Int)+1 by omega]at T;rw[<-hK4]at htp3;have hK3lt:∀x∈K3,x.1<n:=by
   have:=iP hE2.st;rw[<-hNA,hn,hsK,<-hK3]at this;exact this
  have hK3l:Z K3<=i+1:=by rw[hK3];simp;omega
  have hi1:(i:Int)+1<=2000000:=by omega
  have hwi:bv .i64 ((i:Int)+1)=((i+1:Nat):Int):=by rw[c8];omega
  refine Bp ?_;refine aew (λm tm S=>tm 1=.ptr 2 1 0 0/\tm 3=.row 3 n/\tm 5=.d (AF i)/\tm 24=.d (AF n)/\tm 25=.d (AF i)/\∃k L,m=Z k/\tm 4=.row 4 (Z k)/\S=M6 sz M g F N L J k++[.row J 2 [.d (AI sy)]]/\Q6 k=K4/\SV (i+1) k L=E4/\Z L=n/\(∀x∈k,x.1<n)/\Z k<=i+1)
   ⟨Z K3,_,_,ap,by simp[t1],by simp[t3],by simp[t5],by simp[t24],by simp[t25],K3,E,rfl,by simp[hK3],by simp[M6,Nz,Om,hn,AA,hK3,GD,hC,cY,lL],by rw[hKE.1,hK4],by rw[hKE.2,hE4],hEl,hK3lt,hK3l⟩ ?_
  rintro m tm S ⟨t1,t3,t5,t24,t25,k,L,rfl,t4,rfl,v,z,hq3,U,H⟩;unfold M6 Nz Om;rw[hn];match k,v,z,U,H,t4 with
  |[],v,z,U,H,t4=>
   refine xS (Gb λK j=>?_);refine xH ?_;simp[t4,Gt];refine CO (j _ _ ?_);(try simp only[xQ,reduceIte]);refine AQ ?_;simp;refine Co ?_;(try simp only[xQ,reduceIte]);refine xV λK j=>?_;simp[t25,hwi];apply j;simp only[Q6,SV]at v z;rw[<-hE4,<-z]at T;subst v;exact⟨y7,_,_,ea 5 (S':=M6 sz M g F N L J []) (by simp[M6,Nz,Om,hn,AA]) (by simp) (by simp) (by simp[Jg]),by simp[clean,t1],by simp[clean,t3],by simp[clean,t24],by simp[clean],[],by simp[clean,t4],L,.inr ⟨by simp[M6,Nz,Om,hn,AA],⟨xs3,T⟩,trivial,by simp,hq3⟩⟩
  |(s,y::Q)::k,v,z,U,H,t4=>
   have W:=Gt k;have hk0:(0:Int)<(Z k:Int)+1:=by omega
   have zN:bv .i64 (Z k:Int)=Z k:=by simp only[gr]at H;rw[c8];omega
   have z9:(Z k:Int)<(Z k:Int)+1:=by omega
   have hk3:¬((Z Q:Int)+1=0):=by omega
   rw[GD];obtain⟨B,Y⟩:=ce (Jg k);rw[Y]at W⊢;simp only[cY,lL,ii];obtain⟨m,G⟩:=ce (Z k);simp only[gr,G]at t4 W hk0 zN z9;refine xS (Gb λK j=>?_);refine xH ?_;simp[t4,W,hk0,zN,z9];refine CO (j _ _ ?_);(try simp only[xQ,reduceIte]);refine AQ ?_;simp[hk3];refine Co ?_;(try simp only[xQ,reduceIte]);refine xV λK j=>?_;simp[t25,hwi];apply j;have hS1:∀X,M6 sz M g F N L J ((s,y::Q)::k)++[X]=[.row J sz [.d M],.row J 9 [.d (AA g)],.row J 11 [.agg (Om g F (Z N))],.row J 1 (L.map λx=>.d (.int .i64 x)),.row J 2 (B++[.d (.agg [.int .i64 s,.sl (AI y::Q.map AI)])]),X]:=λX=>by
    simp[M6,Nz,GD,Y,cY,lL]
   simp only[Q6,SV]at v z;rw[<-hE4,<-z]at T;subst v;exact⟨y7,_,_,ea 5 (S':=M6 sz M g F N L J ((s,y::Q)::k)) (by simp[M6,Nz,Om,hn,AA,GD,Y,cY,lL]) (by simp) (by simp) (by simp;exact WA Y),by simp[clean,t1],by simp[clean,t3],by simp[clean,t24],by simp[clean],(s,y::Q)::k,by simp[clean,t4,G],L,.inr ⟨by simp[M6,Nz,Om,hn,AA],⟨xs3,T⟩,trivial,by simpa using H,hq3⟩⟩
  |(s,[])::k,v,z,U,H,t4=>
   have W:=Gt k;have hk0:(0:Int)<(Z k:Int)+1:=by omega
   have zN:bv .i64 (Z k:Int)=Z k:=by simp only[gr]at H;rw[c8];omega
   have z9:(Z k:Int)<(Z k:Int)+1:=by omega
   have hsn:s<n:=U (s,[]) (by simp);have hsE:s<Z L:=by omega
   rw[GD];obtain⟨B,Y⟩:=ce (Jg k);rw[Y]at W⊢;simp only[cY,lL,aco];obtain⟨m,G⟩:=ce (Z k);simp only[gr,G]at t4 W hk0 zN z9;refine xS (Gb λK j=>?_);refine xH ?_;simp[t4,W,hk0,zN,z9];refine CO (j _ _ ?_);(try simp only[xQ,reduceIte]);refine AQ ?_;simp;refine B8 ?_;(try simp only[xQ,reduceIte]);refine Bp ?_;refine xW λK j=>?_;simp[t3,t4,t5,W,zN,z9,hsn,hq3,hwi];apply j;refine H9 λK j=>?_;(repeat(refine Cg ?_ ?_;(·simp[W]);simp[t4,zN]));refine AY.KZ 4 (m+1) 2 (B++[.d (.agg [.int .i64 s,.sl []])]) 0 m rfl (by simp[W];omega) ?_;simp[<-W];refine xJ ?_;simp;refine CO (j _ _ ?_);have hE5:(L.map λx=>V.d (bi K1 x)).set s (V.d (bi K1 (↑i+1)))=(L.set s ((i:Int)+1)).map λx=>V.d (bi K1 x):=by rw[gl]
   simp only[Q6,SV]at v z;refine⟨Z k,by simp[G],_,_,C4 [0,1,2,3,6,5] (S0:=M6 sz M g F N (L.set s ((i:Int)+1)) J k++[.row J 2 [.d (AI sy)]]) ?_ ?_ ?_,?_,?_,?_,?_,?_,k,rfl,?_,L.set s ((i:Int)+1),?_,v,z,by simp[hq3],?_,?_⟩
   .have hd1:∀x∈(L.map λx=>V.d (bi K1 x)).set s (V.d (bi K1 (↑i+1))),∃d,x=V.d d:=by
     rw[hE5];intro x hx;obtain⟨y,_,rfl⟩:=fd.1 hx;exact⟨_,rfl⟩
    have hd2:∀x∈B,∃d,x=V.d d:=by rw[<-Y];intro x hx;obtain⟨y,_,rfl⟩:=fd.1 hx;exact⟨_,rfl⟩
    simp[M6,Nz,Om,hn,AA,Y];exact⟨⟨(Sv hd1).symm,(Sv hd2).symm⟩,I1 hd1,I1 hd2⟩
   .simp
   .rfl
   .simp[pick,t1];try decide
   .simp[pick,t3];try decide
   .simp[pick,t5]
   .simp[pick,t24]
   .simp[pick,t25]
   .simp[pick,G,W];try decide
   .simp[M6,Nz,Om,hn,AA]
   .intro x ss' hx;exact U (x,ss') (by simp[hx])
   .simp only[gr]at H;omega
 .have e:i=n:=by omega
  subst e;obtain⟨xs,hx⟩:∃xs,EI g A N i o E xs:=by
   rcases hI with⟨h1,_,_⟩|⟨_,h⟩
   .omega
   .exact h
  obtain⟨rfl,rfl⟩:=hx.last htp hNA hn.symm;refine Co ?_;refine xS (xW λK j=>?_);simp[t4,Gt];apply j;refine AQ ?_;simp;refine B8 ?_;(try simp only[xQ,reduceIte]);(repeat refine xS ?_);refine xV λK j=>?_;simp[t3];refine j _ _ ?_;(try simp only[xQ,reduceIte]);(refine Am ?_;(try simp only[xQ,reduceIte]);refine⟨_,_,_,fc 3 (xs:=E.map AF) rfl (by simp),by simp,by simp[BC,CZ,hNA,<-hn],ea 2 (by simp[AA]) (by simp) (by simp) (by simp)⟩)
theorem nP(g:AD)(k:B4 g=0)(t:Term)(u:TF)(l:Int)(m:t.nodes=u.flat)(o:u.fit g [⟨false,l⟩])(j:Z u.flat<=2000000):
  AH a8 121 [.agg (Om g 120 (Z t.nodes))] (Nz 2 (Af t) g) (.d (A2 (u.ends 0))) (Nz 2 (Af t) g):=
 uo g k 2 (Af t) 120 t.nodes u l m o j λi hi h=>bF g t i hi h
theorem OB(g:AD)(w:B4 g=0)(t:Term)(u:TF)(l:Int)(m:t.nodes=u.flat)(o:u.fit g [⟨false,l⟩])(i:Z u.flat<=2000000):
  Pure a8 28 [AA g,Af t] (A2 (u.ends 0)):=by
 have s:=nP g w t u l m o i;obtain⟨k,rfl,p,z,j⟩:∃k,u=k/\∃p:Nat,(∃h:0<Z t.nodes,t.nodes[0].prod=p):=by
  refine⟨u,rfl,?_⟩;cases u with
  |nil=>simp[TF.fit]at o
  |leaf k B r x=>obtain⟨_,_,C,h,_⟩:=o;cases h
  |node p k x=>exact⟨p,by rw[m];simp[TF.flat],by simp[m,TF.flat,ES]⟩
 obtain⟨nd,v⟩:=ce (t.nodes[0]);rw[v]at j;have A:=Ax.eq_1 nd;have q:¬((p:Int)<0):=by omega
 refine zP func28 24 rfl λwf=>?_;unfold Nz Om at s;apply yW;simp;refine xS (yS ?_);apply yH;simp[Af,z,v,A,j,q];apply AQ;simp;apply xK;(repeat apply xS);apply yT;apply yJ;simp;refine xF (s) [1,0] rfl ?_;simp[Af,AA];apply yJ;simp;apply zT;try simp
def Gx{α:Type}(g:List (List α))(i:Nat):List α:=(g.take i).flatten
theorem Iu{α:Type}(g:List (List α)){i:Nat}(h:i<Z g):Gx g (i+1)=Gx g i++g[i]:=by
 unfold Gx;rw[vj h,acg];simp
theorem KF{α:Type}(g:List (List α)):Gx g (Z g)=g.flatten:=by unfold Gx;rw[s9]
theorem TE{α:Type}(g:List (List α))(i:Nat):Z (Gx g i)<=Z g.flatten:=by
 unfold Gx;conv=>rhs;rw[<-abL i g,acg,i6]
 omega
theorem ju(n:Nat)(hn:n<=2 ^ 30):AH a8 124 [.full [],.d (AF n)] [] (.row 0 0) [.row (decide (0<n)) 1 []]:=by
 refine zC func124 27 rfl λwf _=>?_;apply yW;simp;refine xS (yW ?_);simp;apply AQ;simp;refine⟨λh=>absurd h (by omega),?_⟩;apply B8;have i:bv .i64 (n:Int)=n:=by rw[c8];omega
 have g:bv .i64 0=0:=by decide
 refine xS (yW ?_);simp[i,g];apply yW;simp;apply AQ;simp;refine⟨λh=>?_,λh=>?_⟩
 .have h0:0<n:=by omega
  have j:prog.underlying 3=some (.int .i64):=by kernel_rfl
  apply yT;(iterate 3 (refine Cg (by simp) ?_;simp));refine AY.V2 (E:=3) (sz:=1) rfl (by simp) (by simp) (by simp) ?_;simp;(iterate 1 (refine Cg (by simp) ?_;simp));refine AY.TH (E:=3) (bt:=8) n (.d (.int .i64 0)) 1 rfl rfl rfl rfl (by simp) j (by simp) (by simp) (by simp) (by simp) (by simp) (by simp) h0 hn ?_;simp;(iterate 2 (refine Cg (by simp) ?_;simp));(refine AY.KZ 0 n 1 (ke n (.d (.int .i64 0))) 0 0 rfl ?_ ?_)
  .simp[vG]
  .simp;apply yJ;simp;apply yW;simp;apply Am;refine⟨_,C4 [1] (S0:=[.row (decide (0<n)) 1 []]) (by simp[h0]) (by simp) (by simp),?_⟩;simp[At,pick];try decide
 .have h0:n=0:=by omega
  subst h0;apply xK;apply yW;simp;apply Am;refine⟨_,tv 4 1 (xs:=[]) (by simp),?_⟩;simp[At]
theorem XM(g:List (List Int))(hn:Z g.flatten<=2 ^ 30):Pure a8 35 [.sl (g.map λxs=>A2 xs)] (A2 g.flatten):=by
 have q:∀i,Z (Gx g i)<=2 ^ 30:=λi=>oq (TE g i) hn;have k:Gx g 0=[]:=rfl;refine ip func35 rfl rfl (by simp) λwf=>?_;have t:Z g<=maxLen:=by have:=wf.1;simp[Da]at this;simpa using this.1
 rw[ntmps35];apply yW;simp;apply yW;simp;refine xS (yW ?_);simp;apply Bp;refine FH (Z g) (λi tm S=>tm 0=.d (.sl (g.map λxs=>A2 xs))/\tm 9=.d (.sl (g.map λxs=>A2 xs))/\tm 11=.d (AF i)/\tm 10=.d (AF (Z g))/\tm 3=.d (AF (Z (Gx g i)))/\S=[]) (ed _) (by simp[k]) ?_;rintro i tm S hi ⟨t0,t9,t11,t10,t3,rfl⟩;apply yW;simp[t10,t11];apply xC;simp;refine⟨λj=>?_,λu=>?_⟩
 .apply xK;apply xB;have m:Z (Gx g (i+1))=Z (Gx g i)+Z g[i]:=by rw[Iu g j,i6]
  have o:=q (i+1);have A:=q i;rw[m]at o;have v:bv .i64 (Z (Gx g i)+Z g[i]:Int)=(Z (Gx g (i+1)):Int):=by rw[c8,m];omega
  apply yW;simp[t9,t11,j];apply yW;simp[t3,v];apply yW;simp;apply AQ;simp;refine⟨λh=>?_,?_⟩
  .exact absurd h (by omega)
  .apply B8;apply yV;simp[t11];refine⟨j,_,_,ap,?_⟩;simp[t0,t9,t10,AL j t]
 .have e:i=Z g:=by omega
  subst e;rw[KF]at t3;apply Co;apply yS;apply yJ;simp[t3];refine xF (ju (Z g.flatten) hn) [] rfl ?_;simp;apply yJ;simp;refine xS (yW ?_);simp[t0];apply Bp;generalize s:Z g.flatten=F at *;refine FH (Z g) (λi tm S=>tm 25=.d (.sl (g.map λxs=>A2 xs))/\tm 27=.d (AF i)/\tm 26=.d (AF (Z g))/\tm 6=.row 0 (Z (Gx g i))/\S=[.row (decide (0<F)) 1 ((Gx g i).map λx=>.d (AF x))]) (ed _) (by simp[k,<-s]) ?_;rintro i tm S hi ⟨t25,t27,t26,t6,rfl⟩;apply yW;simp[t26,t27];apply xC;simp;refine⟨λj=>?_,λu=>?_⟩
  .have m:=Iu g j;have o:=q (i+1);rw[m,i6]at o;have w:(decide (0<F)||!g[i].isEmpty)=decide (0<F):=by
    cases h:g[i]with
    |nil=>simp
    |cons y B=>
     have:y∈g.flatten:=ac6.2 ⟨_,cF j,by rw[h];simp⟩;have:0<F:=by rw[<-s];exact aca this
     simp[this]
   apply xK;apply xB;apply yW;simp[t25,t27,j];apply yT;apply yJ;simp[t6,o,Ac];apply yV;simp[t27];refine⟨j,_,_,ap,?_⟩;simp[t25,t26,AL j t,m,w]
  .have e:i=Z g:=by omega
   subst e;rw[KF]at t6⊢;generalize z:g.flatten=L at *;apply Co;apply yW;simp[t6];apply Am;refine⟨_,_,fc 0 (xs:=L.map AF) rfl (by simp),?_⟩;simp[s,BC];rw[<-z];simp
theorem fZ(n:Nat)(hn:n<=2 ^ 30):AH a8 125 [.full [],.d (AF n)] [] (.row 0 0) [.row (decide (0<n)) 1 []]:=by
 refine zC func125 27 rfl λwf _=>?_;apply yW;simp;refine xS (yW ?_);simp;apply AQ;simp;refine⟨λh=>absurd h (by omega),?_⟩;apply B8;have i:bv .i64 (n:Int)=n:=by rw[c8];omega
 have g:bv .i64 0=0:=by decide
 refine xS (yW ?_);simp[i,g];apply yW;simp;apply AQ;simp;refine⟨λh=>?_,λh=>?_⟩
 .have h0:0<n:=by omega
  have j:prog.underlying 3=some (.int .i64):=by kernel_rfl
  apply yT;(iterate 3 (refine Cg (by simp) ?_;simp));refine AY.V2 (E:=9) (sz:=1) rfl (by simp) (by simp) (by simp) ?_;simp;(iterate 1 (refine Cg (by simp) ?_;simp));refine AY.TH (E:=9) (bt:=16) n (.d (.str gs)) 1 rfl rfl rfl rfl (by simp) j (by simp) (by simp) (by simp) (by simp) (by simp) (by simp) h0 hn ?_;simp;(iterate 2 (refine Cg (by simp) ?_;simp));(refine AY.KZ 0 n 1 (ke n (.d (.str gs))) 0 0 rfl ?_ ?_)
  .simp[vG]
  .simp;apply yJ;simp;apply yW;simp;apply Am;refine⟨_,C4 [1] (S0:=[.row (decide (0<n)) 1 []]) (by simp[h0]) (by simp) (by simp),?_⟩;simp[At,pick];try decide
 .have h0:n=0:=by omega
  subst h0;apply xK;apply yW;simp;apply Am;refine⟨_,tv 4 1 (xs:=[]) (by simp),?_⟩;simp[At]
theorem V9(g:List (List ByteArray))(hn:Z g.flatten<=2 ^ 30):Pure a8 36 [.sl (g.map λxs=>Bv xs)] (Bv g.flatten):=by
 have q:∀i,Z (Gx g i)<=2 ^ 30:=λi=>oq (TE g i) hn;have k:Gx g 0=[]:=rfl;refine ip func36 rfl rfl (by simp) λwf=>?_;have t:Z g<=maxLen:=by have:=wf.1;simp[Da]at this;simpa using this.1
 rw[ntmps36];apply yW;simp;apply yW;simp;refine xS (yW ?_);simp;apply Bp;refine FH (Z g) (λi tm S=>tm 0=.d (.sl (g.map λxs=>Bv xs))/\tm 9=.d (.sl (g.map λxs=>Bv xs))/\tm 11=.d (AF i)/\tm 10=.d (AF (Z g))/\tm 3=.d (AF (Z (Gx g i)))/\S=[]) (ed _) (by simp[k]) ?_;rintro i tm S hi ⟨t0,t9,t11,t10,t3,rfl⟩;apply yW;simp[t10,t11];apply xC;simp;refine⟨λj=>?_,λu=>?_⟩
 .apply xK;apply xB;have m:Z (Gx g (i+1))=Z (Gx g i)+Z g[i]:=by rw[Iu g j,i6]
  have o:=q (i+1);have A:=q i;rw[m]at o;have v:bv .i64 (Z (Gx g i)+Z g[i]:Int)=(Z (Gx g (i+1)):Int):=by rw[c8,m];omega
  apply yW;simp[t9,t11,j];apply yW;simp[t3,v];apply yW;simp;apply AQ;simp;refine⟨λh=>?_,?_⟩
  .exact absurd h (by omega)
  .apply B8;apply yV;simp[t11];refine⟨j,_,_,ap,?_⟩;simp[t0,t9,t10,AL j t]
 .have e:i=Z g:=by omega
  subst e;rw[KF]at t3;apply Co;apply yS;apply yJ;simp[t3];refine xF (fZ (Z g.flatten) hn) [] rfl ?_;simp;apply yJ;simp;refine xS (yW ?_);simp[t0];apply Bp;generalize s:Z g.flatten=F at *;refine FH (Z g) (λi tm S=>tm 25=.d (.sl (g.map λxs=>Bv xs))/\tm 27=.d (AF i)/\tm 26=.d (AF (Z g))/\tm 6=.row 0 (Z (Gx g i))/\S=[.row (decide (0<F)) 1 ((Gx g i).map λx=>.d (BG x))]) (ed _) (by simp[k,<-s]) ?_;rintro i tm S hi ⟨t25,t27,t26,t6,rfl⟩;apply yW;simp[t26,t27];apply xC;simp;refine⟨λj=>?_,λu=>?_⟩
  .have m:=Iu g j;have o:=q (i+1);rw[m,i6]at o;have w:(decide (0<F)||!g[i].isEmpty)=decide (0<F):=by
    cases h:g[i]with
    |nil=>simp
    |cons y B=>
     have:y∈g.flatten:=ac6.2 ⟨_,cF j,by rw[h];simp⟩;have:0<F:=by rw[<-s];exact aca this
     simp[this]
   apply xK;apply xB;apply yW;simp[t25,t27,j];apply yT;apply yJ;simp[t6,o,Ac];apply yV;simp[t27];refine⟨j,_,_,ap,?_⟩;simp[t25,t26,AL j t,m,w]
  .have e:i=Z g:=by omega
   subst e;rw[KF]at t6⊢;generalize z:g.flatten=L at *;apply Co;apply yW;simp[t6];apply Am;refine⟨_,_,fc 0 (xs:=L.map BG) rfl (by simp),?_⟩;simp[s,BC];rw[<-z];simp
theorem Sc(es:List Int)(i:Nat):AH a8 32 [.d (A2 es),.d (AF i)] [] (.fn (.func 123) [] [.ptr 1 1 0 0,.ptr 0 1 0 0]) [.row J 1 [.d (A2 es)],.row J 1 [.d (AF i)]]:=by
 refine zC func32 6 rfl λwf _=>?_;apply yW;simp;apply yW;simp;apply Am;refine⟨_,ap,?_⟩;simp[At]
theorem KG{es:List Int}{i:Nat}{e:Int}{ks:List Int}(hi:es[i]?=some e)(g:∀x∈es,0<=x/\x<=2000000)(k:i<=2000000)(h:Fc es e ((i:Int)+1) ks)(j:Z ks<=2000000):
  AH a8 31 [.fn (.func 123) [] [.ptr 1 1 0 0,.ptr 0 1 0 0]] [.row J 1 [.d (A2 es)],.row J 1 [.d (AF i)]] (.d (A2 ks)) [.row J 1 [.d (A2 es)],.row J 1 [.d (AF i)]]:=
 Wc (ri:=1) (re:=0) rfl rfl (by omega) (by simpa using hi) g (by omega) h j
def tn(ns:List A1)(w:Bool):Sg:=[.row J 1 [.row 1 (Z ns)],.row w 4 (ns.map λx=>.d (Ax x))]
theorem Xb(x:A1)(ns:List A1)(w:Bool)(h:Z ns<=2000000):AH a8 29 [.d (Ax x),.ptr 0 1 0 0] (tn ns w) (.CA []) (tn (ns++[x]) J):=by
 have hb:Z ns+1<=2 ^ 30:=by omega
 have g:1<=maxLen:=by simp[maxLen]
 have i:(Z ns:Int)<=2000000:=by omega
 refine zC func29 10 rfl λwf _=>?_;unfold tn;apply yW;simp;apply yW;simp;apply AQ;simp[i];apply yV;simp[hb,g,Ac];refine⟨_,k6 2 (by simp),?_⟩;simp[At]
theorem YA(t:Term)(p:Nat)(ks i:List Int)(r:Rewrite)(F:Z ks=Z i)(Dj:r.prod=p->r.at_<Z ks)
  (z:∀(j:Nat) (h:j<Z ks) (G:j<Z i),0<=ks[j]/\∃(h:ks[j].toNat<Z t.nodes),t.nodes[ks[j].toNat].prod=i[j]):
  AH a8 34 [.d (Ab r),.ptr 0 1 0 0,.ptr 1 1 0 0,.ptr 2 1 0 0] [.row J 4 [.d (Ax (ES p))],.row J 2 [.d (Af t)],.row J 1 [.d (A2 ks)]] (.d (.bool (Dg p i r)))
   [.row J 4 [.d (Ax (ES p))],.row J 2 [.d (Af t)],.row J 1 [.d (A2 ks)]]:=by
 have g:=Ab.eq_1 r;have m:Ax (ES p)=.agg [AF p,AF (-1),BG gs,.sl []]:=rfl;refine zD func34 31 rfl λwf _=>?_;have fin:∀(tm:Tm) X,tm 5=.d (.bool (Dg p i r))->AW a8 31 3 .ret (oE a8 31 3 Tryz.f34.results.toList (D.bool (Dg p i r)) [.row J 4 [.d (Ax (ES p))],.row J 2 [.d (Af t)],.row J 1 [.d (A2 ks)]]) tm
   [.row J 4 [.d (Ax (ES p))],.row J 2 [.d (Af t)],.row J 1 [.d (A2 ks)],X]:=λtm X h=>by
  apply Am;exact⟨_,_,_,ap,by simp,by simp[h,BC,CZ],k6 3 (by simp)⟩
 by_cases h1:r.prod=p
 .by_cases u:r.at_<0
  .have hb:Dg p i r=true:=by simp[Dg,h1,u]
   apply yW;simp;(repeat apply xS);refine yE (A3 26 []) (by kernel_rfl) ?_;simp;apply yZ;simp[g,m,h1,u];refine fin _ _ ?_;simp[hb]
  .obtain⟨a,ha⟩:∃a:Nat,r.at_=a:=⟨r.at_.toNat,by omega⟩;have o:a<Z ks:=by have:=Dj h1;omega
   obtain⟨A,v,q⟩:=z a o (by omega);obtain⟨k,s⟩:∃k:Nat,ks[a]=k:=⟨ks[a].toNat,by omega⟩;rw[s]at A;simp[s]at v q;obtain⟨nd,w⟩:=ce (t.nodes[k]);rw[w]at q;have B:=Ax.eq_1 nd;have C:i.getD a (-2)=nd.prod:=by rw[q];simp[show a<Z i by omega]
   have hb:Dg p i r=decide (nd.prod=r.child):=by
    unfold Dg;rw[ha,jw,C];simp[h1,show ¬((a:Int)<0) by omega]
   have E:¬((a:Int)<0):=by omega
   apply yW;simp;(repeat apply xS);refine yE (A3 26 []) (by kernel_rfl) ?_;simp;apply yZ;simp[g,m,h1,E,ha,o,s,Af,v,w,B];refine fin _ _ ?_;simp[hb];rfl
 .have hb:Dg p i r=false:=by simp[Dg,h1]
  apply yW;simp;(repeat apply xS);refine yE (A3 26 []) (by kernel_rfl) ?_;simp;(repeat((first|refine P4 rfl rfl ?_ ?_;(·simp[h1])|refine kI rfl rfl ?_ ?_;(·simp[g,m,h1])|refine H3 ?_ ?_;(·simp[g,m,h1]));simp[g,m]));apply xM;refine fin _ _ ?_;simp[hb]
def OO:List V:=[.ptr 0 1 0 0,.ptr 1 1 0 0,.ptr 2 1 0 0,.ptr 4 1 0 0,.ptr 6 1 0 0,.ptr 7 1 0 0,.ptr 8 1 0 0]
def LF(t:Term)(A:List Int)(m:List Rewrite)(ns:List A1)(at_:List Int)(w:Bool):Sg:=
 [.row J 2 [.d (Af t)],.row J 1 [.fn (.func 29) [] [.ptr 2 1 0 0]],.row J 1 [.row 3 (Z ns)],.row w 4 (ns.map λx=>.d (Ax x)),.row J 1 [.row 5 (Z at_)],.row J 1 (at_.map λx=>.d (AF x)),.row J 1 [.d (A2 A)],.row J 1 [.d (.sl (m.map Ab))],.row J 1 [.fn (.func 30) [] OO]]
def PD(t:Term)(A:List Int)(m:List Rewrite)(M:List Mv)(ns:List A1)(at_:List Int)(w:Bool):Sg:=LF t A m (M.foldl Dy (ns,at_)).1 (M.foldl Dy (ns,at_)).2 (w||!M.isEmpty)
def XW(t:Term)(A:List Int)(m:List Rewrite)(q:Int)(M:List Mv):Prop:=
 ∀g at_ w,Z at_=Z t.nodes->Z g+Z M<=2000000->AH a8 30 (.d (AF q)::OO) (LF t A m g at_ w) (.CA []) (PD t A m M g at_ w)
theorem XW.step{t:Term}{A:List Int}{m:List Rewrite}{q:Int}{M:List Mv}(h:XW t A m q M)(g:List Mv){ns:List A1}{at_:List Int}{w:Bool}(h1:Z at_=Z t.nodes)(j:Z ns+Z (g++M)<=2000000):
  AH a8 30 (.d (AF q)::OO) (PD t A m g ns at_ w) (.CA []) (PD t A m (g++M) ns at_ w):=by
 have i:=h (g.foldl Dy (ns,at_)).1 (g.foldl Dy (ns,at_)).2 (w||!g.isEmpty) (by rw[Vm];exact h1) (by rw[Lx];simp at j⊢;omega);have e:PD t A m M (g.foldl Dy (ns,at_)).1 (g.foldl Dy (ns,at_)).2 (w||!g.isEmpty)=PD t A m (g++M) ns at_ w:=by
  unfold PD;rw[abX];congr 1;cases g<;>cases M<;>simp
 rw[e]at i;exact i
theorem TP(l:List Int)(i:Nat)(v:Int):∀x∈(l.map λx=>V.d (bi .i64 x)).set i (V.d (bi .i64 v)),∃d,x=V.d d:=λx g=>by
 have e:(l.map λx=>V.d (bi .i64 x)).set i (V.d (bi .i64 v))=(l.set i v).map λx=>V.d (bi .i64 x):=by rw[gl]
 rw[e]at g;obtain⟨y,_,rfl⟩:=fd.1 g;exact⟨_,rfl⟩
theorem fj(t:Term)(A:List Int)(m:List Rewrite)(i:Nat)(k:Int)(s:ByteArray)(r:List ByteArray)(hi:i<Z t.nodes)(hn:t.nodes[i]=⟨-1,k,s,r⟩):XW t A m i [(⟨-1,k,s,r⟩,(i:Int))]:=by
 intro u at_ w Dj v;have B:=Ax.eq_1 (⟨-1,k,s,r⟩:A1);have j:=Ax.eq_1 (⟨-1,k,s,[]⟩:A1);have o:Z u<=2000000:=by simp at v;omega
 have g:=Xb ⟨-1,k,s,[]⟩ u w o;have z:i<Z at_:=by omega
 have C:¬(((i:Int))<0):=by omega
 have E:bv .i64 ((Z u:Int)+1)=(Z u:Int)+1:=by rw[c8];omega
 refine j0 func30 rfl rfl (by simp[OO]) λwf _=>?_;rw[ntmps30];unfold tn at g;have q:=g.E5 (args':=[.agg [.d (.int .i64 (-1)),.d (.int .i64 k),.d (.str s),.full []],.ptr 0 1 0 0]) rfl λi h F=>by
  match i,h with
  |0,_=>exact .inr ⟨_,by simp[BC,Ed,CZ,j],rfl⟩
  |1,_=>exact .inl rfl
 clear g;unfold PD LF OO;apply yW;simp[Af,hi,hn];refine xS (yW ?_);simp;apply AQ;simp;apply yS;apply yJ;simp;refine xF (q) [2,3] rfl ?_;simp;apply yJ;simp;apply yW;simp[z];apply Am;refine⟨_,ea 9 (by simp[Dy,bare]) (by simp) (by simp) (by simp;exact I1 (TP _ _ _)),?_⟩;simp[At]
structure X9(t:Term)(A:List Int)(m:List Rewrite)(i p:Nat)(ks rs:List Int)(Y:List (List Mv×List (List Mv))):Prop where
 hi:i<Z t.nodes
 hn:t.nodes[i]=ES p
 n2:Z t.nodes<=2000000
 ae:∃e,A[i]?=some e/\Fc A e ((i:Int)+1) ks
 ar:∀x∈A,0<=x/\x<=2000000
 kl:Z ks=Z rs
 kn:Z ks<=2000000
 Kl:Z Y=Z ks
 kr:∀(j:Nat) (h:j<Z ks) (h':j<Z rs),0<=ks[j]/\∃(h:ks[j].toNat<Z t.nodes),t.nodes[ks[j].toNat].prod=rs[j]
 yc:∀(j:Nat) (h:j<Z ks) (h':j<Z Y),XW t A m ks[j] Y[j].1
 Dj:∀r∈m,r.prod=p->r.at_<Z ks
theorem gU{t:Term}{A:List Int}{m:List Rewrite}{i p:Nat}{ks o:List Int}{Y:List (List Mv×List (List Mv))}(h:X9 t A m i p ks o Y)(hf:m.find? (Dg p o)=none):XW t A m i (Iv m p o Y):=by
 have z:Iv m p o Y=(ES p,-1)::(Y.map (·.1)).flatten:=by unfold Iv;rw[hf]
 rw[z];intro v at_ w Dj s;obtain⟨e,he,hk⟩:=h.ae;have hi:=h.hi;have hn:=h.hn;have B:Ax (ES p)=.agg [AF p,AF (-1),BG gs,.sl []]:=rfl;have e1:(ES (p:Int)).prod=p:=rfl;have e2:(ES (p:Int)).token= -1:=rfl;have e3:(ES (p:Int)).text=gs:=rfl;have e4:(ES (p:Int)).rem=[]:=rfl;have T:¬((ES (p:Int)).prod<0):=by show ¬((p:Int)<0);omega
 have U:=Sc A i;have hn2:=h.n2;have W:=KG he h.ar (by omega) hk h.kn;have C:Z v<=2000000:=by simp at s;omega
 have E:=Xb (ES p) v w C;have F:=IP m (Dg p o) 34 [.ptr 0 1 0 0,.ptr 1 1 0 0,.ptr 2 1 0 0] [.row J 4 [.d (Ax (ES p))],.row J 2 [.d (Af t)],.row J 1 [.d (A2 ks)]] (λr hr=>YA t p ks o r h.kl (h.Dj r hr) h.kr);have hfi:firstIdx (Dg p o) m= -1:=firstIdx_none λj hj=>by
  have:=adS.1 hf m[j] (cF hj);simpa using this
 rw[hfi]at F;refine j0 func30 rfl rfl (by simp[OO]) λwf _=>?_;rw[ntmps30];unfold tn at E;unfold LF OO;apply yW;simp[Af,hi,hn];refine xS (yW ?_);simp;apply AQ;simp[T];apply xK;(repeat apply xS);apply yT;apply yJ;simp;refine xF (U) [] rfl ?_;simp;refine xF (W) [10,11] rfl ?_;simp;apply yJ;simp;have h10:¬((-1:Int)≥0):=by omega
 apply yS;apply yJ;simp;refine xF (F) [9,0,12] rfl ?_;simp[B,Af,e1,e2,e3,e4];apply yJ;simp;refine xS (yW ?_);simp;apply AQ;simp;apply yS;apply yJ;simp;have G:=E.E5 (args':=[.agg [.d (.int .i64 p),.d (.int .i64 (-1)),.d (.str gs),.full []],.ptr 0 1 0 0]) rfl λi h h'=>by
  match i,h with
  |0,_=>exact .inr ⟨_,by simp[BC,Ed,CZ,B],rfl⟩
  |1,_=>exact .inl rfl
 refine xF (G) [2,3] rfl ?_;simp;apply yJ;simp;refine xS (yW ?_);simp;apply Bp;obtain⟨L,hL⟩:=ce (Y.map (·.1));have hLl:Z L=Z ks:=by rw[<-hL,oj,h.Kl]
 have H:∀j (h1:j<Z ks) (h2:j<Z L),XW t A m ks[j] L[j]:=λj h1 h2=>by
  have:=h.yc j h1 (by rw[h.Kl];exact h1);simpa[<-hL]using this
 rw[hL]at s⊢;have hbr:bare (ES (p:Int))=ES p:=rfl;obtain⟨pre,g⟩:∃pre:Nat->List Mv,∀j,pre j=(ES (p:Int),(-1:Int))::Gx L j:=⟨_,λ_=>rfl⟩;have K:pre 0=[(ES p,-1)]:=by rw[g];rfl
 have M:∀j,Z v+Z (pre j)<=2000000:=λj=>by
  have:=TE L j;rw[g];simp only[gr]at s⊢;omega
 have k:∀j (hj:j<Z L),pre (j+1)=pre j++L[j]:=λj hj=>by rw[g,g,Iu L hj];rfl
 have N:(ES (p:Int),(-1:Int))::L.flatten=pre (Z L):=by rw[g,KF]
 have P:∀j,(w||!(pre j).isEmpty)=true:=λj=>by simp[g]
 have y9:∀j,¬(pre j=[]):=λj=>by simp[g]
 have a1:Z ks<=maxLen:=by have:=h.kn;unfold maxLen;omega
 rw[N,hLl];refine zL (Z ks) (λj tm S=>tm 7=.ptr 8 1 0 0/\tm 51=.d (A2 ks)/\tm 52=.d (AF (Z ks))/\tm 53=.d (AF j)/\S=PD t A m (pre j) v at_ w++[.row J 4 [.d (Ax (ES p))],.row J 1 [.d (A2 A)],.row J 1 [.d (AF i)],.row J 1 [.d (A2 ks)]]) (by simp[K,PD,LF,OO,Dy,hbr,Af,B]) ?_;rintro j tm S hj ⟨t7,t51,t52,t53,rfl⟩;apply yW;simp[t52,t53];apply xC;simp;refine⟨λR=>?_,λzf=>?_⟩
 .have u:=(H j R (by omega)).step (pre j) (w:=w) Dj (by rw[<-k j (by omega)];exact M _);rw[<-k j (by omega)]at u;obtain⟨q,hq⟩:=ce (ks[j]);rw[hq]at u;unfold PD at u⊢;simp[P]at u⊢;obtain⟨X,hX⟩:=ce ((pre j).foldl Dy (v,at_));obtain⟨X',Q⟩:=ce ((pre (j+1)).foldl Dy (v,at_));rw[hX,Q]at u;rw[hX];unfold LF OO at u⊢;apply xK;apply xB;apply yW;simp[t51,t53,R,hq];apply yT;apply yJ;simp[t7];refine xF (u) [0,1,2,3,4,5,6,7,8] rfl ?_;simp;apply yJ;simp;apply yV;simp[t53];refine⟨R,_,_,ap,?_⟩;simp[t7,t51,t52,AL R a1,Q]
 .have e:j=Z ks:=by omega
  subst e;apply Co;apply Am;refine⟨_,ea 9 (by simp[PD,LF]) (by simp) (by simp[PD,LF]) (by simp[PD,LF,OO]),?_⟩;simp[At]
theorem Q7{α:Type}{p:α->Bool}{xs:List α}{r:α}(h:xs.find? p=al r):∃n:Nat,firstIdx p xs=n/\xs[n]?=al r:=by
 obtain⟨h1,i,hi,g,k⟩:=adv.1 h;exact⟨i,EP hi (by rw[g];exact h1) (λj hj=>by simpa using k j hj),by rw[<-g];exact dl hi⟩
def pI(H:List (List Mv))(x:Bo):List Mv:=if 0<=x.hole then H.getD x.hole.toNat []else [(⟨x.prod,x.token,x.text,[]⟩,-1)]
theorem Wl(H:List (List Mv))(t:List Bo){j:Nat}(hj:j<Z t):Cw H (t.take (j+1))=Cw H (t.take j)++pI H t[j]:=by
 rw[vj hj,RT];congr 1;simp[Cw,pI]
theorem jK(H:List (List Mv))(t:List Bo)(j:Nat):Z (Cw H (t.take j))<=Z (Cw H t):=by
 have:Cw H t=Cw H (t.take j)++Cw H (t.drop j):=by rw[<-RT,abL]
 rw[this];simp
def vk(t:Term)(A:List Int)(m:List Rewrite)(ks:List Int)(Y:List (List Mv×List (List Mv)))(r:Rewrite)(ks2:List Int):Prop:=
 0<=r.at_->∃(a q:Nat) (g:Int),r.at_=a/\ks[a]?=al (q:Int)/\A[q]?=al g/\Fc A g ((q:Int)+1) ks2/\Z ks2<=2000000/\q<=2000000/\Z ks2=Z (Y.getD a ([],[])).2/\∀(l:Nat) (h:l<Z ks2) (i:l<Z (Y.getD a ([],[])).2),XW t A m ks2[l] (Y.getD a ([],[])).2[l]
def L3(ks ks2:List Int)(r:Rewrite):List Int:=if r.at_<0 then ks else ks.take r.at_.toNat++(ks2++ks.drop (r.at_.toNat+1))
theorem ep{t:Term}{A:List Int}{m:List Rewrite}{i p:Nat}{ks C:List Int}{Y:List (List Mv×List (List Mv))}(h:X9 t A m i p ks C Y){r:Rewrite}{ks2:List Int}(w:vk t A m ks Y r ks2):
  Z (L3 ks ks2 r)=Z (CC r Y)/\∀(l:Nat) (h:l<Z (L3 ks ks2 r)) (L:l<Z (CC r Y)),XW t A m (L3 ks ks2 r)[l] (CC r Y)[l]:=by
 have o:∀(j:Nat) (x:Int) (y:List Mv),ks[j]?=al x->(Y.map (·.1))[j]?=al y->XW t A m x y:=λj x y k g=>by
  obtain⟨s,rfl⟩:=er.1 k;obtain⟨u,rfl⟩:=er.1 g;have:=h.yc j s (by simpa using u);simpa using this
 have key:∀(l:Nat) (x:Int) (y:List Mv),(L3 ks ks2 r)[l]?=al x->(CC r Y)[l]?=al y->XW t A m x y:=by
  intro l x y k g;unfold L3 at k;unfold CC at g;by_cases h0:r.at_<0
  .rw[b8 h0]at k g;exact o l x y k g
  .rw[a9 h0]at k g;obtain⟨a,q,E,s,u,F,G,H,K,z,B⟩:=w (by omega);rw[s,jw]at k g;have ha:a<Z ks:=(er.1 u).1;have M:=h.Kl;have l1:Z (ks.take a)=a:=by simp;omega
   have l2:Z ((Y.take a).map (·.1))=a:=by simp;omega
   rw[abC]at g;by_cases c1:l<a
   .rw[i5 (by omega),ada c1]at k;rw[i5 (by omega),o4,ada c1]at g;exact o l x y k g
   .rw[vp (by omega),l1]at k;rw[vp (by omega),l2]at g;by_cases c2:l - a<Z ks2
    .rw[i5 c2]at k;rw[i5 (by omega)]at g;obtain⟨f1,rfl⟩:=er.1 k;obtain⟨f2,rfl⟩:=er.1 g;exact B _ f1 f2
    .rw[vp (by omega),acP]at k;rw[vp (by omega),va,acP,<-z]at g;exact o _ x y k g
 have v:Z (L3 ks ks2 r)=Z (CC r Y):=by
  unfold L3 CC;by_cases h0:r.at_<0
  .rw[b8 h0,b8 h0,oj,h.Kl]
  .rw[a9 h0,a9 h0];obtain⟨a,q,E,s,u,F,G,H,K,z,B⟩:=w (by omega);rw[s,jw];have:=h.Kl;simp only[i6,abM,acJ,oj];omega
 exact⟨v,λl s u=>key l _ _ (dl s) (dl u)⟩
theorem Vc{t:Term}{A:List Int}{m:List Rewrite}{i p:Nat}{ks rs:List Int}{Y:List (List Mv×List (List Mv))}(h:X9 t A m i p ks rs Y){r:Rewrite}(hf:m.find? (Dg p rs)=al r)
  {ks2:List Int} (z9:vk t A m ks Y r ks2) (U:∀x∈r.Ah,0<=x.hole->x.hole.toNat<Z (CC r Y)) (htl:Z r.Ah<=ao):XW t A m i (Iv m p rs Y):=by
 have hown:Iv m p rs Y=Cw (CC r Y) r.Ah:=by unfold Iv;rw[hf]
 rw[hown];intro ns at_ w Dj hns;obtain⟨hHl,W⟩:=ep h z9;obtain⟨H,hH⟩:=ce (CC r Y);rw[hH]at hns hHl W U⊢;obtain⟨e,he,hk⟩:=h.ae;have hi:=h.hi;have hn:=h.hn;have zX:Ax (ES p)=.agg [AF p,AF (-1),BG ByteArray.empty,.sl []]:=rfl;have e1:(ES (p:Int)).prod=p:=rfl;have e2:(ES (p:Int)).token= -1:=rfl;have e3:(ES (p:Int)).text=ByteArray.empty:=rfl;have e4:(ES (p:Int)).rem=[]:=rfl;have hnn:¬((ES (p:Int)).prod<0):=by show ¬((p:Int)<0);omega
 have hkk:=Sc A i;have hn2:=h.n2;have hco:=KG he h.ar (by omega) hk h.kn;have hix:=IP m (Dg p rs) 34 [.ptr 0 1 0 0,.ptr 1 1 0 0,.ptr 2 1 0 0] [.row J 4 [.d (Ax (ES p))],.row J 2 [.d (Af t)],.row J 1 [.d (A2 ks)]] (λr hr=>YA t p ks rs r h.kl (h.Dj r hr) h.kr);obtain⟨n,hfi,z⟩:=Q7 hf;obtain⟨hnm,z⟩:=er.1 z;rw[hfi]at hix;have C:=Ab.eq_1 r;have hnz:¬((n:Int)<0):=by omega
 refine j0 func30 rfl rfl (by simp[OO]) λwf _=>?_;rw[ntmps30];unfold LF OO;apply yW;simp[Af,hi,hn];refine xS (yW ?_);simp;apply AQ;simp[hnn];apply xK;apply yS;apply yJ;simp;refine xF (hkk) [] rfl ?_;simp;refine xF (hco) [10,11] rfl ?_;simp;apply yJ;simp;apply yS;apply yJ;simp;refine xF (hix) [9,0,12] rfl ?_;simp[zX,Af,e1,e2,e3,e4];apply yJ;simp;refine xS (yW ?_);simp;apply AQ;simp[hnz];apply B8;obtain⟨M,hHs⟩:=ce (L3 ks ks2 r);rw[hHs]at hHl W;obtain⟨R4,hR4⟩:∃R4:Sg,R4=[.row J 4 [.d (Ax (ES p))],.row J 1 [.d (A2 A)],.row J 1 [.d (AF i)],.row J 1 [.d (A2 M)]]:=⟨_,rfl⟩;refine PP (R:=λtm S=>tm 2=.ptr 1 1 0 0/\tm 6=.ptr 7 1 0 0/\tm 7=.ptr 8 1 0 0/\tm 10=.ptr 12 1 0 0/\tm 11=.d (AF n)/\S=LF t A m ns at_ w++R4) ?_ ?_
 .by_cases h0:r.at_<0
  .have h1:¬(0<=r.at_):=by omega
   have hks:M=ks:=by rw[<-hHs];exact b8 h0
   apply yW;simp[hnm,z,C];apply yW;simp;apply AQ;simp[h1];apply B8;refine⟨_,_,ap,?_⟩;simp[hR4,LF,OO,Af,zX,hks]
  .have h1:0<=r.at_:=by omega
   obtain⟨a,q,e',g1,g2,g3,g4,g5,g6,g7,g8⟩:=z9 h1;obtain⟨ga,gq⟩:=er.1 g2;have hks:M=ks.take a++(ks2++ks.drop (a+1)):=by rw[<-hHs];unfold L3;rw[a9 h0,g1,jw]
   have hkk2:=Sc A q;have hco2:=KG g3 h.ar (by omega) g4 g5;have hkn:=h.kn;have hcc:=XM [ks.take a,ks2,ks.drop (a+1)] (by simp;omega);have E:bv .i64 ((a:Int)+1)=((a+1:Nat):Int):=by rw[c8];omega
   have F:(a:Int)<Z ks:=by omega
   have k:(a:Int)<=Z ks:=by omega
   have o:(a:Int)+1<=Z ks:=by omega
   apply yW;simp[hnm,z,C,g1];apply yW;simp;apply AQ;simp;refine yE (A3 8 [20,22,24,26,17,18,28,30,33]) (by kernel_rfl) ?_;simp;have s:a+1=Z ks\/Z (BE ((Option.map AF ks[a+1]?).getD (D.bool am)))=1/\CR.oneD ((Option.map AF ks[a+1]?).getD (D.bool am))=true:=by
    by_cases c:a+1=Z ks
    .exact .inl c
    .have G:a+1<Z ks:=by omega
     right;simp[G]
   have h3:3<=ao:=by decide
   have K:(ks.map AF).take (Z ks)=ks.map AF:=vq (by simp);have u:(0:Int)<=(a:Int)+1:=by omega
   apply yA 1;simp[ga,gq,E,F,k,o,s,u,K];refine AC (xT [0,0,0,0,1,0,0,0,1,0,0,0]) (hkk2) [] (by kernel_rfl) rfl (by simp[ga,gq,E,F,k,o,s,u,K,Aa];try rfl) ?_;simp;refine Ad.S9 (hco2) [13,14] rfl (by simp;try rfl) ?_;simp;apply yA 1;simp[h3];refine Bs (hcc) rfl (by simp) ?_;simp;apply yA 1;simp;apply xX 8191 (by kernel_rfl);simp[Aa,ga,gq,E,F,k,o,s,u,K,h3,Ag];apply yA 1;simp;refine⟨_,_,ea 13 (S':=LF t A m ns at_ w++R4) (by simp[hR4,LF,OO,Af,zX,hks]) (by simp) (by simp) (by simp),?_⟩;simp[clean]
 rintro tm S ⟨t2,t6,t7,t10,t11,rfl⟩;obtain⟨T,hT⟩:=ce (r.Ah);rw[hT]at hns U C⊢;obtain⟨pre,g⟩:∃pre:Nat->List Mv,∀j,pre j=Cw H (T.take j):=⟨_,λ_=>rfl⟩;have pre0:pre 0=[]:=by rw[g];rfl
 have N:∀j,Z ns+Z (pre j)<=2000000:=λj=>by
  have:=jK H T j;rw[g];omega
 have preS:∀j (hj:j<Z T),pre (j+1)=pre j++pI H T[j]:=λj hj=>by rw[g,g,Wl H T hj]
 have preE:Cw H T=pre (Z T):=by rw[g,s9]
 have a1:Z T<=ao:=hT▸htl;rw[preE];subst hR4;unfold LF OO;apply yW;simp[t6,t11,hnm,z,C];apply Bp;refine zL (Z T) (λj tm S=>tm 2=.ptr 1 1 0 0/\tm 7=.ptr 8 1 0 0/\tm 10=.ptr 12 1 0 0/\tm 88=.d (.sl (T.map Ar))/\tm 89=.d (AF (Z T))/\tm 90=.d (AF j)/\S=PD t A m (pre j) ns at_ w++[.row J 4 [.d (Ax (ES p))],.row J 1 [.d (A2 A)],.row J 1 [.d (AF i)],.row J 1 [.d (A2 M)]]) (by simp[t2,t7,t10,pre0,PD,LF,OO]) ?_;rintro j tm S hj ⟨t2,t7,t10,t88,t89,t90,rfl⟩;apply yW;simp[t89,t90];apply xC;simp;refine⟨λP=>?_,λzf=>?_⟩
 .obtain⟨x,hx⟩:=ce (T[j]);have v:=preS j P;rw[hx]at v;have hxe:=Ar.eq_1 x;have hL1:=N (j+1);have hxm:=U x (hx▸cF P);apply xK;apply xB;by_cases h0:0<=x.hole
  .obtain⟨c,G⟩:∃c:Nat,x.hole=c:=⟨x.hole.toNat,by omega⟩;have hcl:c<Z H:=by have:=hxm h0;omega
   have L:c<Z M:=by omega
   have zb:=(W c L hcl).step (pre j) (ns:=ns) (at_:=at_) (w:=w) Dj (by
    have:pI H x=H[c]:=by simp[pI,G,hcl]
    rw[<-this,<-v];exact hL1)
   have htv:pI H x=H[c]:=by simp[pI,G,hcl]
   rw[<-htv,<-v]at zb;obtain⟨q,hq⟩:=ce (M[c]);rw[hq]at zb;unfold PD at zb⊢;obtain⟨X,hX⟩:=ce ((pre j).foldl Dy (ns,at_));obtain⟨X',B⟩:=ce ((pre (j+1)).foldl Dy (ns,at_));obtain⟨w1,E⟩:=ce ((w||!(pre j).isEmpty));obtain⟨w2,zN⟩:=ce ((w||!(pre (j+1)).isEmpty));rw[hX,B,E,zN]at zb;simp[hX,B,E,zN];unfold LF OO at zb⊢;apply yW;simp[t88,t90,P,hx,hxe];apply yW;simp[G];apply AQ;simp;refine yE (A3 6 [13]) (by kernel_rfl) ?_;simp;apply yA 1;simp[t7,t10,L,hq];refine AC (xT [1,0,0,0,0,1]) (zb) [0,1,2,3,4,5,6,7,8] (by kernel_rfl) rfl (by simp[t7,t10,L,hq,Aa];try rfl) ?_;simp;apply yA 1;simp;apply yV;simp[t90];refine⟨P,_,_,qs 13 (S':=LF t A m X'.1 X'.2 w2++[.row J 4 [.d (Ax (ES p))],.row J 1 [.d (A2 A)],.row J 1 [.d (AF i)],.row J 1 [.d (A2 M)]]) (by simp[LF,OO]) (by simp) (by simp) (by simp[LF,OO]),?_⟩;simp[clean,t2,t7,t10,t88,t89,AL P a1,LF,OO]
  .have htv:pI H x=[(⟨x.prod,x.token,x.text,[]⟩,-1)]:=a9 h0;rw[htv]at v;unfold PD;obtain⟨X,hX⟩:=ce ((pre j).foldl Dy (ns,at_));obtain⟨w1,E⟩:=ce ((w||!(pre j).isEmpty));have B:(pre (j+1)).foldl Dy (ns,at_)=(X.1++[⟨x.prod,x.token,x.text,[]⟩],X.2):=by rw[v,abX,hX];simp[Dy,bare]
   have y9:¬(pre (j+1)=[]):=by rw[v];simp
   have hXl:Z X.1=Z ns+Z (pre j):=by rw[<-hX,Lx];simp
   have hpu:=Xb ⟨x.prod,x.token,x.text,[]⟩ X.1 w1 (by have:=N j;omega);have hen2:=Ax.eq_1 (⟨x.prod,x.token,x.text,[]⟩:A1);have Q:=hpu.E5 (args':=[.agg [.d (.int .i64 x.prod),.d (.int .i64 x.token),.d (.str x.text),.full []],.ptr 0 1 0 0]) rfl λi h h'=>by
    match i,h with
    |0,_=>exact .inr ⟨_,by simp[BC,Ed,CZ,hen2],rfl⟩
    |1,_=>exact .inl rfl
   unfold tn at Q;simp[hX,E];unfold LF OO;apply yW;simp[t88,t90,P,hx,hxe];apply yW;simp;apply AQ;simp[h0];apply yT;apply yJ;simp[t2];refine xF (Q) [2,3] rfl ?_;simp;apply yJ;simp;apply yV;simp[t90];refine⟨P,_,_,qs 13 (S':=LF t A m (X.1++[⟨x.prod,x.token,x.text,[]⟩]) X.2 J++[.row J 4 [.d (Ax (ES p))],.row J 1 [.d (A2 A)],.row J 1 [.d (AF i)],.row J 1 [.d (A2 M)]]) (by simp[LF,OO]) (by simp) (by simp) (by simp[LF,OO]),?_⟩;simp[clean,t2,t7,t10,t88,t89,AL P a1,B,y9,LF,OO]
 .have e:j=Z T:=by omega
  subst e;apply Co;refine⟨_,ea 9 (by simp[PD,LF]) (by simp) (by simp[PD,LF]) (by simp[PD,LF,OO]),?_⟩;simp[At]
open Go.Proofs DT
structure kJ(g:AD)(r:Rewrite):Prop where
 tl:Z r.Ah<=ao
 at_:∀(p:Nat) q,r.prod=p->g.AE[p]?=al q->r.at_<Z q.right
 h0:∀(p:Nat) q,r.prod=p->g.AE[p]?=al q->r.at_<0->∀x∈r.Ah,x.hole<Z q.right
 ch:0<=r.at_->0<=r.child
 h1:∀(p:Nat) q (c:Nat) q2,r.prod=p->g.AE[p]?=al q->0<=r.at_->r.child=c->g.AE[c]?=al q2->∀x∈r.Ah,x.hole+1<Z q.right+Z q2.right
def tK(g:AD)(t:Term)(A:List Int)(m:List Rewrite)(x j:Int)(y:List Mv×List (List Mv)):Prop:=
 ∃(q:Nat) (h:q<Z t.nodes),x=q/\j=t.nodes[q].prod/\XW t A m x y.1/\(∃k i,A[q]?=al k/\Fc A k ((q:Int)+1) i/\Z i<=2000000/\Z i=Z y.2/\∀(l:Nat) (h:l<Z i) (s:l<Z y.2),XW t A m i[l] y.2[l])/\∀c:Nat,j=c->∃o,g.AE[c]?=al o/\Z y.2=Z o.right
theorem n6(g:AD)(t:Term)(A:List Int)(m:List Rewrite)(hm:∀r∈m,kJ g r)(hn:Z t.nodes<=2000000)(hA:∀x∈A,0<=x/\x<=2000000):
  ∀(u:TF) (i:Nat) (ss:List Symbol) (R:List A1) (B:List Int),u.fit g ss->t.nodes.drop i=u.flat++R->A.drop i=u.ends i++B->∀(j:Nat) (h1:j<Z (u.pos i)) (C:j<Z u.roots) (h3:j<Z (BD m u i)),tK g t A m (u.pos i)[j] u.roots[j] (BD m u i)[j]:=by
 intro u;induction u with
 |nil=>intro i ss R B _ _ _ j h1;simp[TF.pos]at h1
 |leaf k s r x ih=>
  intro i ss R B hf h1 C j j1 j2 j3;obtain⟨_,_,ts,rfl,E⟩:=hf;have hi:t.nodes[i]?=al ⟨-1,k,s,r⟩:=by
   have:=GX (L:=(TF.leaf k s r x).flat) h1 0 (by simp[TF.flat]);simpa[TF.flat]using this
  obtain⟨N,P⟩:=er.1 hi;cases j with
  |zero=>
   refine⟨i,N,rfl,by rw[P];rfl,fj t A m i k s r N P,⟨((i+1:Nat):Int),[],?_,.nil (by omega),by simp,rfl,λl h=>by simp at h⟩,λc K=>?_⟩
   .have:=GX (L:=(TF.leaf k s r x).ends i) C 0 (by simp[TF.ends]);simpa[TF.ends]using this
   .have hc':(-1:Int)=c:=K;omega
  |succ j=>
   exact ih (i+1) ts R B E (Gv (x:=⟨-1,k,s,r⟩) h1) (Gv (x:=((i+1:Nat):Int)) C) j (by simpa[TF.pos]using j1) (by simpa[TF.roots]using j2) (by simpa[BD]using j3)
 |node p k x ihk ih=>
  intro i ss R B hf h1 C j j1 j2 j3;obtain⟨q,Q,S,ts,rfl,E⟩:=hf;have hi:t.nodes[i]?=al (ES p):=by
   have:=GX (L:=(TF.node p k x).flat) h1 0 (by simp[TF.flat]);simpa[TF.flat]using this
  obtain⟨N,P⟩:=er.1 hi;have T:t.nodes.drop (i+1)=k.flat++(x.flat++R):=by
   have:=Gv (x:=ES p) (L:=k.flat++x.flat) h1;rw[this,abC]
  have hn2:t.nodes.drop (i+1+Z k.flat)=x.flat++R:=by
   have:=Gv (x:=ES p) (L:=k.flat++x.flat) h1;exact Tp this
  have U:A[i]?=al ((i+1+Z k.flat:Nat):Int):=by
   have:=GX (L:=(TF.node p k x).ends i) C 0 (by simp[TF.ends]);simpa[TF.ends]using this
  have W:A.drop (i+1)=k.ends (i+1)++(x.ends (i+1+Z k.flat)++B):=by
   have:=Gv (x:=((i+1+Z k.flat:Nat):Int)) (L:=k.ends (i+1)++x.ends (i+1+Z k.flat)) C;rw[this,abC]
  have ha2:A.drop (i+1+Z k.flat)=x.ends (i+1+Z k.flat)++B:=by
   have:=Gv (x:=((i+1+Z k.flat:Nat):Int)) (L:=k.ends (i+1)++x.ends (i+1+Z k.flat)) C;have:=Tp this;rwa [TF.I0]at this
  cases j with
  |succ j=>exact ih (i+1+Z k.flat) ts R B E hn2 ha2 j (by simpa[TF.pos]using j1) (by simpa[TF.roots]using j2) (by simpa[BD]using j3)
  |zero=>
   have w:=ihk (i+1) q.right _ _ S T W;have zA:Z (k.pos (i+1))=Z k.roots:=TF.Xw k (i+1);have F:Z (BD m k (i+1))=Z (k.pos (i+1)):=by rw[Ev,zA]
   have hfl:Z k.flat<=Z t.nodes:=by
    have:=mn Z T;simp at this;omega
   have zV:Z k.roots=Z q.right:=TF.FU S;have X:Z (k.pos (i+1))<=2000000:=by have:=k.Uf;omega
   have o:Fc A ((i+1+Z k.flat:Nat):Int) ((i:Int)+1) (k.pos (i+1)):=mJ k A _ (i+1) W;have hN:X9 t A m i p (k.pos (i+1)) k.roots (BD m k (i+1)):=by
    refine⟨N,P,hn,⟨_,U,o⟩,hA,zA,X,F,λj Y g2=>?_,λj Y g2=>?_,λr hr hp=>?_⟩
    .obtain⟨q',z,e1,e2,_⟩:=w j Y g2 (by omega);rw[e1,e2];exact⟨by omega,by simpa using z,by simp⟩
    .obtain⟨q',z,e1,e2,e3,_⟩:=w j Y (by omega) g2;exact e3
    .have:=(hm r hr).at_ p q hp Q;omega
   have hI:XW t A m i (Iv m p k.roots (BD m k (i+1))):=by
    cases v:m.find? (Dg p k.roots)with
    |none=>exact gU hN v
    |some r=>
     have hrm:=abV v;have hra:=acU v;simp[Dg]at hra;obtain⟨G,hrc⟩:=hra;have M:=hm r hrm;by_cases h0:r.at_<0
     .refine Vc hN v (ks2:=[]) (λh=>absurd h (by omega)) (λy hy hy0=>?_) M.tl;have:=M.h0 p q G Q h0 y hy;simp[CC,b8 h0];omega
     .obtain⟨a,ha⟩:∃a:Nat,r.at_=a:=⟨r.at_.toNat,by omega⟩;have hal:a<Z (k.pos (i+1)):=by have:=M.at_ p q G Q;omega
      obtain⟨q',z,e1,e2,e3,⟨e',ks2,f1,f2,f3,f4,f5⟩,f6⟩:=w a hal (by omega) (by omega);have H:(BD m k (i+1)).getD a ([],[])=(BD m k (i+1))[a]'(by omega):=by simp[show a<Z (BD m k (i+1)) by omega]
      have hrt:k.roots[a]'(by omega)=r.child:=by
       have:=hrc.resolve_left h0;rw[ha,jw]at this;simpa[ll,show a<Z k.roots by omega]using this
      obtain⟨c,K⟩:∃c:Nat,r.child=c:=⟨r.child.toNat,by have:=M.ch (by omega);omega⟩;obtain⟨q2,hq2,hl2⟩:=f6 c (by rw[hrt,K]);refine Vc hN v (ks2:=ks2) (λ_=>⟨a,q',e',ha,by rw[dl hal,e1],f1,f2,f3,by omega,by rw[H];exact f4,by rw[H];exact f5⟩) (λy hy hy0=>?_) M.tl;have:=M.h1 p q c q2 G Q (by omega) K hq2 y hy;have hYl2:a<Z (BD m k (i+1)):=by omega
      unfold CC;rw[a9 h0];simp only[ha,jw,i6,oj,abM,acJ,H,hl2];omega
   refine⟨i,N,rfl,by rw[P];rfl,hI,⟨_,_,U,o,X,?_,λl Y g2=>?_⟩,λc K=>⟨q,?_,?_⟩⟩
   .show _=Z ((BD m k (i+1)).map (·.1))
    rw[oj,F]
   .have g2':l<Z (BD m k (i+1)):=by simpa[BD]using g2
    obtain⟨q',z,e1,e2,e3,_⟩:=w l Y (by omega) g2';have e4:((BD m (TF.node p k x) i)[0]).2[l]=(BD m k (i+1))[l].1:=by simp[BD]
    rw[e4];exact e3
   .have hc':(p:Int)=c:=K;have:p=c:=by omega
    subst this;exact Q
   .show Z ((BD m k (i+1)).map (·.1))=_
    rw[oj,F,zA,zV]
section
variable {P:Program} {n b:Nat} {tm:Tm} {S:Sg}
theorem AJ.uz(r i g:Nat){sz:Nat}{els:List V}{xs:List D}(t:S[r]?=al (.row J sz els))(hi:els[i]?=al (.full xs)):
  AJ P n b tm S tm ((S++[O.row am g (xs.map .d)]).set r (.row J sz (els.set i (V.row (Z S) (Z xs))))):=λG w a st hb=>by
 have H:=Ai t;have k:=st.rel.DX r _ t;simp only[OK]at k;cases C:G.BJ r with
 |some q=>simp only[C]at k;exact absurd k.1 (by simp)
 |none=>
  simp only[C]at k;obtain⟨d,T,K,Y,g3,g4,L⟩:=k;obtain⟨M,u⟩:=er.1 hi;obtain⟨v,f1,f2,f3,f4⟩:=L i M;rw[u]at f1;cases f1 with
  |full _ base m=>
   obtain⟨r1,r2,E⟩:=st.rel.NB g xs base m.len m;have z:St P n (G.at (Z S) 0 0 (al base)) (S++[.row am g (xs.map .d)]) w a tm:=⟨st.size,st.tm.later E,r1⟩;have F:r≠Z S:=by omega
   have N:(G.at (Z S) 0 0 (al base)).Cf r=G.Cf r:=by simp[Gh.at,F]
   have Q:(G.at (Z S) 0 0 (al base)).cap r=G.cap r:=by simp[Gh.at,F]
   obtain⟨R,U,W⟩:=z.setRow (r:=r) (els':=els.set i (V.row (Z S) (Z xs))) (by rw[i5 H];exact t) (by simp) λc2 T2 o s=>by
    rw[N,K]at o;cases o;rw[Q]at s⊢;intro j hj;have A:j<Z els:=by simpa using hj
    by_cases e:j=i
    .subst e;refine⟨.slice base (Z xs) (Z xs),?_,f2,f3,f4⟩;simp;refine .row _ _ _ rfl (by simp) λX B=>?_;have:X=Z xs:=by simpa[lenOf]using B.symm
     subst this;exact⟨ci _,λ_=>by simp[Gh.BP,Gh.at]⟩
    .rw[acu (λh=>e h.symm)];exact s j A
   exact⟨_,R,r2.trans U,(E.trans W).late hb⟩
end
theorem gM(l:List Mv)(a:Nat)(s:List A1×List Int)(ha:a<Z s.2)(h:0<s.2.getD a 0\/∃v∈l,v.2=(a:Int)):0<(l.foldl Dy s).2.getD a 0:=by
 induction l generalizing s with
 |nil=>rcases h with h|⟨v,k,_⟩;exact h;simp at k
 |cons v l m=>
  rw[acj];have o:Z (Dy s v).2=Z s.2:=by simp[Dy];split<;>simp
  refine m _ (by omega) ?_;have g:0<s.2.getD a 0->0<(Dy s v).2.getD a 0:=λh0=>by
   simp[Dy];split
   .simp[abY]at h0⊢;split
    .next e=>subst e;simp[ha]
    .exact h0
   .exact h0
  rcases h with h|⟨w,j,i⟩
  .exact .inl (g h)
  .rcases ge.1 j with rfl|j
   .left;simp[Dy];rw[b8 (by omega),i,jw];simp[ha]
   .exact .inr ⟨w,j,i⟩
theorem lq(l:List Mv)(a:Nat)(s:List A1×List Int)(h:s.2.getD a 0<=Z s.1):(l.foldl Dy s).2.getD a 0<=(Z s.1+Z l:Nat):=by
 induction l generalizing s with
 |nil=>simpa using h
 |cons v l i=>
  rw[acj];have g:Z (Dy s v).1=Z s.1+1:=by simp[Dy]
  have:=i (Dy s v) (by
   rw[g];simp only[Dy];split
   .simp only[ll,abY]at h⊢;split
    .split
     .simp
     .simp;omega
    .omega
   .omega)
  rw[g]at this;simp only[gr];omega
def Lj(N:List A1)(g:List Int)(out:List A1):Nat->List A1
 |0=>out
 |i+1=>match N[i]? with
  |some n=>if 0<g.getD i 0 then(Lj N g out i).modify (g.getD i 0 - 1).toNat λx=>{x with rem:=n.rem}else Lj N g out i
  |none=>Lj N g out i
theorem gC(N:List A1)(g:List Int)(out:List A1)(i:Nat):Z (Lj N g out i)=Z out:=by
 induction i with
 |zero=>rfl
 |succ i h=>simp[Lj];split<;>(try split)<;>simp[h]
theorem lx(N:List A1)(g:List Int)(out:List A1)(h:∀(i:Nat) n,N[i]?=al n->0<g.getD i 0\/n.rem=[])(i:Nat)(hi:i<=Z N):
  PN N 0 g out []=PN (N.drop i) i g (Lj N g out i) []:=by
 induction i with
 |zero=>rfl
 |succ i m=>
  rw[m (by omega)];have k:i<Z N:=by omega
  rw[GE k];simp only[PN,Lj,dl k,abH];by_cases j:0<g.getD i 0
  .rw[b8 j,b8 j]
  .rw[a9 j,a9 j];have:=(h i _ (dl k)).resolve_left j;rw[this]
theorem fx(N:List A1)(g:List Int)(out:List A1)(h:∀(i:Nat) n,N[i]?=al n->0<g.getD i 0\/n.rem=[]):PN N 0 g out []=(Lj N g out (Z N),[]):=by
 rw[lx N g out h (Z N) (ci _),List.drop_length];rfl
theorem kB{S:Sg}{α:Type}(f:α->D)(l:List α)(c:Nat)(u:α->α)(v:V)(h:∀x,l[c]?=al x->BC S v=al (f (u x))):DR S ((l.map λx=>V.d (f x)).set c v)=al ((l.modify c u).map f):=by
 rw[Be];apply acr;intro j;simp only[gl,abY,oj,L1,md,List.getElem?_modify];by_cases e:c=j
 .subst e;by_cases g:c<Z l
  .simp only[kw,g,h _ (dl g)];simp[g]
  .simp[g]
 .simp[e,lm,BC,CZ]
def bw(g h:AD)(m:List Rewrite)(t:Term)(A i:List Int)(out:List A1):Sg:=
 [.row J 9 [.d (AA g)],.row J 9 [.d (AA h)],.row J 1 [.d (BA m)],.row J 2 [.d (Af t)],.row J 2 [.agg [.full [],.full []]],.row J 1 [.d (A2 A)],.row J 1 [.row 11 (Z out)],.row J 1 (i.map λx=>.d (AF x)),.row J 1 [.row 7 (Z i)],.row J 1 [.fn (.func 29) [] [.ptr 6 1 0 0]],.row J 1 [.fn (.func 30) [] [.ptr 3 1 0 0,.ptr 9 1 0 0,.ptr 6 1 0 0,.ptr 8 1 0 0,.ptr 5 1 0 0,.ptr 2 1 0 0,.ptr 10 1 0 0]],.row J 4 (out.map λx=>.d (Ax x))]
theorem qo(g h:AD)(m:List Rewrite)(t:Term)(u:TF)(l:Int)(hG:B4 g=0)(hc:Z g.conds<=12)(zj:Z h.conds<=12)(hv:R5 g h m=0)(E:t.nodes=u.flat)(hf:u.fit g [⟨am,l⟩])(B:Z u.flat<=2000000)
  (hr1:∀n∈u.flat,Z n.rem<=12) (hr2:Z t.tail<=12) (hm:∀r∈m,kJ g r) {M:List Mv} {Y:List (List Mv)} (hM:BD m u 0=[(M,Y)]) (hMl:Z M<=2000000) (hM0:M≠[]) (hI:Z8 m u 0=u.NG 0):
  Pure prog 8 [AA g,AA h,BA m,Af t] (.CA [Af ⟨JZ M,t.tail⟩,AF 0]):=by
 have hck:=ME g h m hc zj;rw[hv]at hck;have hte:=OB g hG t u l E hf B;obtain⟨A,hA⟩:=ce (u.ends 0);have hAl:Z A=Z t.nodes:=by rw[<-hA,TF.I0,E]
 have hAr:∀x∈A,0<=x/\x<=2000000:=λx T=>by
  have:=u.dK 0 x (hA▸T);omega
 have za:=n6 g t A m hm (by rw[E];exact B) hAr u 0 [⟨am,l⟩] [] [] hf (by simp[E]) (by simp[hA]) 0;have himg:XW t A m 0 M:=by
  have hp:0<Z (u.pos 0):=by
   rw[TF.Xw,TF.FU hf];simp
  obtain⟨q,hq,e1,e2,e3,_⟩:=za hp (by rw[TF.FU hf];simp) (by rw[hM];simp);have e4:(u.pos 0)[0]=0:=by
   cases u with
   |nil=>simp[TF.pos]at hp
   |leaf k s r x=>rfl
   |node p k x=>rfl
  rw[e4]at e3;simpa[hM]using e3
 obtain⟨n,hn⟩:=ce (Z t.nodes);have zI:0<n:=by rw[<-hn,E];have:=u.Uf;rw[TF.FU hf]at this;simp at this;omega
 have hn2:n<=2000000:=by rw[<-hn,E];exact B
 rw[hA]at hte;have F:=himg [] (ke n 0) am (by simp[hn]) (by simpa using hMl);unfold PD at F;obtain⟨X,U⟩:=ce (M.foldl Dy (([]:List A1),ke n (0:Int)));have hW:(am||!M.isEmpty)=true:=by cases M<;>simp at hM0⊢
 rw[U,hW]at F;unfold LF OO at F;have hmk:(n:Int)<=1073741824:=by omega
 have hAne:¬(A=[]):=by intro e;rw[e]at hAl;simp at hAl;omega
 refine zP func8 79 rfl λwf=>?_;apply yW;simp;refine xS (yS ?_);apply yJ;simp;refine Bz (hck) rfl (by simp[xN]) (yJ ?_);simp;apply yW;simp;apply AQ;simp;apply xK;apply yS;apply yJ;simp;refine Bz (hte) rfl (by simp[xN]) (yJ ?_);simp;refine xS (yS ?_);(repeat(refine Cg ?_ ?_;(·simp);simp));refine AY.ph (neg:=false) (xs:=A.map AF) rfl (by simp) λtt P=>?_;have P:tt=false:=P (by simpa using hAne);subst P;simp;apply yJ;simp;apply AQ;simp;apply xK;apply yW;simp;apply yW;simp[Af,hn,hmk];apply yW;simp;apply yW;simp;apply yW;simp;refine io (AJ.uz 6 0 4 (xs:=[]) rfl rfl) ?_;simp;(repeat apply xS);apply yT;apply yJ;simp;refine xF (F) [3,9,6,11,8,7,5,2,10] rfl ?_;simp[Af];apply yJ;simp;have hX1:Z X.1=Z M:=by rw[<-U,Lx];simp
 have hX2:Z X.2=n:=by rw[<-U,Vm];simp
 have hXs:¬((2000000:Int)<Z X.1):=by omega
 have G:¬(2000000<Z X.1):=by omega
 have hkm:∀(i:Nat) nd,t.nodes[i]?=al nd->0<X.2.getD i 0\/nd.rem=[]:=λi nd H=>by
  have zs:=(er.1 H).1;rw[E]at H;by_cases hp:nd.prod<0
  .left;have C:=(O1 u 0 i).2 ⟨i,nd,by simp,H,hp⟩;rw[<-hI]at C;simp only[Z8,hM,ii,aco,abR,adC,NE,Z4,tg,fd]at C;obtain⟨⟨v,hv1,hv2⟩,_⟩:=C;rw[<-U];exact gM M i _ (by simp;omega) (.inr ⟨v,hv1,hv2⟩)
  .right;exact QJ u nd (pu H) hp
 have zA:∀i:Nat,X.2.getD i 0<=(Z X.1:Int):=λi=>by
  have:=lq M i (([]:List A1),ke n (0:Int)) (by simp[List.getElem?_replicate];split<;>simp);rw[U]at this;rw[hX1];simpa using this
 have j:=nf m hM hI;rw[<-E,hn,U,fx t.nodes X.2 X.1 hkm,hn]at j;have j:=mn Prod.fst j;simp only at j;refine xS (yW ?_);simp[hXs];apply AQ;simp;apply xK;apply yW;simp;refine io (tv 16 1 (xs:=[]) (by simp)) ?_;refine xS (yW ?_);simp[hn];apply Bp;refine zL n (λi tm S=>tm 7=.ptr 3 1 0 0/\tm 8=.ptr 4 1 0 0/\tm 9=.d (AF 0)/\tm 12=.ptr 6 1 0 0/\tm 13=.ptr 8 1 0 0/\tm 16=.row 12 0/\tm 46=.d (Fh t.nodes)/\tm 47=.d (AF n)/\tm 48=.d (AF i)/\S=bw g h m t A X.2 (Lj t.nodes X.2 X.1 i)++[.row am 1 []]) (by simp[bw,Lj,Af]) ?_;rintro i tm S hi ⟨t7,t8,t9,t12,t13,t16,t46,t47,t48,rfl⟩;have hol:=gC t.nodes X.2 X.1 i;apply yW;simp[t47,t48];apply xC;simp;refine⟨λy7=>?_,λzf=>?_⟩
 .have zq:i<Z t.nodes:=by omega
  have o:i<Z X.2:=by omega
  obtain⟨nd,H⟩:=ce (t.nodes[i]);have K:t.nodes[i]?=al nd:=by rw[dl zq,H]
  obtain⟨W,w⟩:=ce (X.2[i]);have hkd:X.2.getD i 0=W:=by simp[o,w]
  have L:=hkm i nd K;have hkv2:=zA i;rw[hkd]at L hkv2;have hnr:Z nd.rem<=12:=hr1 nd (by rw[<-E,<-H];exact cF zq);have hnr2:Z nd.rem<=2 ^ 30:=by omega
  have zX:=Ax.eq_1 nd;have z:Lj t.nodes X.2 X.1 (i+1)=if 0<W then(Lj t.nodes X.2 X.1 i).modify (W - 1).toNat λx=>{x with rem:=nd.rem}else Lj t.nodes X.2 X.1 i:=by simp only[Lj,K,hkd]
  obtain⟨Ot,hO⟩:=ce (Lj t.nodes X.2 X.1 i);rw[hO]at z hol⊢;unfold bw;have hwi:bv .i64 ((i:Int)+1)=((i+1:Nat):Int):=by rw[c8];omega
  apply xK;apply xB;apply yW;simp[t46,t48,zq,H];(repeat apply xS);apply yV;simp[t16,hnr2,Ac];by_cases hk:0<W
  .rw[b8 hk]at z;obtain⟨c,hc⟩:∃c:Nat,W=((c+1:Nat):Int):=⟨(W - 1).toNat,by omega⟩;have Q:c<Z Ot:=by omega
   have zN:bv .i64 (((c+1:Nat):Int) - 1)=c:=by rw[c8];omega
   have hw3:bv .i64 (c:Int)=c:=by rw[c8];omega
   have hk1:(0:Int)<((c+1:Nat):Int):=by omega
   have z9:(0:Int)<(c:Int)+1:=by omega
   rw[hc]at w;rw[hc,show(((c+1:Nat):Int) - 1).toNat=c by omega]at z;obtain⟨od,R⟩:=ce (Ot[c]);have hoe:=Ax.eq_1 od;apply yW;simp[t13,o,w];apply AQ;simp;refine io (fc 12 (xs:=nd.rem.map BG) (wr:=!nd.rem.isEmpty) (sz:=1) (els:=nd.rem.map λx=>V.d (BG x)) ?_ ?_) ?_
   .simp
   .simp
   refine io (AJ.te 16 (d:=.sl (nd.rem.map BG)) ?_) ?_
   .simp[BC,CZ]
   simp;refine yD (A3 9 [19]) (by kernel_rfl) ?_;simp;apply yA 1;simp[t12,t13,o,w,hw3,Q];apply xX 509 (by kernel_rfl);simp[Aa,t12,t13,o,w,hw3,Q,R,hoe];apply yA 1;simp;apply yV;simp;apply yV;simp[t48,hwi];refine⟨y7,_,_,(jp 11 (xs:=(Ot.modify c λx=>{x with rem:=nd.rem}).map Ax) rfl ?_).trans ((ea 12 (S':=bw g h m t A X.2 (Ot.modify c λx=>{x with rem:=nd.rem})) ?_ ?_ ?_ ?_).trans (tv 16 1 (xs:=[]) ?_)),?_⟩
   .exact kB Ax Ot c _ _ λx T=>by
     rw[dl Q,R]at T;cases T;simp[BC,CZ,Ed,Ax]
   .simp[bw]
   .simp
   .simp
   .simp;exact I1 (λx T=>by obtain⟨y,_,rfl⟩:=fd.1 T;exact⟨_,rfl⟩)
   .simp[clean]
   simp[clean,t7,t8,t9,t12,t13,t46,t47,z,bw]
  .rw[a9 hk]at z;have N:=L.resolve_left hk;rw[N];apply yW;simp[t13,o,w];apply AQ;simp[hk];apply B8;apply yV;simp[t48,hwi];refine⟨y7,_,_,ea 13 (S':=bw g h m t A X.2 Ot++[.row am 1 []]) (by simp[bw]) (by simp) (by simp) (by simp),?_⟩;simp[clean,t7,t8,t9,t12,t13,t46,t47,z,bw]
 .have e:i=n:=by omega
  subst e;have hcc:=V9 [[],t.tail] (by simp;omega);have h2:2<=ao:=by decide
  rw[j];unfold bw;apply Co;refine io (fc 12 (xs:=[]) (wr:=false) (sz:=1) (els:=[]) ?_ ?_) ?_
  .simp
  .rfl
  refine io (AJ.te 16 (d:=.sl []) ?_) ?_
  .simp[t16,BC,CZ]
  simp;(repeat apply xS);refine yE (A3 7 [15,16]) (by kernel_rfl) ?_;simp;apply yA 1;simp[t7,t12,Af,h2];refine Bs (hcc) rfl (by simp[xN]) ?_;simp;apply yA 1;simp;apply xX 127 (by kernel_rfl);simp[Aa,Ag,t7,t8,t12,h2];apply yA 1;simp;(apply Am;refine⟨_,_,fc 11 (xs:=(JZ M).map Ax) rfl (by simp),?_⟩;simp[BC,CZ,Ed,t8])
theorem KA(xs:List ByteArray):Pure prog 130 [Bv xs,Bv xs] (.bool J):=by
 refine ip func130 rfl rfl (by simp) λwf=>?_;have h:Z xs<=ao:=by have:=wf.1;simp[Da]at this;exact this.1
 rw[ntmps130];apply yW;simp;refine xS (yW ?_);simp;apply AQ;simp;apply xK;refine xS (yW ?_);simp;apply Bp;refine zL (Z xs) (λi tm S=>tm 0=.d (Bv xs)/\tm 1=.d (Bv xs)/\tm 5=.d (AF i)/\S=[]) (by simp) ?_;rintro i tm S hi ⟨t0,t1,t5,rfl⟩;refine xS (yW ?_);simp[t0,t5];apply AQ;simp;refine⟨λg=>?_,λj=>?_⟩
 .apply xK;apply xB;refine yD (A3 9 []) (by kernel_rfl) ?_;simp;apply yA 1;simp[t0,t1,t5,g];apply AQ;simp;apply B8;apply yV;simp[t5];refine⟨g,_,_,ap,?_⟩;simp[t0,t1,AL g h]
 .apply Co;apply yW;simp;apply zT;try simp
theorem Vp(x:A1):Pure prog 131 [Ax x,Ax x] (.bool J):=by
 have g:=Ax.eq_1 x;have h:=KA x.rem;refine zP func131 31 rfl λwf=>?_;apply yW;simp;(repeat apply xS);apply yT;apply yH;simp[g];refine nc (h) rfl rfl (by simp;try rfl) ?_;simp;apply yH;simp;apply zT;try simp
theorem jP(t:Term):Pure prog 44 [Af t,Af t] (.bool J):=by
 have j:=KA t.tail;have g:=λx=>Vp x;refine ip func44 rfl rfl (by simp) λwf=>?_;have k:Z t.nodes<=ao:=by have:=wf.1;simp[Af,Da,Bq]at this;exact this.1.1
 rw[ntmps44];apply yW;simp;refine xS (yS ?_);apply yH;simp[Af];refine nc (j) rfl rfl (by simp;try rfl) ?_;simp;apply yH;simp;apply AQ;simp;apply xK;refine xS (yW ?_);simp;apply Bp;refine zL (Z t.nodes) (λi tm S=>tm 2=.ptr 0 1 0 0/\tm 3=.ptr 1 1 0 0/\tm 5=.d (AF i)/\S=[.row J 2 [.d (Af t)],.row J 2 [.d (Af t)]]) (by simp[Af]) ?_;rintro i tm S hi ⟨t2,t3,t5,rfl⟩;refine xS (yW ?_);simp[t2,t5,Af];apply AQ;simp;refine⟨λh=>?_,λo=>?_⟩
 .obtain⟨nd,m⟩:=ce (t.nodes[i]);have g:=g nd;apply xK;apply xB;refine yD (A3 12 []) (by kernel_rfl) ?_;simp;apply yA 1;simp[t2,t3,t5,h,m];refine Bs (g) rfl (by simp[Ax]) ?_;simp[Ax];apply yA 1;simp;apply AQ;simp;apply B8;apply yV;simp[t5];refine⟨h,_,_,ap,?_⟩;simp[t2,t3,AL h k]
 .apply Co;apply yW;simp;apply zT;try simp
theorem RW(t:Term)(v:Z t.nodes<=2 ^ 29):Pure prog 45 [Af t] (Fh (H4 t.nodes)):=by
 have k:∀i,Z (H4 (t.nodes.take i))<=2 ^ 29:=λi=>by
  have h1:Z (H4 (t.nodes.take i))<=Z (t.nodes.take i):=ack _ _;simp at h1;omega
 have s:1<=ao:=by simp[ao]
 refine ip func45 rfl rfl (by simp) λwf=>?_;have o:Z t.nodes<=ao:=by have:=wf.1;simp[Af,Da,Bq]at this;exact this.1.1
 rw[ntmps45];apply yW;simp;apply yS;((refine AY.I3 rfl ?_ ?_);(focus(simp[FR,ao];done));simp);apply yJ;simp;refine xS (yW ?_);simp;apply Bp;refine zL (Z t.nodes) (λi tm S=>tm 1=.ptr 0 1 0 0/\tm 3=.row 1 (Z (H4 (t.nodes.take i)))/\tm 4=.d (AF i)/\∃w,S=[.row J 2 [.d (Af t)],.row w 4 ((H4 (t.nodes.take i)).map λx=>.d (Ax x))]) (by simp[Af,H4]) ?_;rintro i tm S hi ⟨t1,t3,t4,w,rfl⟩;refine xS (yW ?_);simp[t1,t4,Af];apply AQ;simp;refine⟨λg=>?_,λz=>?_⟩
 .obtain⟨nd,m⟩:=ce (t.nodes[i]);have q:=Ax.eq_1 nd;have hb:=k i;have u:Z (H4 (t.nodes.take i))+1<=2 ^ 30:=by omega
  have hS:H4 (t.nodes.take (i+1))=if nd.prod<0 then H4 (t.nodes.take i)++[nd]else H4 (t.nodes.take i):=by
   rw[vj g,m,IK];split
   .next h=>simp[H4,h]
   .next h=>simp[H4,h]
  apply xK;apply xB;(repeat apply xS);apply yV;simp[t1,t4,g,m,q];by_cases j:nd.prod<0
  .rw[b8 j]at hS;apply AQ;simp[j];apply yV;simp[t1,t3,t4,g,m,u,s,Ac];apply yV;simp[t4];refine⟨g,_,_,ap,?_⟩;simp[t1,AL g o,hS,q]
  .rw[a9 j]at hS;apply AQ;simp[j];apply B8;apply yV;simp[t4];refine⟨g,_,_,ap,?_⟩;simp[t1,t3,AL g o,hS]
 .have e:i=Z t.nodes:=by omega
  subst e;rw[s9]at t3⊢;apply Co;(repeat apply xS);apply yV;simp[t3];(apply Am;refine⟨_,_,fc 1 (xs:=(H4 t.nodes).map Ax) rfl (by simp),?_⟩;simp[BC,CZ])
theorem Q2(t s:Term)(h:H4 t.nodes=H4 s.nodes)(g:t.tail=s.tail)(k:Z t.nodes<=2 ^ 29)(i:Z s.nodes<=2 ^ 29):Pure prog 11 [Af t,Af s] (.bool J):=by
 have m:=RW t k;have j:=RW s i;rw[<-h]at j;have o:=jP ⟨H4 t.nodes,t.tail⟩;refine zP func11 16 rfl λwf=>?_;apply yW;simp;(repeat apply xS);refine yE (A3 12 []) (by kernel_rfl) ?_;simp;apply yA 1;simp;refine Bs (m) rfl (by simp[Af]) ?_;simp[Af];apply yA 1;simp;refine Bs (j) rfl (by simp[Af]) ?_;simp[Af];apply yA 1;simp[g];refine Bs (o) rfl (by simp[Af,g]) ?_;simp[Af,g];apply yA 1;simp;apply zT;try simp
open Go.RowKit
section
variable {P:Program} {n b:Nat} {ops:Array Oper} {o:Oper} {tm:Tm} {S:Sg} {K:Tm->Sg->Prop}
theorem Yx{T U:TypeId}{x:Operand}{xs:List D}(h:o.op=.binOp .eql T x (.const (.slice none 0 0)) U)(i:(BB P T).isSome=J)(j:need (ev tm x))(k:strip (ev tm x)=.d (.sl xs)\/strip (ev tm x)=.full xs)(m:xs≠[]):CP P n o tm S (.d (.bool am)) S:=by
 intro G w a next Q st g
 obtain⟨E,q⟩:=ol.1 i;obtain⟨t,s,u⟩:=A8 q;obtain⟨z,hb,v⟩:=nil_eq (neg:=false) h s u j k st;unfold Oper.wp;rw[v];simp only[Oper.upon];rw[hb m];exact g _ _ G (.d _ _ (.bool _)) st.rel (aep _ _ _) (aev _ _ _)
theorem Bw.nG{i:Nat}{T U:TypeId}{x:Operand}{xs:List D}(hi:ops[i]?=al o)(g:o.op=.binOp .eql T x (.const (.slice none 0 0)) U)(h:o.guard=none)(j:A6 n o.dst)(k:(BB P T).isSome=J)(m:need (ev tm x))(q:strip (ev tm x)=.d (.sl xs)\/strip (ev tm x)=.full xs)(s:xs≠[]):Bw P n b ops i o tm S (.d (.bool am)) S:=λt u=>by
 have e:=Hr u x (by rw[g];simp[Op.operands]);exact aeq hi j h (Yx g k (by rw[e];exact m) (by rw[e];exact q) s)
theorem Ad.nG{B:List (Nat×(Sg->Prop))}{i:Nat}{rest:List (Nat×Bool×Oper)}{T U:TypeId}{x:Operand}(xs:List D)(h:o.op=.binOp .eql T x (.const (.slice none 0 0)) U)
  (j:o.guard=none/\A6 n o.dst/\(BB P T).isSome=J/\need (ev tm x)/\(strip (ev tm x)=.d (.sl xs)\/strip (ev tm x)=.full xs)) (k:xs≠[])
  (m:Ad P n b ops ((i,λg=>g=S)::B) rest (put tm o.dst (.d (.bool am))) S K):Ad P n b ops B ((i,J,o)::rest) tm S K:=by
 obtain⟨q,s,t,u,v⟩:=j;exact vb (λg=>g=S) rfl (λhi g hS=>by subst hS;exact Bw.nG hi h q s t u v k) m
theorem AY.nG{rest:List Oper}{T U:TypeId}{x:Operand}(xs:List D)(h:o.op=.binOp .eql T x (.const (.slice none 0 0)) U)
  (g:o.guard=none/\A6 n o.dst/\(BB P T).isSome=J/\need (ev tm x)/\(strip (ev tm x)=.d (.sl xs)\/strip (ev tm x)=.full xs)) (i:xs≠[])
  (j:AY P n b ops rest (put tm o.dst (.d (.bool am))) S K):AY P n b ops (o::rest) tm S K:=
 aer (λ_ hi=>aeq hi g.2.1 g.1 (Yx h g.2.2.1 g.2.2.2.1 g.2.2.2.2 i)) j
end
theorem jy(d:AO)(w:Valid d)(h0:HL d=0)(c:Nat)(z:c<2 ^ 64):Pure prog 41 [AB d,EH c] (.bool ((tr d).B9 (cfg c))):=by
 have A:BZ d.nodes (tr d) d.root:=by have:=Fw (tr d);rwa [EB w]at this
 have B:=Ko d;have g:=Mc d;rw[h0]at g;generalize tr d=t0 at *;refine ip func41 (by kernel_rfl) rfl (by simp) λwf=>?_;have j:Z d.nodes<=maxLen:=by simp[Bq,Da]at wf;omega
 rw[ntmps41];apply yW;simp;refine xS (yS ?_);apply yJ;simp;refine Bz (g) rfl (by simp[xN]) (yJ ?_);simp;apply AQ;simp;apply xK;apply yW;simp[AB];apply xB;refine aew (λm tm S=>tm 1=.d (EH c)/\tm 2=.ptr 0 1 0 0/\(∃t:DT,∃n:Int,tm 5=.d (AF n)/\t.size=m/\t.Good/\BZ d.nodes t n/\t.B9 (cfg c)=t0.B9 (cfg c))/\S=[.row J 2 [.d (AB d)]]) ⟨t0.size,_,_,ap,by simp,by simp,⟨t0,d.root,by simp,rfl,B,A,rfl⟩,by simp[AB]⟩ ?_;rintro m tm S ⟨t1,t2,⟨t,n,t5,rfl,C,tr,i⟩,rfl⟩;cases t with
 |leaf b=>
  have hn:n=if b then 1 else 0:=tr;subst hn;refine xS (yW ?_);simp[t5];cases b with
  |false=>
   apply AQ;simp;apply Co;apply yW;simp[t5];apply zT;(try simp);simp[<-i,B9]
  |true=>
   apply AQ;simp;apply Co;apply yW;simp[t5];apply zT;(try simp);simp[<-i,B9]
 |node v lo hi=>
  obtain⟨k,rfl,l,h,u,E,F⟩:=tr;obtain⟨L,M,-,-,-,G,gh⟩:=C;refine xS (yW ?_);simp[t5];have c1:(1:Int)<k+2:=by omega
  apply AQ;simp[c1];apply xK;apply Bp;have H:=(er.1 u).1;have o:=(er.1 u).2;have K:bv .i64 (k:Int)=k:=by rw[c8];unfold maxLen at j;omega
  (repeat apply xS);apply yV;simp[t2,t5,AB,H,o,K];obtain⟨m,rfl⟩:∃m:Nat,v=m:=⟨v.toNat,by omega⟩;have q:=qF c m z;have s:(c:Int).fdiv (2 ^ (min m IntKind.u64.bits))=(c:Int) / 2 ^ m:=by
   have e:IntKind.u64.bits=64:=rfl;rw[e,adQ (by omega),abS _ (by exact_mod_cast ed _)]
  (repeat apply xS);apply yV;simp[t1,s,q];by_cases hb:c / 2 ^ m % 2=1
  .apply AQ;simp[hb];apply yV;simp;refine⟨hi.size,by simp[size];try omega,_,_,qs 1 (S':=[.row J 2 [.d (AB d)]]) rfl (by simp) (by simp) (by simp),?_⟩;simp[clean,AP,t1,t2,AB];exact⟨hi,rfl,gh,F,by rw[<-i];simp[B9,cfg,hb]⟩
  .apply AQ;simp[hb];apply yV;simp;refine⟨lo.size,by simp[size];try omega,_,_,qs 1 (S':=[.row J 2 [.d (AB d)]]) rfl (by simp) (by simp) (by simp),?_⟩;simp[clean,AP,t1,t2,AB];exact⟨lo,rfl,G,E,by rw[<-i];simp[B9,cfg,hb]⟩
theorem je{d:AO}{n:Int}(h:Cp d n=J):HL d=0:=by
 simp only[Cp,b9,cR]at h;exact h.1
theorem JN{d:AO}{n:Nat}(h:Cp d n=J)(c:Nat)(g:c<2 ^ 64):Pure prog 41 [AB d,EH c] (.bool (Ct d c)):=
 jy d (FL h).1 (je h) c g
theorem aA(g:AD)(k:B4 g=0)(hn:Z g.conds<=12)(c:Nat)(m:c<2 ^ 64):Pure prog 185 [AA g,EH c] (.bool (hasB g c)):=by
 have j:=(Bt k).2.1;simp only[Fu,b9]at j;have o:=JN j.1.2 c m;have i:(c:Int).fdiv (2 ^ (min (Z g.conds) IntKind.u64.bits))=((c / 2 ^ Z g.conds:Nat):Int):=by
  have e:IntKind.u64.bits=64:=rfl;rw[e,adQ (by omega),abS _ (by exact_mod_cast ed _)];push_cast;rfl
 unfold hasB;refine zP func185 17 rfl λwf=>?_;apply yW;simp;(repeat apply xS);apply yT;(repeat((first|refine FD rfl ?_ ?_;(·simp)|refine Ov rfl ?_ ?_;(·simp)|refine Cg ?_ ?_;(·simp));simp[i,AA]));refine Fr (ds:=[AB g.fam,EH c]) rfl rfl (by simp;rfl) (λ_=>o) (by simp[AB]) ?_;simp;apply yH;simp;apply zT;(try simp);congr 1;have e:(c:Int) / 2 ^ Z g.conds=((c / 2 ^ Z g.conds:Nat):Int):=by push_cast;rfl
 rw[e,gI,acG,cR];have q:c / 2 ^ Z g.conds=0↔c<2 ^ Z g.conds:=Nat.div_eq_zero_iff_lt (adO _);rw[<-q];exact⟨λh=>by exact_mod_cast h,λh=>by exact_mod_cast h⟩
theorem r9(g:AD)(h:B4 g=0)(hn:Z g.conds<=12)(c:Nat)(i:c<2 ^ 64):Pure prog 126 [AA g,EH c] (.bool (hasB g c)):=by
 have h1:=Ru g;rw[h]at h1;have j:=aA g h hn c i;refine zP func126 13 rfl λwf=>?_;apply yW;simp;(repeat apply xS);apply yT;apply yJ;simp;refine Bz (h1) rfl (by simp[xN]) ?_;simp;apply yH;simp;refine nc (j) rfl rfl (by simp[xN];try rfl) ?_;simp;apply yH;simp;apply zT;try simp
theorem ZR(g:AD)(h:okF g)(hn:Z g.conds<=12)(c:Nat)(i:c<2 ^ 64):Pure prog 37 [AA g,EH c] (AF (if hasB g c then 0 else 1)):=by
 have h1:=Hd g hn;rw[Dx.2 h]at h1;have j:=r9 g h.1 hn c i;refine zP func37 15 rfl λwf=>?_;apply yW;simp;refine xS (yS ?_);apply yJ;simp;refine Bz (h1) rfl (by simp[xN]) (yJ ?_);simp;apply yW;simp;apply AQ;simp;apply xK;refine xS (yS ?_);apply yJ;simp;refine Bz (j) rfl (by simp[xN]) (yJ ?_);simp;cases hb:hasB g c with
 |true=>
  apply AQ;simp;apply xK;apply yW;simp;apply zT;try simp
 |false=>
  apply AQ;simp;apply yW;simp;refine Am ⟨_,_,ap,?_⟩;try simp
noncomputable def kM(h:AD)(c:Nat)(p:Nat):Bool:=match h.AE[p]? with
 |some q=>Ct q.cond c
 |none=>false
theorem Fx{h:AD}{c p:Nat}{q:AM}(g:h.AE[p]?=some q):kM h c p=Ct q.cond c:=by unfold kM;rw[g]
def bG(g h:AD)(m:List Rewrite)(c:Nat):Prop:=
 (∀r∈m,∀(p:Nat) q,r.prod=p->g.AE[p]?=some q->Ct q.cond c=J->(∀(d:Nat) i,0<=r.at_->r.child=d->g.AE[d]?=some i->Ct i.cond c=J)->∀x∈r.Ah,¬0<=x.hole->∀j:Nat,x.prod=j->kM h c j=J)/\∀(p:Nat) q k,g.AE[p]?=some q->TF.fit g k q.right->m.find? (Dg p k.roots)=none->Ct q.cond c=J->kM h c p=J
theorem ZL{u:TF}{d:Nat}(h:(d:Int)∈u.roots):∃n∈u.flat,n.prod=d:=by
 induction u with
 |nil=>simp[TF.roots]at h
 |leaf k s r x g=>
  simp only[TF.roots,ge]at h;rcases h with h|h
  .omega
  .obtain⟨n,h1,i⟩:=g h;exact⟨n,by simp[TF.flat,h1],i⟩
 |node p k x _ g=>
  simp only[TF.roots,ge]at h;rcases h with h|h
  .exact⟨ES p,by simp[TF.flat],h.symm⟩
  .obtain⟨n,h1,i⟩:=g h;exact⟨n,by simp[TF.flat,h1],i⟩
def kc(h:AD)(c:Nat)(l:List Mv):Prop:=∀n∈JZ l,∀j:Nat,n.prod=j->kM h c j=J
theorem kc.nil{h:AD}{c:Nat}:kc h c []:=λn hn=>by simp[JZ]at hn
theorem kc.flat{h:AD}{c:Nat}{L:List (List Mv)}(H:∀l∈L,kc h c l):kc h c L.flatten:=λn hn j hj=>by
 rw[U0,ac6]at hn;obtain⟨l,i,hn⟩:=hn;obtain⟨k,g,rfl⟩:=fd.1 i;exact H k g n hn j hj
theorem iW{g h:AD}{m:List Rewrite}{c:Nat}(H:bG g h m c)(u:TF):∀(i:Nat) {E:List Symbol},u.fit g E->(∀n∈u.flat,∀p:Nat,n.prod=p->kM g c p=J)->∀y∈BD m u i,kc h c y.1/\∀z∈y.2,kc h c z:=by
 induction u with
 |nil=>intro i E _ _ y o;simp[BD]at o
 |leaf k s r x G=>
  rintro i E ⟨_,_,T,rfl,K⟩ B y o;simp only[BD,ge]at o;rcases o with rfl|o
  .refine⟨λn hn j hj=>?_,λz U=>by simp at U⟩;simp[JZ]at hn;subst hn;have:(-1:Int)=j:=hj;omega
  .exact G (i+1) K (λn hn=>B n (by simp[TF.flat,hn])) y o
 |node p k x L G=>
  rintro i E ⟨q,M,R,T,rfl,K⟩ B y o;have F:=L (i+1) R (λn hn=>B n (by simp[TF.flat,hn]));have C:Ct q.cond c=true:=by
   have:=B (ES p) (by simp[TF.flat]) p rfl;rwa [Fx M]at this
  simp only[BD,ge]at o;rcases o with rfl|o
  .have N:∀l∈(BD m k (i+1)).map (·.1),kc h c l:=λl t=>by
    obtain⟨y,o,rfl⟩:=fd.1 t;exact(F y o).1
   refine⟨?_,N⟩;unfold Iv;cases A:m.find? (Dg p k.roots)with
   |none=>
    intro n hn j hj;simp only[j6,ge]at hn;rcases hn with rfl|hn
    .have:(p:Int)=j:=hj;have e:p=j:=by omega
     subst e;exact H.2 p q k M R A C
    .exact kc.flat N n hn j hj
   |some r=>
    have W:=abV A;have ha:=acU A;simp only[Dg,b9,pw,cR]at ha;have X:∀l∈CC r (BD m k (i+1)),kc h c l:=λl t=>by
     unfold CC at t;split at t
     .exact N l t
     .simp only[gc]at t;rcases t with(t|t)|t
      .obtain⟨y,o,rfl⟩:=fd.1 t;exact(F y (abr o)).1
      .rw[ll]at t;cases o:(BD m k (i+1))[r.at_.toNat]? with
       |none=>rw[o]at t;simp at t
       |some y=>
        rw[o]at t;exact(F y (pu o)).2 l t
      .obtain⟨y,o,rfl⟩:=fd.1 t;exact(F y (ab7 o)).1
    have key:=H.1 r W p q ha.1 M C λd qd h0 Y P=>by
     have h1:=ha.2.resolve_left (by omega);rw[Y,ll]at h1;have h2:(d:Int)∈k.roots:=by
      cases o:k.roots[r.at_.toNat]? with
      |none=>
       have h3:(-2:Int)=d:=by rw[o]at h1;exact h1
       omega
      |some y=>
       rw[o]at h1;simp at h1;rw[<-h1];exact pu o
     obtain⟨n,n1,n2⟩:=ZL h2;have:=B n (by simp[TF.flat,n1]) d n2;rwa [Fx P]at this
    intro n hn j hj;simp only[JZ,fd]at hn;obtain⟨v,S,rfl⟩:=hn;simp only[Cw,List.mem_flatMap]at S;obtain⟨x,Q,w⟩:=S;split at w
    .rename_i h0;rw[ll]at w;cases o:(CC r (BD m k (i+1)))[x.hole.toNat]? with
     |none=>rw[o]at w;simp at w
     |some l=>
      rw[o]at w;exact X l (pu o) v.1 (fd.2 ⟨v,w,rfl⟩) j hj
    .rename_i h0;rw[eN]at w;subst w;exact key x Q h0 j hj
  .exact G (i+1+Z k.flat) K (λn hn=>B n (by simp[TF.flat,hn])) y o
theorem jY{g:AD}{c:Nat}(u:TF):∀{o:List Symbol},u.fit g o->(∀s∈o,NN g c s=J/\Ez g s=J)->B4 g=0->(∀n∈u.flat,Vy g c n)->∀n∈u.flat,n.prod<0->∃k:Nat,n.token=k/\∃F:k<Z g.AU,Ct g.AU[k].cond c=J/\g.AU[k].cls=0:=by
 induction u with
 |nil=>intro o _ _ _ _ n hn;exact absurd hn (by simp[TF.flat])
 |leaf k s r x z=>
  intro o A i t v n hn w;obtain⟨k1,k2,H,rfl,B⟩:=A;rw[TF.flat,ge]at hn;rcases hn with rfl|hn
  .obtain⟨h,K⟩:=i ⟨J,k⟩ (by simp);obtain⟨m,rfl⟩:∃m:Nat,k=m:=⟨k.toNat,by omega⟩;have C:m<Z g.AU:=by omega
   exact⟨m,rfl,C,by simpa[NN,List.getD,C]using h,by simpa[Ez,C]using K⟩
  .exact z B (λs j=>i s (by simp[j])) t (λn hn=>v n (by simp[TF.flat,hn])) n hn w
 |node p k x E z=>
  intro o A i t v n hn w;obtain⟨q,k1,F,H,rfl,B⟩:=A;rw[TF.flat,ge,gc]at hn;rcases hn with rfl|hn|hn
  .exact absurd w (by simp[ES])
  .have h1:=(v (ES p) (by simp[TF.flat])).2.2.2 p rfl;unfold Bg at h1;rw[k1]at h1;simp only[b9,de]at h1;have G:=(((JS _ _).1 (Bt t).2.2.2.2.1).1 q (pu k1)).1;simp only[EW,b9,de]at G;exact E F (λs i=>⟨h1.1 s i,G.2 s i⟩) t (λn hn=>v n (by simp[TF.flat,hn])) n hn w
  .exact z B (λs j=>i s (by simp[j])) t (λn hn=>v n (by simp[TF.flat,hn])) n hn w
theorem VG.IA{g:AD}{kn:Bool}(h:VG g kn)(P:Token->Bool)(i:∀t,P (NH t)=P t)(j:DQ.all P=J):∀t∈g.AU,P t=true:=λt k=>by
 have h1:NH t∈DQ:=by rw[<-h.tk];exact fd.2 ⟨t,k,rfl⟩
 rw[<-i];exact de.1 j _ h1
def xk(t:Token):Bool:=(decide (t.cls≠0)||decide (t.literal=⟨#[]⟩)||HV t t.literal)&&(decide (t.cls≠0)||!decide (t.literal=⟨#[]⟩)||(HV t t.Cy&&wU.all (HV t)))
theorem sL:DQ.all xk=true:=by decide+kernel
def xc(t:Token):Bool:=decide (t.cls≠2)||T9.all (HV t)
theorem si:DQ.all xc=true:=by decide+kernel
def wJ(h:AD)(c:Nat)(n:A1):Prop:=∃k:Nat,n.token=k/\∃g:k<Z h.AU,Ct h.AU[k].cond c=J/\HV h.AU[k] n.text=J
noncomputable def wB(c:Nat)(s:ByteArray)(t:Token):Bool:=decide (t.cls=2)&&(Ct t.cond c&&HV t s)
noncomputable def KU(h:AD)(c:Nat)(s:ByteArray):Bool:=decide (s=⟨#[]⟩)||!h.AU.any (wB c s)
theorem gi{g:AD}{kn:Bool}(o:VG g kn){c:Nat}{s:ByteArray}(h:s∈T9/\Mj g c s=J):KU g c s=false:=by
 obtain⟨h1,j⟩:=h;unfold Mj at j;rw[Hs]at j;obtain⟨t,k,i⟩:=j;simp only[Ma,b9,cR]at i;have m:=o.IA xc (λ_=>rfl) si t k;simp only[xc,pw,cR,de]at m;have q:=m.resolve_left (λh=>h i.1) s h1;simp only[KU,abt,UV,ab6,Hs];exact⟨i.2.2.1,t,k,by simp[wB,i.1,i.2.1,q]⟩
theorem oY{g:AD}{kn:Bool}(m:VG g kn){c:Nat}{n:A1}(h:Vy g c n)(o:n.prod<0)(q:∃k:Nat,n.token=k/\∃u:k<Z g.AU,Ct g.AU[k].cond c=J/\g.AU[k].cls=0):wJ g c n:=by
 obtain⟨k,k1,k2,k3,k4⟩:=q;obtain⟨t,t1,t2⟩:=h.2.2.1 o;rw[k1,jw,dl k2,i9]at t1;refine⟨k,k1,k2,k3,?_⟩;have j:=m.IA xk (λ_=>rfl) sL g.AU[k] (cF k2);rw[t1]at j k4⊢;simp only[xk,b9,pw,cR,rx,UV,de]at j;obtain⟨a,b⟩:=j;rcases t2 with⟨e,i⟩|⟨i,s⟩|⟨i,e⟩
 .rw[e];exact(a.resolve_left (λh=>h.elim (λh=>h k4) i))
 .exact(b.resolve_left (λh=>h.elim (λh=>h k4) (λh=>h i))).2 _ s
 .rw[e];exact(b.resolve_left (λh=>h.elim (λh=>h k4) (λh=>h i))).1
theorem dP{g:AD}(h:B4 g=0)(hn:Z g.conds<=12){p q:AM}(j:p∈g.AE)(k:q∈g.AE)(c:Nat):Ct (Dn and p.cond q.cond).1 c=(Ct p.cond c&&Ct q.cond c):=by
 obtain⟨m,op⟩:=FL (HZ h j);obtain⟨o,i⟩:=FL (HZ h k);obtain⟨e,ok⟩:=KV hn (EB m) (EB o) op i;rw[e];unfold Ct;show(tr (Ch (Ij (tr p.cond) (tr q.cond)))).B9 _=_
 rw[Sk ok.G9];exact(Eo GZ hn op i).2.1 _
theorem Ys{g h:AD}(H:∀(p:Nat) q,g.AE[p]?=some q->∃i,h.AE[p]?=some i/\i.cond=q.cond)(c:Nat):bG g h [] c:=
 ⟨λr j=>by simp at j,λp q k m _ _ o=>by obtain⟨i,s,t⟩:=H p q m;rw[Fx s,t];exact o⟩
theorem TZ{α:Type}(l m:List α)(k:Nat)(a:α)(h:k<Z l):((l++m).set k a)[k]?=some a/\(∀p,p<Z l->p≠k->((l++m).set k a)[p]?=l[p]?)/\∀j,((l++m).set k a)[Z l+j]?=m[j]?:=by
 refine⟨?_,λp g i=>?_,λj=>?_⟩
 .rw[abf (by simp;omega)]
 .rw[sn (by omega),i5 g]
 .rw[sn (by omega),vp (by omega)];congr 1;omega
theorem YP{g:AD}{x:AR}:∀{l:List Int} {k:Nat} {r:Rewrite},r∈H7 g x k l->∃(j:Nat) (i:Int),l[j]?=some i/\r=Ph g x (k+j) i
 |[],_,_,h=>by cases h
 |i::l,k,r,h=>by
  rcases ge.1 h with rfl|h
  .exact⟨0,i,rfl,rfl⟩
  .obtain⟨j,i,h1,m⟩:=YP h;exact⟨j+1,i,h1,by rw[m,q7,acS 1]⟩
theorem UM{g:AD}{x:AR}:∀{l:List Int} {i:Int} (k:Nat),i∈l->∃n,Ph g x n i∈H7 g x k l
 |[],_,_,h=>by cases h
 |j::l,i,k,h=>by
  rcases ge.1 h with rfl|h
  .exact⟨k,by simp[H7]⟩
  .obtain⟨n,hn⟩:=UM (g:=g) (x:=x) (k+1) h;exact⟨n,by simp[H7,hn]⟩
theorem gw{g:AD}{x:AR}:∀{l:List Int} {k:Nat} {r:Rewrite},r∈Tq g x k l->∃(j:Nat) (i:Int),l[j]?=some i/\r=lE g x (k+j) i
 |[],_,_,h=>by cases h
 |i::l,k,r,h=>by
  rcases ge.1 h with rfl|h
  .exact⟨0,i,rfl,rfl⟩
  .obtain⟨j,i,h1,m⟩:=gw h;exact⟨j+1,i,h1,by rw[m,q7,acS 1]⟩
theorem o7{g:AD}{c:Nat}{q:AM}{n:Int}(i:g.AE[c]?=some q)(h:n=q.left):(c:Int)∈mB g n:=by
 unfold mB HB;refine fd.2 ⟨c,tg.2 ⟨th.2 (er.1 i).1,?_⟩,rfl⟩;simp[List.getD,i,h]
theorem Kq{g:AD}{x:AR}(h:CW g x=J):∃j:Nat,x.number=j/\g.AE[j]?=some (BI g x):=by
 simp only[CW,b9,cR]at h;refine⟨x.number.toNat,by omega,?_⟩;unfold BI;have:x.number.toNat<Z g.AE:=by omega
 simp[List.getD,this]
theorem KO{x:Bo}{p:Int}{j:Nat}(h:x=Bd p)(hj:x.prod=j):p=j:=by subst h;exact hj
theorem jL{g:AD}{x:AR}(B:Hv g x=J)(c:Nat):bG g (I8 g x) (foldM g x) c:=by
 obtain⟨j,hj,o⟩:=Kq (Ha B).1;have u:=(er.1 o).1;obtain⟨w,C,E⟩:=TZ g.AE [Ms g x] j {BI g x with right:=MR g x} u;have e:(I8 g x).AE=(g.AE++[Ms g x]).set j {BI g x with right:=MR g x}:=by unfold I8;rw[hj,jw]
 refine⟨λr z p q F s t _ y G hn k A=>?_,λp q k s _ hn t=>?_⟩
 .simp only[foldM,eN]at z;subst z;have i:p=j:=by have:x.number=p:=F;omega
  subst i;rw[s,i9]at o;subst o;have m:y∈KW g x:=G;unfold KW at m;simp only[gc,eN]at m;rcases m with((h|h)|h)|h
  .have:=KO h A;have v:k=p:=by omega
   rw[Fx (by rw[e,v];exact w)];exact t
  .exact absurd (FI y h) hn
  .have:=KO h A;have v:k=Z g.AE+0:=by omega
   rw[Fx (by rw[e,v,E];rfl)];exact t
  .exact absurd (FI y h) hn
 .by_cases i:p=j
  .subst i;rw[s,i9]at o;subst o;rw[Fx (by rw[e];exact w)];exact t
  .rw[Fx (by rw[e,C p (er.1 s).1 i];exact s)];exact t
theorem aZ{g:AD}{x:AR}(K:Ci g x=J)(c:Nat):bG g (mE g x) (Tq g x (Z g.AE) (By g x)) c:=by
 obtain⟨w,a,ha,L,_⟩:=C6 K;obtain⟨j,hj,s⟩:=Kq w;have z:=(er.1 s).1;obtain⟨F,M,N⟩:=TZ g.AE ((By g x).map (aT g x)) j {BI g x with right:=wK g x} z;have e:(mE g x).AE=(g.AE++(By g x).map (aT g x)).set j {BI g x with right:=wK g x}:=by unfold mE;rw[hj,jw]
 refine⟨λr P p q Q t v A y R hn k G=>?_,λp q k t _ hn v=>?_⟩
 .obtain⟨l,i,H,rfl⟩:=gw P;have m:p=j:=by have:x.number=p:=Q;omega
  subst m;rw[t,i9]at s;subst s;have hi:=FF (pu H);obtain⟨d,S⟩:∃d:Nat,i=d:=⟨i.toNat,by omega⟩;subst S;obtain⟨B,u⟩:∃B,g.AE[d]?=some B:=⟨_,dl (by omega)⟩;have C:=A d B (show 0<=x.at_ by omega) rfl u;have o:y∈bh g x (Z g.AE+l) d:=R;unfold bh at o;simp only[gc,eN]at o;rcases o with((h|h)|h)|h
  .have:=KO h G;have E:k=p:=by omega
   rw[Fx (by rw[e,E];exact F)];exact v
  .exact absurd (FI y h) hn
  .have:=KO h G;have E:k=Z g.AE+l:=by omega
   rw[Fx (by rw[e,E,N,L1,H];rfl)];show Ct (Bm g d).cond c=J
   rw[F3 u];exact C
  .exact absurd (FI y h) hn
 .by_cases m:p=j
  .subst m;rw[t,i9]at s;subst s;rw[Fx (by rw[e];exact F)];exact v
  .rw[Fx (by rw[e,M p (er.1 t).1 m];exact t)];exact v
theorem pB{g:AD}(M:B4 g=0)(v:Z g.conds<=12){x:AR}(N:Ci g x=J)(c:Nat):bG g (Sy g x) (H7 g x (Z g.AE) (By g x)) c:=by
 obtain⟨w,a,ha,z,A,B⟩:=C6 N;obtain⟨j,hj,t⟩:=Kq w;have C:=(er.1 t).1;obtain⟨s1,P,Q⟩:=TZ g.AE ((By g x).map (IZ g x)) j {BI g x with cond:=⟨[],0⟩} C;have e:(Sy g x).AE=(g.AE++(By g x).map (IZ g x)).set j {BI g x with cond:=⟨[],0⟩}:=by unfold Sy;rw[hj,jw]
 refine⟨λr R p q S s E F y T hn k U=>?_,λp q k s G hn E=>?_⟩
 .obtain⟨l,i,L,rfl⟩:=YP R;have m:p=j:=by have:x.number=p:=S;omega
  subst m;rw[s,i9]at t;have hi:=FF (pu L);obtain⟨d,W⟩:∃d:Nat,i=d:=⟨i.toNat,by omega⟩;subst W;obtain⟨u,o⟩:∃u,g.AE[d]?=some u:=⟨_,dl (by omega)⟩;have H:=F d u (show 0<=x.at_ by omega) rfl o;have K:y∈Bd (Z g.AE+l:Nat)::A5 0 (Z (Lu g x d)):=T;rcases ge.1 K with h|h
  .have:=KO h U;have X:k=Z g.AE+l:=by omega
   rw[Fx (by rw[e,X,Q,L1,L];rfl)];show Ct (Dn and (BI g x).cond (Bm g d).cond).1 c=J
   rw[F3 o,<-t,dP M v (pu s) (pu o),E,H];rfl
  .exact absurd (FI y h) hn
 .by_cases m:p=j
  .subst m;rw[s,i9]at t;obtain⟨d,u,d1,d2,d3⟩:=TF.UG k G a (Ji g x) (by rw[t,dl z,A]) B;obtain⟨n,Y⟩:=UM (g:=g) (x:=x) (Z g.AE) (o7 d2 d3);exact absurd hn (Sf Y (by
    simp only[Dg,b9,pw,cR];refine⟨hj,.inr ?_⟩;show k.roots.getD x.at_.toNat (-2)=(d:Int)
    rw[ha,jw,ll,d1];rfl))
  .rw[Fx (by rw[e,P p (er.1 s).1 m];exact s)];exact E
def MA(k:Int):Bool:=(decide (1<=k)&&decide (k<=4))||(decide (7<=k)&&decide (k<=9))
structure pR(g h:AD)(m:List Rewrite):Prop where
 AU:h.AU=g.AU
 fam:h.fam=g.fam
 cn:Z g.conds<=Z h.conds
 cd:∀c,bG g h m c
structure yO(g h:AD)(m:List Rewrite)(x:AR):Prop where
 kg:okF g
 kh:okF h
 mp:R5 g h m=0
 c2:Z h.conds<=12
 tc:VV g m
 sz:∀r∈m,E7 r.Ah<=2
 nl:x.kind≠14->∀r∈m,∀y∈r.Ah,¬0<=y.hole->0<=y.prod
 kp:MA x.kind=J->pR g h m
def O9(g:AD)(x:AR):Prop:=∃(h:AD) (m:List Rewrite) (e:Int),Pure prog 7 [AA g,AK x] (.CA [AA h,BA m,AF e])/\(e≠0\/(e=0/\yO g h m x))
theorem O9.of{g h:AD}{x:AR}{u fit:Bool}{ae:Int}{i:List Rewrite}{k:Bool}(m:Pure prog 7 [AA g,AK x] (D7 (Fy g (LR g u fit ae h i k))))(s:okF g->fit=J->ae=0->Z h.conds<=12)
  (t:okF g->fit=J->ae=0->VV g i/\(∀r∈i,E7 r.Ah<=2)/\(x.kind≠14->∀r∈i,∀y∈r.Ah,¬0<=y.hole->0<=y.prod)) (v:okF g->fit=J->ae=0->MA x.kind=J->pR g h i):O9 g x:=by
 rcases VW g h u fit ae i k with⟨h1,_,_⟩|⟨h1,j,w,z,_,o,q,_⟩
 .generalize Fy g (LR g u fit ae h i k)=r at *;obtain⟨a,b,c⟩:=r;exact⟨a,b,c,m,.inl h1⟩
 .rw[h1]at m;obtain⟨l1,l2,A⟩:=t j o q;exact⟨h,i,0,m,.inr ⟨rfl,j,w,z,s j o q,l1,l2,A,v j o q⟩⟩
theorem O9.kN{g h:AD}{x:AR}{u fit:Bool}{ae:Int}{i:Bool}(j:Pure prog 7 [AA g,AK x] (D7 (Fy g (LR g u fit ae h [] i))))(k:Z h.conds<=12)(m:fit=J->MA x.kind=J->pR g h []):O9 g x:=
 O9.of j (λ_ _ _=>k) (λ_ _ _=>⟨(TL g).tc,(TL g).sz,λ_=>(TL g).nl⟩) λ_ o _=>m o
theorem Tx{g h:AD}(h1:h.AU=g.AU)(i:h.fam=g.fam)(j:Z g.conds<=Z h.conds)(k:h.AE=g.AE):pR g h []:=
 ⟨h1,i,j,Ys λp q m=>⟨q,by rw[k];exact m,rfl⟩⟩
theorem nE(g:AD)(x:AR)(Q:1<=x.kind/\x.kind<=14)(E:Z g.conds<=11)(t:∀p∈g.AE,p.name.size<=2 ^ 20)(F:Z x.Ah<=2 ^ 30)
  (G:x.kind=14->G5 x.Ah 0 (Z (BI g x).right)/\E7 x.Ah<=2):O9 g x:=by
 have i:Z g.conds<=12:=by omega
 have H:x.kind=1\/x.kind=2\/x.kind=3\/x.kind=4\/x.kind=5\/x.kind=6\/x.kind=7\/x.kind=8\/x.kind=9\/x.kind=10\/x.kind=11\/x.kind=12\/x.kind=13\/x.kind=14:=by omega
 have no:∀{k:Int} {m:List Rewrite} {h:AD},MA k=false->MA k=J->pR g h m:=λa b=>by rw[a]at b;cases b
 rcases H with h|h|h|h|h|h|h|h|h|h|h|h|h|h
 .exact O9.kN (wx g x h i) i λ_ _=>Tx rfl rfl (ci _) rfl
 .refine O9.kN (x8 g x h i) i λo _=>⟨rfl,rfl,ci _,Ys λp q C=>?_⟩;obtain⟨j,hj,K⟩:=Kq o;have L:=(er.1 K).1;show ∃N,(g.AE.set x.number.toNat {BI g x with name:=x.name})[p]?=some N/\N.cond=q.cond
  rw[hj,jw];by_cases u:j=p
  .subst u;rw[C,i9]at K;exact⟨_,abf L,by rw[K]⟩
  .exact⟨q,by rw[sn u];exact C,rfl⟩
 .exact O9.kN (wX g x h i) (by simpa using i) λ_ _=>Tx rfl rfl (by simp) rfl
 .exact O9.kN (xw g x h E) (by simp;omega) λ_ _=>Tx rfl rfl (by simp) rfl
 .exact O9.kN (yF g x h i) i λ_=>no (by rw[h];rfl)
 .exact O9.kN (xb g x h i) i λ_=>no (by rw[h];rfl)
 .cases s:U7 g x with
  |true=>
   have v:=mg g x h i t;rw[s]at v;exact O9.of v (λ_ _ h0=>by cases h0) (λ_ _ h0=>by cases h0) λ_ _ h0=>by cases h0
  |false=>
   have v:=mg g x h i t;rw[s]at v;exact O9.of v (λ_ _ _=>i) (λ_ o _=>⟨(Tb o _).tc,(Tb o _).sz,λ_=>(Tb o _).nl⟩) λkg o _ _=>⟨rfl,rfl,ci _,pB kg.1 i o⟩
 .cases s:Di g x.number with
  |true=>
   have w:=rS g x h i;rw[s]at w;exact O9.of w (λ_ _ h0=>by cases h0) (λ_ _ h0=>by cases h0) λ_ _ h0=>by cases h0
  |false=>
   have w:=rS g x h i;rw[s]at w;exact O9.of w (λ_ _ _=>i) (λ_ o _=>⟨(Pv o).tc,(Pv o).sz,λ_=>(Pv o).nl⟩) λkg o _ _=>⟨rfl,rfl,ci _,jL o⟩
 .cases s:U9 g x with
  |true=>
   have z:=rN g x h i t;rw[s]at z;exact O9.of z (λ_ _ h0=>by cases h0) (λ_ _ h0=>by cases h0) λ_ _ h0=>by cases h0
  |false=>
   have z:=rN g x h i t;rw[s]at z;exact O9.of z (λ_ _ _=>i) (λ_ o _=>⟨(NK o _).tc,(NK o _).sz,λ_=>(NK o _).nl⟩) λkg o _ _=>⟨rfl,rfl,ci _,aZ o⟩
 .exact O9.kN (vC g x h i) i λ_=>no (by rw[h];rfl)
 .exact O9.kN (uk g x h i) i λ_=>no (by rw[h];rfl)
 .exact O9.kN (vm g x h i) i λ_=>no (by rw[h];rfl)
 .exact O9.kN (vN g x h i) i λ_=>no (by rw[h];rfl)
 .obtain⟨A,M⟩:=G h;refine O9.of (u7 g x h i F) (λ_ _ _=>i) (λ_ o _=>⟨λr B p q P C=>?_,λr B=>?_,λh0=>absurd h h0⟩) λ_ _ _=>no (by rw[h];rfl)
  .simp only[RB,eN]at B;subst B;refine⟨λ_=>?_,λb hb=>?_⟩
   .rw[O3 (show x.number=p from P) C]at A;exact A
   .have:(-1:Int)=b:=hb;omega
  .simp only[RB,eN]at B;subst B;exact M
theorem l9{g h:AD}{m:List Rewrite}(o:R5 g h m=0):∀r∈m,kJ g r:=λr s=>by
 obtain⟨k1,k2,k3⟩:=qQ o s;exact⟨by unfold maxLen;omega,λp q i j=>(k3 p q i j).1,λp q i j=>(k3 p q i j).2.1,k2,λp q c t i j h0 u k=>(k3 p q i j).2.2 c t h0 u k⟩
theorem lS{g h:AD}{m:List Rewrite}{x:AR}(F:yO g h m x)(i:Z g.conds<=12)(t:Term)(u:TF)(l:Int)(w:t.nodes=u.flat)(k:u.fit g [⟨false,l⟩])(z:Z u.flat<=100)
  (o:∀n∈u.flat,Z n.rem<=12) (q:Z t.tail<=12):
  ∃(N:List A1) (v:TF),Pure prog 8 [AA g,AA h,BA m,Af t] (.CA [Af ⟨N,t.tail⟩,AF 0])/\N=v.flat/\v.fit h [⟨false,l⟩]/\Z N<=200/\(x.kind≠14->H4 t.nodes=H4 N)/\(MA x.kind=J->∀c,(∀n∈u.flat,∀p:Nat,n.prod=p->kM g c p=J)->∀n∈N,∀j:Nat,n.prod=j->kM h c j=J):=by
 obtain⟨M,Y,v,h1,A,C,E,L,G,H⟩:=lp F.mp F.tc (B:=2) (by omega) F.sz k;refine⟨JZ M,v,qo g h m t u l F.kg.1 i F.c2 F.mp w k (by omega) o q (l9 F.mp) h1 (by omega) G E,A.symm,C,by simp only[JZ,oj];omega,λs=>by rw[w];exact(H (F.nl s)).symm,λs c K=>?_⟩;exact(iW ((F.kp s).cd c) u 0 k K (M,Y) (by rw[h1];exact eN.2 rfl)).1
theorem iN{g h:AD}{m:List Rewrite}(K:pR g h m){c:Nat}(hb:hasB g c=J):hasB h c=true:=by
 simp only[hasB,b9,cR]at hb⊢;rw[K.fam];exact⟨EQ hb.1 (abq (by omega) K.cn),hb.2⟩
theorem XV{g h:AD}{m:List Rewrite}(K:pR g h m){kn:Bool}(t:VG g kn)(v:B4 g=0){c:Nat}{u:TF}{N:List A1}(w:u.fit g [⟨false,g.start⟩])(i:∀n∈u.flat,Vy g c n)(z:H4 u.flat=H4 N):
  ∀n∈N,n.prod<0->wJ h c n/\∀s∈n.rem,KU h c s=false:=λn hn j=>by
 have h1:n∈H4 u.flat:=by rw[z];exact tg.2 ⟨hn,by simpa using j⟩
 have k:n∈u.flat:=(tg.1 h1).1;have o:Ez g ⟨false,g.start⟩=true:=by
  have h:=(Bt v).2.2.2.1;simp only[IF,b9,cR]at h;simp[Ez,h.1.2,h.2]
 have A:=oY t (i n k) j (jY u w (λs q=>by rw[eN.1 q];exact⟨rfl,o⟩) v i n k j);have B:∀s,KU h c s=KU g c s:=λs=>by unfold KU;rw[K.AU]
 refine⟨?_,λs o=>?_⟩
 .unfold wJ at *;rw[K.AU];exact A
 .rw[B];exact gi t ((i n k).2.1 s o)
theorem Zc{g h:AD}{m:List Rewrite}(K:pR g h m){kn:Bool}(i:VG g kn){c:Nat}{s:ByteArray}(j:s∈T9/\Mj g c s=J):KU h c s=false:=by
 have k:KU h c s=KU g c s:=by unfold KU;rw[K.AU]
 rw[k];exact gi i j
theorem eT{g:AD}{c:Nat}{n:A1}(h:Vy g c n):∀p:Nat,n.prod=p->kM g c p=true:=λp j=>by
 have h1:=h.2.2.2 p j;unfold Bg at h1;unfold kM;cases i:g.AE[p]? with
 |none=>rw[i]at h1;cases h1
 |some q=>
  rw[i]at h1;simp only[b9]at h1;exact h1.2
theorem jg:Tt 127 AV/\Tt 129 BG:=by
 refine⟨λe q m p k g w z=>j0 func127 (by kernel_rfl) rfl (by simp) λwf _=>?_,λe q m p k g w z=>j0 func129 (by kernel_rfl) rfl (by simp) λwf _=>?_⟩;all_goals
  simp only[ntmps127,ntmps129]
  have A:Z m<=maxLen:=by have:=wf.1;simp only[K0,Da]at this;simpa using this.1
  apply yW;simp
  refine xS (yW ?_);simp
  apply Bp
  refine FH (Z m) (λi tm S=>tm 0=.d (.sl (m.map e))/\tm 1=.fn (.func k) [] g/\tm 8=.d (AF i)/\tm 7=.d (AF (Z m))/\S=w/\∀j (_:j<i) (h:j<Z m),p m[j]=false) (ed _) (by simp) ?_
  rintro i tm S hi ⟨t0,t1,t8,t7,rfl,s⟩
  apply yW;simp[t8,t7]
  apply xC;simp
  refine⟨λo=>?_,λB=>?_⟩
  .apply xK
   apply xB
   apply yW;simp[t8]
   apply yS
   apply yJ;simp[t0,t1,o,q]
   refine ms (v:=.d (.bool (p m[i]))) rfl rfl (by simp) (f:=k) (args:=.d (e m[i])::g) (by simp;try(subst q;rfl)) (by simp) (z _ (cF o)) ?_;simp
   apply CO
   apply AQ;simp
   refine⟨λt=>?_,λt=>?_⟩
   .apply yW;simp
    apply Am;refine⟨_,ap,?_⟩;simp[At]
    exact .inl (EP o t λj hj=>s j hj (by omega)).symm
   .apply B8
    apply yV;simp[t8]
    refine⟨o,_,_,ap,?_⟩
    simp[t0,t1,t7,AL o A]
    intro j hj u
    by_cases e:j=i
    .subst e;exact t
    .exact s j (by omega) u
  .apply Co
   apply yW;simp
   apply Am;refine⟨_,ap,?_⟩;simp[At]
   exact .inl (firstIdx_none λj hj=>s j (by omega) hj).symm
theorem eG:Jl 39 AV/\Jl 43 BG:=by
 refine⟨λh p k g i j=>(λhi=>j0 func39 (by kernel_rfl) rfl (by simp) λwf _=>?_) (jg.1 _ rfl h p k g i j),λh p k g i j=>(λhi=>j0 func43 (by kernel_rfl) rfl (by simp) λwf _=>?_) (jg.2 _ rfl h p k g i j)⟩;all_goals
  simp only[ntmps39,ntmps43]
  apply yW;simp
  (repeat apply xS);apply yT
  apply yJ;simp
  refine ms rfl rfl (by simp) (by simp[callee]) (by simp) hi (yJ ?_);simp
  apply Am;refine⟨_,ap,?_⟩;simp[At]
  have:=Ft p h
  simp at this
  simp[this]
theorem LV:Jl 39 AV:=eG.1
theorem Nq:Jl 43 BG:=eG.2
theorem Um{h:AD}(g:B4 h=0){t:Token}(i:t∈h.AU):Cp t.cond (Z h.conds)=true:=by
 have k3:=(Bt g).2.2.1;simp only[FC,b9,de]at k3;have:=k3.2 t i;simp only[Hu,b9]at this;exact this.1.2
theorem gg{g:AD}(u:TF):∀{h:List Symbol},u.fit g h->∀n∈u.flat,Ux g n:=by
 induction u with
 |nil=>intro h _ n hn;exact absurd hn (by simp[TF.flat])
 |leaf k s r x i=>
  intro h j n hn;obtain⟨k1,k2,t,rfl,m⟩:=j;rw[TF.flat,ge]at hn;rcases hn with rfl|hn
  .exact Vt k1 k2
  .exact i m n hn
 |node p k x o i=>
  intro h j n hn;obtain⟨q,k1,v,t,rfl,m⟩:=j;rw[TF.flat,ge,gc]at hn;rcases hn with rfl|hn|hn
  .exact XN (er.1 k1).1
  .exact o v n hn
  .exact i m n hn
def oP(h:AD)(c:Nat):Sg:=[.row J 9 [.d (AA h)],.row J 1 [.d (EH c)]]
theorem lY(h:AD)(c:Nat)(o:c<2 ^ 64)(s:ByteArray)(t:Token){n:Nat}(k:Cp t.cond n=J):AH prog 40 [.d (AV t),.ptr 1 1 0 0,.ptr 2 1 0 0] (oP h c++[.row J 1 [.d (BG s)]]) (.d (.bool (wB c s t))) (oP h c++[.row J 1 [.d (BG s)]]):=by
 have j:=JN k c o;have m:=NS t s;have g:=AV.eq_1 t;have q:AB t.cond=.agg [AX t.cond.nodes,AF t.cond.root]:=rfl;rw[q]at j;unfold wB oP;refine zC func40 19 rfl λwf _=>?_;(repeat apply xS);apply yV;simp;by_cases i:t.cls=2
 .cases hb:Ct t.cond c with
  |true=>
   rw[hb]at j;(repeat apply xS);apply yT;apply yH;simp[g,i];refine nc (j) rfl rfl (by simp[xN];try rfl) ?_;simp;apply yH;simp;refine nc (m) rfl rfl (by simp[g,i,xN];try rfl) ?_;simp;apply yH;simp;apply Am;refine⟨_,ea 3 (by simp) (by simp) (by simp) (by simp),?_⟩;simp[At,clean,AP,i]
  |false=>
   rw[hb]at j;(repeat apply xS);apply yT;apply yH;simp[g,i];refine nc (j) rfl rfl (by simp[xN];try rfl) ?_;simp;apply yH;simp;apply Am;refine⟨_,ea 3 (by simp) (by simp) (by simp) (by simp),?_⟩;simp[At,clean,AP,i]
 ·(repeat apply xS);apply yT;(repeat((first|refine FD rfl ?_ ?_;(·simp[i])|refine Ov rfl ?_ ?_;(·simp[g,i])|refine Cg ?_ ?_;(·simp[g,i]));simp[g]));apply CO;apply Am;refine⟨_,ea 3 (by simp) (by simp) (by simp) (by simp),?_⟩;simp[At,clean,AP,i]
theorem rM(h:AD)(k:B4 h=0)(c:Nat)(m:c<2 ^ 64)(s:ByteArray):AH prog 38 [.d (BG s),.ptr 0 1 0 0,.ptr 1 1 0 0] (oP h c) (.d (.bool (KU h c s))) (oP h c):=by
 have j:ByteArray.empty=(⟨#[]⟩:ByteArray):=rfl;have i:=LV h.AU (wB c s) 40 [.ptr 1 1 0 0,.ptr 2 1 0 0] (oP h c++[.row J 1 [.d (BG s)]]) λt o=>lY h c m s t (Um k o);unfold KU;unfold oP at *;refine zC func38 14 rfl λwf _=>?_;(repeat apply xS);apply yV;simp;by_cases g:s=⟨#[]⟩
 ·(repeat apply xS);apply yT;apply yH;simp[g];apply Am;refine⟨_,ea 2 (by simp[AA]) (by simp) (by simp) (by simp),?_⟩;simp[At,clean,AP,g]
 ·(repeat apply xS);apply yT;apply yH;simp[g,AA];refine AY.LQ (i) [0,1,2] rfl rfl (by simp[AA];try rfl) ?_;simp[AA];apply yH;simp;apply Am;refine⟨_,ea 2 (by simp) (by simp) (by simp) (by simp),?_⟩;simp[At,clean,AP,g]
theorem SZ(h:AD)(o:okF h)(hn:Z h.conds<=12)(c:Nat)(U:c<2 ^ 64)(hb:hasB h c=J)(l:Nat)(hl:l<Z h.Ay)(t:Term)(u:TF)(E:t.nodes=u.flat)(G:u.fit h [⟨false,l⟩])(hlen:Z t.nodes<=1000)
  (X:∀s∈t.tail,KU h c s=false) (zG:∀n∈t.nodes,∀j:Nat,n.prod=j->kM h c j=J) (Y:∀n∈t.nodes,n.prod<0->wJ h c n/\∀s∈n.rem,KU h c s=false):
  Pure prog 10 [AA h,EH c,AF l,Af t] (AF 0):=by
 have hm:=ZR h o hn c U;rw[hb,b8 rfl]at hm;have H:=OB h o.1 t u l E G (by rw[<-E];omega);obtain⟨p0,W,h0,e0,e1,e2⟩:∃(p0:Nat) (W:AM),∃h0:0<Z t.nodes,t.nodes[0].prod=p0/\h.AE[p0]?=some W/\W.left=l:=by
  cases u with
  |nil=>simp[TF.fit]at G
  |leaf k s r x=>obtain⟨_,_,ts,h,_⟩:=G;cases h
  |node p k x=>
   obtain⟨q,K,_,ts,e,_⟩:=G;simp only[ab0,Symbol.mk.injEq,true_and]at e;exact⟨p,q,by rw[E];simp[TF.flat],by simp[E,TF.flat,ES],K,e.1.symm⟩
 obtain⟨A,hA⟩:=ce (u.ends 0);have L:A≠[]:=λe=>by
  have:=u.I0 0;rw[hA,e,<-E]at this;simp at this;omega
 rw[hA]at H;obtain⟨hp0,hq0⟩:=er.1 e1;obtain⟨n0,zI⟩:=ce (t.nodes[0]);rw[zI]at e0;have M:=Ax.eq_1 n0;have N:=AG.eq_1 W;have g:=Af.eq_1 t;have w:=AA.eq_1 h;have zr:=λxs=>Nq xs (KU h c) 38 [.ptr 0 1 0 0,.ptr 1 1 0 0] (oP h c) λs _=>rM h o.1 c U s;have zO:=zr t.tail;have hz1:t.tail.any (KU h c)=false:=E2.2 λs hs=>by rw[X s hs];simp
 rw[hz1]at zO;have l1:¬(l:Int)<0:=by omega
 have l2:¬(Z h.Ay:Int)<=l:=by omega
 have P:¬Z h.Ay<=l:=by omega
 have l3:¬(2000000:Int)<Z t.nodes:=by omega
 have Q:¬2000000<Z t.nodes:=by omega
 have a1:Z t.nodes<=maxLen:=by unfold maxLen;omega
 unfold oP at zr zO;refine zP func10 101 rfl λwf=>?_;apply yW;simp;refine xS (yS ?_);apply yJ;simp;refine Bz (hm) rfl (by simp[xN]) (yJ ?_);simp;apply yW;simp;apply AQ;simp;apply xK;refine xS (yS ?_);apply yH;simp[l1,l2,w];apply AQ;simp;apply xK;refine xS (yW ?_);simp[g,l3];apply AQ;simp;apply xK;apply xS;refine yD (A3 18 []) (by kernel_rfl) ?_;simp;(iterate 2 (refine H3 (by simp) ?_;simp));refine kt (H) rfl (by simp[g,xN]) ?_;simp;refine Ad.nG (A.map AF) rfl (by simp) (by simpa using L) ?_;simp;apply yZ;simp[h0,zI,M,e0,hp0,hq0,N,e2];apply AQ;simp;apply xK;apply yW;simp;refine xS (yS ?_);apply yJ;simp;refine AY.Ei (zO) [0,1] rfl (by simp;try rfl) (yJ ?_);simp;apply AQ;simp;apply xK;refine xS (yW ?_);simp;apply Bp;refine FH (Z t.nodes) (λi tm S=>tm 4=.ptr 0 1 0 0/\tm 5=.ptr 1 1 0 0/\tm 10=.fn (.func 38) [] [.ptr 0 1 0 0,.ptr 1 1 0 0]/\tm 57=.d (Fh t.nodes)/\tm 58=.d (AF (Z t.nodes))/\tm 59=.d (AF i)/\S=[.row J 9 [.d (AA h)],.row J 1 [.d (EH c)],.row J 2 [.d (Af t)]]) (i0:=0) (ed _) (by simp[w,g]) ?_;rintro i tm S hi ⟨t4,t5,t10,t57,t58,t59,rfl⟩;apply yW;simp[t58,t59];apply xC;simp;refine⟨λF=>?_,λhge2=>?_⟩
 .obtain⟨n,hn⟩:=ce (t.nodes[i]);have B:n∈t.nodes:=hn▸cF F;have z:=Ax.eq_1 n;have zo:=gg u G n (E▸B);apply xK;apply xB;apply yW;simp[t57,t59,F,hn];refine xS (yW ?_);simp;rcases zo with⟨k1,k2,k3⟩|⟨k1,k2⟩
  .obtain⟨⟨k,f1,f2,f3,f4⟩,f5⟩:=Y n B (by omega);have z1:¬(0:Int)<=n.prod:=by omega
   obtain⟨tk,zp⟩:=ce (h.AU[k]);rw[zp]at f3 f4;have m:=AV.eq_1 tk;have v:=JN (Um o.1 (zp▸cF f2)) c U;have hd:AB tk.cond=.agg [AX tk.cond.nodes,AF tk.cond.root]:=rfl;have R:=NS tk n.text;have zB:=zr n.rem;have hz2:n.rem.any (KU h c)=false:=E2.2 λs hs=>by rw[f5 s hs];simp
   rw[hz2]at zB;rw[f3,hd]at v;rw[f4]at R;apply AQ;simp[z1];apply xK;apply yW;simp[t4,w,f1,f2,zp];apply yS;apply yH;simp[t5];refine Bz (v) rfl (by simp) ?_;simp;apply yH;simp;refine nc (R) rfl rfl (by simp[m];try rfl) ?_;simp;apply yH;simp[t10];refine AY.LQ (zB) [0,1] rfl rfl (by simp;try rfl) ?_;simp;apply yH;simp;apply AQ;simp;apply B8;apply yV;simp[t59];refine⟨F,_,_,ea 3 rfl (by simp) (by simp) (by simp[w,g]),?_⟩;simp[clean,AP,t4,t5,t10,t57,t58,AL F a1,w,g]
  .obtain⟨p,hp⟩:∃p:Nat,n.prod=p:=⟨n.prod.toNat,by omega⟩;have C:p<Z h.AE:=by omega
   have T:=zG n B p hp;obtain⟨q,K⟩:=ce (h.AE[p]);rw[Fx (by rw[dl C,K])]at T;have hqe:=AG.eq_1 q;have v:=JN (HZ o.1 (K▸cF C)) c U;have hd:AB q.cond=.agg [AX q.cond.nodes,AF q.cond.root]:=rfl;rw[T,hd]at v;apply AQ;simp[k1];apply xS;refine yD (A3 10 []) (by kernel_rfl) ?_;simp;apply yA 0;simp[t4,t5,w,hp,C,K,hqe];refine kt (v) rfl (by simp) ?_;simp;apply yA 0;simp;apply AQ;simp;apply B8;apply Co;apply yV;simp[t59];refine⟨F,_,_,ea 3 rfl (by simp) (by simp) (by simp[g]),?_⟩;simp[clean,AP,t4,t5,t10,t57,t58,AL F a1,w,g]
 .apply Co;apply yW;simp;apply zT;try simp
theorem gy(k:Int)(h:1<=k/\k<=14):Pure prog 9 [AF k] (.bool (MA k)):=by
 have g:k=1\/k=2\/k=3\/k=4\/k=5\/k=6\/k=7\/k=8\/k=9\/k=10\/k=11\/k=12\/k=13\/k=14:=by omega
 refine zP func9 7 rfl λwf=>?_;apply yW;simp;(repeat apply xS);apply yT;apply yJ;simp;refine xF (PJ) [] rfl ?_;simp;rcases g with rfl|rfl|rfl|rfl|rfl|rfl|rfl|rfl|rfl|rfl|rfl|rfl|rfl|rfl;all_goals
  apply yJ;simp[O8,QY,Cq,DY,BW,B1,B3]
  apply zT;try simp
  first|rfl|decide
end Go.Koi
