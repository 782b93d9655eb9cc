/-
  The law ChangeValid of the package koinelaw31 returns true for every input, and its arguments read afterwards as before; no condition beyond those of the given card.
-/
import Derived.Test.YtlgjmkfbkhfakaaGreatDoorK40
import Derived.Deep.Slices
import Derived.Test.YtlgjmkfbkhfakaaGreatDoorProg
import Derived.Test.YtlgjmkfbkhfakaaGreatDoorCards
import Derived.Test.YtlgjmkfbkhfakaaGreatDoorTie
import Derived.WalkKit
import Derived.ProofKit
import Derived.OpenShut
import Derived.Deep.DeepHandedRow
import Derived.Lib.LaidTab
import Derived.WideKeyArgs
set_option maxHeartbeats 64000000
set_option maxRecDepth 100000
namespace Go.Koi
open Go.Proofs Tryz
abbrev IB(w:World):Nat→Prop:=fun b=>b<w.heap.size
section
variable {H:Type} {enc:TypeId×Value→H} {w:World} {sp:Nat→Bool} {held:Bool}
theorem Jq{w:World}{a:Addr}{v:Value}(h:w.cell? a=some v):a.block<w.heap.size∧a.spot=none:=by
 unfold World.cell? at h;split at h
 ·rename_i c t f hb;refine⟨?_,?_⟩
  ·rcases Nat.lt_or_ge a.block w.heap.size with h1|h1
   ·exact h1
   ·simp[Array.getElem?_eq_none h1]at hb
  ·split at h
   ·cases h
   ·rename_i hs;cases hs':a.spot<;>simp[hs']at hs⊢
 ·cases h
theorem MC(a:Addr)(n:Nat):(a.add n).block=a.block∧(a.add n).off=a.off+n:=by
 unfold Addr.add;split
 ·rename_i h;subst h;simp
 ·simp
theorem XP{w:World}{a:Addr}{i j:Nat}{v:Value}(h:w.cell? ((a.add i).add j)=some v):w.cell? ⟨a.block,a.off+i+j,none⟩=some v:=by
 obtain⟨_,h2⟩:=Jq h;have h3:=MC (a.add i) j;have h4:=MC a i;have:(a.add i).add j=⟨a.block,a.off+i+j,none⟩:=by
  cases hx:(a.add i).add j with
  |mk b o s=>
   rw[hx]at h2 h3;simp only at h2 h3;rw[h2,h3.1,h3.2,h4.1,h4.2]
 rw[←this];exact h
theorem FT{fuel:Nat}{cs:List Value}{x:DataW H×List MemPlace}(h:DataW.trod enc prog w 0 sp held fuel 5 cs=some x):∃n:Nat,cs=[.int .u8 n]∧rng .u8 n=true:=by
 obtain⟨n,rfl,rfl,hw⟩:=DataW.trod_int Tryz.underlying5 h;rw[PT]at hw;have h0:0≤n:=by simp[rng]at hw;omega
 obtain⟨m,rfl⟩:=Int.eq_ofNat_of_zero_le h0;exact⟨m,rfl,hw⟩
instance:Inhabited D:=⟨.bool false⟩
theorem VX{t e sz fuel:Nat}{cs:List Value}{x:DataW H×List MemPlace}(ht:prog.underlying t=some (.slice e))(hc:prog.cellsOf e=sz)(hz:0<sz)(Q:D→Prop)
  (lE:∀n cs x,DataW.trod enc prog w 0 sp held n e cs=some x→∃u v,v.cells.toList=cs∧CD (IB w) w u v∧Q u)
  (h:DataW.trod enc prog w 0 sp held fuel t cs=some x):∃xs v,cs=[v]∧one v=true∧CD (IB w) w (.sl xs) v∧∀u∈xs,Q u:=by
 rcases Go.Deep.open_slice ht h with⟨rfl,_⟩|⟨a,len,cap,m,n,DD,Pl,rfl,_,h1,h2,hm,_,hx⟩
 ·exact⟨[],_,rfl,rfl,.nil _ _,by simp⟩
 ·have mL:len≤m:=by subst hm;split<;>omega
  obtain⟨f,hf⟩:=Go.Deep.choose_lt (α:=D×Value) (n:=len) (p:=fun i p=>p.2.cells.size=sz∧(∀j,j<sz→w.cell? ⟨a.block,a.off+i * sz+j,none⟩=p.2.cells[j]?)∧CD (IB w) w p.1 p.2∧Q p.1) (fun i hi=>by
   obtain⟨cs',e1,e2⟩:=hx i (by omega);obtain⟨u,v,rfl,k1,k2⟩:=lE _ _ _ e2;obtain⟨_,e3,e4⟩:=World.cells?_some e1;rw[hc]at e3 e4;have e5:v.cells.size=sz:=by simpa using e3
   refine⟨(u,v),e5,fun j hj=>?_,k1,k2⟩;have e6:=e4 j hj;have iV:j<v.cells.size:=by omega
   rw[Array.getElem?_toList,Array.getElem?_eq_getElem iV]at e6;rw[XP e6,Array.getElem?_eq_getElem iV])
  refine⟨(List.range len).map fun i=>(f i).1,_,rfl,rfl,?_,?_⟩
  ·cases len with
   |zero=>exact .nil _ _
   |succ k=>
    have h0:=hf 0 (by omega);have rQ:=h0.2.1 0 hz;rw[Array.getElem?_eq_getElem (by omega)]at rQ;have cx:=(Jq rQ).1;obtain⟨cs',e1,_⟩:=hx 0 (by omega);obtain⟨_,e3,e4⟩:=World.cells?_some e1;rw[hc]at e3 e4;have e5:=e4 0 hz;rw[List.getElem?_eq_getElem (by omega)]at e5;have hs:=(Jq e5).2;have ha:(a.add (0 * sz)).add 0=a:=by simp[Addr.add]
    rw[ha]at hs;obtain⟨b,o,s⟩:=a;simp only at hs;subst hs;have:=CD.sl (I:=IB w) (w:=w) sz ((List.range (k+1)).map fun i=>(f i).1) b o cap (fun i=>(f i).2) cx (by simp;omega) (by simpa using h1) (fun i hi=>by simpa using(hf i (by simpa using hi)).2.2.1) (fun i hi=>⟨(hf i (by simpa using hi)).1,(hf i (by simpa using hi)).2.1⟩);simpa using this
  ·intro u hu;obtain⟨i,hi,rfl⟩:=List.mem_map.1 hu;exact(hf i (List.mem_range.1 hi)).2.2.2
theorem all_map{α:Type}{xs:List D}{g:α→D}(h:∀u∈xs,∃k,u=g k):∃ks:List α,xs=ks.map g:=by
 induction xs with
 |nil=>exact⟨[],rfl⟩
 |cons x l ih=>
  obtain⟨k,rfl⟩:=h x (by simp);obtain⟨ks,rfl⟩:=ih fun u hu=>h u (by simp[hu]);exact⟨k::ks,rfl⟩
theorem K1{fuel:Nat}{cs:List Value}{x:DataW H×List MemPlace}(h:DataW.trod enc prog w 0 sp held fuel 22 cs=some x):
  ∃(ks:List Nat) (v:Value),cs=[v]∧one v=true∧CD (IB w) w (.sl (ks.map fun(k:Nat)=>D.int .u8 k)) v:=by
 obtain⟨xs,v,rfl,h1,h2,h3⟩:=VX Tryz.underlying22 (sz:=1) (by kernel_rfl) (by decide) (fun u=>∃k:Nat,u=D.int .u8 k) (fun n cs x h=>by
  obtain⟨n,rfl,hr⟩:=FT h;exact⟨D.int .u8 n,.int .u8 n,rfl,.int _ _ hr,n,rfl⟩) h
 obtain⟨ks,rfl⟩:=all_map h3;exact⟨ks,v,rfl,h1,h2⟩
theorem HR{t fuel k:Nat}{fs:Array Field}{cs:List Value}{x:DataW H×List MemPlace}(ht:prog.underlying t=some (.struct fs))(hc:prog.cellsOf t=k)(hk:fs.size=k)
  (hf:∀i (hi:i<fs.size),fs[i].offset=i∧prog.cellsOf fs[i].type=1) (h:DataW.trod enc prog w 0 sp held fuel t cs=some x):
  cs.length=k∧∃n,∀i (hi:i<fs.size) (hj:i<cs.length),∃y,DataW.trod enc prog w 0 sp held n fs[i].type [cs[i]]=some y:=by
 obtain⟨xs,n,rfl,rfl,h1,h2,h3⟩:=DataW.trod_struct ht h;refine⟨by omega,n,fun i hi hj=>?_⟩;obtain⟨f1,f2⟩:=hf i hi;have h4:=h3 i fs[i] (by simp[hi]);rw[f1,f2,List.getElem?_eq_getElem (by omega)]at h4;rw[List.drop_eq_getElem_cons hj]at h4;exact⟨_,h4⟩
theorem fP{a b c d e:D}{x y z u v:Value}(h1:CD (IB w) w a x)(h2:CD (IB w) w b y)(h3:CD (IB w) w c z)(h4:CD (IB w) w d u)(h5:CD (IB w) w e v)(ho:one x=true∧one y=true∧one z=true∧one u=true∧one v=true):
  CD (IB w) w (.agg [a,b,c,d,e]) (.agg #[x,y,z,u,v]):=
 .agg _ _ rfl (fun i h=>by
  match i,h with
  |0,_=>exact h1
  |1,_=>exact h2
  |2,_=>exact h3
  |3,_=>exact h4
  |4,_=>exact h5) (fun i h=>by
  obtain⟨o1,o2,o3,o4,o5⟩:=ho;match i,h with
  |0,_=>exact o1
  |1,_=>exact o2
  |2,_=>exact o3
  |3,_=>exact o4
  |4,_=>exact o5)
theorem gd{a b c d:D}{x y z u:Value}(h1:CD (IB w) w a x)(h2:CD (IB w) w b y)(h3:CD (IB w) w c z)(h4:CD (IB w) w d u)(ho:one x=true∧one y=true∧one z=true∧one u=true):
  CD (IB w) w (.agg [a,b,c,d]) (.agg #[x,y,z,u]):=
 .agg _ _ rfl (fun i h=>by
  match i,h with
  |0,_=>exact h1
  |1,_=>exact h2
  |2,_=>exact h3
  |3,_=>exact h4) (fun i h=>by
  obtain⟨o1,o2,o3,o4⟩:=ho;match i,h with
  |0,_=>exact o1
  |1,_=>exact o2
  |2,_=>exact o3
  |3,_=>exact o4)
theorem ei{cs:List Value}(h:cs.length=4):∃a b c d,cs=[a,b,c,d]:=by
 match cs,h with
 |[a,b,c,d],_=>exact⟨a,b,c,d,rfl⟩
theorem aR{cs:List Value}(h:cs.length=5):∃a b c d e,cs=[a,b,c,d,e]:=by
 match cs,h with
 |[a,b,c,d,e],_=>exact⟨a,b,c,d,e,rfl⟩
theorem Yc{fuel:Nat}{cs:List Value}{x:DataW H×List MemPlace}(h:DataW.trod enc prog w 0 sp held fuel 78 cs=some x):∃l:Fu,CD (IB w) w (CY l) (.agg cs.toArray):=by
 obtain⟨hl,n,hf⟩:=HR Tryz.underlying78 (k:=4) (by kernel_rfl) rfl (fun i hi=>by
  match i,hi with
  |0,_=>exact⟨rfl,by kernel_rfl⟩
  |1,_=>exact⟨rfl,by kernel_rfl⟩
  |2,_=>exact⟨rfl,by kernel_rfl⟩
  |3,_=>exact⟨rfl,by kernel_rfl⟩) h
 obtain⟨a,b,c,d,rfl⟩:=ei hl;obtain⟨y0,h0⟩:=hf 0 (by decide) (by simp);obtain⟨y1,h1⟩:=hf 1 (by decide) (by simp);obtain⟨y2,h2⟩:=hf 2 (by decide) (by simp);obtain⟨y3,h3⟩:=hf 3 (by decide) (by simp);obtain⟨n0,e0,r0⟩:=FT h0;obtain⟨ks,v,e1,o1,r1⟩:=K1 h1;obtain⟨n2,e2,r2⟩:=FT h2;obtain⟨n3,e3,r3⟩:=FT h3;simp at e0 e1 e2 e3;subst e0 e1 e2 e3;exact⟨⟨n0,ks,n2,n3⟩,gd (.int _ _ r0) r1 (.int _ _ r2) (.int _ _ r3) ⟨rfl,o1,rfl,rfl⟩⟩
theorem Yi{fuel:Nat}{cs:List Value}{x:DataW H×List MemPlace}(h:DataW.trod enc prog w 0 sp held fuel 81 cs=some x):∃l:FX,CD (IB w) w (Bt l) (.agg cs.toArray):=by
 obtain⟨hl,n,hf⟩:=HR Tryz.underlying81 (k:=5) (by kernel_rfl) rfl (fun i hi=>by
  match i,hi with
  |0,_=>exact⟨rfl,by kernel_rfl⟩
  |1,_=>exact⟨rfl,by kernel_rfl⟩
  |2,_=>exact⟨rfl,by kernel_rfl⟩
  |3,_=>exact⟨rfl,by kernel_rfl⟩
  |4,_=>exact⟨rfl,by kernel_rfl⟩) h
 obtain⟨a,b,c,d,e,rfl⟩:=aR hl;obtain⟨y0,h0⟩:=hf 0 (by decide) (by simp);obtain⟨y1,h1⟩:=hf 1 (by decide) (by simp);obtain⟨y2,h2⟩:=hf 2 (by decide) (by simp);obtain⟨y3,h3⟩:=hf 3 (by decide) (by simp);obtain⟨y4,h4⟩:=hf 4 (by decide) (by simp);obtain⟨n0,e0,r0⟩:=FT h0;obtain⟨n1,e1,r1⟩:=FT h1;obtain⟨n2,e2,r2⟩:=FT h2;obtain⟨n3,e3,r3⟩:=FT h3;obtain⟨n4,e4,r4⟩:=FT h4;simp at e0 e1 e2 e3 e4;subst e0 e1 e2 e3 e4;exact⟨⟨n0,n1,n2,n3,n4⟩,fP (.int _ _ r0) (.int _ _ r1) (.int _ _ r2) (.int _ _ r3) (.int _ _ r4) ⟨rfl,rfl,rfl,rfl,rfl⟩⟩
theorem Nh{fuel:Nat}{cs:List Value}{x:DataW H×List MemPlace}(h:DataW.trod enc prog w 0 sp held fuel 28 cs=some x):∃l:Dw,CD (IB w) w (BN l) (.agg cs.toArray):=by
 obtain⟨hl,n,hf⟩:=HR Tryz.underlying28 (k:=5) (by kernel_rfl) rfl (fun i hi=>by
  match i,hi with
  |0,_=>exact⟨rfl,by kernel_rfl⟩
  |1,_=>exact⟨rfl,by kernel_rfl⟩
  |2,_=>exact⟨rfl,by kernel_rfl⟩
  |3,_=>exact⟨rfl,by kernel_rfl⟩
  |4,_=>exact⟨rfl,by kernel_rfl⟩) h
 obtain⟨a,b,c,d,e,rfl⟩:=aR hl;obtain⟨y0,h0⟩:=hf 0 (by decide) (by simp);obtain⟨y1,h1⟩:=hf 1 (by decide) (by simp);obtain⟨y2,h2⟩:=hf 2 (by decide) (by simp);obtain⟨y3,h3⟩:=hf 3 (by decide) (by simp);obtain⟨y4,h4⟩:=hf 4 (by decide) (by simp);obtain⟨n0,e0,r0⟩:=FT h0;obtain⟨n1,e1,r1⟩:=FT h1;obtain⟨n2,e2,r2⟩:=FT h2;obtain⟨n3,e3,r3⟩:=FT h3;obtain⟨ks,v,e4,o4,r4⟩:=K1 h4;simp at e0 e1 e2 e3 e4;subst e0 e1 e2 e3 e4;exact⟨⟨n0,n1,n2,n3,ks⟩,fP (.int _ _ r0) (.int _ _ r1) (.int _ _ r2) (.int _ _ r3) r4 ⟨rfl,rfl,rfl,rfl,o4⟩⟩
theorem US{fuel:Nat}{cs:List Value}{x:DataW H×List MemPlace}(h:DataW.trod enc prog w 0 sp held fuel 23 cs=some x):∃(ls:List Fu) (v:Value),cs=[v]∧one v=true∧CD (IB w) w (.sl (ls.map CY)) v:=by
 obtain⟨xs,v,rfl,h1,h2,h3⟩:=VX Tryz.underlying23 (sz:=4) (by kernel_rfl) (by decide) (fun u=>∃k:Fu,u=CY k) (fun n cs x h=>by
  obtain⟨l,hl⟩:=Yc h;exact⟨_,.agg cs.toArray,by simp[Value.cells],hl,l,rfl⟩) h
 obtain⟨ks,rfl⟩:=all_map h3;exact⟨ks,v,rfl,h1,h2⟩
theorem VY{fuel:Nat}{cs:List Value}{x:DataW H×List MemPlace}(h:DataW.trod enc prog w 0 sp held fuel 24 cs=some x):∃(ls:List FX) (v:Value),cs=[v]∧one v=true∧CD (IB w) w (.sl (ls.map Bt)) v:=by
 obtain⟨xs,v,rfl,h1,h2,h3⟩:=VX Tryz.underlying24 (sz:=5) (by kernel_rfl) (by decide) (fun u=>∃k:FX,u=Bt k) (fun n cs x h=>by
  obtain⟨l,hl⟩:=Yi h;exact⟨_,.agg cs.toArray,by simp[Value.cells],hl,l,rfl⟩) h
 obtain⟨ks,rfl⟩:=all_map h3;exact⟨ks,v,rfl,h1,h2⟩
theorem bH{fuel:Nat}{cs:List Value}{x:DataW H×List MemPlace}(h:DataW.trod enc prog w 0 sp held fuel 26 cs=some x):∃l:Raw,CD (IB w) w (En l) (.agg cs.toArray):=by
 obtain⟨hl,n,hf⟩:=HR Tryz.underlying26 (k:=5) (by kernel_rfl) rfl (fun i hi=>by
  match i,hi with
  |0,_=>exact⟨rfl,by kernel_rfl⟩
  |1,_=>exact⟨rfl,by kernel_rfl⟩
  |2,_=>exact⟨rfl,by kernel_rfl⟩
  |3,_=>exact⟨rfl,by kernel_rfl⟩
  |4,_=>exact⟨rfl,by kernel_rfl⟩) h
 obtain⟨a,b,c,d,e,rfl⟩:=aR hl;obtain⟨y0,h0⟩:=hf 0 (by decide) (by simp);obtain⟨y1,h1⟩:=hf 1 (by decide) (by simp);obtain⟨y2,h2⟩:=hf 2 (by decide) (by simp);obtain⟨y3,h3⟩:=hf 3 (by decide) (by simp);obtain⟨y4,h4⟩:=hf 4 (by decide) (by simp);obtain⟨n0,e0,r0⟩:=FT h0;obtain⟨n1,e1,r1⟩:=FT h1;obtain⟨k2,v2,e2,o2,r2⟩:=K1 h2;obtain⟨k3,v3,e3,o3,r3⟩:=US h3;obtain⟨k4,v4,e4,o4,r4⟩:=VY h4;simp at e0 e1 e2 e3 e4;subst e0 e1 e2 e3 e4;exact⟨⟨n0,n1,k2,k3,k4⟩,fP (.int _ _ r0) (.int _ _ r1) r2 r3 r4 ⟨rfl,rfl,o2,o3,o4⟩⟩
end
end Go.Koi
namespace Go.Proofs.YtlgjmkfbkhfakaaGreatDoor
open Go.ChangeShapes Go.WideShapes Go.ChangeAt Go.RowKit Go.Koi
theorem own:ownKnob Tryz.prog.godebug=none:=by kernel_rfl
theorem dD:Tryz.prog.globalNamed "math/bits.deBruijn64tab"=some 0:=by kernel_rfl
theorem WM:(Tryz.prog.globals[0]?).map (·.type)=some 286:=by kernel_rfl
theorem dL:((List.range Tryz.prog.globals.size).all fun g=>decide (g=0)||!decide ((Tryz.prog.globals[g]?).map (·.name)=some "math/bits.deBruijn64tab"))=true:=by kernel_rfl
theorem dW{g:Nat}(h:(Tryz.prog.globals[g]?).map (·.name)=some "math/bits.deBruijn64tab"):g=0:=by
 have hg:g<Tryz.prog.globals.size:=by
  rcases Nat.lt_or_ge g Tryz.prog.globals.size with h1|h1
  ·exact h1
  ·rw[Array.getElem?_eq_none h1]at h;cases h
 have h2:=List.all_eq_true.1 dL g (List.mem_range.2 hg);simpa[h]using h2
theorem table{W:World}(h:laidMetH Tryz.prog Rows.changeValidRow.laid W):Lib.TabIs Tryz.prog W "math/bits.deBruijn64tab" .u8 BY:=
 Lib.tabIs_of_head (rest:=[]) dD WM Tryz.underlying286 Tryz.underlying5 (by kernel_rfl) (by kernel_rfl) h
noncomputable def gh(W:World):Gh:=⟨IB W,fun _=>0,fun _=>(0,0),fun _=>none⟩
theorem cM{W:World}(h:laidMetH Tryz.prog Rows.changeValidRow.laid W):Rel Tryz.prog (gh W) [] W where
 Es:=fun g hg=>by
  obtain rfl:=dW hg;have hc:∀j (hj:j<BY.length),W.cell? ⟨0,j,none⟩=some (.int .u8 BY[j]):=fun j hj=>by
   have:=(table h).cell dD j hj;simpa[List.getD,hj]using this
  exact⟨(Jq (hc 0 (by decide))).1,hc⟩
 CT:=fun r o h=>by simp at h
 inj:=fun r r' o o' h=>by simp at h
 nI:=fun b ⟨r,o,h,_⟩=>by simp at h
 G5:=fun b h=>h
 FW:=fun b ⟨r,o,h,_⟩=>by simp at h
theorem walk(r:Raw)(x:Dw){W:World}(h:laidMetH Tryz.prog Rows.changeValidRow.laid W){a b:Value}(ha:CD (IB W) W (En r) a)(hb:CD (IB W) W (BN x) b):
  Calls Tryz.prog 3 #[a,b] W fun e W'=>e=.returned (.bool true)∧W'.os=W.os∧W'.output=W.output∧W.heap.size≤W'.heap.size∧∀k,k<W.heap.size→W'.heap[k]?=W.heap[k]?:=by
 refine((ax Q7 r x).2 (gh W) W #[a,b] (cM h) rfl (fun i h1 h2=>by
  match i,h1 with
  |0,_=>exact .d _ _ ha
  |1,_=>exact .d _ _ hb)).mono ?_
 rintro e W' ⟨cv,G',rfl,iO,_,ht,_⟩;refine⟨?_,ht.os,ht.out,ht.size,fun k hk=>ht.DG k hk fun⟨r,o,h,_⟩=>by simp at h⟩;cases iO with
 |d _ _ hd=>cases hd with|bool=>rfl
theorem Iv{P:Program}{W:World}{base:Nat}{t:TypeId}{fs:Array Field}{v:Value}(ht:P.underlying t=some (.struct fs))(h:Value.okWide P W .any base t v):∃cs,v=.agg cs∧cs.size=P.cellsOf t:=by
 unfold Value.okWide at h;rw[ht]at h;obtain⟨cs,h1,h2,_⟩:=h;exact⟨cs,h1,h2⟩
theorem laidOut:laidOutB Tryz.prog=true:=by kernel_rfl
theorem dJ:decide (28<Tryz.prog.types.size)=true:=by kernel_rfl
theorem ah(t:Nat)(h:t≤28):t<Tryz.prog.types.size:=by have:=of_decide_eq_true dJ;omega
theorem Ta(H:Type)(enc:TypeId×Value→H)(W:World)(base:Nat)(args:Array Value)(ds gs:List (DataW H))(before:List MemPlace)
  (iI:∀(j:Nat) t v,Tryz.f3.params[j]?=some t→args[j]?=some v→Value.okWide Tryz.prog W .any base t v)
  (hW:DataW.Whole enc Tryz.prog Tryz.f3.params.toList Rows.changeValidSpec.vars false W args.toList ds gs before) (hL:laidMetH Tryz.prog Rows.changeValidRow.laid W):
  Calls Tryz.prog 3 args W fun e W'=>∃v,e=.returned v∧Rows.changeValidSpec.post enc Tryz.prog Tryz.f3 false true false false W args v W':=by
 have hW':=hW;obtain⟨p,q,hA0,hV,rfl,yx,ju⟩:=hW;have hA:DataW.TrodAll enc Tryz.prog W 0 (fun _=>true) true Tryz.f3.params.toList args.toList ds p:=hA0;rw[Tryz.params3]at hA iI;obtain⟨v0,vs0,d0,ds0,p0,q0,gi,rfl,rfl,h0,r0⟩:=trodAll_cons hA;obtain⟨v1,vs1,d1,ds1,p1,q1,rfl,rfl,rfl,h1,r1⟩:=trodAll_cons r0;obtain⟨rfl,rfl,rfl⟩:=trodAll_nil r1;obtain rfl:args=#[v0,v1]:=by cases args;simp_all
 obtain⟨rfl,rfl⟩:=trodVars_none hV;have cx:=fun p hp=>hW'.lt p hp;obtain⟨c0,rfl,-⟩:=Iv Tryz.underlying26 (iI 0 26 v0 rfl rfl);obtain⟨c1,rfl,-⟩:=Iv Tryz.underlying28 (iI 1 28 v1 rfl rfl);obtain⟨f0,g0⟩:=id h0;obtain⟨f1,g1⟩:=id h1;obtain⟨r,k0⟩:=bH g0;obtain⟨x,k1⟩:=Nh g1;simp only[Value.cells,Array.toArray_toList]at k0 k1;refine(walk r x hL k0 k1).mono fun e W' ⟨he,h3,h4,h5,h6⟩=>?_;subst he;have hs:∀p:MemPlace,p.block<W.heap.size→W.sameAt W' p:=fun p hp=>by
  cases p with
  |cell b o=>exact World.cell?_of_block (w:=W) (h6 b hp)
  |map b=>exact h6 b hp
 have st:∀{t:TypeId} {v:Value} {d:DataW H} {ps:List MemPlace},t=26∨t=28→DataW.Trod enc Tryz.prog W 0 (fun _=>true) true t v d ps→(∀p∈ps,p.block<W.heap.size)→DataW.Trod enc Tryz.prog W' 0 (fun b=>decide (b<W.heap.size)) true t v d ps:=fun ht h hp=>by
  refine WideElems.Trod_stays laidOut ?_ ?_ h (fun p jH=>hs p (hp p jH)) (fun p jH=>by simpa using hp p jH)
  ·rcases ht with rfl|rfl<;>kernel_rfl
  ·rcases ht with rfl|rfl<;>exact ah _ (by decide)
 refine⟨_,rfl,_,_,_,[],p0++(p1++[]),[],hW',trodAll_mk1 (shut_bool Tryz.underlying4 _),?_,rfl,?_,fun h=>by cases h⟩
 ·rw[Tryz.params3];exact trodAll_cons_mk (st (.inl rfl) h0 fun p hp=>cx p (by simp[hp])) (trodAll_cons_mk (st (.inr rfl) h1 fun p hp=>cx p (by simp[hp])) trodAll_mk0)
 ·refine⟨h3,h4,fun i hi=>?_⟩;rw[h6 i hi];split<;>simp_all
end Go.Proofs.YtlgjmkfbkhfakaaGreatDoor
namespace Go.Proofs.YtlgjmkfbkhfakaaGreatDoor
open Go.ChangeShapes Go.WideShapes Go.ChangeAt Go.RowKit Go.Koi
noncomputable def JE(os:Os):World:=
 {World.holding Tryz.prog os ⟨#[],#[],[]⟩with heap:=(World.holding Tryz.prog os ⟨#[],#[],[]⟩).heap.modify 0 fun
   |.cells _ t frozen=>.cells (BY.map fun z=>Value.int .u8 z).toArray t frozen
   |o=>o}
def DL:Value:=.agg #[.int .u8 0,.int .u8 0,.slice none 0 0,.slice none 0 0,.slice none 0 0]
def Dm:Value:=.agg #[.int .u8 0,.int .u8 0,.int .u8 0,.int .u8 0,.slice none 0 0]
theorem WB(os:Os):laidMet Tryz.prog Rows.changeValidRow.laid ((JE os).forCall (fun _ _=>0) ⟨#[],#[DL,Dm],[]⟩).memory:=
 laidMet_of_run' 8 (by kernel_rfl) (by kernel_rfl)
def ew{H:Type}:DataW H:=.agg [.lit (.int .u8 0),.lit (.int .u8 0),.nil,.nil,.nil]
def dE{H:Type}:DataW H:=.agg [.lit (.int .u8 0),.lit (.int .u8 0),.lit (.int .u8 0),.lit (.int .u8 0),.nil]
theorem reads(os:Os){H:Type}(enc:TypeId×Value→H):∃places,DataW.whole enc Tryz.prog ((JE os).forCall (fun _ _=>0) ⟨#[],#[DL,Dm],[]⟩).memory Tryz.f3.params.toList Rows.changeValidSpec.vars false #[DL,Dm].toList 8=some ([ew,dE],[],places):=
 ⟨[],by kernel_rfl⟩
theorem lifted(os:Os)(started:os.Started)(H:Type)(enc:TypeId×Value→H)(F:Stop.Interp):
  ReturnsInHanded {} Tryz.checked os 3 .any ((OpenSpec.ofChange Rows.changeValidSpec).preRow enc Tryz.prog Tryz.f3 Rows.changeValidRow.domain false Rows.changeValidRow.laid) (((OpenSpec.ofChange Rows.changeValidSpec).at F).post enc Tryz.prog Tryz.f3 false true false false):=by
 obtain⟨places,hx⟩:=reads os enc;refine returnsInHanded_of_row (C:=Tryz.checked) (s:=OpenSpec.ofChange Rows.changeValidSpec) own started (by kernel_rfl) Tryz.func3
  (witness_row_at (enc:=enc) (C:=Tryz.checked) false (JE os) #[DL,Dm] rfl (by kernel_rfl) (by kernel_rfl) (by kernel_rfl)
   (OpenSpec.preRow_of_cond 8 hx (by kernel_rfl) (fun k hk=>by cases hk) (by kernel_rfl) (WB os))) ?_
 intro W base args ds gs before iI hW _ _ _ hL _ _;exact Ta H enc W base args ds gs before iI hW hL
theorem said:Rows.ChangeValidSaid:=
 OpenClaim.holds_of_cond 3 Tryz.f3 rfl rfl rfl rfl rfl rfl rfl ⟨rfl,rfl,rfl,rfl,rfl⟩ rfl rfl rfl rfl rfl (by kernel_rfl) Tryz.func3 (by kernel_rfl)
  (of_decide_eq_true (by kernel_rfl)) (by unfold Func.isWrapper;first|(rw[if_pos (by decide+kernel)];kernel_rfl)|(rw[if_neg (by decide+kernel)];exact⟨rfl,rfl⟩))
  (fun os started H enc _ F=>by rw[OpenClaim.pre_eq_preRow];exact lifted os started H enc F)
theorem plain(f:FuncId)(fn:Func)(hf:Tryz.pinned.checked.prog.funcNamed "koine/koinelaw31.ChangeValid"=some f)(mc:Tryz.pinned.checked.prog.funcs[f]?=some fn):
  true=Tryz.pinned.checked.prog.looks []∧∀(j:Nat) t,fn.params[j]?=some t→Tryz.pinned.checked.prog.wantsStandIn t=false:=by
 obtain rfl:f=3:=Option.some.inj ((show Tryz.prog.funcNamed "koine/koinelaw31.ChangeValid"=some 3 by kernel_rfl).symm.trans hf) |>.symm;obtain rfl:fn=Tryz.f3:=(Option.some.inj (Tryz.func3.symm.trans mc)).symm;refine⟨by kernel_rfl,fun j t ht=>?_⟩;rw[Tryz.params3]at ht;have hm:t∈[26,28]:=by
  have:=Array.mem_of_getElem? ht;simp at this⊢;exact this
 have gg:([26,28].all fun u=>!Tryz.prog.wantsStandIn u)=true:=by kernel_rfl
 exact(show Tryz.prog.wantsStandIn t=false by simpa using List.all_eq_true.1 gg t hm)
theorem card:Rows.ChangeValidCardSaid:=
 Claim7.holds_tied_plain_at .later [] _ _ _ _ said (fun _ h=>by cases h) (by kernel_rfl) (fun _ h=>by cases h) changeValid_row_tie rfl ⟨rfl,rfl⟩ (by kernel_rfl) rfl plain (by kernel_rfl)
#print axioms card
end Go.Proofs.YtlgjmkfbkhfakaaGreatDoor
