/-
  The law ChangeFoldInline of the package koinelaw31 returns true for every input, and its arguments read afterwards as before; no condition beyond those of the given card.
-/
import Derived.Test.YtgdfmldabcofeaaGreatDoorK16
import Derived.Deep.Slices
import Derived.Test.YtgdfmldabcofeaaGreatDoorCards
import Derived.Test.YtgdfmldabcofeaaGreatDoorTie
import Derived.ProofKit
import Derived.OpenShut
import Derived.Deep.DeepHandedRow
import Derived.Lib.LaidTab
import Derived.WideKeyArgs
set_option maxHeartbeats 64000000
set_option maxRecDepth 100000
namespace Go.Koi
open Go renaming Value->bn
open Go.Proofs Tryz
abbrev IB(w:World):Nat->Prop:=λb=>b<w.heap.size
section
variable {H:Type} {enc:TypeId×bn->H} {w:World} {sp:Nat->Bool} {held:Bool}
theorem Ob{w:World}{a:Addr}{v:bn}(h:w.cell? a=some v):a.block<w.heap.size/\a.spot=none:=by
 unfold World.cell? at h;split at h
 .rename_i c t f hb;refine⟨?_,?_⟩
  .rcases pu a.block w.heap.size with h1|h1
   .exact h1
   .simp[wE h1]at hb
  .split at h
   .cases h
   .rename_i g;cases i:a.spot<;>simp[i]at g⊢
 .cases h
theorem RL(a:Addr)(n:Nat):(a.add n).block=a.block/\(a.add n).off=a.off+n:=by
 unfold Addr.add;split
 .rename_i h;subst h;simp
 .simp
theorem ki{w:World}{a:Addr}{i j:Nat}{v:bn}(h:w.cell? ((a.add i).add j)=some v):w.cell? ⟨a.block,a.off+i+j,none⟩=some v:=by
 obtain⟨_,k⟩:=Ob h;have g:=RL (a.add i) j;have m:=RL a i;have:(a.add i).add j=⟨a.block,a.off+i+j,none⟩:=by
  cases q:(a.add i).add j with
  |mk b o s=>
   rw[q]at k g;simp only at k g;rw[k,g.1,g.2,m.1,m.2]
 rw[<-this];exact h
theorem Gy{g:Nat}{j:List bn}{x:DataW H×List MemPlace}(h:DataW.trod enc prog w 0 sp held g 5 j=some x):∃n:Nat,j=[.int .u8 n]/\IL .u8 n=true:=by
 obtain⟨n,rfl,rfl,i⟩:=DataW.trod_int Tryz.underlying5 h;rw[U8]at i;have h0:0<=n:=by simp[IL]at i;omega
 obtain⟨m,rfl⟩:=Int.eq_ofNat_of_zero_le h0;exact⟨m,rfl,i⟩
instance:Inhabited D:=⟨.bool false⟩
theorem iZ{t e sz g:Nat}{q:List bn}{x:DataW H×List MemPlace}(T:prog.underlying t=some (.slice e))(L:prog.cellsOf e=sz)(M:0<sz)(Q:D->Prop)
  (F:∀n q x,DataW.trod enc prog w 0 sp held n e q=some x->∃u v,v.cells.toList=q/\CD (IB w) w u v/\Q u)
  (h:DataW.trod enc prog w 0 sp held g t q=some x):∃N v,q=[v]/\one v=true/\CD (IB w) w (.sl N) v/\∀u∈N,Q u:=by
 rcases Go.Deep.open_slice T h with⟨rfl,_⟩|⟨a,len,cap,m,n,DD,Pl,rfl,_,h1,h2,U,_,P⟩
 .exact⟨[],_,rfl,rfl,.nil _ _,by simp⟩
 .have W:len<=m:=by subst U;split<;>omega
  obtain⟨f,z⟩:=Go.Deep.choose_lt (α:=D×bn) (n:=len) (p:=λi p=>p.2.cells.size=sz/\(∀j,j<sz->w.cell? ⟨a.block,a.off+i * sz+j,none⟩=p.2.cells[j]?)/\CD (IB w) w p.1 p.2/\Q p.1) (λi hi=>by
   obtain⟨G,J,X⟩:=P i (by omega);obtain⟨u,v,rfl,k1,k2⟩:=F _ _ _ X;obtain⟨_,C,A⟩:=World.cells?_some J;rw[L]at C A;have E:v.cells.size=sz:=by simpa using C
   refine⟨(u,v),E,λj hj=>?_,k1,k2⟩;have R:=A j hj;have S:j<v.cells.size:=by omega
   rw[H1,i9 S]at R;rw[ki R,i9 S])
  refine⟨(List.range len).map λi=>(f i).1,_,rfl,rfl,?_,?_⟩
  .cases len with
   |zero=>exact .nil _ _
   |succ k=>
    have h0:=z 0 (by omega);have B:=h0.2.1 0 M;rw[i9 (by omega)]at B;have Y:=(Ob B).1;obtain⟨G,J,_⟩:=P 0 (by omega);obtain⟨_,C,A⟩:=World.cells?_some J;rw[L]at C A;have E:=A 0 M;rw[ci (by omega)]at E;have K:=(Ob E).2;have ha:(a.add (0 * sz)).add 0=a:=by simp[Addr.add]
    rw[ha]at K;obtain⟨b,o,s⟩:=a;simp only at K;subst K;have:=CD.sl (I:=IB w) (w:=w) sz ((List.range (k+1)).map λi=>(f i).1) b o cap (λi=>(f i).2) Y (by simp;omega) (by simpa using h1) (λi hi=>by simpa using(z i (by simpa using hi)).2.2.1) (λi hi=>⟨(z i (by simpa using hi)).1,(z i (by simpa using hi)).2.1⟩);simpa using this
  .intro u Z;obtain⟨i,hi,rfl⟩:=eo.1 Z;exact(z i (pm.1 hi)).2.2.2
theorem all_map{α:Type}{xs:List D}{g:α->D}(h:∀u∈xs,∃k,u=g k):∃ks:List α,xs=ks.map g:=by
 induction xs with
 |nil=>exact⟨[],rfl⟩
 |cons x l i=>
  obtain⟨k,rfl⟩:=h x (by simp);obtain⟨ks,rfl⟩:=i λu j=>h u (by simp[j]);exact⟨k::ks,rfl⟩
theorem Jy{g:Nat}{i:List bn}{x:DataW H×List MemPlace}(h:DataW.trod enc prog w 0 sp held g 22 i=some x):
  ∃(ks:List Nat) (v:bn),i=[v]/\one v=true/\CD (IB w) w (.sl (ks.map λ(k:Nat)=>D.int .u8 k)) v:=by
 obtain⟨q,v,rfl,h1,j,m⟩:=iZ Tryz.underlying22 (sz:=1) (by kernel_rfl) (by decide) (λu=>∃k:Nat,u=D.int .u8 k) (λn i x h=>by
  obtain⟨n,rfl,o⟩:=Gy h;exact⟨D.int .u8 n,.int .u8 n,rfl,.int _ _ o,n,rfl⟩) h
 obtain⟨ks,rfl⟩:=all_map m;exact⟨ks,v,rfl,h1,j⟩
theorem KY{t g k:Nat}{fs:Array Field}{j:List bn}{x:DataW H×List MemPlace}(o:prog.underlying t=some (.struct fs))(u:prog.cellsOf t=k)(v:fs.size=k)
  (q:∀i (hi:i<fs.size),fs[i].offset=i/\prog.cellsOf fs[i].type=1) (h:DataW.trod enc prog w 0 sp held g t j=some x):
  j.length=k/\∃n,∀i (hi:i<fs.size) (hj:i<j.length),∃y,DataW.trod enc prog w 0 sp held n fs[i].type [j[i]]=some y:=by
 obtain⟨z,n,rfl,rfl,h1,A,s⟩:=DataW.trod_struct o h;refine⟨by omega,n,λi hi hj=>?_⟩;obtain⟨f1,f2⟩:=q i hi;have m:=s i fs[i] (by simp[hi]);rw[f1,f2,ci (by omega)]at m;rw[sw hj]at m;exact⟨_,m⟩
theorem tZ{a b c d e:D}{x y z u v:bn}(h1:CD (IB w) w a x)(g:CD (IB w) w b y)(j:CD (IB w) w c z)(k:CD (IB w) w d u)(m:CD (IB w) w e v)(o:one x=true/\one y=true/\one z=true/\one u=true/\one v=true):
  CD (IB w) w (.agg [a,b,c,d,e]) (.agg #[x,y,z,u,v]):=
 .agg _ _ rfl (λi h=>by
  match i,h with
  |0,_=>exact h1
  |1,_=>exact g
  |2,_=>exact j
  |3,_=>exact k
  |4,_=>exact m) (λi h=>by
  obtain⟨o1,q,s,t,A⟩:=o;match i,h with
  |0,_=>exact o1
  |1,_=>exact q
  |2,_=>exact s
  |3,_=>exact t
  |4,_=>exact A)
theorem uz{a b c d:D}{x y z u:bn}(h1:CD (IB w) w a x)(g:CD (IB w) w b y)(j:CD (IB w) w c z)(k:CD (IB w) w d u)(m:one x=true/\one y=true/\one z=true/\one u=true):
  CD (IB w) w (.agg [a,b,c,d]) (.agg #[x,y,z,u]):=
 .agg _ _ rfl (λi h=>by
  match i,h with
  |0,_=>exact h1
  |1,_=>exact g
  |2,_=>exact j
  |3,_=>exact k) (λi h=>by
  obtain⟨o1,o,q,s⟩:=m;match i,h with
  |0,_=>exact o1
  |1,_=>exact o
  |2,_=>exact q
  |3,_=>exact s)
theorem tW{g:List bn}(h:g.length=4):∃a b c d,g=[a,b,c,d]:=by
 match g,h with
 |[a,b,c,d],_=>exact⟨a,b,c,d,rfl⟩
theorem og{g:List bn}(h:g.length=5):∃a b c d e,g=[a,b,c,d,e]:=by
 match g,h with
 |[a,b,c,d,e],_=>exact⟨a,b,c,d,e,rfl⟩
theorem ko{g:Nat}{m:List bn}{x:DataW H×List MemPlace}(h:DataW.trod enc prog w 0 sp held g 138 m=some x):∃l:Hl,CD (IB w) w (Cj l) (.agg m.toArray):=by
 obtain⟨u,n,j⟩:=KY Tryz.underlying138 (k:=4) (by kernel_rfl) rfl (λi hi=>by
  match i,hi with
  |0,_=>exact⟨rfl,by kernel_rfl⟩
  |1,_=>exact⟨rfl,by kernel_rfl⟩
  |2,_=>exact⟨rfl,by kernel_rfl⟩
  |3,_=>exact⟨rfl,by kernel_rfl⟩) h
 obtain⟨a,b,c,d,rfl⟩:=tW u;obtain⟨E,h0⟩:=j 0 (by decide) (by simp);obtain⟨F,h1⟩:=j 1 (by decide) (by simp);obtain⟨G,z⟩:=j 2 (by decide) (by simp);obtain⟨J,A⟩:=j 3 (by decide) (by simp);obtain⟨n0,o,B⟩:=Gy h0;obtain⟨ks,v,q,o1,r1⟩:=Jy h1;obtain⟨n2,s,r2⟩:=Gy z;obtain⟨n3,t,C⟩:=Gy A;simp at o q s t;subst o q s t;exact⟨⟨n0,ks,n2,n3⟩,uz (.int _ _ B) r1 (.int _ _ r2) (.int _ _ C) ⟨rfl,o1,rfl,rfl⟩⟩
theorem lK{g:Nat}{m:List bn}{x:DataW H×List MemPlace}(h:DataW.trod enc prog w 0 sp held g 141 m=some x):∃l:Ht,CD (IB w) w (Br l) (.agg m.toArray):=by
 obtain⟨v,n,j⟩:=KY Tryz.underlying141 (k:=5) (by kernel_rfl) rfl (λi hi=>by
  match i,hi with
  |0,_=>exact⟨rfl,by kernel_rfl⟩
  |1,_=>exact⟨rfl,by kernel_rfl⟩
  |2,_=>exact⟨rfl,by kernel_rfl⟩
  |3,_=>exact⟨rfl,by kernel_rfl⟩
  |4,_=>exact⟨rfl,by kernel_rfl⟩) h
 obtain⟨a,b,c,d,e,rfl⟩:=og v;obtain⟨J,h0⟩:=j 0 (by decide) (by simp);obtain⟨K,h1⟩:=j 1 (by decide) (by simp);obtain⟨L,z⟩:=j 2 (by decide) (by simp);obtain⟨M,A⟩:=j 3 (by decide) (by simp);obtain⟨N,B⟩:=j 4 (by decide) (by simp);obtain⟨n0,o,C⟩:=Gy h0;obtain⟨n1,q,r1⟩:=Gy h1;obtain⟨n2,s,r2⟩:=Gy z;obtain⟨n3,t,E⟩:=Gy A;obtain⟨F,u,G⟩:=Gy B;simp at o q s t u;subst o q s t u;exact⟨⟨n0,n1,n2,n3,F⟩,tZ (.int _ _ C) (.int _ _ r1) (.int _ _ r2) (.int _ _ E) (.int _ _ G) ⟨rfl,rfl,rfl,rfl,rfl⟩⟩
theorem ig{g:Nat}{m:List bn}{x:DataW H×List MemPlace}(h:DataW.trod enc prog w 0 sp held g 30 m=some x):∃l:IX,CD (IB w) w (DB l) (.agg m.toArray):=by
 obtain⟨z,n,j⟩:=KY Tryz.underlying30 (k:=5) (by kernel_rfl) rfl (λi hi=>by
  match i,hi with
  |0,_=>exact⟨rfl,by kernel_rfl⟩
  |1,_=>exact⟨rfl,by kernel_rfl⟩
  |2,_=>exact⟨rfl,by kernel_rfl⟩
  |3,_=>exact⟨rfl,by kernel_rfl⟩
  |4,_=>exact⟨rfl,by kernel_rfl⟩) h
 obtain⟨a,b,c,d,e,rfl⟩:=og z;obtain⟨K,h0⟩:=j 0 (by decide) (by simp);obtain⟨L,h1⟩:=j 1 (by decide) (by simp);obtain⟨M,A⟩:=j 2 (by decide) (by simp);obtain⟨N,B⟩:=j 3 (by decide) (by simp);obtain⟨P,C⟩:=j 4 (by decide) (by simp);obtain⟨n0,o,E⟩:=Gy h0;obtain⟨n1,q,r1⟩:=Gy h1;obtain⟨n2,s,r2⟩:=Gy A;obtain⟨n3,t,F⟩:=Gy B;obtain⟨ks,v,u,G,J⟩:=Jy C;simp at o q s t u;subst o q s t u;exact⟨⟨n0,n1,n2,n3,ks⟩,tZ (.int _ _ E) (.int _ _ r1) (.int _ _ r2) (.int _ _ F) J ⟨rfl,rfl,rfl,rfl,G⟩⟩
theorem g9{g:Nat}{i:List bn}{x:DataW H×List MemPlace}(h:DataW.trod enc prog w 0 sp held g 23 i=some x):∃(j:List Hl) (v:bn),i=[v]/\one v=true/\CD (IB w) w (.sl (j.map Cj)) v:=by
 obtain⟨s,v,rfl,h1,m,o⟩:=iZ Tryz.underlying23 (sz:=4) (by kernel_rfl) (by decide) (λu=>∃k:Hl,u=Cj k) (λn i x h=>by
  obtain⟨l,q⟩:=ko h;exact⟨_,.agg i.toArray,by simp[Value.cells],q,l,rfl⟩) h
 obtain⟨ks,rfl⟩:=all_map o;exact⟨ks,v,rfl,h1,m⟩
theorem fH{g:Nat}{i:List bn}{x:DataW H×List MemPlace}(h:DataW.trod enc prog w 0 sp held g 24 i=some x):∃(j:List Ht) (v:bn),i=[v]/\one v=true/\CD (IB w) w (.sl (j.map Br)) v:=by
 obtain⟨s,v,rfl,h1,m,o⟩:=iZ Tryz.underlying24 (sz:=5) (by kernel_rfl) (by decide) (λu=>∃k:Ht,u=Br k) (λn i x h=>by
  obtain⟨l,q⟩:=lK h;exact⟨_,.agg i.toArray,by simp[Value.cells],q,l,rfl⟩) h
 obtain⟨ks,rfl⟩:=all_map o;exact⟨ks,v,rfl,h1,m⟩
theorem qG{g:Nat}{m:List bn}{x:DataW H×List MemPlace}(h:DataW.trod enc prog w 0 sp held g 26 m=some x):∃l:Raw,CD (IB w) w (Gq l) (.agg m.toArray):=by
 obtain⟨v,n,j⟩:=KY Tryz.underlying26 (k:=5) (by kernel_rfl) rfl (λi hi=>by
  match i,hi with
  |0,_=>exact⟨rfl,by kernel_rfl⟩
  |1,_=>exact⟨rfl,by kernel_rfl⟩
  |2,_=>exact⟨rfl,by kernel_rfl⟩
  |3,_=>exact⟨rfl,by kernel_rfl⟩
  |4,_=>exact⟨rfl,by kernel_rfl⟩) h
 obtain⟨a,b,c,d,e,rfl⟩:=og v;obtain⟨L,h0⟩:=j 0 (by decide) (by simp);obtain⟨M,h1⟩:=j 1 (by decide) (by simp);obtain⟨N,z⟩:=j 2 (by decide) (by simp);obtain⟨P,A⟩:=j 3 (by decide) (by simp);obtain⟨Q,B⟩:=j 4 (by decide) (by simp);obtain⟨n0,o,C⟩:=Gy h0;obtain⟨n1,q,r1⟩:=Gy h1;obtain⟨k2,R,s,E,r2⟩:=Jy z;obtain⟨k3,S,t,F,G⟩:=g9 A;obtain⟨k4,T,u,J,K⟩:=fH B;simp at o q s t u;subst o q s t u;exact⟨⟨n0,n1,k2,k3,k4⟩,tZ (.int _ _ C) (.int _ _ r1) r2 G K ⟨rfl,rfl,E,F,J⟩⟩
theorem tu{j:List bn}(h:j.length=8):∃a b c d e f g i,j=[a,b,c,d,e,f,g,i]:=by
 match j,h with
 |[a,b,c,d,e,f,g,i],_=>exact⟨a,b,c,d,e,f,g,i,rfl⟩
theorem gx{m:Nat}{A:List bn}{x:DataW H×List MemPlace}(h:DataW.trod enc prog w 0 sp held m 28 A=some x):∃l:Input,CD (IB w) w (Dj l) (.agg A.toArray):=by
 obtain⟨B,n,rfl,rfl,h1,J,s⟩:=DataW.trod_struct Tryz.underlying28 h;have K:prog.cellsOf 28=8:=by kernel_rfl
 have t:prog.cellsOf 26=5:=by kernel_rfl
 have L:prog.cellsOf 5=1:=by kernel_rfl
 have u:prog.cellsOf 22=1:=by kernel_rfl
 rw[K]at h1;have v:B.length=4:=J;obtain⟨a,b,c,d,e,f,g,i,rfl⟩:=tu h1;match B,v with
 |[M,N,P,Q],_=>
  have C:DataW.trod enc prog w 0 sp held n 26 (([a,b,c,d,e,f,g,i].drop 0).take (prog.cellsOf 26))=some M:=s 0 _ rfl;have k1:DataW.trod enc prog w 0 sp held n 5 (([a,b,c,d,e,f,g,i].drop 5).take (prog.cellsOf 5))=some N:=s 1 _ rfl;have k2:DataW.trod enc prog w 0 sp held n 22 (([a,b,c,d,e,f,g,i].drop 6).take (prog.cellsOf 22))=some P:=s 2 _ rfl;have k3:DataW.trod enc prog w 0 sp held n 22 (([a,b,c,d,e,f,g,i].drop 7).take (prog.cellsOf 22))=some Q:=s 3 _ rfl;rw[t]at C;rw[L]at k1;rw[u]at k2 k3;obtain⟨r,z⟩:=qG C;obtain⟨n1,E,r1⟩:=Gy k1;obtain⟨l2,W,F,R,r2⟩:=Jy k2;obtain⟨S,X,G,T,U⟩:=Jy k3;simp at E F G;subst E F G;refine⟨⟨r,n1,l2.map λ(k:Nat)=>(k:Int),S.map λ(k:Nat)=>(k:Int)⟩,?_⟩;simp[List.take_succ_cons,List.take_zero]at z;unfold Gq at z;cases z with
  |agg _ _ Y o q=>
   refine .agg _ _ rfl (λj hj=>?_) (λj hj=>?_)
   .match j,hj with
    |0,_=>exact o 0 (by simp)
    |1,_=>exact o 1 (by simp)
    |2,_=>exact o 2 (by simp)
    |3,_=>exact o 3 (by simp)
    |4,_=>exact o 4 (by simp)
    |5,_=>exact .int _ _ r1
    |6,_=>simpa[kw]using r2
    |7,_=>simpa[kw]using U
   .match j,hj with
    |0,_=>exact q 0 (by simp)
    |1,_=>exact q 1 (by simp)
    |2,_=>exact q 2 (by simp)
    |3,_=>exact q 3 (by simp)
    |4,_=>exact q 4 (by simp)
    |5,_=>rfl
    |6,_=>exact R
    |7,_=>exact T
end
end Go.Koi
namespace Go.Proofs.YtgdfmldabcofeaaGreatDoor
open Go.ChangeShapes Go.WideShapes Go.ChangeAt Go.RowKit Go.Koi
theorem own:ownKnob Tryz.prog.godebug=none:=by kernel_rfl
theorem rN:Tryz.prog.globalNamed "math/bits.deBruijn64tab"=some 0:=by kernel_rfl
theorem cj:(Tryz.prog.globals[0]?).map (·.type)=some 341:=by kernel_rfl
theorem sX:((List.range Tryz.prog.globals.size).all λg=>decide (g=0)||!decide ((Tryz.prog.globals[g]?).map (·.name)=some "math/bits.deBruijn64tab"))=true:=by kernel_rfl
theorem si{g:Nat}(h:(Tryz.prog.globals[g]?).map (·.name)=some "math/bits.deBruijn64tab"):g=0:=by
 have i:g<Tryz.prog.globals.size:=by
  rcases pu g Tryz.prog.globals.size with h1|h1
  .exact h1
  .rw[wE h1]at h;cases h
 have j:=cl.1 sX g (pm.2 i);simpa[h]using j
theorem table{W:World}(h:laidMetH Tryz.prog Rows.changeFoldInlineRow.laid W):Lib.TabIs Tryz.prog W "math/bits.deBruijn64tab" .u8 Bz:=
 Lib.tabIs_of_head (rest:=[]) rN cj Tryz.underlying341 Tryz.underlying5 (by kernel_rfl) (by kernel_rfl) h
noncomputable def gh(W:World):Gh:=⟨IB W,λ_=>0,λ_=>(0,0),λ_=>none⟩
theorem rI{W:World}(h:laidMetH Tryz.prog Rows.changeFoldInlineRow.laid W):Rel Tryz.prog (gh W) [] W where
 GQ:=λg k=>by
  obtain rfl:=si k;have i:∀j (hj:j<Bz.length),W.cell? ⟨0,j,none⟩=some (.int .u8 Bz[j]):=λj hj=>by
   have:=(table h).cell rN j hj;simpa[List.getD,hj]using this
  exact⟨(Ob (i 0 (by decide))).1,i⟩
 DG:=λr o h=>by simp at h
 inj:=λr m o q h=>by simp at h
 nI:=λb ⟨r,o,h,_⟩=>by simp at h
 JY:=λb h=>h
 HL:=λb ⟨r,o,h,_⟩=>by simp at h
theorem walk(r:Koi.Input)(x:IX){W:World}(h:laidMetH Tryz.prog Rows.changeFoldInlineRow.laid W){a b:Value}(ha:CD (IB W) W (Dj r) a)(hb:CD (IB W) W (DB x) b):
  Calls Tryz.prog 3 #[a,b] W λe g=>e=.returned (.bool true)/\g.os=W.os/\g.output=W.output/\W.heap.size<=g.heap.size/\∀k,k<W.heap.size->g.heap[k]?=W.heap[k]?:=by
 refine((pA ZC r x).2 (gh W) W #[a,b] (rI h) rfl (λi h1 t=>by
  match i,h1 with
  |0,_=>exact .d _ _ ha
  |1,_=>exact .d _ _ hb)).mono ?_
 rintro e g ⟨cv,u,rfl,m,_,j,_⟩;refine⟨?_,j.os,j.out,j.size,λk q=>j.Dz k q λ⟨r,o,h,_⟩=>by simp at h⟩;cases m with
 |d _ _ s=>cases s with|bool=>rfl
theorem Ov{P:Program}{W:World}{base:Nat}{t:TypeId}{fs:Array Field}{v:Value}(i:P.underlying t=some (.struct fs))(h:Value.okWide P W .any base t v):∃g,v=.agg g/\g.size=P.cellsOf t:=by
 unfold Value.okWide at h;rw[i]at h;obtain⟨g,h1,j,_⟩:=h;exact⟨g,h1,j⟩
theorem laidOut:laidOutB Tryz.prog=true:=by kernel_rfl
theorem rU:decide (30<Tryz.prog.types.size)=true:=by kernel_rfl
theorem nw(t:Nat)(h:t<=30):t<Tryz.prog.types.size:=by have:=acM rU;omega
theorem fe(H:Type)(enc:TypeId×Value->H)(W:World)(base:Nat)(args:Array Value)(ds N:List (DataW H))(k:List MemPlace)
  (u:∀(j:Nat) t v,Tryz.f3.params[j]?=some t->args[j]?=some v->Value.okWide Tryz.prog W .any base t v)
  (E:DataW.Whole enc Tryz.prog Tryz.f3.params.toList Rows.changeFoldInlineSpec.vars false W args.toList ds N k) (P:laidMetH Tryz.prog Rows.changeFoldInlineRow.laid W):
  Calls Tryz.prog 3 args W λe s=>∃v,e=.returned v/\Rows.changeFoldInlineSpec.post enc Tryz.prog Tryz.f3 false true false false W args v s:=by
 have m:=E;obtain⟨p,q,z,hV,rfl,Q,vW⟩:=E;have F:DataW.TrodAll enc Tryz.prog W 0 (λ_=>true) true Tryz.f3.params.toList args.toList ds p:=z;rw[Tryz.params3]at F u;obtain⟨G,R,d0,S,p0,q0,vl,rfl,rfl,h0,T⟩:=trodAll_cons F;obtain⟨J,U,d1,X,p1,q1,rfl,rfl,rfl,h1,r1⟩:=trodAll_cons T;obtain⟨rfl,rfl,rfl⟩:=trodAll_nil r1;obtain rfl:args=#[G,J]:=by cases args;simp_all
 obtain⟨rfl,rfl⟩:=trodVars_none hV;have K:=λp g=>m.lt p g;obtain⟨c0,rfl,-⟩:=Ov Tryz.underlying28 (u 0 28 G rfl rfl);obtain⟨c1,rfl,-⟩:=Ov Tryz.underlying30 (u 1 30 J rfl rfl);obtain⟨f0,Y⟩:=id h0;obtain⟨f1,Z⟩:=id h1;obtain⟨r,L⟩:=gx Y;obtain⟨x,k1⟩:=ig Z;simp[Value.cells,Array.toArray_toList]at L k1;refine(walk r x P L k1).mono λe s ⟨he,h3,h4,h5,A⟩=>?_;subst he;have hs:∀p:MemPlace,p.block<W.heap.size->W.sameAt s p:=λp g=>by
  cases p with
  |cell b o=>exact World.cell?_of_block (w:=W) (A b g)
  |map b=>exact A b g
 have st:∀{t:TypeId} {v:Value} {d:DataW H} {B:List MemPlace},t=28\/t=30->DataW.Trod enc Tryz.prog W 0 (λ_=>true) true t v d B->(∀p∈B,p.block<W.heap.size)->DataW.Trod enc Tryz.prog s 0 (λb=>decide (b<W.heap.size)) true t v d B:=λM h g=>by
  refine WideElems.Trod_stays laidOut ?_ ?_ h (λp C=>hs p (g p C)) (λp C=>by simpa using g p C)
  .rcases M with rfl|rfl<;>kernel_rfl
  .rcases M with rfl|rfl<;>exact nw _ (by decide)
 refine⟨_,rfl,_,_,_,[],p0++(p1++[]),[],m,trodAll_mk1 (shut_bool Tryz.underlying4 _),?_,rfl,?_,λh=>by cases h⟩
 .rw[Tryz.params3];exact trodAll_cons_mk (st (.inl rfl) h0 λp g=>K p (by simp[g])) (trodAll_cons_mk (st (.inr rfl) h1 λp g=>K p (by simp[g])) trodAll_mk0)
 .refine⟨h3,h4,λi hi=>?_⟩;rw[A i hi];split<;>simp_all
end Go.Proofs.YtgdfmldabcofeaaGreatDoor
namespace Go.Proofs.YtgdfmldabcofeaaGreatDoor
open Go.ChangeShapes Go.WideShapes Go.ChangeAt Go.RowKit Go.Koi
noncomputable def NG(os:Os):World:=
 {World.holding Tryz.prog os ⟨#[],#[],[]⟩with heap:=(World.holding Tryz.prog os ⟨#[],#[],[]⟩).heap.modify 0 λ
   |.cells _ t frozen=>.cells (Bz.map λz=>Value.int .u8 z).toArray t frozen
   |o=>o}
def ES:Value:=.agg #[.int .u8 0,.int .u8 0,.slice none 0 0,.slice none 0 0,.slice none 0 0,.int .u8 0,.slice none 0 0,.slice none 0 0]
def Fg:Value:=.agg #[.int .u8 0,.int .u8 0,.int .u8 0,.int .u8 0,.slice none 0 0]
theorem gn(os:Os):laidMet Tryz.prog Rows.changeFoldInlineRow.laid ((NG os).forCall (λ_ _=>0) ⟨#[],#[ES,Fg],[]⟩).memory:=
 laidMet_of_run' 8 (by kernel_rfl) (by kernel_rfl)
def tw{H:Type}:DataW H:=.agg [.agg [.lit (.int .u8 0),.lit (.int .u8 0),.nil,.nil,.nil],.lit (.int .u8 0),.nil,.nil]
def th{H:Type}:DataW H:=.agg [.lit (.int .u8 0),.lit (.int .u8 0),.lit (.int .u8 0),.lit (.int .u8 0),.nil]
theorem reads(os:Os){H:Type}(enc:TypeId×Value->H):∃g,DataW.whole enc Tryz.prog ((NG os).forCall (λ_ _=>0) ⟨#[],#[ES,Fg],[]⟩).memory Tryz.f3.params.toList Rows.changeFoldInlineSpec.vars false #[ES,Fg].toList 8=some ([tw,th],[],g):=
 ⟨[],by kernel_rfl⟩
theorem lifted(os:Os)(g:os.Started)(H:Type)(enc:TypeId×Value->H)(F:Stop.Interp):
  ReturnsInHanded {} Tryz.checked os 3 .any ((OpenSpec.ofChange Rows.changeFoldInlineSpec).preRow enc Tryz.prog Tryz.f3 Rows.changeFoldInlineRow.domain false Rows.changeFoldInlineRow.laid) (((OpenSpec.ofChange Rows.changeFoldInlineSpec).at F).post enc Tryz.prog Tryz.f3 false true false false):=by
 obtain⟨i,j⟩:=reads os enc;refine returnsInHanded_of_row (C:=Tryz.checked) (s:=OpenSpec.ofChange Rows.changeFoldInlineSpec) own g (by kernel_rfl) Tryz.func3
  (witness_row_at (enc:=enc) (C:=Tryz.checked) false (NG os) #[ES,Fg] rfl (by kernel_rfl) (by kernel_rfl) (by kernel_rfl)
   (OpenSpec.preRow_of_cond 8 j (by kernel_rfl) (λk m=>by cases m) (by kernel_rfl) (gn os))) ?_
 intro W base args ds o h q t _ _ _ u _ _;exact fe H enc W base args ds o h q t u
theorem said:Rows.ChangeFoldInlineSaid:=
 OpenClaim.holds_of_cond 3 Tryz.f3 rfl rfl rfl rfl rfl rfl rfl ⟨rfl,rfl,rfl,rfl,rfl⟩ rfl rfl rfl rfl rfl (by kernel_rfl) Tryz.func3 (by kernel_rfl)
  (acM (by kernel_rfl)) (by unfold Func.isWrapper;first|(rw[ap (by decide+kernel)];kernel_rfl)|(rw[ao (by decide+kernel)];exact⟨rfl,rfl⟩))
  (λos g H h _ F=>by rw[OpenClaim.pre_eq_preRow];exact lifted os g H h F)
theorem plain(f:FuncId)(fn:Func)(i:Tryz.pinned.checked.prog.funcNamed "koine/koinelaw31.ChangeFoldInline"=some f)(g:Tryz.pinned.checked.prog.funcs[f]?=some fn):
  true=Tryz.pinned.checked.prog.looks []/\∀(j:Nat) t,fn.params[j]?=some t->Tryz.pinned.checked.prog.wantsStandIn t=false:=by
 obtain rfl:f=3:=oi ((show Tryz.prog.funcNamed "koine/koinelaw31.ChangeFoldInline"=some 3 by kernel_rfl).symm.trans i) |>.symm;obtain rfl:fn=Tryz.f3:=(oi (Tryz.func3.symm.trans g)).symm;refine⟨by kernel_rfl,λj t h=>?_⟩;rw[Tryz.params3]at h;have k:t∈[28,30]:=by
  have:=ac1 h;simp at this⊢;exact this
 have m:([28,30].all λu=>!Tryz.prog.wantsStandIn u)=true:=by kernel_rfl
 exact(show Tryz.prog.wantsStandIn t=false by simpa using cl.1 m t k)
theorem card:Rows.ChangeFoldInlineCardSaid:=
 Claim7.holds_tied_plain_at .later [] _ _ _ _ said (λ_ h=>by cases h) (by kernel_rfl) (λ_ h=>by cases h) changeFoldInline_row_tie rfl ⟨rfl,rfl⟩ (by kernel_rfl) rfl plain (by kernel_rfl)
#print axioms card
end Go.Proofs.YtgdfmldabcofeaaGreatDoor
