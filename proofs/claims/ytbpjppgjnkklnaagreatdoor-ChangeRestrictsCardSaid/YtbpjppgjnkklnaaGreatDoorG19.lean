/-
  The law ChangeRestricts of the package koinelaw31 returns true for every input, and its arguments read afterwards as before; no condition beyond those of the given card.
-/
import Derived.Test.YtbpjppgjnkklnaaGreatDoorG18
import Derived.Deep.Slices
import Derived.Test.YtbpjppgjnkklnaaGreatDoorCards
import Derived.Test.YtbpjppgjnkklnaaGreatDoorTie
import Derived.ProofKit
import Derived.OpenShut
import Derived.Deep.DeepHandedRow
import Derived.Lib.LaidTab
import Derived.WideKeyArgs
set_option maxHeartbeats 64000000
set_option maxRecDepth 100000
open List renaming length->Z
open Go.Value renaming okWide->afe
open Bool renaming true->J,false->ap
open Option renaming some->am
open Go.Proofs.Tryz renaming prog->ao
open Go.Proofs.Tryz
open Go renaming Value->de
namespace Go.Koi
open Go.Proofs Tryz
abbrev IB(w:World):Nat->Prop:=λb=>b<w.heap.size
section
variable {H:Type} {enc:TypeId×de->H} {w:World} {sp:Nat->Bool} {held:Bool}
theorem Od{w:World}{a:Addr}{v:de}(h:w.cell? a=am v):a.block<w.heap.size/\a.spot=none:=by
 unfold World.cell? at h;split at h
 .rename_i c t f hb;refine⟨?_,?_⟩
  .rcases s9 a.block w.heap.size with g|g
   .exact g
   .simp[H1 g]at hb
  .split at h
   .cases h
   .rename_i j;cases i:a.spot<;>simp[i]at j⊢
 .cases h
theorem Rn(a:Addr)(n:Nat):(a.add n).block=a.block/\(a.add n).off=a.off+n:=by
 unfold Addr.add;split
 .rename_i h;subst h;simp
 .simp
theorem lO{w:World}{a:Addr}{i j:Nat}{v:de}(h:w.cell? ((a.add i).add j)=am v):w.cell? ⟨a.block,a.off+i+j,none⟩=am v:=by
 obtain⟨_,k⟩:=Od h;have g:=Rn (a.add i) j;have m:=Rn a i;have:(a.add i).add j=⟨a.block,a.off+i+j,none⟩:=by
  cases q:(a.add i).add j with
  |mk b o s=>
   rw[q]at k g;simp only at k g;rw[k,g.1,g.2,m.1,m.2]
 rw[<-this];exact h
theorem Gx{g:Nat}{j:List de}{x:DataW H×List MemPlace}(h:DataW.trod enc ao w 0 sp held g 5 j=am x):∃n:Nat,j=[.int .u8 n]/\GZ .u8 n=true:=by
 obtain⟨n,rfl,rfl,i⟩:=DataW.trod_int Tryz.underlying5 h;rw[Vm]at i;have h0:0<=n:=by simp[GZ]at i;omega
 obtain⟨m,rfl⟩:=Int.eq_ofNat_of_zero_le h0;exact⟨m,rfl,i⟩
instance:Inhabited D:=⟨.bool ap⟩
theorem iC{t e sz g:Nat}{q:List de}{x:DataW H×List MemPlace}(W:prog.underlying t=am (.slice e))(P:prog.cellsOf e=sz)(R:0<sz)(Q:D->Prop)
  (K:∀n q x,DataW.trod enc ao w 0 sp held n e q=am x->∃u v,v.cells.toList=q/\CD (IB w) w u v/\Q u)
  (h:DataW.trod enc ao w 0 sp held g t q=am x):∃S v,q=[v]/\one v=J/\CD (IB w) w (.sl S) v/\∀u∈S,Q u:=by
 rcases Go.Deep.open_slice W h with⟨rfl,_⟩|⟨a,len,cap,m,n,DD,Pl,rfl,_,X,h2,Y,_,T⟩
 .exact⟨[],_,rfl,rfl,.nil _ _,by simp⟩
 .have hlm:len<=m:=by subst Y;split<;>omega
  obtain⟨f,A⟩:=Go.Deep.choose_lt (α:=D×de) (n:=len) (p:=λi p=>p.2.cells.size=sz/\(∀j,j<sz->w.cell? ⟨a.block,a.off+i * sz+j,none⟩=p.2.cells[j]?)/\CD (IB w) w p.1 p.2/\Q p.1) (λi hi=>by
   obtain⟨L,M,e2⟩:=T i (by omega);obtain⟨u,v,rfl,k1,k2⟩:=K _ _ _ e2;obtain⟨_,F,B⟩:=World.cells?_some M;rw[P]at F B;have G:v.cells.size=sz:=by simpa using F
   refine⟨(u,v),G,λj hj=>?_,k1,k2⟩;have U:=B j hj;have C:j<v.cells.size:=by omega
   rw[acb,ll C]at U;rw[lO U,ll C])
  refine⟨(List.range len).map λi=>(f i).1,_,rfl,rfl,?_,?_⟩
  .cases len with
   |zero=>exact .nil _ _
   |succ k=>
    have h0:=A 0 (by omega);have E:=h0.2.1 0 R;rw[ll (by omega)]at E;have zg:=(Od E).1;obtain⟨L,M,_⟩:=T 0 (by omega);obtain⟨_,F,B⟩:=World.cells?_some M;rw[P]at F B;have G:=B 0 R;rw[ej (by omega)]at G;have N:=(Od G).2;have ha:(a.add (0 * sz)).add 0=a:=by simp[Addr.add]
    rw[ha]at N;obtain⟨b,o,s⟩:=a;simp only at N;subst N;have:=CD.sl (I:=IB w) (w:=w) sz ((List.range (k+1)).map λi=>(f i).1) b o cap (λi=>(f i).2) zg (by simp;omega) (by simpa using X) (λi hi=>by simpa using(A i (by simpa using hi)).2.2.1) (λi hi=>⟨(A i (by simpa using hi)).1,(A i (by simpa using hi)).2.1⟩);simpa using this
  .intro u hu;obtain⟨i,hi,rfl⟩:=g7.1 hu;exact(A i (rv.1 hi)).2.2.2
theorem all_map{α:Type}{xs:List D}{g:α->D}(h:∀u∈xs,∃k,u=g k):∃ks:List α,xs=ks.map g:=by
 induction xs with
 |nil=>exact⟨[],rfl⟩
 |cons x l i=>
  obtain⟨k,rfl⟩:=h x (by simp);obtain⟨ks,rfl⟩:=i λu j=>h u (by simp[j]);exact⟨k::ks,rfl⟩
theorem Ji{g:Nat}{i:List de}{x:DataW H×List MemPlace}(h:DataW.trod enc ao w 0 sp held g 22 i=am x):
  ∃(ks:List Nat) (v:de),i=[v]/\one v=J/\CD (IB w) w (.sl (ks.map λ(k:Nat)=>D.int .u8 k)) v:=by
 obtain⟨A,v,rfl,j,m,o⟩:=iC Tryz.underlying22 (sz:=1) (by kernel_rfl) (by decide) (λu=>∃k:Nat,u=D.int .u8 k) (λn i x h=>by
  obtain⟨n,rfl,q⟩:=Gx h;exact⟨D.int .u8 n,.int .u8 n,rfl,.int _ _ q,n,rfl⟩) h
 obtain⟨ks,rfl⟩:=all_map o;exact⟨ks,v,rfl,j,m⟩
theorem KB{t g k:Nat}{fs:Array Field}{j:List de}{x:DataW H×List MemPlace}(o:prog.underlying t=am (.struct fs))(v:prog.cellsOf t=k)(A:fs.size=k)
  (q:∀i (hi:i<fs.size),fs[i].offset=i/\prog.cellsOf fs[i].type=1) (h:DataW.trod enc ao w 0 sp held g t j=am x):
  Z j=k/\∃n,∀i (hi:i<fs.size) (hj:i<Z j),∃y,DataW.trod enc ao w 0 sp held n fs[i].type [j[i]]=am y:=by
 obtain⟨B,n,rfl,rfl,C,E,u⟩:=DataW.trod_struct o h;refine⟨by omega,n,λi hi hj=>?_⟩;obtain⟨f1,f2⟩:=q i hi;have m:=u i fs[i] (by simp[hi]);rw[f1,f2,ej (by omega)]at m;rw[Hh hj]at m;exact⟨_,m⟩
theorem wj{a b c d e:D}{x y z u v:de}(g:CD (IB w) w a x)(j:CD (IB w) w b y)(k:CD (IB w) w c z)(m:CD (IB w) w d u)(o:CD (IB w) w e v)(q:one x=J/\one y=J/\one z=J/\one u=J/\one v=J):
  CD (IB w) w (.agg [a,b,c,d,e]) (.agg #[x,y,z,u,v]):=
 .agg _ _ rfl (λi h=>by
  match i,h with
  |0,_=>exact g
  |1,_=>exact j
  |2,_=>exact k
  |3,_=>exact m
  |4,_=>exact o) (λi h=>by
  obtain⟨o1,A,B,C,E⟩:=q;match i,h with
  |0,_=>exact o1
  |1,_=>exact A
  |2,_=>exact B
  |3,_=>exact C
  |4,_=>exact E)
theorem zU{a b c d:D}{x y z u:de}(g:CD (IB w) w a x)(j:CD (IB w) w b y)(k:CD (IB w) w c z)(m:CD (IB w) w d u)(o:one x=J/\one y=J/\one z=J/\one u=J):
  CD (IB w) w (.agg [a,b,c,d]) (.agg #[x,y,z,u]):=
 .agg _ _ rfl (λi h=>by
  match i,h with
  |0,_=>exact g
  |1,_=>exact j
  |2,_=>exact k
  |3,_=>exact m) (λi h=>by
  obtain⟨o1,q,v,A⟩:=o;match i,h with
  |0,_=>exact o1
  |1,_=>exact q
  |2,_=>exact v
  |3,_=>exact A)
theorem xo{g:List de}(h:Z g=4):∃a b c d,g=[a,b,c,d]:=by
 match g,h with
 |[a,b,c,d],_=>exact⟨a,b,c,d,rfl⟩
theorem sB{g:List de}(h:Z g=5):∃a b c d e,g=[a,b,c,d,e]:=by
 match g,h with
 |[a,b,c,d,e],_=>exact⟨a,b,c,d,e,rfl⟩
theorem mX{g:Nat}{m:List de}{x:DataW H×List MemPlace}(h:DataW.trod enc ao w 0 sp held g 148 m=am x):∃l:HY,CD (IB w) w (Cd l) (.agg m.toArray):=by
 obtain⟨A,n,j⟩:=KB Tryz.underlying148 (k:=4) (by kernel_rfl) rfl (λi hi=>by
  match i,hi with
  |0,_=>exact⟨rfl,by kernel_rfl⟩
  |1,_=>exact⟨rfl,by kernel_rfl⟩
  |2,_=>exact⟨rfl,by kernel_rfl⟩
  |3,_=>exact⟨rfl,by kernel_rfl⟩) h
 obtain⟨a,b,c,d,rfl⟩:=xo A;obtain⟨L,h0⟩:=j 0 (by decide) (by simp);obtain⟨M,B⟩:=j 1 (by decide) (by simp);obtain⟨N,C⟩:=j 2 (by decide) (by simp);obtain⟨P,E⟩:=j 3 (by decide) (by simp);obtain⟨n0,e0,F⟩:=Gx h0;obtain⟨ks,v,o,o1,r1⟩:=Ji B;obtain⟨G,q,r2⟩:=Gx C;obtain⟨n3,u,K⟩:=Gx E;simp at e0 o q u;subst e0 o q u;exact⟨⟨n0,ks,G,n3⟩,zU (.int _ _ F) r1 (.int _ _ r2) (.int _ _ K) ⟨rfl,o1,rfl,rfl⟩⟩
theorem ln{g:Nat}{m:List de}{x:DataW H×List MemPlace}(h:DataW.trod enc ao w 0 sp held g 151 m=am x):∃l:Hv,CD (IB w) w (Br l) (.agg m.toArray):=by
 obtain⟨A,n,j⟩:=KB Tryz.underlying151 (k:=5) (by kernel_rfl) rfl (λi hi=>by
  match i,hi with
  |0,_=>exact⟨rfl,by kernel_rfl⟩
  |1,_=>exact⟨rfl,by kernel_rfl⟩
  |2,_=>exact⟨rfl,by kernel_rfl⟩
  |3,_=>exact⟨rfl,by kernel_rfl⟩
  |4,_=>exact⟨rfl,by kernel_rfl⟩) h
 obtain⟨a,b,c,d,e,rfl⟩:=sB A;obtain⟨P,h0⟩:=j 0 (by decide) (by simp);obtain⟨Q,B⟩:=j 1 (by decide) (by simp);obtain⟨R,C⟩:=j 2 (by decide) (by simp);obtain⟨S,E⟩:=j 3 (by decide) (by simp);obtain⟨T,F⟩:=j 4 (by decide) (by simp);obtain⟨n0,e0,G⟩:=Gx h0;obtain⟨n1,o,r1⟩:=Gx B;obtain⟨K,q,r2⟩:=Gx C;obtain⟨n3,u,L⟩:=Gx E;obtain⟨M,v,N⟩:=Gx F;simp at e0 o q u v;subst e0 o q u v;exact⟨⟨n0,n1,K,n3,M⟩,wj (.int _ _ G) (.int _ _ r1) (.int _ _ r2) (.int _ _ L) (.int _ _ N) ⟨rfl,rfl,rfl,rfl,rfl⟩⟩
theorem iH{g:Nat}{m:List de}{x:DataW H×List MemPlace}(h:DataW.trod enc ao w 0 sp held g 30 m=am x):∃l:Ih,CD (IB w) w (B2 l) (.agg m.toArray):=by
 obtain⟨B,n,j⟩:=KB Tryz.underlying30 (k:=5) (by kernel_rfl) rfl (λi hi=>by
  match i,hi with
  |0,_=>exact⟨rfl,by kernel_rfl⟩
  |1,_=>exact⟨rfl,by kernel_rfl⟩
  |2,_=>exact⟨rfl,by kernel_rfl⟩
  |3,_=>exact⟨rfl,by kernel_rfl⟩
  |4,_=>exact⟨rfl,by kernel_rfl⟩) h
 obtain⟨a,b,c,d,e,rfl⟩:=sB B;obtain⟨Q,h0⟩:=j 0 (by decide) (by simp);obtain⟨R,C⟩:=j 1 (by decide) (by simp);obtain⟨S,E⟩:=j 2 (by decide) (by simp);obtain⟨T,F⟩:=j 3 (by decide) (by simp);obtain⟨U,G⟩:=j 4 (by decide) (by simp);obtain⟨n0,e0,K⟩:=Gx h0;obtain⟨n1,o,r1⟩:=Gx C;obtain⟨L,q,r2⟩:=Gx E;obtain⟨n3,u,M⟩:=Gx F;obtain⟨ks,v,A,N,P⟩:=Ji G;simp at e0 o q u A;subst e0 o q u A;exact⟨⟨n0,n1,L,n3,ks⟩,wj (.int _ _ K) (.int _ _ r1) (.int _ _ r2) (.int _ _ M) P ⟨rfl,rfl,rfl,rfl,N⟩⟩
theorem jn{g:Nat}{i:List de}{x:DataW H×List MemPlace}(h:DataW.trod enc ao w 0 sp held g 23 i=am x):∃(j:List HY) (v:de),i=[v]/\one v=J/\CD (IB w) w (.sl (j.map Cd)) v:=by
 obtain⟨B,v,rfl,m,o,q⟩:=iC Tryz.underlying23 (sz:=4) (by kernel_rfl) (by decide) (λu=>∃k:HY,u=Cd k) (λn i x h=>by
  obtain⟨l,A⟩:=mX h;exact⟨_,.agg i.toArray,by simp[Value.cells],A,l,rfl⟩) h
 obtain⟨ks,rfl⟩:=all_map q;exact⟨ks,v,rfl,m,o⟩
theorem jy{g:Nat}{i:List de}{x:DataW H×List MemPlace}(h:DataW.trod enc ao w 0 sp held g 24 i=am x):∃(j:List Hv) (v:de),i=[v]/\one v=J/\CD (IB w) w (.sl (j.map Br)) v:=by
 obtain⟨B,v,rfl,m,o,q⟩:=iC Tryz.underlying24 (sz:=5) (by kernel_rfl) (by decide) (λu=>∃k:Hv,u=Br k) (λn i x h=>by
  obtain⟨l,A⟩:=ln h;exact⟨_,.agg i.toArray,by simp[Value.cells],A,l,rfl⟩) h
 obtain⟨ks,rfl⟩:=all_map q;exact⟨ks,v,rfl,m,o⟩
theorem sG{g:Nat}{m:List de}{x:DataW H×List MemPlace}(h:DataW.trod enc ao w 0 sp held g 26 m=am x):∃l:Raw,CD (IB w) w (Gq l) (.agg m.toArray):=by
 obtain⟨A,n,j⟩:=KB Tryz.underlying26 (k:=5) (by kernel_rfl) rfl (λi hi=>by
  match i,hi with
  |0,_=>exact⟨rfl,by kernel_rfl⟩
  |1,_=>exact⟨rfl,by kernel_rfl⟩
  |2,_=>exact⟨rfl,by kernel_rfl⟩
  |3,_=>exact⟨rfl,by kernel_rfl⟩
  |4,_=>exact⟨rfl,by kernel_rfl⟩) h
 obtain⟨a,b,c,d,e,rfl⟩:=sB A;obtain⟨Q,h0⟩:=j 0 (by decide) (by simp);obtain⟨R,B⟩:=j 1 (by decide) (by simp);obtain⟨S,C⟩:=j 2 (by decide) (by simp);obtain⟨T,E⟩:=j 3 (by decide) (by simp);obtain⟨U,F⟩:=j 4 (by decide) (by simp);obtain⟨n0,e0,G⟩:=Gx h0;obtain⟨n1,o,r1⟩:=Gx B;obtain⟨k2,W,q,K,r2⟩:=Ji C;obtain⟨k3,X,u,L,M⟩:=jn E;obtain⟨k4,Y,v,N,P⟩:=jy F;simp at e0 o q u v;subst e0 o q u v;exact⟨⟨n0,n1,k2,k3,k4⟩,wj (.int _ _ G) (.int _ _ r1) r2 M P ⟨rfl,rfl,K,L,N⟩⟩
theorem len8{j:List de}(h:Z j=8):∃a b c d e f g i,j=[a,b,c,d,e,f,g,i]:=by
 match j,h with
 |[a,b,c,d,e,f,g,i],_=>exact⟨a,b,c,d,e,f,g,i,rfl⟩
theorem jQ{m:Nat}{E:List de}{x:DataW H×List MemPlace}(h:DataW.trod enc ao w 0 sp held m 28 E=am x):∃l:Input,CD (IB w) w (DF l) (.agg E.toArray):=by
 obtain⟨F,n,rfl,rfl,G,P,u⟩:=DataW.trod_struct Tryz.underlying28 h;have Q:prog.cellsOf 28=8:=by kernel_rfl
 have v:prog.cellsOf 26=5:=by kernel_rfl
 have R:prog.cellsOf 5=1:=by kernel_rfl
 have A:prog.cellsOf 22=1:=by kernel_rfl
 rw[Q]at G;have B:Z F=4:=P;obtain⟨a,b,c,d,e,f,g,i,rfl⟩:=len8 G;match F,B with
 |[S,x1,T,U],_=>
  have K:DataW.trod enc ao w 0 sp held n 26 (([a,b,c,d,e,f,g,i].drop 0).take (prog.cellsOf 26))=am S:=u 0 _ rfl;have k1:DataW.trod enc ao w 0 sp held n 5 (([a,b,c,d,e,f,g,i].drop 5).take (prog.cellsOf 5))=am x1:=u 1 _ rfl;have k2:DataW.trod enc ao w 0 sp held n 22 (([a,b,c,d,e,f,g,i].drop 6).take (prog.cellsOf 22))=am T:=u 2 _ rfl;have k3:DataW.trod enc ao w 0 sp held n 22 (([a,b,c,d,e,f,g,i].drop 7).take (prog.cellsOf 22))=am U:=u 3 _ rfl;rw[v]at K;rw[R]at k1;rw[A]at k2 k3;obtain⟨r,C⟩:=sG K;obtain⟨n1,L,r1⟩:=Gx k1;obtain⟨l2,v2,M,W,r2⟩:=Ji k2;obtain⟨X,v3,N,Y,r3⟩:=Ji k3;simp at L M N;subst L M N;refine⟨⟨r,n1,l2.map λ(k:Nat)=>(k:Int),X.map λ(k:Nat)=>(k:Int)⟩,?_⟩;simp only[adQ,List.take_succ_cons,List.take_zero]at C;unfold Gq at C;cases C with
  |agg _ _ hs o q=>
   refine .agg _ _ rfl (λj hj=>?_) (λj hj=>?_)
   .match j,hj with
    |0,_=>exact o 0 (by simp)
    |1,_=>exact o 1 (by simp)
    |2,_=>exact o 2 (by simp)
    |3,_=>exact o 3 (by simp)
    |4,_=>exact o 4 (by simp)
    |5,_=>exact .int _ _ r1
    |6,_=>simpa[nc]using r2
    |7,_=>simpa[nc]using r3
   .match j,hj with
    |0,_=>exact q 0 (by simp)
    |1,_=>exact q 1 (by simp)
    |2,_=>exact q 2 (by simp)
    |3,_=>exact q 3 (by simp)
    |4,_=>exact q 4 (by simp)
    |5,_=>rfl
    |6,_=>exact W
    |7,_=>exact Y
end
end Go.Koi
namespace Go.Proofs.YtbpjppgjnkklnaaGreatDoor
open Go.ChangeShapes Go.WideShapes Go.ChangeAt Go.RowKit Go.Koi
theorem own:ownKnob Tryz.prog.godebug=none:=by kernel_rfl
theorem vX:Tryz.prog.globalNamed "math/bits.deBruijn64tab"=am 0:=by kernel_rfl
theorem cj:(Tryz.prog.globals[0]?).map (·.type)=am 379:=by kernel_rfl
theorem uZ:((List.range Tryz.prog.globals.size).all λg=>decide (g=0)||!decide ((Tryz.prog.globals[g]?).map (·.name)=am "math/bits.deBruijn64tab"))=true:=by kernel_rfl
theorem vL{g:Nat}(h:(Tryz.prog.globals[g]?).map (·.name)=am "math/bits.deBruijn64tab"):g=0:=by
 have j:g<Tryz.prog.globals.size:=by
  rcases s9 g Tryz.prog.globals.size with i|i
  .exact i
  .rw[H1 i]at h;cases h
 have k:=ed.1 uZ g (rv.2 j);simpa[h]using k
theorem table{W:World}(h:laidMetH Tryz.prog Rows.changeRestrictsRow.laid W):Lib.TabIs Tryz.prog W "math/bits.deBruijn64tab" .u8 Bw:=
 Lib.tabIs_of_head (rest:=[]) vX cj Tryz.underlying379 Tryz.underlying5 (by kernel_rfl) (by kernel_rfl) h
noncomputable def gh(W:World):Gh:=⟨IB W,λ_=>0,λ_=>(0,0),λ_=>none⟩
theorem vu{W:World}(h:laidMetH Tryz.prog Rows.changeRestrictsRow.laid W):Rel Tryz.prog (gh W) [] W where
 Gl:=λg k=>by
  obtain rfl:=vL k;have i:∀j (hj:j<Z Bw),W.cell? ⟨0,j,none⟩=am (.int .u8 Bw[j]):=λj hj=>by
   have:=(table h).cell vX j hj;simpa[List.getD,hj]using this
  exact⟨(Od (i 0 (by decide))).1,i⟩
 Da:=λr o h=>by simp at h
 inj:=λr m o q h=>by simp at h
 nI:=λb ⟨r,o,h,_⟩=>by simp at h
 JH:=λb h=>h
 IJ:=λb ⟨r,o,h,_⟩=>by simp at h
theorem walk(r:Koi.Input)(x:Ih)(g:Bool){W:World}(h:laidMetH Tryz.prog Rows.changeRestrictsRow.laid W){a b:de}(ha:CD (IB W) W (DF r) a)(hb:CD (IB W) W (B2 x) b):
  Calls Tryz.prog 3 #[a,b,.bool g] W λe j=>e=.returned (.bool J)/\j.os=W.os/\j.output=W.output/\W.heap.size<=j.heap.size/\∀k,k<W.heap.size->j.heap[k]?=W.heap[k]?:=by
 refine((qz Yq r x g).2 (gh W) W #[a,b,.bool g] (vu h) rfl (λi u A=>by
  match i,u with
  |0,_=>exact .d _ _ ha
  |1,_=>exact .d _ _ hb
  |2,_=>exact .d _ _ (.bool g))).mono ?_
 rintro e j ⟨cv,B,rfl,q,_,m,_⟩;refine⟨?_,m.os,m.out,m.size,λk v=>m.DB k v λ⟨r,o,h,_⟩=>by simp at h⟩;cases q with
 |d _ _ w=>cases w with|bool=>rfl
theorem PH{P:Program}{W:World}{base:Nat}{t:TypeId}{fs:Array Field}{v:de}(i:P.underlying t=am (.struct fs))(h:afe P W .any base t v):∃g,v=.agg g/\g.size=P.cellsOf t:=by
 unfold afe at h;rw[i]at h;obtain⟨g,j,k,_⟩:=h;exact⟨g,j,k⟩
theorem od{P:Program}{W:World}{base:Nat}{t:TypeId}{v:de}(g:P.underlying t=am .bool)(h:afe P W .any base t v):∃b,v=.bool b:=by
 unfold afe Cell.okWide Cell.ok at h;rw[g]at h;cases v<;>simp at h;exact⟨_,rfl⟩
theorem laidOut:laidOutB Tryz.prog=true:=by kernel_rfl
theorem vr:decide (30<Tryz.prog.types.size)=true:=by kernel_rfl
theorem V8(t:Nat)(h:t<=30):t<Tryz.prog.types.size:=by have:=adm vr;omega
theorem cq(H:Type)(enc:TypeId×de->H)(W:World)(base:Nat)(args:Array de)(ds T:List (DataW H))(m:List MemPlace)
  (g:∀(j:Nat) t v,Tryz.f3.params[j]?=am t->args[j]?=am v->afe Tryz.prog W .any base t v)
  (K:DataW.Whole enc Tryz.prog Tryz.f3.params.toList Rows.changeRestrictsSpec.vars ap W args.toList ds T m) (U:laidMetH Tryz.prog Rows.changeRestrictsRow.laid W):
  Calls Tryz.prog 3 args W λe B=>∃v,e=.returned v/\Rows.changeRestrictsSpec.post enc Tryz.prog Tryz.f3 ap J ap ap W args v B:=by
 have A:=K;obtain⟨p,q,C,hV,rfl,X,Y⟩:=K;have L:DataW.TrodAll enc Tryz.prog W 0 (λ_=>J) J Tryz.f3.params.toList args.toList ds p:=C;rw[Tryz.params3]at L g;obtain⟨M,vs0,d0,ds0,p0,q0,zl,rfl,rfl,h0,r0⟩:=trodAll_cons L;obtain⟨N,vs1,d1,ds1,p1,q1,rfl,rfl,rfl,P,r1⟩:=trodAll_cons r0;obtain⟨Q,vs2,d2,ds2,p2,q2,rfl,rfl,rfl,h2,r2⟩:=trodAll_cons r1;obtain⟨rfl,rfl,rfl⟩:=trodAll_nil r2;obtain rfl:args=#[M,N,Q]:=by cases args;simp_all
 obtain⟨rfl,rfl⟩:=trodVars_none hV;have E:=λp k=>A.lt p k;obtain⟨c0,rfl,-⟩:=PH Tryz.underlying28 (g 0 28 M rfl rfl);obtain⟨c1,rfl,-⟩:=PH Tryz.underlying30 (g 1 30 N rfl rfl);obtain⟨bb,rfl⟩:=od Tryz.underlying4 (g 2 4 Q rfl rfl);obtain⟨f0,g0⟩:=id h0;obtain⟨f1,g1⟩:=id P;obtain⟨r,R⟩:=jQ g0;obtain⟨x,k1⟩:=iH g1;simp only[Value.cells,Array.toArray_toList]at R k1;refine(walk r x bb U R k1).mono λe B ⟨he,h3,h4,h5,F⟩=>?_;subst he;have hs:∀p:MemPlace,p.block<W.heap.size->W.sameAt B p:=λp k=>by
  cases p with
  |cell b o=>exact World.cell?_of_block (w:=W) (F b k)
  |map b=>exact F b k
 have st:∀{t:TypeId} {v:de} {d:DataW H} {G:List MemPlace},t=28\/t=30\/t=4->DataW.Trod enc Tryz.prog W 0 (λ_=>J) J t v d G->(∀p∈G,p.block<W.heap.size)->DataW.Trod enc Tryz.prog B 0 (λb=>decide (b<W.heap.size)) J t v d G:=λS h k=>by
  refine WideElems.Trod_stays laidOut ?_ ?_ h (λp u=>hs p (k p u)) (λp u=>by simpa using k p u)
  .rcases S with rfl|rfl|rfl<;>kernel_rfl
  .rcases S with rfl|rfl|rfl
   .exact V8 _ (by decide)
   .exact V8 _ (by decide)
   .exact V8 _ (by decide)
 refine⟨_,rfl,_,_,_,[],p0++(p1++(p2++[])),[],A,trodAll_mk1 (shut_bool Tryz.underlying4 _),?_,rfl,?_,λh=>by cases h⟩
 .rw[Tryz.params3];exact trodAll_cons_mk (st (.inl rfl) h0 λp k=>E p (by simp[k])) (trodAll_cons_mk (st (.inr (.inl rfl)) P λp k=>E p (by simp[k])) (trodAll_cons_mk (st (.inr (.inr rfl)) h2 λp k=>E p (by simp[k])) trodAll_mk0))
 .refine⟨h3,h4,λi hi=>?_⟩;rw[F i hi];split<;>simp_all
end Go.Proofs.YtbpjppgjnkklnaaGreatDoor
namespace Go.Proofs.YtbpjppgjnkklnaaGreatDoor
open Go.ChangeShapes Go.WideShapes Go.ChangeAt Go.RowKit Go.Koi
noncomputable def NG(os:Os):World:=
 {World.holding Tryz.prog os ⟨#[],#[],[]⟩with heap:=(World.holding Tryz.prog os ⟨#[],#[],[]⟩).heap.modify 0 λ
   |.cells _ t frozen=>.cells (Bw.map λz=>Value.int .u8 z).toArray t frozen
   |o=>o}
def EN:de:=.agg #[.int .u8 0,.int .u8 0,.slice none 0 0,.slice none 0 0,.slice none 0 0,.int .u8 0,.slice none 0 0,.slice none 0 0]
def F0:de:=.agg #[.int .u8 0,.int .u8 0,.int .u8 0,.int .u8 0,.slice none 0 0]
def Kh:de:=.bool ap
theorem dk(os:Os):laidMet Tryz.prog Rows.changeRestrictsRow.laid ((NG os).forCall (λ_ _=>0) ⟨#[],#[EN,F0,Kh],[]⟩).memory:=
 laidMet_of_run' 8 (by kernel_rfl) (by kernel_rfl)
def yI{H:Type}:DataW H:=.agg [.agg [.lit (.int .u8 0),.lit (.int .u8 0),.nil,.nil,.nil],.lit (.int .u8 0),.nil,.nil]
def xu{H:Type}:DataW H:=.agg [.lit (.int .u8 0),.lit (.int .u8 0),.lit (.int .u8 0),.lit (.int .u8 0),.nil]
def wu{H:Type}:DataW H:=.lit (.bool ap)
theorem reads(os:Os){H:Type}(enc:TypeId×de->H):∃g,DataW.whole enc Tryz.prog ((NG os).forCall (λ_ _=>0) ⟨#[],#[EN,F0,Kh],[]⟩).memory Tryz.f3.params.toList Rows.changeRestrictsSpec.vars ap #[EN,F0,Kh].toList 8=am ([yI,xu,wu],[],g):=
 ⟨[],by kernel_rfl⟩
theorem lifted(os:Os)(g:os.Started)(H:Type)(enc:TypeId×de->H)(F:Stop.Interp):
  ReturnsInHanded {} Tryz.checked os 3 .any ((OpenSpec.ofChange Rows.changeRestrictsSpec).preRow enc Tryz.prog Tryz.f3 Rows.changeRestrictsRow.domain ap Rows.changeRestrictsRow.laid) (((OpenSpec.ofChange Rows.changeRestrictsSpec).at F).post enc Tryz.prog Tryz.f3 ap J ap ap):=by
 obtain⟨j,m⟩:=reads os enc;refine returnsInHanded_of_row (C:=Tryz.checked) (s:=OpenSpec.ofChange Rows.changeRestrictsSpec) own g (by kernel_rfl) Tryz.func3
  (witness_row_at (enc:=enc) (C:=Tryz.checked) ap (NG os) #[EN,F0,Kh] rfl (by kernel_rfl) (by kernel_rfl) (by kernel_rfl)
   (OpenSpec.preRow_of_cond 8 m (by kernel_rfl) (λk o=>by cases o) (by kernel_rfl) (dk os))) ?_
 intro W base args ds q h i u _ _ _ v _ _;exact cq H enc W base args ds q h i u v
theorem zA:(Rows.changeRestrictsRow.inPlace==Tryz.pinned.checked.prog.inPlace 3)=true:=by kernel_rfl
theorem zd:(Rows.changeRestrictsRow.unfollowed==Tryz.pinned.checked.prog.unfollowed 3)=true:=by kernel_rfl
theorem ze:(Rows.changeRestrictsRow.recurses==Tryz.pinned.checked.prog.recurses 3)=true:=by kernel_rfl
theorem zV:(Rows.changeRestrictsRow.named==Tryz.pinned.checked.prog.varsNamed 3)=true:=by kernel_rfl
theorem yy:joinedFacts Tryz.pinned.checked.prog 3 Tryz.f3 (OpenSpec.ofChange Rows.changeRestrictsSpec).bare Rows.changeRestrictsRow=true:=by
 unfold joinedFacts;rw[zA,zd,ze,zV];kernel_rfl
theorem said:Rows.ChangeRestrictsSaid:=
 OpenClaim.holds_of_cond 3 Tryz.f3 rfl rfl rfl rfl rfl rfl rfl ⟨rfl,rfl,rfl,rfl,rfl⟩ rfl rfl rfl rfl rfl (by kernel_rfl) Tryz.func3 yy
  (adm (by kernel_rfl)) (by unfold Func.isWrapper;first|(rw[ca (by decide+kernel)];kernel_rfl)|(rw[bv (by decide+kernel)];exact⟨rfl,rfl⟩))
  (λos g H h _ F=>by rw[OpenClaim.pre_eq_preRow];exact lifted os g H h F)
theorem plain(f:FuncId)(fn:Func)(i:Tryz.pinned.checked.prog.funcNamed "koine/koinelaw31.ChangeRestricts"=am f)(g:Tryz.pinned.checked.prog.funcs[f]?=am fn):
  J=Tryz.pinned.checked.prog.looks []/\∀(j:Nat) t,fn.params[j]?=am t->Tryz.pinned.checked.prog.wantsStandIn t=false:=by
 obtain rfl:f=3:=nu ((show Tryz.prog.funcNamed "koine/koinelaw31.ChangeRestricts"=am 3 by kernel_rfl).symm.trans i) |>.symm;obtain rfl:fn=Tryz.f3:=(nu (Tryz.func3.symm.trans g)).symm;refine⟨by kernel_rfl,λj t h=>?_⟩;rw[Tryz.params3]at h;have k:t∈[28,30,4]:=by
  have:=acL h;simp at this⊢;exact this
 have m:([28,30,4].all λu=>!Tryz.prog.wantsStandIn u)=true:=by kernel_rfl
 exact(show Tryz.prog.wantsStandIn t=ap by simpa using ed.1 m t k)
theorem card:Rows.ChangeRestrictsCardSaid:=
 Claim7.holds_tied_plain_at .later [] _ _ _ _ said (λ_ h=>by cases h) (by kernel_rfl) (λ_ h=>by cases h) changeRestricts_row_tie rfl ⟨rfl,rfl⟩ (by kernel_rfl) rfl plain (by kernel_rfl)
#print axioms card
end Go.Proofs.YtbpjppgjnkklnaaGreatDoor
