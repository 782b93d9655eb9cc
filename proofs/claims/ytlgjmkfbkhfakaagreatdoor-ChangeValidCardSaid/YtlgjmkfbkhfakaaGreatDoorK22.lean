/- Part 23 of the proof that the law ChangeValid returns true for every input. -/
import Derived.Test.YtlgjmkfbkhfakaaGreatDoorK21
set_option maxHeartbeats 64000000
set_option maxRecDepth 100000
namespace Go.Koi
open Go.Proofs Tryz DT
def DA(n:Nat)(ws:List Nat):Prop:=Fq ws∧∀b∈Dv ws,b<n
def FP(n:Nat)(Bk:List (List Nat)):Prop:=Bk.length=n∧∀ws∈Bk,DA n ws
theorem Fq.Jl{ws:List Nat}(h:Fq ws):∃a b c d e f g i,ws=[a,b,c,d,e,f,g,i]:=by
 obtain⟨h1,_⟩:=h;match ws,h1 with
 |[a,b,c,d,e,f,g,i],_=>exact⟨a,b,c,d,e,f,g,i,rfl⟩
@[simp] theorem cj(ws:List Nat):AAF (Co ws)=EI ws:=rfl
@[simp] theorem eW(ws:List Nat):Ar (Co ws)=true:=rfl
@[simp] theorem fS(ws:List Nat):AAW (Co ws)=false:=rfl
@[simp] theorem dF(ws:List Nat):strip (Co ws)=Co ws:=rfl
@[simp] theorem eC(ws:List Nat):need (Co ws)=True:=rfl
@[simp] theorem ct(n:Nat)(ws:List Nat):AAB n (Co ws)=true:=I3 n ws
theorem I5(ρ:Nat→Nat):∀ws:List Nat,AAa ρ (EI ws)=EI ws
 |[]=>rfl
 |w::ws=>by have:=I5 ρ ws;simp only[EI,List.map_cons]at *;simp[AAa,this]
@[simp] theorem bJ(ρ:Nat→Nat)(ws:List Nat):AAO ρ (Co ws)=Co ws:=by
 have:=I5 ρ ws;unfold Co;simp only[AAO,this]
@[simp] theorem NB(ρ:Nat→Nat):∀fs:List (List Nat),AAa ρ (fs.map Co)=fs.map Co
 |[]=>rfl
 |x::fs=>by have:=NB ρ fs;simp only[List.map_cons,AAa,bJ,this]
@[simp] theorem bZ(ρ:Nat→Nat)(fs:List (List Nat))(i:Nat)(x:List Nat):AAa ρ ((fs.map Co).set i (Co x))=(fs.map Co).set i (Co x):=by
 rw[←List.map_set,NB]
@[simp] theorem R3(n:Nat)(fs:List (List Nat)):AAI n (fs.map Co)=true:=Ee n fs
@[simp] theorem ZL(n:Nat)(fs:List (List Nat))(i:Nat)(x:List Nat):AAI n ((fs.map Co).set i (Co x))=true:=by
 rw[←List.map_set,R3]
def mC(p:List BM)(fi la:List Nat)(f n:Nat)(em:Bool):List V:=.d (Ax p)::(EI fi++(EI la++[.row f n,.d (.bool em)]))
def Dj(p:List BM)(fi la:List Nat)(f n:Nat)(em:Bool):O:=.row true 19 [.agg (mC p fi la f n em)]
theorem RS{base w b:Nat}:b∈Gy base w↔∃i<64,w.testBit i=true∧b=base+i:=by
 simp only[Gy,List.mem_map,List.mem_filter,List.mem_range];constructor
 ·rintro⟨i,⟨h1,h2⟩,rfl⟩;exact⟨i,h1,h2,rfl⟩
 ·rintro⟨i,h1,h2,rfl⟩;exact⟨i,⟨h1,h2⟩,rfl⟩
theorem HJ{ws:List Nat}{b:Nat}:b∈Dv ws↔b<512∧(ws.getD (b / 64) 0).testBit (b % 64)=true:=by
 simp only[Dv,Ig,List.drop_zero,List.mem_flatMap,List.mem_range,RS];constructor
 ·rintro⟨k,hk,i,hi,ht,rfl⟩;have e1:(64 * k+i) / 64=k:=by omega
  have e2:(64 * k+i) % 64=i:=by omega
  rw[e1,e2];exact⟨by omega,ht⟩
 ·rintro⟨h1,h2⟩;exact⟨b / 64,by omega,b % 64,by omega,h2,by omega⟩
theorem UM{ss ts:List Nat}(hs:Fq ss)(ht:Fq ts){b:Nat}(h:b∈Dv (HX ss ts)):b∈Dv ss∨b∈Dv ts:=by
 rw[HJ]at h;simp only[HJ];obtain⟨h1,h2⟩:=h;obtain⟨w,hw,_⟩:=hs.get (b / 64) (by omega);obtain⟨z,hz,_⟩:=ht.get (b / 64) (by omega);simp[HX,List.getElem?_zipWith,hw,hz]at h2⊢;rcases h2 with h2|h2
 ·exact .inl ⟨h1,h2⟩
 ·exact .inr ⟨h1,h2⟩
theorem RE{ws:List Nat}(hw:Fq ws){i b:Nat}(hi:i<512)(h:b∈Dv (GZ ws i)):b∈Dv ws∨b=i:=by
 rw[HJ]at h⊢;obtain⟨h1,h2⟩:=h;obtain⟨w,qF,_⟩:=hw.get (i / 64) (by omega);by_cases e:b / 64=i / 64
 ·have hl:i / 64<ws.length:=by rw[hw.1];omega
  simp[GZ,e,hl]at h2⊢;rcases h2 with h2|h2
  ·exact .inl ⟨h1,h2⟩
  ·right;rw[Nat.testBit_two_pow]at h2;have h2:=of_decide_eq_true h2;omega
 ·left;refine⟨h1,?_⟩;simp[GZ,Ne.symm e]at h2⊢;exact h2
def BE:List Nat:=[0,0,0,0,0,0,0,0]
theorem DK:V.agg [V.d (D.int .u64 0),V.d (D.int .u64 0),V.d (D.int .u64 0),V.d (D.int .u64 0),V.d (D.int .u64 0),V.d (D.int .u64 0),V.d (D.int .u64 0),V.d (D.int .u64 0)]=Co BE:=rfl
theorem BW(n:Nat):DA n BE:=by
 refine⟨⟨rfl,fun w hw=>by simp[BE]at hw;subst hw;decide⟩,fun b hb=>?_⟩;rw[HJ]at hb;obtain⟨h1,h2⟩:=hb;have:∀k<8,BE.getD k 0=0:=by decide
 rw[this _ (by omega)]at h2;simp at h2
theorem DA.or{n:Nat}{ss ts:List Nat}(hs:DA n ss)(ht:DA n ts):DA n (HX ss ts):=
 ⟨It hs.1 ht.1,fun b hb=>(UM hs.1 ht.1 hb).elim (hs.2 b) (ht.2 b)⟩
theorem DA.add{n:Nat}{ws:List Nat}(hs:DA n ws){i:Nat}(hi:i<n)(hn:n≤512):DA n (GZ ws i):=
 ⟨Qi hs.1 i (by omega),fun b hb=>(RE hs.1 (by omega) hb).elim (hs.2 b) fun e=>by omega⟩
def Jb(ts:List Nat)(Bk:List (List Nat))(i:Nat):List (List Nat):=Bk.set i (HX (Bk.getD i []) ts)
def Ha(Bk:List (List Nat))(from_ to_:List Nat):List (List Nat):=(Dv from_).foldl (Jb to_) Bk
theorem Kg{n:Nat}{ts:List Nat}(ht:DA n ts){Bk:List (List Nat)}(hf:FP n Bk){i:Nat}(hi:i<n):FP n (Jb ts Bk i):=by
 refine⟨by simp[Jb,hf.1],fun ws j5=>?_⟩;rcases List.mem_or_eq_of_mem_set j5 with h|h
 ·exact hf.2 _ h
 ·have hl:i<Bk.length:=by rw[hf.1];exact hi
  have:Bk.getD i []=Bk[i]:=by simp[hl]
  rw[h,this];exact(hf.2 _ (List.getElem_mem hl)).or ht
theorem J5{n:Nat}{ss ts:List Nat}(hs:DA n ss)(ht:DA n ts){Bk:List (List Nat)}(hf:FP n Bk):FP n (Ha Bk ss ts):=by
 unfold Ha;have:∀(l:List Nat) (Bk:List (List Nat)),(∀b∈l,b<n)→FP n Bk→FP n (l.foldl (Jb ts) Bk):=fun l=>by
  induction l with
  |nil=>intro Bk _ h;exact h
  |cons b l ih=>intro Bk h1 h2;exact ih _ (fun x hx=>h1 x (List.mem_cons_of_mem _ hx)) (Kg ht h2 (h1 b List.mem_cons_self))
 exact this _ _ hs.2 hf
theorem UE(p:List BM)(fi la:List Nat)(n:Nat)(em:Bool)(j1:Fq fi)(mP:Fq la)(Bk:List (List Nat))(ts:List Nat)(ht:DA n ts)(hf:FP n Bk)(i:Nat)(hi:i<n):
  AE prog 224 [.d (AG i),.ptr 2 1 0 0,.ptr 3 1 0 0] [GX Bk,Dj p fi la 0 n em,.row true 1 [.ptr 1 1 0 0],GX [ts]] (.Bd []) [GX (Jb ts Bk i),Dj p fi la 0 n em,.row true 1 [.ptr 1 1 0 0],GX [ts]]:=by
 obtain⟨a0,a1,a2,a3,a4,a5,a6,a7,rfl⟩:=j1.Jl;obtain⟨b0,b1,b2,b3,b4,b5,b6,b7,rfl⟩:=mP.Jl;have hl:i<Bk.length:=by rw[hf.1];exact hi
 have rK:Bk.getD i []=Bk[i]:=by simp[hl]
 have gn:Jb ts Bk i=Bk.set i (HX Bk[i] ts):=by unfold Jb;rw[rK]
 have hn:n=Bk.length:=hf.1.symm;subst hn;rw[gn];have hj:=QU (fs:=Bk) (k:=i) (ss:=Bk[i]) (ts:=ts) (by simp[hl]) (hf.2 _ (List.getElem_mem hl)).1 ht.1;unfold GX Dj mC EI;refine AE.AI func224 (by kernel_rfl) rfl (by simp) fun wf _=>?_;rw[ntmps224];have jA:=BG ht.1;refine xE [0,2,4,6,8,10,12,15] (by kernel_rfl) fun K hK=>?_;simp;refine xA 1 ?_;simp[hl,jA];unfold GX at hj;refine Ae.Ds (xT [1,1,0,0,0,0,0]) (hj) [0] (by kernel_rfl) rfl (by simp[hl,jA,AR];try rfl) ?_;simp;refine xM (hK _ _ ?_);refine⟨_,AJ.JK (by simp),?_⟩;simp[Am]
@[simp] theorem Qm(ρ:Nat→Nat)(fs:List (List Nat)):AAj ρ (GX fs)=GX fs:=by simp[GX]
@[simp] theorem RH(n:Nat)(fs:List (List Nat)):AAG n (GX fs)=true:=by simp[GX]
@[simp] theorem RX(ρ:Nat→Nat):∀l m:List V,AAa ρ (l++m)=AAa ρ l++AAa ρ m
 |[],m=>rfl
 |x::l,m=>by simp only[List.cons_append,AAa,RX ρ l m]
theorem JQ(n:Nat):∀l m:List V,AAI n (l++m)=(AAI n l&&AAI n m)
 |[],m=>by simp
 |x::l,m=>by have:=JQ n l m;simp[AAI,this,Bool.and_assoc]
@[simp] theorem fF(ρ:Nat→Nat)(p:List BM)(fi la:List Nat)(f n:Nat)(em:Bool):AAj ρ (Dj p fi la f n em)=Dj p fi la (ρ f) n em:=by
 simp[Dj,mC,I5]
theorem BR(k:Nat)(p:List BM)(fi la:List Nat)(f n:Nat)(em:Bool):AAG k (Dj p fi la f n em)=decide (f<k):=by
 simp[Dj,mC,Gl]
theorem Cd(ρ:Nat→Nat)(wr:Bool)(sz:Nat)(els:List V):AAj ρ (.row wr sz els)=.row wr sz (AAa ρ els):=rfl
theorem Ay(k:Nat)(wr:Bool)(sz:Nat)(els:List V):AAG k (.row wr sz els)=AAI k els:=rfl
def Wa(p:List BM)(fi la:List Nat)(n:Nat)(em:Bool)(Bk:List (List Nat)):Sg:=[GX Bk,Dj p fi la 0 n em,.row true 1 [.ptr 1 1 0 0]]
theorem P9(p:List BM)(fi la:List Nat)(n:Nat)(em:Bool)(j1:Fq fi)(mP:Fq la)(Bk:List (List Nat))(ss ts:List Nat)(hs:DA n ss)(ht:DA n ts)(hf:FP n Bk):
  AE prog 222 [Co ss,Co ts,.ptr 2 1 0 0] (Wa p fi la n em Bk) (.Bd []) (Wa p fi la n em (Ha Bk ss ts)):=by
 have he:=QB (fun Bk=>Wa p fi la n em Bk++[.row true 8 [Co ss],.row true 8 [Co ts]]) (FP n) (Jb ts) ss hs.1 3 224 [.ptr 2 1 0 0,.ptr 4 1 0 0] (fun s _=>by simp[Wa]) (fun s b hb hg=>⟨Kg ht hg (hs.2 b hb),by
  have h1:=UE p fi la n em j1 mP s ts ht hg b (hs.2 b hb);have h2:=h1.Bq (S:=Wa p fi la n em s++[.row true 8 [Co ss],.row true 8 [Co ts]]) [0,1,2,4] (by simp[-AAj,-AAG,Wa,BR,Cd,Ay];rfl) (by simp) (by simp);simp[-AAj,-AAG,Cd,Wa]at h2⊢;exact h2⟩) Bk hf
 have mO:=BG hs.1;have jA:=BG ht.1;refine AE.AI func222 (by kernel_rfl) rfl (by simp) fun wf _=>?_;rw[ntmps222];unfold Wa at he⊢;refine xW fun K hK=>?_;simp[mO,jA];apply hK;refine BX fun K hK=>?_;refine xJ ?_;simp;refine xY (he) _ rfl rfl ?_;simp[-AAG,BR,Ay];refine xJ ?_;simp;refine Aj (hK _ _ ?_);refine⟨_,AJ.AY 3 (by simp[Ha]) (by simp) (by simp) (by simp[-AAG,BR,Ay]),?_⟩;simp[Am]
open Go.Proofs Tryz DT
def T1(p:List BM):Prop:=p.length≤512∧∀(i:Nat) (x:BM),p[i]?=some x→(x.kind=2∨x.kind=3∨x.kind=4→0≤x.a∧x.a<i)∧(x.kind=2∨x.kind=3→0≤x.b∧x.b<i)
structure WR where
 f:List Nat
 l:List Nat
 e:Bool
 Bk:List (List Nat)
def ABQ(p:List BM):Nat→Nat→List (List Nat)→WR
 |0,_,Bk=>⟨BE,BE,true,Bk⟩
 |k+1,i,Bk=>match p[i]? with
  |none=>⟨BE,BE,true,Bk⟩
  |some x=>
   if x.kind=1 then⟨GZ BE i,GZ BE i,false,Bk⟩
   else if x.kind=2 then
    let r:=ABQ p k x.a.toNat Bk
    let q:=ABQ p k x.b.toNat r.Bk
    ⟨if r.e then HX r.f q.f else r.f,if q.e then HX q.l r.l else q.l,r.e&&q.e,Ha q.Bk r.l q.f⟩
   else if x.kind=3 then
    let r:=ABQ p k x.a.toNat Bk
    let q:=ABQ p k x.b.toNat r.Bk
    ⟨HX r.f q.f,HX r.l q.l,r.e||q.e,q.Bk⟩
   else if x.kind=4 then
    let r:=ABQ p k x.a.toNat Bk
    ⟨r.f,r.l,true,Ha r.Bk r.l r.f⟩
   else⟨BE,BE,true,Bk⟩
def Ib(n:Nat)(r:WR):Prop:=DA n r.f∧DA n r.l∧FP n r.Bk
theorem Cb{p:List BM}(hn:p.length≤512):∀(k i:Nat) (Bk:List (List Nat)),FP p.length Bk→Ib p.length (ABQ p k i Bk)
 |0,_,Bk,h=>⟨BW _,BW _,h⟩
 |k+1,i,Bk,h=>by
  unfold ABQ;split
  ·exact⟨BW _,BW _,h⟩
  ·rename_i x hx;have hi:i<p.length:=AZ hx;split
   ·exact⟨(BW _).add hi hn,(BW _).add hi hn,h⟩
   ·split
    ·obtain⟨r1,r2,r3⟩:=Cb hn k x.a.toNat Bk h;obtain⟨q1,q2,q3⟩:=Cb hn k x.b.toNat _ r3;refine⟨?_,?_,J5 r2 q1 q3⟩
     ·simp only[];split
      ·exact r1.or q1
      ·exact r1
     ·simp only[];split
      ·exact q2.or r2
      ·exact q2
    ·split
     ·obtain⟨r1,r2,r3⟩:=Cb hn k x.a.toNat Bk h;obtain⟨q1,q2,q3⟩:=Cb hn k x.b.toNat _ r3;exact⟨r1.or q1,r2.or q2,q3⟩
     ·split
      ·obtain⟨r1,r2,r3⟩:=Cb hn k x.a.toNat Bk h;exact⟨r1,r2,J5 r2 r1 r3⟩
      ·exact⟨BW _,BW _,h⟩
def J8:List V:=[.ptr 0 1 0 0,.ptr 4 1 0 0,.ptr 5 1 0 0]
def Hk(p:List BM)(Bk:List (List Nat)):Sg:=[.row true 1 [.d (Ax p)],GX Bk,Dj p BE BE 1 p.length false,.row true 1 [.ptr 2 1 0 0],.row true 1 [.fn (.func 226) [] J8],.row true 1 [.fn (.func 222) [] [.ptr 3 1 0 0]]]
def Sf(ws:List Nat):D:=.agg (ws.map fun(w:Nat)=>.int .u64 (w:Int))
theorem DW(S:Sg):∀ws:List Nat,AA0 S (EI ws)=some (ws.map fun(w:Nat)=>D.int .u64 (w:Int))
 |[]=>rfl
 |w::ws=>by have:=DW S ws;simp only[EI,List.map_cons]at *;simp[AA0,this]
@[simp] theorem eQ(S:Sg)(ws:List Nat):asD S (Co ws)=some (Sf ws):=by
 unfold Co Sf;simp[DW]
def Th(r:WR):V:=.Bd [Co r.f,Co r.l,.d (.bool r.e)]
def QY(r:WR):D:=.Bd [Sf r.f,Sf r.l,.bool r.e]
theorem IN{f:FuncId}{args:List V}{S S':Sg}{r:WR}(h:AE prog f args S (.d (QY r)) S'):AE prog f args S (Th r) S':=by
 have pl:∀(ws:List Nat) (G:Gh) (w:World) (x:Value),CV G S' w (.d (Sf ws)) x→CV G S' w (Co ws) x:=fun ws G w x h=>by
  have:=h.cr;simpa[Co,EI,Function.comp_def]using this
 refine h.conv fun G w x hx=>hx.dC.U2 rfl fun i hi gj v hv=>?_
 match i,hi with
 |0,_=>exact pl _ _ _ _ hv
 |1,_=>exact pl _ _ _ _ hv
 |2,_=>exact hv
theorem Pm{p:List BM}{i:Nat}{x:BM}(hx:p[i]?=some x)(hk:x.kind=1)(hn:p.length≤512)(Bk:List (List Nat)):
  AE prog 226 (.d (AG i)::J8) (Hk p Bk) (.d (QY ⟨GZ BE i,GZ BE i,false,Bk⟩)) (Hk p Bk):=by
 have hi:i<p.length:=AZ hx;have oL:p[i]=x:=by rw[List.getElem?_eq_getElem hi]at hx;exact Option.some.inj hx
 have hz:=(BW 1).1;have jb:AE prog 227 [.ptr 0 1 0 0,.d (AG i)] [.row true 8 [Co BE]] (.Bd []) [.row true 8 [Co (GZ BE i)]]:=by
  have:=QZ (fs:=[BE]) (k:=0) (ws:=BE) rfl hz i (by omega);simpa[GX]using this
 have od:=BG (Qi hz i (by omega));have iQ:=BG hz;unfold J8;refine AE.B9 func226 (by kernel_rfl) rfl (by simp) fun wf _=>?_;rw[ntmps226];unfold Hk;refine xW fun K hK=>?_;simp[DK,iQ];apply hK;refine xW fun K hK=>?_;simp[hi,oL];apply hK;refine xS (xW fun K hK=>?_);simp[hk];apply hK;refine Bw ?_;refine xW fun K hK=>?_;simp;apply hK;refine AU ?_;simp;refine Az fun K hK=>?_;refine xJ ?_;simp;refine xF (jb) [6] rfl ?_;simp[-AAj,Cd];refine xJ ?_;simp;refine Aj (hK _ _ ?_);refine xW fun K hK=>?_;simp[od,iQ];apply hK;refine Ag ?_;(try simp only[xQ,reduceIte]);refine⟨_,_,_,AJ.refl,?_,?_,AJ.AY 6 rfl (by simp) (by simp) (by simp[-AAG,BR,Ay,J8])⟩
 ·simp[od]
 ·simp[QY,od,Co,DW,Sf]
theorem O4{p:List BM}{i:Nat}{x:BM}(hx:p[i]?=some x)(iN:x.kind≠1)(jy:x.kind≠2)(rL:x.kind≠3)(oA:x.kind≠4)(Bk:List (List Nat)):
  AE prog 226 (.d (AG i)::J8) (Hk p Bk) (.d (QY ⟨BE,BE,true,Bk⟩)) (Hk p Bk):=by
 have hi:i<p.length:=AZ hx;have oL:p[i]=x:=by rw[List.getElem?_eq_getElem hi]at hx;exact Option.some.inj hx
 have hz:=(BW 1).1;have iQ:=BG hz;unfold J8;refine AE.B9 func226 (by kernel_rfl) rfl (by simp) fun wf _=>?_;rw[ntmps226];unfold Hk;refine xW fun K hK=>?_;simp[DK,iQ];apply hK;refine xW fun K hK=>?_;simp[hi,oL];apply hK;refine xS (xW fun K hK=>?_);simp;apply hK;refine Bw ?_;refine xW fun K hK=>?_;simp;apply hK;refine AU ?_;simp[iN];refine xW fun K hK=>?_;simp;apply hK;refine AU ?_;simp[jy];refine xW fun K hK=>?_;simp;apply hK;refine AU ?_;simp[rL];refine xW fun K hK=>?_;simp;apply hK;refine AU ?_;simp[oA];refine CC ?_;(repeat refine xS ?_);refine xE [0,2,5,7,8] (by kernel_rfl) fun K hK=>?_;simp;(iterate 1 (refine Ga (by simp[iQ]) ?_;simp[iQ]));refine xA 1 ?_;simp[iQ];refine xX 2 (by kernel_rfl) ?_;simp[iQ,AR];refine xX 1 (by kernel_rfl) ?_;simp[iQ,AR];refine xA 0 ?_;simp;refine xM (hK _ _ ?_);(try simp only[xQ,reduceIte]);refine Ag ?_;(try simp only[xQ,reduceIte]);refine⟨_,_,_,AJ.refl,?_,?_,AJ.AY 6 rfl (by simp) (by simp) (by simp[-AAG,BR,Ay,J8])⟩
 ·simp[iQ]
 ·simp[QY,iQ,Co,DW,Sf]
theorem Ns{ss ts:List Nat}(hs:Fq ss)(ht:Fq ts):AE prog 225 [.ptr 0 1 0 0,Co ts] [.row true 8 [Co ss]] (.Bd []) [.row true 8 [Co (HX ss ts)]]:=by
 have:=QU (fs:=[ss]) (k:=0) (ss:=ss) (ts:=ts) rfl hs ht;simpa[GX]using this
open Go.Proofs Tryz DT
theorem UD{p:List BM}{i:Nat}{x:BM}(hx:p[i]?=some x)(hk:x.kind=2){Bk:List (List Nat)}{r q:WR}(hr:Ib p.length r)(hq:Ib p.length q)
  (c1:AE prog 226 (.d (AG x.a)::J8) (Hk p Bk) (Th r) (Hk p r.Bk)) (c2:AE prog 226 (.d (AG x.b)::J8) (Hk p r.Bk) (Th q) (Hk p q.Bk)):
  AE prog 226 (.d (AG i)::J8) (Hk p Bk) (.d (QY ⟨if r.e then HX r.f q.f else r.f,if q.e then HX q.l r.l else q.l,r.e&&q.e,Ha q.Bk r.l q.f⟩)) (Hk p (Ha q.Bk r.l q.f)):=by
 have hi:i<p.length:=AZ hx;have oL:p[i]=x:=by rw[List.getElem?_eq_getElem hi]at hx;exact Option.some.inj hx
 have hz:=(BW 1).1;have iQ:=BG hz;obtain⟨r1,r2,r3⟩:=hr;obtain⟨q1,q2,q3⟩:=hq;have kq:=P9 p BE BE p.length false hz hz q.Bk r.l q.f r2 q1 q3;have ij:=Ns r1.1 q1.1;have og:=Ns q2.1 r2.1;have l1:=BG r1.1;have l2:=BG r2.1;have l3:=BG q1.1;have l4:=BG q2.1;have l5:=BG (It r1.1 q1.1);have l6:=BG (It q2.1 r2.1);unfold J8 at c1 c2⊢;refine AE.B9 func226 (by kernel_rfl) rfl (by simp) fun wf _=>?_;rw[ntmps226];unfold Hk Th at c1 c2;unfold Hk;unfold J8 at *;unfold Wa at kq;refine xW fun K hK=>?_;simp[DK,iQ];apply hK;refine xW fun K hK=>?_;simp[hi,oL];apply hK;refine xS (xW fun K hK=>?_);simp[hk];apply hK;refine Bw ?_;refine xW fun K hK=>?_;simp;apply hK;refine AU ?_;simp;refine xW fun K hK=>?_;simp;apply hK;refine AU ?_;simp;refine Az fun K hK=>?_;refine xJ ?_;simp;refine xY (c1) _ rfl rfl ?_;simp[-AAG,BR,Ay];refine xJ ?_;simp[l1,l2,DK,iQ];refine Aj (hK _ _ ?_);refine Az fun K hK=>?_;refine xJ ?_;simp;refine xY (c2) _ rfl rfl ?_;simp[-AAG,BR,Ay];refine xJ ?_;simp[l3,l4,DK,iQ];refine Aj (hK _ _ ?_);refine Az fun K hK=>?_;refine xJ ?_;simp[l2,l3];refine xF (kq) [1,2,3] rfl ?_;simp[-AAj,-AAG,Cd,Ay,BR];refine xJ ?_;simp;refine Aj (hK _ _ ?_);refine xS (xW fun K hK=>?_);simp;apply hK;cases h1:r.e with
 |true=>
  refine AU ?_;simp;refine BX fun K hK=>?_;refine xJ ?_;simp[l3];refine xF (ij) [9] rfl ?_;simp[-AAj,-AAG,Cd,Ay];refine xJ ?_;simp;refine Aj (hK _ _ ?_);refine xS (xW fun K hK=>?_);simp;apply hK;cases h2:q.e with
  |true=>
   refine AU ?_;simp;refine BX fun K hK=>?_;refine xJ ?_;simp[l2];refine xF (og) [12] rfl ?_;simp[-AAj,-AAG,Cd,Ay];refine xJ ?_;simp;refine Aj (hK _ _ ?_);refine xW fun K hK=>?_;simp[l5,l6,iQ];apply hK;refine Ag ?_;(try simp only[xQ,reduceIte]);refine⟨_,_,_,AJ.refl,?_,?_,AJ.AY 6 rfl (by simp) (by simp) (by simp[-AAG,BR,Ay])⟩
   ·simp[l5,l6]
   ·simp[QY,Co,DW,Sf,l5,l6]
  |false=>
   refine AU ?_;simp;refine xK ?_;refine xW fun K hK=>?_;simp[l4,l5,iQ];apply hK;refine Ag ?_;(try simp only[xQ,reduceIte]);refine⟨_,_,_,AJ.refl,?_,?_,AJ.AY 6 rfl (by simp) (by simp) (by simp[-AAG,BR,Ay])⟩
   ·simp[l4,l5]
   ·simp[QY,Co,DW,Sf,l4,l5]
 |false=>
  refine AU ?_;simp;refine xK ?_;refine xS (xW fun K hK=>?_);simp;apply hK;cases h2:q.e with
  |true=>
   refine AU ?_;simp;refine BX fun K hK=>?_;refine xJ ?_;simp[l2];refine xF (og) [12] rfl ?_;simp[-AAj,-AAG,Cd,Ay];refine xJ ?_;simp;refine Aj (hK _ _ ?_);refine xW fun K hK=>?_;simp[l1,l6,iQ];apply hK;refine Ag ?_;(try simp only[xQ,reduceIte]);refine⟨_,_,_,AJ.refl,?_,?_,AJ.AY 6 rfl (by simp) (by simp) (by simp[-AAG,BR,Ay])⟩
   ·simp[l1,l6]
   ·simp[QY,Co,DW,Sf,l1,l6]
  |false=>
   refine AU ?_;simp;refine xK ?_;refine xW fun K hK=>?_;simp[l1,l4,iQ];apply hK;refine Ag ?_;(try simp only[xQ,reduceIte]);refine⟨_,_,_,AJ.refl,?_,?_,AJ.AY 6 rfl (by simp) (by simp) (by simp[-AAG,BR,Ay])⟩
   ·simp[l1,l4]
   ·simp[QY,Co,DW,Sf,l1,l4]
theorem Uo{p:List BM}{i:Nat}{x:BM}(hx:p[i]?=some x)(hk:x.kind=3){Bk:List (List Nat)}{r q:WR}(hr:Ib p.length r)(hq:Ib p.length q)
  (c1:AE prog 226 (.d (AG x.a)::J8) (Hk p Bk) (Th r) (Hk p r.Bk)) (c2:AE prog 226 (.d (AG x.b)::J8) (Hk p r.Bk) (Th q) (Hk p q.Bk)):
  AE prog 226 (.d (AG i)::J8) (Hk p Bk) (.d (QY ⟨HX r.f q.f,HX r.l q.l,r.e||q.e,q.Bk⟩)) (Hk p q.Bk):=by
 have hi:i<p.length:=AZ hx;have oL:p[i]=x:=by rw[List.getElem?_eq_getElem hi]at hx;exact Option.some.inj hx
 have hz:=(BW 1).1;have iQ:=BG hz;obtain⟨r1,r2,r3⟩:=hr;obtain⟨q1,q2,q3⟩:=hq;have ij:=Ns r1.1 q1.1;have og:=Ns r2.1 q2.1;have l1:=BG r1.1;have l2:=BG r2.1;have l3:=BG q1.1;have l4:=BG q2.1;have l5:=BG (It r1.1 q1.1);have l6:=BG (It r2.1 q2.1);unfold J8 at c1 c2⊢;refine AE.B9 func226 (by kernel_rfl) rfl (by simp) fun wf _=>?_;rw[ntmps226];unfold Hk Th at c1 c2;unfold Hk;unfold J8 at *;refine xW fun K hK=>?_;simp[DK,iQ];apply hK;refine xW fun K hK=>?_;simp[hi,oL];apply hK;refine xS (xW fun K hK=>?_);simp[hk];apply hK;refine Bw ?_;refine xW fun K hK=>?_;simp;apply hK;refine AU ?_;simp;refine xW fun K hK=>?_;simp;apply hK;refine AU ?_;simp;refine xW fun K hK=>?_;simp;apply hK;refine AU ?_;simp;refine Az fun K hK=>?_;refine xJ ?_;simp;refine xY (c1) _ rfl rfl ?_;simp[-AAG,BR,Ay];refine xJ ?_;simp[l1,l2,DK,iQ];refine Aj (hK _ _ ?_);refine Az fun K hK=>?_;refine xJ ?_;simp;refine xY (c2) _ rfl rfl ?_;simp[-AAG,BR,Ay];refine xJ ?_;simp[l3,l4,DK,iQ];refine Aj (hK _ _ ?_);refine Az fun K hK=>?_;refine xJ ?_;simp[l3];refine xF (ij) [9] rfl ?_;simp[-AAj,-AAG,Cd,Ay];refine xJ ?_;simp;refine Aj (hK _ _ ?_);refine Az fun K hK=>?_;refine xJ ?_;simp[l4];refine xF (og) [10] rfl ?_;simp[-AAj,-AAG,Cd,Ay];refine xJ ?_;simp;refine Aj (hK _ _ ?_);refine xW fun K hK=>?_;simp[l5,l6,iQ];apply hK;refine Ag ?_;(try simp only[xQ,reduceIte]);refine⟨_,_,_,AJ.refl,?_,?_,AJ.AY 6 rfl (by simp) (by simp) (by simp[-AAG,BR,Ay])⟩
 ·simp[l5,l6]
 ·simp[QY,Co,DW,Sf,l5,l6]
theorem VB{p:List BM}{i:Nat}{x:BM}(hx:p[i]?=some x)(hk:x.kind=4){Bk:List (List Nat)}{r:WR}(hr:Ib p.length r)
  (c1:AE prog 226 (.d (AG x.a)::J8) (Hk p Bk) (Th r) (Hk p r.Bk)):
  AE prog 226 (.d (AG i)::J8) (Hk p Bk) (.d (QY ⟨r.f,r.l,true,Ha r.Bk r.l r.f⟩)) (Hk p (Ha r.Bk r.l r.f)):=by
 have hi:i<p.length:=AZ hx;have oL:p[i]=x:=by rw[List.getElem?_eq_getElem hi]at hx;exact Option.some.inj hx
 have hz:=(BW 1).1;have iQ:=BG hz;obtain⟨r1,r2,r3⟩:=hr;have kq:=P9 p BE BE p.length false hz hz r.Bk r.l r.f r2 r1 r3;have l1:=BG r1.1;have l2:=BG r2.1;unfold J8 at c1⊢;refine AE.B9 func226 (by kernel_rfl) rfl (by simp) fun wf _=>?_;rw[ntmps226];unfold Hk Th at c1;unfold Hk;unfold J8 at *;unfold Wa at kq;refine xW fun K hK=>?_;simp[DK,iQ];apply hK;refine xW fun K hK=>?_;simp[hi,oL];apply hK;refine xS (xW fun K hK=>?_);simp[hk];apply hK;refine Bw ?_;refine xW fun K hK=>?_;simp;apply hK;refine AU ?_;simp;refine xW fun K hK=>?_;simp;apply hK;refine AU ?_;simp;refine xW fun K hK=>?_;simp;apply hK;refine AU ?_;simp;refine xW fun K hK=>?_;simp;apply hK;refine AU ?_;simp;refine Az fun K hK=>?_;refine xJ ?_;simp;refine xY (c1) _ rfl rfl ?_;simp[-AAG,BR,Ay];refine xJ ?_;simp[l1,l2,DK,iQ];refine Aj (hK _ _ ?_);refine Az fun K hK=>?_;refine xJ ?_;simp[l1,l2];refine xF (kq) [1,2,3] rfl ?_;simp[-AAj,-AAG,Cd,Ay,BR];refine xJ ?_;simp;refine Aj (hK _ _ ?_);(repeat refine xS ?_);refine xE [0,2,5,7,8] (by kernel_rfl) fun K hK=>?_;simp;(iterate 1 (refine Ga (by simp[l1]) ?_;simp[l1]));refine xA 1 ?_;simp[l2];refine xX 2 (by kernel_rfl) ?_;simp[iQ,l1,l2,AR];refine xX 1 (by kernel_rfl) ?_;simp[iQ,l2,AR];refine xA 0 ?_;simp;refine xM (hK _ _ ?_);(try simp only[xQ,reduceIte]);refine Ag ?_;(try simp only[xQ,reduceIte]);refine⟨_,_,_,AJ.refl,?_,?_,AJ.AY 6 rfl (by simp) (by simp) (by simp[-AAG,BR,Ay])⟩
 ·simp[l1,l2]
 ·simp[QY,Co,DW,Sf,l1,l2]
theorem HO{p:List BM}(hp:T1 p):∀(k i:Nat) (Bk:List (List Nat)),i<k→i<p.length→FP p.length Bk→AE prog 226 (.d (AG i)::J8) (Hk p Bk) (Th (ABQ p k i Bk)) (Hk p (ABQ p k i Bk).Bk)
 |0,i,_,h,_,_=>by omega
 |k+1,i,Bk,h,hi,hf=>by
  obtain⟨x,hx⟩:∃x,p[i]?=some x:=⟨p[i],List.getElem?_eq_getElem hi⟩;obtain⟨ha,hb⟩:=hp.2 i x hx;unfold ABQ;simp only[hx];by_cases k1:x.kind=1
  ·rw[if_pos k1];exact IN (Pm hx k1 hp.1 Bk)
  ·rw[if_neg k1];by_cases k2:x.kind=2
   ·rw[if_pos k2];obtain⟨a0,a1⟩:=ha (.inl k2);obtain⟨b0,b1⟩:=hb (.inl k2);have gr:=Cb hp.1 k x.a.toNat Bk hf;have gq:=Cb hp.1 k x.b.toNat _ gr.2.2;have c1:=HO hp k x.a.toNat Bk (by omega) (by omega) hf;have c2:=HO hp k x.b.toNat (ABQ p k x.a.toNat Bk).Bk (by omega) (by omega) gr.2.2;rw[Int.toNat_of_nonneg a0]at c1;rw[Int.toNat_of_nonneg b0]at c2;exact IN (UD hx k2 gr gq c1 c2)
   ·rw[if_neg k2];by_cases k3:x.kind=3
    ·rw[if_pos k3];obtain⟨a0,a1⟩:=ha (.inr (.inl k3));obtain⟨b0,b1⟩:=hb (.inr k3);have gr:=Cb hp.1 k x.a.toNat Bk hf;have gq:=Cb hp.1 k x.b.toNat _ gr.2.2;have c1:=HO hp k x.a.toNat Bk (by omega) (by omega) hf;have c2:=HO hp k x.b.toNat (ABQ p k x.a.toNat Bk).Bk (by omega) (by omega) gr.2.2;rw[Int.toNat_of_nonneg a0]at c1;rw[Int.toNat_of_nonneg b0]at c2;exact IN (Uo hx k3 gr gq c1 c2)
    ·rw[if_neg k3];by_cases k4:x.kind=4
     ·rw[if_pos k4];obtain⟨a0,a1⟩:=ha (.inr (.inr k4));have gr:=Cb hp.1 k x.a.toNat Bk hf;have c1:=HO hp k x.a.toNat Bk (by omega) (by omega) hf;rw[Int.toNat_of_nonneg a0]at c1;exact IN (VB hx k4 gr c1)
     ·rw[if_neg k4];exact IN (O4 hx k1 k2 k3 k4 Bk)
open Go.Proofs Tryz DT
def IM(p:List BM)(r:WR):Sg:=[.row true 1 [.d (Ax p)],GX r.Bk,Dj p r.f r.l 1 p.length r.e]
def HF(p:List BM):WR:=ABQ p p.length (p.length - 1) (List.replicate p.length BE)
theorem J9(n:Nat):FP n (List.replicate n BE):=⟨by simp,fun ws h=>by rw[List.eq_of_mem_replicate h];exact BW n⟩
theorem L3(ρ:Nat→Nat)(n:Nat)(ws:List Nat):AAa ρ (List.replicate n (Co ws))=List.replicate n (Co ws):=by
 have:=NB ρ (List.replicate n ws);rwa [List.map_replicate]at this
theorem Ok{p:List BM}(hp:T1 p)(h0:p≠[]):AE prog 198 [.d (Ax p)] [] (.ptr 2 1 0 0) (IM p (HF p)):=by
 have rE:0<p.length:=List.length_pos_iff.2 h0;have iG:(p.length:Int)≤1073741824:=by have:=hp.1;omega
 have hg:=Cb hp.1 p.length (p.length - 1) _ (J9 p.length);have hw:=HO hp p.length (p.length - 1) (List.replicate p.length BE) (by omega) (by omega) (J9 _);have iQ:=BG (BW 1).1;refine AE.AI func198 (by kernel_rfl) rfl (by simp) fun wf _=>?_;rw[ntmps198];refine xW fun K hK=>?_;simp;apply hK;refine AW.Ew (R:=fun tm S=>tm 1=.ptr 0 1 0 0∧tm 3=.ptr 3 1 0 0∧S=[.row true 1 [.d (Ax p)],GX (List.replicate p.length BE),Dj p BE BE 1 p.length false,.row true 1 [.ptr 2 1 0 0]]) ?_ ?_
 ·refine AW.regionF (by kernel_rfl) fun K hK=>?_;change Ad _ _ _ _ _ _ 8 (Array.replicate 8 false) _ _;refine Ad.CB 0 rfl (by kernel_rfl) ?_ ?_;(focus(simp;done));simp;refine Ad.CB 1 rfl (by kernel_rfl) ?_ ?_;(focus(simp;done));simp;refine Ad.CB 2 rfl (by kernel_rfl) ?_ ?_;(focus(simp;done));simp;refine Ad.TZ 3 6 [true,false,false] [false,false,false] (by kernel_rfl) rfl rfl (by kernel_rfl) (by kernel_rfl) ?_ ?_ ?_ ?_
  ·simp[iG,AR]
  ·simp[AR]
  ·simp;refine Ad.CB 4 rfl (by kernel_rfl) ?_ ?_;(focus(simp;done));simp;refine Ad.TZ 5 6 [true,false,false] [false,false,false] (by kernel_rfl) rfl rfl (by kernel_rfl) (by kernel_rfl) ?_ ?_ ?_ ?_
   ·simp[AR]
   ·simp[AR]
   ·simp;refine Ad.DE 6 [false,false] (by kernel_rfl) rfl (by kernel_rfl) ?_ ?_;(focus(simp[AR];done));simp;refine Ad.DE 7 [true,true] (by kernel_rfl) rfl (by kernel_rfl) ?_ ?_;(focus(simp[AR];done));simp;refine Ad.done (by kernel_rfl) (hK _ _ ⟨_,_,AJ.refl,?_⟩);simp[GX,Dj,mC,EI,BE,Co]
   ·simp;refine Ad.DE 5 [true,false,false] (by kernel_rfl) rfl (by kernel_rfl) ?_ ?_;(focus(simp[AR];done));simp;refine Ad.DE 7 [true,true] (by kernel_rfl) rfl (by kernel_rfl) ?_ ?_;(focus(simp[AR];done));simp;refine Ad.done (by kernel_rfl) (hK _ _ ⟨_,_,AJ.perm (S':=[.row true 1 [.d (Ax p)],GX (List.replicate p.length BE),Dj p BE BE 1 p.length false,.row true 1 [.ptr 2 1 0 0]]) [0,1,3,2] (by decide) (by simp) (by simp) ?_ (by simp) [0,1,3,2] (by simp;decide) (by simp),?_⟩)
    ·simp[GX,Dj,mC,EI,BE,DK,L3]
    ·simp
  ·simp;refine Ad.DE 3 [true,false,false] (by kernel_rfl) rfl (by kernel_rfl) ?_ ?_;(focus(simp[iG,AR];done));simp;refine Ad.CB 4 rfl (by kernel_rfl) ?_ ?_;(focus(simp;done));simp;refine Ad.DE 5 [true,false,false] (by kernel_rfl) rfl (by kernel_rfl) ?_ ?_;(focus(simp[AR];done));simp;refine Ad.DE 7 [true,true] (by kernel_rfl) rfl (by kernel_rfl) ?_ ?_;(focus(simp[AR];done));simp;refine Ad.done (by kernel_rfl) (hK _ _ ⟨_,_,AJ.perm (S':=[.row true 1 [.d (Ax p)],GX (List.replicate p.length BE),Dj p BE BE 1 p.length false,.row true 1 [.ptr 2 1 0 0]]) [0,3,1,2] (by decide) (by simp) (by simp) ?_ (by simp) [0,2,3,1] (by simp;decide) (by simp),?_⟩)
   ·simp[GX,Dj,mC,EI,BE,DK,L3]
   ·simp
 ·rintro tm S ⟨t1,t3,rfl⟩;unfold Hk Th J8 at hw;refine xW fun K hK=>?_;simp;apply hK;refine xW fun K hK=>?_;simp[t3];apply hK;(repeat refine xS ?_);refine xV fun K hK=>?_;simp[t1];refine hK _ _ ?_;(try simp only[xQ,reduceIte]);generalize hr:ABQ p p.length (p.length - 1) (List.replicate p.length BE)=r at *;obtain⟨rf,rl,re,rfol⟩:=r;obtain⟨r1,r2,r3⟩:=hg;simp only[]at r1 r2 r3 hw;have l1:=BG r1.1;have l2:=BG r2.1;obtain⟨a0,a1,a2,a3,a4,a5,a6,a7,rfl⟩:=r1.1.Jl;obtain⟨b0,b1,b2,b3,b4,b5,b6,b7,rfl⟩:=r2.1.Jl;have mF:IntKind.i64.wrap ((p.length:Int) - 1)=((p.length - 1:Nat):Int):=by have:=hp.1;rw[Go.IntKind.wrap_i64];omega
  refine xD [0,2,4,6,8,10,12,15,16,18,20,22,24,26,29,30,32,35,36,38,41] (by kernel_rfl) fun K hK=>?_;simp;refine xA 1 ?_;simp[t1,t3,mF];refine xL 9 _ (hw) (by kernel_rfl) rfl rfl ?_;simp[-AAG,BR,Ay,AR,t1,t3,mF];refine xA 1 ?_;simp[Dj,mC,EI,BE];refine xX 1265 (by kernel_rfl) ?_;simp[EI,t1,t3,AR];refine xA 1 ?_;simp;refine xX 85 (by kernel_rfl) ?_;simp[EI,t3,AR];refine xA 1 ?_;simp;refine xX 29 (by kernel_rfl) ?_;simp[t3,AR];refine xM (hK _ _ ?_);refine xW fun K hK=>?_;simp[t3];apply hK;refine Ag ?_;(try simp only[xQ,reduceIte]);refine⟨_,AJ.AY 3 ?_ (by simp) (by simp) (by simp[-AAG,Ay,RH]),?_⟩
  ·simp[IM,HF,hr,Dj,mC,EI]
  ·simp[Am,clean]
open Go.Proofs Tryz DT
def EY(p:List BM)(Bk:List (List Nat))(b:Int)(s:List Nat×List Nat)(i:Nat):List Nat×List Nat:=
 match p[i]? with
 |none=>s
 |some x=>if x.lo≤b∧b≤x.hi then(GZ s.1 i,HX s.2 (Bk.getD i []))else s
def EF(s:ByteArray)(j:Nat):Int:=(s.get! j).toNat
def SG(p:List BM)(fi la:List Nat)(em:Bool)(Bk:List (List Nat))(s:ByteArray)(j:Nat)(x:List Nat×List Nat):Sg:=
 [GX Bk,Dj p fi la 0 p.length em,.row true 1 [.ptr 1 1 0 0],.row true 1 [.d (.str s)],.row true 1 [.d (.int .i64 j)],.row true 8 [Co x.1],.row true 8 [Co x.2]]
theorem Xs{p:List BM}(hp:p.length≤512){fi la:List Nat}(em:Bool)(j1:Fq fi)(mP:Fq la){Bk:List (List Nat)}(hf:FP p.length Bk)(s:ByteArray){j:Nat}(hj:j<s.size){x:List Nat×List Nat}(h1:Fq x.1)(h2:Fq x.2){i:Nat}(hi:i<p.length):
  AE prog 228 [.d (AG i),.ptr 3 1 0 0,.ptr 4 1 0 0,.ptr 2 1 0 0,.ptr 5 1 0 0,.ptr 6 1 0 0] (SG p fi la em Bk s j x) (.Bd []) (SG p fi la em Bk s j (EY p Bk (EF s j) x i)):=by
 obtain⟨a0,a1,a2,a3,a4,a5,a6,a7,rfl⟩:=j1.Jl;obtain⟨b0,b1,b2,b3,b4,b5,b6,b7,rfl⟩:=mP.Jl;obtain⟨rc,nx⟩:=x;simp only[]at h1 h2;have gn:EY p Bk (EF s j) (rc,nx) i=if p[i].lo≤EF s j∧EF s j≤p[i].hi then(GZ rc i,HX nx (Bk.getD i []))else(rc,nx):=by simp[EY,hi]
 rw[gn];generalize hx:p[i]=x at *;have jh:i<Bk.length:=by rw[hf.1];exact hi
 have rK:Bk.getD i []=Bk[i]:=by simp[jh]
 rw[rK];have vG:=hf.2 _ (List.getElem_mem jh);have ij:=Ns h2 vG.1;have jb:AE prog 227 [.ptr 0 1 0 0,.d (AG i)] [.row true 8 [Co rc]] (.Bd []) [.row true 8 [Co (GZ rc i)]]:=by
  have:=QZ (fs:=[rc]) (k:=0) (ws:=rc) rfl h1 i (by omega);simpa[GX]using this
 have wU:IntKind.i64.wrap (EF s j)=EF s j:=by
  unfold EF;have:=UInt8.toNat_lt (s.get! j);rw[Go.IntKind.wrap_i64];omega
 have uh:(((s.get! j).toNat:Nat):Int)=EF s j:=rfl;generalize EF s j=bb at *;have l1:=BG h1;have l2:=BG h2;have l3:=BG vG.1;have sN:Bk.length=p.length:=hf.1;unfold SG Dj mC EI;refine AE.AI func228 (by kernel_rfl) rfl (by simp) fun wf _=>?_;rw[ntmps228];refine xW fun K hK=>?_;simp[hj,uh,wU];apply hK;refine Az fun K hK=>?_;refine xJ ?_;simp[hi,hx];refine Aj (hK _ _ ?_);(repeat refine xS ?_);refine AW.BD (t:=decide (x.lo≤bb)&&decide (bb≤x.hi)) ?_ (fun hb=>?_) (fun hb=>?_)
 ·simp
 ·simp at hb;rw[if_pos hb];refine Az fun K hK=>?_;refine xJ ?_;simp;refine xF (jb) [5] rfl ?_;simp[-AAj,Cd];refine xJ ?_;simp;refine Aj (hK _ _ ?_);refine BX fun K hK=>?_;refine xJ ?_;simp[hi,sN,GX,l3];refine xF (ij) [6] rfl ?_;simp[-AAj,Cd];refine xJ ?_;simp;refine Aj (hK _ _ ?_);refine⟨_,AJ.JK (by simp[GX]),?_⟩;simp[Am]
 ·have iC:¬(x.lo≤bb∧bb≤x.hi):=by simp at hb;omega
  rw[if_neg iC];refine CC ?_;refine⟨_,AJ.JK (by simp),?_⟩;simp[Am]
def Nf(p:List BM)(r:WR)(s:ByteArray)(m:Bool):Sg:=IM p r++[.row true 1 [.d (.str s)],.row true 1 [.d (.bool m)]]
theorem Yd(s:ByteArray)(m:Bool)(k:Int)(is:Bool):AE prog 200 [.d (AG k),.d (.bool is),.ptr 0 1 0 0,.ptr 1 1 0 0] [.row true 1 [.d (.str s)],.row true 1 [.d (.bool m)]] (.d (.bool true)) [.row true 1 [.d (.str s)],.row true 1 [.d (.bool (k==s.size&&is))]]:=by
 refine AE.AI func200 (by kernel_rfl) rfl (by simp) fun wf _=>?_;rw[ntmps200];refine xW fun K hK=>?_;simp;apply hK;refine xW fun K hK=>?_;simp;apply hK;refine xW fun K hK=>?_;simp;apply hK;refine Ag ?_;(try simp only[xQ,reduceIte]);refine⟨_,AJ.JK (by simp),?_⟩;simp[Am]
def AC4(p:List BM)(r:WR)(s:ByteArray):Nat→Nat→List Nat→Bool→Bool
 |0,_,_,m=>m
 |k+1,j,now,m=>
  let x:=(Dv now).foldl (EY p r.Bk (EF s j)) (BE,BE)
  if x.1=BE then m else AC4 p r s k (j+1) x.2 (((j:Int)+1==s.size)&&Hf x.1 r.l)
theorem IZ{p:List BM}(hp:p.length≤512){Bk:List (List Nat)}(hf:FP p.length Bk)(b:Int){x:List Nat×List Nat}(h:DA p.length x.1∧DA p.length x.2){i:Nat}(hi:i<p.length):
  DA p.length (EY p Bk b x i).1∧DA p.length (EY p Bk b x i).2:=by
 have jh:i<Bk.length:=by rw[hf.1];exact hi
 have rK:Bk.getD i []=Bk[i]:=by simp[jh]
 unfold EY;simp only[List.getElem?_eq_getElem hi,rK];split
 ·exact⟨h.1.add hi hp,h.2.or (hf.2 _ (List.getElem_mem jh))⟩
 ·exact h
theorem J0{σ:Type}{Good:σ→Prop}{step:σ→Nat→σ}{n:Nat}(hs:∀s b,b<n→Good s→Good (step s b)):∀(l:List Nat) (s:σ),(∀b∈l,b<n)→Good s→Good (l.foldl step s)
 |[],_,_,h=>h
 |b::l,s,hl,h=>J0 hs l _ (fun x hx=>hl x (List.mem_cons_of_mem _ hx)) (hs s b (hl b List.mem_cons_self) h)
def fQ(p:List BM)(r:WR)(s:ByteArray)(fin:Bool)(j:Nat)(S:Sg):Prop:=
 ∃now m,DA p.length now∧AC4 p r s (s.size - j) j now m=fin∧S=Nf p r s m++[.row true 1 [.ptr 2 1 0 0],.row true 1 [.d (.str s)],.row true 8 [Co now]]
def NL(p:List BM)(r:WR)(s:ByteArray)(m:Bool)(now:List Nat)(j:Nat)(x:List Nat×List Nat):Sg:=
 [.row true 1 [.d (Ax p)],GX r.Bk,Dj p r.f r.l 1 p.length r.e,.row true 1 [.d (.str s)],.row true 1 [.d (.bool m)],.row true 1 [.ptr 2 1 0 0],.row true 1 [.d (.str s)],.row true 8 [Co now],.row true 1 [.d (.int .i64 j)],.row true 8 [Co x.1],.row true 8 [Co x.2]]
theorem SW{p:List BM}(hp:p.length≤512){r:WR}(hr:Ib p.length r)(s:ByteArray)(m:Bool){now:List Nat}(hn:DA p.length now){j:Nat}(hj:j<s.size):
  AE prog 223 [.ptr 7 1 0 0,.fn (.func 228) [] [.ptr 6 1 0 0,.ptr 8 1 0 0,.ptr 5 1 0 0,.ptr 9 1 0 0,.ptr 10 1 0 0]] (NL p r s m now j (BE,BE)) (.Bd []) (NL p r s m now j ((Dv now).foldl (EY p r.Bk (EF s j)) (BE,BE))):=
 QB (NL p r s m now j) (fun x=>DA p.length x.1∧DA p.length x.2) (EY p r.Bk (EF s j)) now hn.1 7 228 _ (fun x _=>by simp[NL]) (fun x b hb hg=>⟨IZ hp hr.2.2 _ hg (hn.2 b hb),by
  have h1:=Xs hp r.e hr.1.1 hr.2.1.1 hr.2.2 s hj hg.1.1 hg.2.1 (hn.2 b hb);have h2:=h1.Bq (S:=NL p r s m now j x) [1,2,5,6,8,9,10] (by simp[-AAj,-AAG,NL,SG,BR,Cd,Ay]) (by simp[SG]) (by simp);simp[-AAj,-AAG,Cd,SG,NL]at h2⊢;exact h2⟩) (BE,BE) ⟨BW _,BW _⟩
theorem ZR{p:List BM}(hp:p.length≤512){r:WR}(hr:Ib p.length r)(s:ByteArray)(m:Bool):
  AE prog 199 [.ptr 2 1 0 0,.d (.str s),.fn (.func 200) [] [.ptr 3 1 0 0,.ptr 4 1 0 0]] (Nf p r s m) (.Bd []) (Nf p r s (AC4 p r s s.size 0 r.f m)):=by
 refine AE.AI func199 (by kernel_rfl) rfl (by simp) fun wf _=>?_;have a1:s.size≤maxLen:=by simp[ABP,WFV,WFD]at wf;exact wf
 rw[ntmps199];have iQ:=BG (BW 1).1;have l1:=BG hr.1.1;have nh:=hr;obtain⟨rf,rl,re,rfol⟩:=r;obtain⟨r1,r2,r3⟩:=hr;simp only[]at r1 r2 r3 l1;obtain⟨a0,a1',a2,a3,a4,a5,a6,a7,rfl⟩:=r1.1.Jl;obtain⟨b0,b1,b2,b3,b4,b5,b6,b7,rfl⟩:=r2.1.Jl;have hfA:V.agg [V.d (D.int .u64 (a0:Int)),V.d (D.int .u64 (a1':Int)),V.d (D.int .u64 (a2:Int)),V.d (D.int .u64 (a3:Int)),V.d (D.int .u64 (a4:Int)),V.d (D.int .u64 (a5:Int)),V.d (D.int .u64 (a6:Int)),V.d (D.int .u64 (a7:Int))]=Co [a0,a1',a2,a3,a4,a5,a6,a7]:=rfl;have hfB:V.agg [V.d (D.int .u64 (b0:Int)),V.d (D.int .u64 (b1:Int)),V.d (D.int .u64 (b2:Int)),V.d (D.int .u64 (b3:Int)),V.d (D.int .u64 (b4:Int)),V.d (D.int .u64 (b5:Int)),V.d (D.int .u64 (b6:Int)),V.d (D.int .u64 (b7:Int))]=Co [b0,b1,b2,b3,b4,b5,b6,b7]:=rfl;generalize nQ:AC4 p _ s s.size 0 _ m=fin at *;unfold Nf IM;refine xW fun K hK=>?_;simp;apply hK;refine xW fun K hK=>?_;simp[Dj,mC,EI,hfA];apply hK;refine xW fun K hK=>?_;simp;apply hK;refine Bw ?_;refine DC s.size (fun j tm S=>tm 2=.fn (.func 200) [] [.ptr 3 1 0 0,.ptr 4 1 0 0]∧tm 3=.ptr 5 1 0 0∧tm 4=.ptr 6 1 0 0∧tm 6=.ptr 7 1 0 0∧tm 15=.d (.int .i64 s.size)∧tm 16=.d (.int .i64 j)∧fQ p ⟨[a0,a1',a2,a3,a4,a5,a6,a7],[b0,b1,b2,b3,b4,b5,b6,b7],re,rfol⟩ s fin j S) (i0:=0) (Nat.zero_le _) (by simp;exact⟨_,m,r1,nQ,by simp[Nf,IM,Dj,mC,EI]⟩) ?_;rintro j tm S hj ⟨t2,t3,t4,t6,t15,t16,now,m',qi,gl,rfl⟩;unfold Nf IM;refine xW fun K hK=>?_;simp[t15,t16];apply hK;refine xC ?_;simp;refine⟨fun cx=>?_,fun hO=>?_⟩
 ·have he:=SW hp nh s m' qi cx;have gp:s.size - j=(s.size - (j+1))+1:=by omega
  rw[gp]at gl;simp only[AC4]at gl;have wV:=J0 (n:=p.length) (Good:=fun x:List Nat×List Nat=>DA p.length x.1∧DA p.length x.2) (fun x b hb hg=>IZ (p:=p) hp r3 (EF s j) hg hb) (Dv now) (BE,BE) qi.2 ⟨BW _,BW _⟩;generalize(Dv now).foldl (EY p rfol (EF s j)) (BE,BE)=x at *;obtain⟨rc,nx⟩:=x;obtain⟨g1,g2⟩:=wV;simp only[]at g1 g2 gl;have mh:=Yd s m' ((j:Int)+1) (Hf rc [b0,b1,b2,b3,b4,b5,b6,b7]);have ui:=Us (fs:=[rc]) (k:=0) (ss:=rc) (ts:=[b0,b1,b2,b3,b4,b5,b6,b7]) rfl g1.1 r2.1;have l2:=BG g1.1;have l3:=BG g2.1;have l4:=BG qi.1;unfold NL at he;simp only[List.length_cons,List.length_nil,GX,List.map_cons,List.map_nil]at ui;refine xK ?_;refine xB ?_;refine xW fun K hK=>?_;simp[t16];apply hK;refine xW fun K hK=>?_;simp[DK,iQ];apply hK;(repeat refine xS ?_);refine BX fun K hK=>?_;refine xJ ?_;simp[t3,t4];refine xY (he) _ rfl rfl ?_;simp[-AAG,BR,Ay,t6];refine xJ ?_;simp;refine Aj (hK _ _ ?_);(try simp only[xQ,reduceIte]);have uj:∀S':Sg,AAT ((AA0 S' (EI rc)).getD []) [.int .u64 0,.int .u64 0,.int .u64 0,.int .u64 0,.int .u64 0,.int .u64 0,.int .u64 0,.int .u64 0]=decide (rc=BE):=fun S'=>by
   rw[DW];obtain⟨c0,c1,c2,c3,c4,c5,c6,c7,rfl⟩:=g1.1.Jl;rw[Bool.eq_iff_iff];simp[AAT,deq,BE]
  have rM:IntKind.i64.wrap ((j:Int)+1)=(j:Int)+1:=by rw[AQ cx a1];simp
  have og:s.size - (j+1)=s.size - j - 1:=by omega
  refine xS ?_;refine xD [0,2,4,6,8,10,12,14,16,18,20,22,25,26,28] (by kernel_rfl) fun K hK=>?_;simp;(iterate 2 ((refine xG ?_ ?_);(focus(simp[l2,DK,iQ];done));simp[l2,DK]));refine Ae.Yp (v:=.d (.bool (decide (rc=BE)))) (fun _=>True) trivial (fun S' _=>?_) ?_
  ·obtain⟨c0,c1,c2,c3,c4,c5,c6,c7,rfl⟩:=g1.1.Jl;have uk:=uj [];simp[EI,AA0]at uk;refine⟨by simp[Co,EI,AA0,BE],?_,by simp⟩;simp[Co,EI,AA0,BE];simp[BE]at uk;exact uk
  ·simp;by_cases lj:rc=BE
   ·rw[if_pos lj]at gl;(iterate 8 (refine Ga (by simp[lj,t3]) ?_;simp[lj,t2,t3]));refine Oi rfl rfl (by simp) ?_;simp;refine Ae.dU [true,false,false,false,false,true,false,true,true,false,false,false] (by kernel_rfl) rfl (by simp) ?_;simp;refine xA 0 ?_;simp;refine xM (hK _ _ ?_);(try simp only[xQ,reduceIte]);refine AU ?_;simp;refine Ag ?_;(try simp only[xQ,reduceIte]);rw[←gl];refine⟨_,AJ.AY 5 (by simp) (by simp) (by simp) (by simp[-AAG,BR,Ay]),?_⟩;simp[Am]
   ·rw[if_neg lj]at gl;(iterate 8 ((refine xG ?_ ?_);(focus(simp[t3,Dj,mC,EI];done));simp[lj,t2,t3,rM,Dj,mC,EI]));rw[hfB];refine Ae.Qp ui [9] rfl rfl (by simp;try rfl) ?_;simp;refine Ae.bA [true,false,false,false,false,true,false,true,true,false,false,false] mh [3,4] (by kernel_rfl) rfl rfl (by simp[AR,t2,t3,hfB];try rfl) ?_;simp;refine xA 0 ?_;simp;refine xM (hK _ _ ?_);refine AU ?_;simp;refine xK ?_;refine xV fun K hK=>?_;simp[t6,l3,l4];apply hK;refine xV fun K hK=>?_;simp[t16];apply hK;refine⟨cx,_,_,AJ.drop 8 (by simp) (by simp) (by simp[-AAG,Ay]),?_⟩;simp[clean,t2,t3,t4,t6,t15,AQ cx a1];exact⟨nx,_,g2,gl,by simp[Nf,IM,Dj,mC,EI]⟩
 ·have wW:j=s.size:=by omega
  subst wW;simp[AC4]at gl;subst gl;refine Cu ?_;refine⟨_,AJ.AY 5 (by simp) (by simp) (by simp) (by simp[-AAG,BR,Ay]),?_⟩;simp[Am]
open Go.Proofs Tryz DT
theorem Lf{u v:List Bool}{i at_:Int}(h:GC u i at_=some v):0≤i∧i<at_:=by
 unfold GC at h;split at h
 ·cases h
 ·rename_i hn;omega
theorem PB{p:List BM}{i:Nat}(h:(ABJ p (i+1)).isSome=true):∃u v x,ABJ p i=some u∧p[i]?=some x∧EK u i x=some v:=by
 obtain⟨v,hv⟩:=Option.isSome_iff_exists.1 h;obtain⟨u,h1,h2⟩:=Option.bind_eq_some_iff.1 hv;obtain⟨x,h3,h4⟩:=Option.bind_eq_some_iff.1 h2;exact⟨u,v,x,h1,h3,h4⟩
theorem Oy{p:List BM}{n:Nat}(h:(ABJ p n).isSome=true):∀i≤n,(ABJ p i).isSome=true:=fun i hi=>by
 cases hs:ABJ p i with
 |some u=>rfl
 |none=>
  have:=Hp hs (n - i);rw[Nat.add_sub_cancel' hi]at this;rw[this]at h;cases h
theorem M7{p:List BM}(h:AAq p=0):T1 p∧p≠[]:=by
 unfold AAq at h;split at h
 ·cases h
 ·rename_i hl;split at h
  ·cases h
  ·rename_i u hu;split at h
   ·cases h
   ·rename_i gy;refine⟨⟨by omega,fun i x hx=>?_⟩,fun e=>gy (.inl e)⟩;have hi:i<p.length:=AZ hx;obtain⟨u0,v,x',h1,h2,h3⟩:=PB (Oy (n:=p.length) (by rw[hu];rfl) (i+1) (by omega));rw[hx]at h2;cases h2;unfold EK at h3;split at h3
    ·cases h3
    ·constructor
     ·intro hk;have ha:¬Bu x.kind<1:=by rcases hk with e|e|e<;>rw[e]<;>decide
      rw[if_neg ha]at h3;obtain⟨v1,g1,_⟩:=Option.bind_eq_some_iff.1 h3;exact Lf g1
     ·intro hk;have ha:¬Bu x.kind<1:=by rcases hk with e|e<;>rw[e]<;>decide
      have hb:¬Bu x.kind<2:=by rcases hk with e|e<;>rw[e]<;>decide
      rw[if_neg ha]at h3;obtain⟨v1,g1,g2⟩:=Option.bind_eq_some_iff.1 h3;rw[if_neg hb]at g2;exact Lf g2
def F4(p:List BM)(s:ByteArray):Bool:=
 if AAq p=0 then AC4 p (HF p) s s.size 0 (HF p).f (decide (s.size=0)&&(HF p).e)else false
theorem Ol(p:List BM)(s:ByteArray):Pure prog 165 [Ax p,Ba s] (.bool (F4 p s)):=by
 refine Pure.AI func165 (by kernel_rfl) rfl (by simp) fun wf=>?_;rw[ntmps165];refine xW fun K hK=>?_;simp;apply hK;refine xS (Az fun K hK=>?_);refine xJ ?_;simp;refine Bp (Ja p) rfl (by simp) ?_;simp;refine xJ ?_;simp;refine Aj (hK _ _ ?_);(try simp only[xQ,reduceIte]);by_cases hc:AAq p=0
 ·have qH:decide (s.size=0)=decide (s=⟨#[]⟩):=by simp only[Hb]
  have hm:F4 p s=AC4 p (HF p) s s.size 0 (HF p).f (decide (s=⟨#[]⟩)&&(HF p).e):=by rw[←qH];unfold F4;rw[if_pos hc]
  rw[hm];obtain⟨hp,h0⟩:=M7 hc;have hg:Ib p.length (HF p):=Cb hp.1 _ _ _ (J9 _);have kB:=Ok hp h0;have vH:=ZR hp.1 hg s (decide (s=⟨#[]⟩)&&(HF p).e);generalize HF p=r at *;obtain⟨rf,rl,re,rfol⟩:=r;obtain⟨r1,r2,r3⟩:=hg;simp only[]at r1 r2 r3;obtain⟨a0,a1',a2,a3,a4,a5,a6,a7,rfl⟩:=r1.1.Jl;obtain⟨b0,b1,b2,b3,b4,b5,b6,b7,rfl⟩:=r2.1.Jl;refine AU ?_;simp[hc];refine xK ?_;refine Az fun K hK=>?_;refine xJ ?_;simp;refine xF (kB) [] rfl ?_;simp[-AAj,-AAG,Cd,IM];refine xJ ?_;simp;refine Aj (hK _ _ ?_);refine xW fun K hK=>?_;simp[Dj,mC,EI];apply hK;refine Az fun K hK=>?_;refine xJ ?_;simp;unfold Nf IM at vH;refine xF (vH) [1,2,3,0,4] rfl ?_;simp[-AAj,-AAG,Cd,Ay,Dj,mC,EI];refine xJ ?_;simp;refine Aj (hK _ _ ?_);refine xW fun K hK=>?_;simp;apply hK;refine Ag ⟨_,_,AJ.refl,?_⟩;try simp
 ·have hm:F4 p s=false:=by simp[F4,hc]
  rw[hm];refine AU ?_;simp[hc];refine xW fun K hK=>?_;simp;apply hK;refine Ag ⟨_,_,AJ.refl,?_⟩;try simp
end Go.Koi
