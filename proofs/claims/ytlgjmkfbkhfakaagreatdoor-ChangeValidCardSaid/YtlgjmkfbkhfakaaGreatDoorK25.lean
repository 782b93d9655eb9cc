/- Part 26 of the proof that the law ChangeValid returns true for every input. -/
import Derived.Test.YtlgjmkfbkhfakaaGreatDoorK24
set_option maxHeartbeats 64000000
set_option maxRecDepth 100000
namespace Go.Koi
open Go.Proofs Tryz DT
def Fm:Token:=⟨⟨#[]⟩,0,⟨#[]⟩,[],⟨#[]⟩,⟨[],0⟩⟩
def Dq:AT:=⟨⟨#[]⟩,0,[],⟨[],0⟩,false,0,[],⟨false,0,0,0,0⟩⟩
theorem Ce:ByteArray.empty=⟨#[]⟩:=rfl
def Py(x:AAC):Sg:=[.row true 31 [.d (AO x)]]
def R5(f:FuncId)(c:AAC→AAC):Prop:=∀x,AE prog f [.ptr 0 1 0 0] (Py x) (.Bd []) (Py (c x))
theorem Ko:R5 58 (fun x=>{x with number:=0,name:=⟨#[]⟩}):=fun x=>by
 have cy:=AO.eq_1 x;unfold Py;refine AE.AI func58 (by kernel_rfl) rfl (by simp) fun wf _=>?_;rw[ntmps58];refine BX fun K hK=>?_;refine xJ ?_;simp[cy];refine Aj (hK _ _ ?_);refine⟨_,AJ.A2 0 (xs:=[AO {x with number:=0,name:=⟨#[]⟩}]) rfl (by simp[AAi,AO]),?_⟩;simp[Am]
theorem Ua:R5 59 (fun x=>{x with number:=0,at_:=0,to:=0,name:=⟨#[]⟩}):=fun x=>by
 have cy:=AO.eq_1 x;unfold Py;refine AE.AI func59 (by kernel_rfl) rfl (by simp) fun wf _=>?_;rw[ntmps59];refine BX fun K hK=>?_;refine xJ ?_;simp[cy];refine Aj (hK _ _ ?_);refine⟨_,AJ.A2 0 (xs:=[AO {x with number:=0,at_:=0,to:=0,name:=⟨#[]⟩}]) rfl (by simp[AAi,AO]),?_⟩;simp[Am]
theorem du:R5 69 (fun x=>{x with name:=⟨#[]⟩}):=fun x=>by
 have cy:=AO.eq_1 x;unfold Py;refine AE.AI func69 (by kernel_rfl) rfl (by simp) fun wf _=>?_;rw[ntmps69];refine BX fun K hK=>?_;refine xJ ?_;simp[cy];refine Aj (hK _ _ ?_);refine⟨_,AJ.A2 0 (xs:=[AO {x with name:=⟨#[]⟩}]) rfl (by simp[AAi,AO]),?_⟩;simp[Am]
theorem db:R5 71 (fun x=>{x with number:=0,value:=false}):=fun x=>by
 have cy:=AO.eq_1 x;unfold Py;refine AE.AI func71 (by kernel_rfl) rfl (by simp) fun wf _=>?_;rw[ntmps71];refine BX fun K hK=>?_;refine xJ ?_;simp[cy];refine Aj (hK _ _ ?_);refine⟨_,AJ.A2 0 (xs:=[AO {x with number:=0,value:=false}]) rfl (by simp[AAi,AO]),?_⟩;simp[Am]
theorem cz:R5 73 (fun x=>{x with number:=0,cond:=⟨[],0⟩}):=fun x=>by
 have cy:=AO.eq_1 x;unfold Py;refine AE.AI func73 (by kernel_rfl) rfl (by simp) fun wf _=>?_;rw[ntmps73];refine BX fun K hK=>?_;refine xJ ?_;simp[cy];refine Aj (hK _ _ ?_);refine⟨_,AJ.A2 0 (xs:=[AO {x with number:=0,cond:=⟨[],0⟩}]) rfl (by simp[AAi,AO]),?_⟩;simp[Am]
theorem V6:R5 78 (fun x=>{x with number:=0,at_:=0}):=fun x=>by
 have cy:=AO.eq_1 x;unfold Py;refine AE.AI func78 (by kernel_rfl) rfl (by simp) fun wf _=>?_;rw[ntmps78];refine BX fun K hK=>?_;refine xJ ?_;simp[cy];refine Aj (hK _ _ ?_);refine⟨_,AJ.A2 0 (xs:=[AO {x with number:=0,at_:=0}]) rfl (by simp[AAi,AO]),?_⟩;simp[Am]
theorem Vs:R5 84 (fun x=>{x with number:=0,at_:=0,name:=⟨#[]⟩}):=fun x=>by
 have cy:=AO.eq_1 x;unfold Py;refine AE.AI func84 (by kernel_rfl) rfl (by simp) fun wf _=>?_;rw[ntmps84];refine BX fun K hK=>?_;refine xJ ?_;simp[cy];refine Aj (hK _ _ ?_);refine⟨_,AJ.A2 0 (xs:=[AO {x with number:=0,at_:=0,name:=⟨#[]⟩}]) rfl (by simp[AAi,AO]),?_⟩;simp[Am]
theorem Ui:R5 86 (fun x=>{x with levels:=[]}):=fun x=>by
 have cy:=AO.eq_1 x;unfold Py;refine AE.AI func86 (by kernel_rfl) rfl (by simp) fun wf _=>?_;rw[ntmps86];refine BX fun K hK=>?_;refine xJ ?_;simp[cy];refine Aj (hK _ _ ?_);refine⟨_,AJ.A2 0 (xs:=[AO {x with levels:=[]}]) rfl (by simp[AAi,AO]),?_⟩;simp[Am]
theorem Va:R5 88 (fun x=>{x with AM:=[]}):=fun x=>by
 have cy:=AO.eq_1 x;unfold Py;refine AE.AI func88 (by kernel_rfl) rfl (by simp) fun wf _=>?_;rw[ntmps88];refine BX fun K hK=>?_;refine xJ ?_;simp[cy];refine Aj (hK _ _ ?_);refine⟨_,AJ.A2 0 (xs:=[AO {x with AM:=[]}]) rfl (by simp[AAi,AO]),?_⟩;simp[Am]
theorem VV:R5 90 (fun x=>{x with token:=Fm}):=fun x=>by
 have cy:=AO.eq_1 x;unfold Py;refine AE.AI func90 (by kernel_rfl) rfl (by simp) fun wf _=>?_;rw[ntmps90];refine BX fun K hK=>?_;refine xJ ?_;simp[cy];refine Aj (hK _ _ ?_);refine⟨_,AJ.A2 0 (xs:=[AO {x with token:=Fm}]) rfl (by simp[AAi,AO,Fm,Ce]),?_⟩;simp[Am]
theorem cY:R5 92 (fun x=>{x with prod:=Dq}):=fun x=>by
 have cy:=AO.eq_1 x;unfold Py;refine AE.AI func92 (by kernel_rfl) rfl (by simp) fun wf _=>?_;rw[ntmps92];refine BX fun K hK=>?_;refine xJ ?_;simp[cy];refine Aj (hK _ _ ?_);refine⟨_,AJ.A2 0 (xs:=[AO {x with prod:=Dq}]) rfl (by simp[AAi,AO,Dq,Ce]),?_⟩;simp[Am]
theorem bq:R5 94 (fun x=>{x with number:=0,prod:=Dq,BL:=[]}):=fun x=>by
 have cy:=AO.eq_1 x;unfold Py;refine AE.AI func94 (by kernel_rfl) rfl (by simp) fun wf _=>?_;rw[ntmps94];refine BX fun K hK=>?_;refine xJ ?_;simp[cy];refine Aj (hK _ _ ?_);refine⟨_,AJ.A2 0 (xs:=[AO {x with number:=0,prod:=Dq,BL:=[]}]) rfl (by simp[AAi,AO,Dq,Ce]),?_⟩;simp[Am]
open Go.Proofs Tryz DT
def bV(g:AF)(x:AAC)(h0 h1 h2 h3 h4 h5 h6 h7 h8 m:V)(lg:Bool):V:=.agg [.d (CW g.conds),.d (AV g.fam.nodes),.d (AG g.fam.root),.d (Bs g.Ak),.d (CW g.BC),.d (Bb g.AD),.d (AG g.start),.d (BI g.levels),.d (A8 g.AM),.d (AG x.kind),.d (AG x.number),.d (AG x.at_),.d (AG x.to),.d (Ba x.name),.d (CS x.value),.d (AV x.cond.nodes),.d (AG x.cond.root),.d (BI x.levels),.d (A8 x.AM),.d (Ba x.token.name),.d (AG x.token.cls),.d (Ba x.token.literal),.d (Ax x.token.pattern),.d (Ba x.token.Cr),.d (AV x.token.cond.nodes),.d (AG x.token.cond.root),.d (Ba x.prod.name),.d (AG x.prod.left),.d (As x.prod.right),.d (AV x.prod.cond.nodes),.d (AG x.prod.cond.root),.d (CS x.prod.bracket),.d (AG x.prod.Di),.d (Bf x.prod.layout),.d (CS x.prod.scope.opens),.d (AG x.prod.scope.declares),.d (AG x.prod.scope.kind),.d (AG x.prod.scope.EA),.d (AG x.prod.scope.allowed),.d (Bm x.BL),h0,h1,h2,h3,h4,h5,h6,h7,h8,m,.d (.bool lg)]
def Oj(S:Sg)(r:Nat)(g:AF)(x:AAC):Prop:=∃h0 h1 h2 h3 h4 h5 h6 h7 h8 m lg,S[r]?=some (.row true 51 [bV g x h0 h1 h2 h3 h4 h5 h6 h7 h8 m lg])
def Ck(g:AF)(x:AAC):Bool:=decide (0≤x.number)&&decide (x.number<g.AD.length)
theorem Ea{S:Sg}{r:Nat}{g:AF}{x:AAC}(hb:Oj S r g x):AE prog 65 [.ptr r 1 0 0] S (.d (.bool (Ck g x))) S:=by
 obtain⟨h0,h1,h2,h3,h4,h5,h6,h7,h8,m,lg,hb⟩:=hb;unfold bV at hb;refine AE.AI func65 (by kernel_rfl) rfl (by simp) fun wf _=>?_;rw[ntmps65];refine xW fun K hK=>?_;simp;apply hK;(repeat refine xS ?_);refine xE [0,2,4,6,8,10,12,14,16,18,20,22,24,26,28,30,32,34,36,38,40] (by kernel_rfl) fun K hK=>?_;simp;refine xA 0 ?_;simp[hb];refine xM (hK _ _ ?_);(try simp only[xQ,reduceIte]);refine Ag ?_;(try simp only[xQ,reduceIte]);refine⟨_,AJ.refl,?_⟩;simp[Am,Ck]
theorem YE(g:AF):Pure prog 63 [AB g] (AG g.BC.length):=by
 refine Pure.AI func63 (by kernel_rfl) rfl (by simp) fun wf=>?_;rw[ntmps63];refine xW fun K hK=>?_;simp;apply hK;refine xW fun K hK=>?_;simp[AB];apply hK;refine Ag ⟨_,_,AJ.refl,?_⟩;try simp
theorem XW(g:AF):Pure prog 67 [AB g] (AG g.conds.length):=by
 refine Pure.AI func67 (by kernel_rfl) rfl (by simp) fun wf=>?_;rw[ntmps67];refine xW fun K hK=>?_;simp;apply hK;refine xW fun K hK=>?_;simp[AB];apply hK;refine Ag ⟨_,_,AJ.refl,?_⟩;try simp
theorem Is(S:Sg)(v:V):AE prog 57 [v] S (.d (.bool true)) S:=by
 refine AE.AI func57 (by kernel_rfl) rfl (by simp) fun wf _=>?_;rw[ntmps57];refine xW fun K hK=>?_;simp;apply hK;refine xW fun K hK=>?_;simp;apply hK;refine Ag ?_;(try simp only[xQ,reduceIte]);refine⟨_,AJ.refl,?_⟩;simp[Am]
def F1:AT:=⟨⟨#[]⟩,0,[],⟨[],0⟩,false,0,[],⟨false,0,0,0,0⟩⟩
def CL(g:AF)(x:AAC):AT:=g.AD.getD x.number.toNat F1
theorem Hv{S:Sg}{r:Nat}{g:AF}{x:AAC}(hb:Oj S r g x)(hs:S.all (AAG S.length)=true)(hp:Ck g x=true):AE prog 82 [.ptr r 1 0 0] S (.d (AH (CL g x))) S:=by
 obtain⟨h0,h1,h2,h3,h4,h5,h6,h7,h8,m,lg,hb⟩:=hb;unfold bV at hb;have hr:=AZ hb;have iC:∀X,(S++[X])[r]?=_:=fun X=>(List.getElem?_append_left hr).trans hb;simp only[Ck,Bool.and_eq_true,decide_eq_true_eq]at hp;obtain⟨j,hj⟩:∃j:Nat,x.number=j:=⟨x.number.toNat,by omega⟩;have ij:j<g.AD.length:=by omega
 have ho:CL g x=g.AD[j]:=by simp[CL,hj,ij]
 rw[ho];generalize jF:g.AD[j]=p;have cy:=AH.eq_1 p;refine AE.B9 func82 (by kernel_rfl) rfl (by simp) fun wf _=>?_;rw[ntmps82];refine xW fun K hK=>?_;simp;apply hK;(repeat refine xS ?_);refine xE [0,2,4,6,8,10,12,14,16,18,20,22,25] (by kernel_rfl) fun K hK=>?_;simp;refine xA 0 ?_;simp[iC,hj,ij,jF,cy];refine xX 4095 (by kernel_rfl) ?_;simp;refine xM (hK _ _ ?_);(try simp only[xQ,reduceIte]);refine Ag ?_;(try simp only[xQ,reduceIte]);refine⟨_,_,_,AJ.refl,?_,?_,AJ.AY S.length (by simp) (Nat.le_refl _) (by simp) (by simpa using hs)⟩
 ·simp
 ·simp[cy]
def Fz(x:AAC)(n:Nat):Bool:=decide (0≤x.number)&&decide (x.number<n)
theorem JX{S:Sg}{r q:Nat}{g:AF}{x:AAC}(hb:Oj S r g x){k:FuncId}{n:Nat}(hq:S[q]?=some (.row true 1 [.fn (.func k) [] []]))(hk:Pure prog k [AB g] (AG n)):
  AE prog 138 [.ptr r 1 0 0,.ptr q 1 0 0] S (.d (.bool (Fz x n))) S:=by
 obtain⟨h0,h1,h2,h3,h4,h5,h6,h7,h8,m,lg,hb⟩:=hb;unfold bV at hb;refine AE.AI func138 (by kernel_rfl) rfl (by simp) fun wf _=>?_;rw[ntmps138];refine xW fun K hK=>?_;simp;apply hK;(repeat refine xS ?_);refine xE [0,2,4,6,8,10,12,14,16,18,20,22,24,26,28,30,32,34,36,38,40] (by kernel_rfl) fun K hK=>?_;simp;refine xA 0 ?_;simp[hb,hq];refine Ae.CE (ds:=[AB g]) rfl rfl (by simp;rfl) (fun _=>hk) (by simp[xN]) ?_;simp;refine xA 0 ?_;simp;refine xM (hK _ _ ?_);(try simp only[xQ,reduceIte]);refine Ag ?_;(try simp only[xQ,reduceIte]);refine⟨_,AJ.refl,?_⟩;simp[Am,Fz]
theorem Zh{S:Sg}{r:Nat}{g:AF}{x:AAC}(hb:Oj S r g x):AE prog 74 [.ptr r 1 0 0] S (.d (.bool (Ck g x&&(HW x.cond==0)))) S:=by
 have kE:=Ea hb;obtain⟨h0,h1,h2,h3,h4,h5,h6,h7,h8,m,lg,hb⟩:=hb;unfold bV at hb;refine AE.AI func74 (by kernel_rfl) rfl (by simp) fun wf _=>?_;rw[ntmps74];refine xW fun K hK=>?_;simp;apply hK;(repeat refine xS ?_);refine BX fun K hK=>?_;refine xJ ?_;simp;refine AS.call rfl rfl (by simp) (f:=65) (args:=[.ptr r 1 0 0]) (by simp;try rfl) (by simp) kE ?_;simp;refine xJ ?_;simp[hb];refine AS.CE (ds:=[AA x.cond]) rfl rfl (by simp;rfl) (fun _=>Ks x.cond) (by simp[xN]) ?_;simp;refine xJ ?_;simp;refine Aj (hK _ _ ?_);(try simp only[xQ,reduceIte]);refine Ag ?_;(try simp only[xQ,reduceIte]);refine⟨_,AJ.refl,?_⟩;simp[Am]
def CH(g:AF)(x:AAC):Bool:=Ck g x&&decide (0≤x.at_)&&(match (CL g x).right[x.at_.toNat]? with|some s=>!s.token|none=>false)
theorem JU{S:Sg}{r:Nat}{g:AF}{x:AAC}(hb:Oj S r g x)(hs:S.all (AAG S.length)=true):AE prog 79 [.ptr r 1 0 0] S (.d (.bool (CH g x))) S:=by
 have kE:=Ea hb;have hold:=Hv hb hs;obtain⟨h0,h1,h2,h3,h4,h5,h6,h7,h8,m,lg,hb⟩:=hb;unfold bV at hb;generalize g7:CL g x=o at *;have cy:=AH.eq_1 o;refine AE.AI func79 (by kernel_rfl) rfl (by simp) fun wf _=>?_;rw[ntmps79];(repeat refine xS ?_);refine xV fun K hK=>?_;simp;refine hK _ _ ?_;(try simp only[xQ,reduceIte]);cases hp:Ck g x with
 |false=>
  have hc:CH g x=false:=by simp[CH,hp]
  rw[hc];(repeat refine xS ?_);refine xE [0,2,4,6,8,10,12,14,16,18,20,22,24,26,28,30,32,34,36,38,40,42,44,46,48,50,52,54,56,58,60,62,64,66,68,70,72] (by kernel_rfl) fun K hK=>?_;simp;(iterate 1 (refine Ga (by simp) ?_;simp));refine Ae.Gt (f:=65) (args:=[.ptr r 1 0 0]) kE rfl (by simp;try rfl) ?_;simp;(iterate 1 (refine Ga (by simp) ?_;simp));(repeat(refine Oi rfl rfl ?_ ?_;(·simp[hp]);simp[hp]));(iterate 2 (refine Ga (by simp) ?_;simp));(repeat(refine Oi rfl rfl ?_ ?_;(·simp);simp));(iterate 2 (refine Ga (by simp) ?_;simp));(repeat(refine Oi rfl rfl ?_ ?_;(·simp);simp));refine xA 0 ?_;simp;refine xM (hK _ _ ?_);(try simp only[xQ,reduceIte]);refine Ag ?_;(try simp only[xQ,reduceIte]);refine⟨_,AJ.refl,?_⟩;simp[Am]
 |true=>
  by_cases a0:0≤x.at_
  ·obtain⟨j,hj⟩:∃j:Nat,x.at_=j:=⟨x.at_.toNat,by omega⟩;by_cases a1:j<o.right.length
   ·have hc:CH g x=!o.right[j].token:=by simp[CH,hp,g7,hj,a1]
    rw[hc];(repeat refine xS ?_);refine xE [0,2,4,6,8,10,12,14,16,18,20,22,24,26,28,30,32,34,36,38,40,42,44,46,48,50,52,54,56,58,60,62,64,66,68,70,72] (by kernel_rfl) fun K hK=>?_;simp;(iterate 1 (refine Ga (by simp) ?_;simp));refine Ae.Gt (f:=65) (args:=[.ptr r 1 0 0]) kE rfl (by simp;try rfl) ?_;simp;(iterate 1 (refine Ga (by simp) ?_;simp));(iterate 14 (refine Ga (by simp[hp,hb,hj]) ?_;simp[hp,hb,hj]));refine Ae.Gb (g:=true) (f:=82) (args:=[.ptr r 1 0 0]) (fun _=>hold hp) rfl rfl (by simp;try rfl) (by simp) (by simp) ?_;simp;(iterate 6 (refine Ga (by simp[cy]) ?_;simp[a1,cy]));refine Ae.Gb (g:=true) (f:=82) (args:=[.ptr r 1 0 0]) (fun _=>hold hp) rfl rfl (by simp;try rfl) (by simp) (by simp) ?_;simp;refine xA 0 ?_;simp[hb,hj,a1,cy,AL];refine xM (hK _ _ ?_);(try simp only[xQ,reduceIte]);refine Ag ?_;(try simp only[xQ,reduceIte]);refine⟨_,AJ.refl,?_⟩;simp[Am]
   ·have hc:CH g x=false:=by simp[CH,hp,g7,hj,a1]
    rw[hc];(repeat refine xS ?_);refine xE [0,2,4,6,8,10,12,14,16,18,20,22,24,26,28,30,32,34,36,38,40,42,44,46,48,50,52,54,56,58,60,62,64,66,68,70,72] (by kernel_rfl) fun K hK=>?_;simp;(iterate 1 (refine Ga (by simp) ?_;simp));refine Ae.Gt (f:=65) (args:=[.ptr r 1 0 0]) kE rfl (by simp;try rfl) ?_;simp;(iterate 1 (refine Ga (by simp) ?_;simp));(iterate 14 (refine Ga (by simp[hp,hb,hj]) ?_;simp[hp,hb,hj]));refine Ae.Gb (g:=true) (f:=82) (args:=[.ptr r 1 0 0]) (fun _=>hold hp) rfl rfl (by simp;try rfl) (by simp) (by simp) ?_;simp;(iterate 5 (refine Ga (by simp[cy]) ?_;simp[a1,cy]));(repeat(refine Oi rfl rfl ?_ ?_;(·simp);simp));refine xA 0 ?_;simp;refine xM (hK _ _ ?_);(try simp only[xQ,reduceIte]);refine Ag ?_;(try simp only[xQ,reduceIte]);refine⟨_,AJ.refl,?_⟩;simp[Am]
  ·have hc:CH g x=false:=by simp[CH,a0]
   rw[hc];(repeat refine xS ?_);refine xE [0,2,4,6,8,10,12,14,16,18,20,22,24,26,28,30,32,34,36,38,40,42,44,46,48,50,52,54,56,58,60,62,64,66,68,70,72] (by kernel_rfl) fun K hK=>?_;simp;(iterate 1 (refine Ga (by simp) ?_;simp));refine Ae.Gt (f:=65) (args:=[.ptr r 1 0 0]) kE rfl (by simp;try rfl) ?_;simp;(iterate 1 (refine Ga (by simp) ?_;simp));(iterate 8 (refine Ga (by simp[hp,hb]) ?_;simp[hp,hb,a0]));(repeat(refine Oi rfl rfl ?_ ?_;(·simp);simp));(iterate 2 (refine Ga (by simp) ?_;simp));(repeat(refine Oi rfl rfl ?_ ?_;(·simp);simp));refine xA 0 ?_;simp;refine xM (hK _ _ ?_);(try simp only[xQ,reduceIte]);refine Ag ?_;(try simp only[xQ,reduceIte]);refine⟨_,AJ.refl,?_⟩;simp[Am]
def FE(g:AF)(x:AAC):Bool:=Ck g x&&decide (0≤x.at_)&&decide (x.at_<x.to)&&decide (x.to≤(CL g x).right.length)
theorem Sa{S:Sg}{r:Nat}{g:AF}{x:AAC}(hb:Oj S r g x)(hs:S.all (AAG S.length)=true):AE prog 81 [.ptr r 1 0 0] S (.d (.bool (FE g x))) S:=by
 have kE:=Ea hb;have hold:(Ck g x&&decide (0≤x.at_)&&decide (x.at_<x.to))=true→AE prog 82 [.ptr r 1 0 0] S (.d (AH (CL g x))) S:=fun e=>Hv hb hs (by simp only[Bool.and_eq_true]at e;exact e.1.1);obtain⟨h0,h1,h2,h3,h4,h5,h6,h7,h8,m,lg,hb⟩:=hb;unfold bV at hb;generalize g7:CL g x=o at *;have cy:=AH.eq_1 o;have j1:FE g x=(Ck g x&&decide (0≤x.at_)&&decide (x.at_<x.to)&&decide (x.to≤o.right.length)):=by simp[FE,g7]
 rw[j1];refine AE.AI func81 (by kernel_rfl) rfl (by simp) fun wf _=>?_;rw[ntmps81];refine xW fun K hK=>?_;simp;apply hK;(repeat refine xS ?_);refine xE [0,2,4,6,8,10,12,14,16,18,20,22,24,26,28,30,32,34,36,38,40,42,44,46,48,50,52,54,56,58,60,62,64,66,68,70] (by kernel_rfl) fun K hK=>?_;simp;(iterate 1 (refine Ga (by simp) ?_;simp));refine Ae.Gt (f:=65) (args:=[.ptr r 1 0 0]) kE rfl (by simp;try rfl) ?_;simp;refine xA 0 ?_;simp[hb];refine Ae.Gb (g:=Ck g x&&decide (0≤x.at_)&&decide (x.at_<x.to)) (f:=82) (args:=[.ptr r 1 0 0]) hold rfl rfl (by simp;try rfl) (by simp) (by simp +contextual;try rfl) ?_;simp;refine xA 0 ?_;simp[cy];refine xM (hK _ _ ?_);(try simp only[xQ,reduceIte]);refine Ag ?_;(try simp only[xQ,reduceIte]);refine⟨_,AJ.refl,?_⟩;simp[Am]
open Go.Proofs Tryz DT
def H0(g:AF)(x:AAC)(h:AF)(mm:List Rewrite)(lg:Bool):D:=.agg [CW g.conds,AV g.fam.nodes,AG g.fam.root,Bs g.Ak,CW g.BC,Bb g.AD,AG g.start,BI g.levels,A8 g.AM,AG x.kind,AG x.number,AG x.at_,AG x.to,Ba x.name,CS x.value,AV x.cond.nodes,AG x.cond.root,BI x.levels,A8 x.AM,Ba x.token.name,AG x.token.cls,Ba x.token.literal,Ax x.token.pattern,Ba x.token.Cr,AV x.token.cond.nodes,AG x.token.cond.root,Ba x.prod.name,AG x.prod.left,As x.prod.right,AV x.prod.cond.nodes,AG x.prod.cond.root,CS x.prod.bracket,AG x.prod.Di,Bf x.prod.layout,CS x.prod.scope.opens,AG x.prod.scope.declares,AG x.prod.scope.kind,AG x.prod.scope.EA,AG x.prod.scope.allowed,Bm x.BL,CW h.conds,AV h.fam.nodes,AG h.fam.root,Bs h.Ak,CW h.BC,Bb h.AD,AG h.start,BI h.levels,A8 h.AM,An mm,.bool lg]
def CG(g:AF)(x:AAC)(h:AF)(m:V)(lg:Bool)(w0 w1 w2 w3:Bool):Sg:=
 [.row w0 1 (h.conds.map fun x=>.d (D.str x)),.row w1 7 (h.Ak.map fun x=>.d (Aa x)),.row w2 1 (h.BC.map fun x=>.d (D.str x)),.row w3 13 (h.AD.map fun x=>.d (AH x)),.row true 51 [bV g x (.row 0 h.conds.length) (.d (AV h.fam.nodes)) (.d (AG h.fam.root)) (.row 1 h.Ak.length) (.row 2 h.BC.length) (.row 3 h.AD.length) (.d (AG h.start)) (.d (BI h.levels)) (.d (A8 h.AM)) m lg]]
def bS(g:AF)(x:AAC):Sg:=CG g x g (.full []) false (!g.conds.isEmpty) (!g.Ak.isEmpty) (!g.BC.isEmpty) (!g.AD.isEmpty)
def D5(g:AF)(x:AAC)(h:AF)(mm:List Rewrite)(lg:Bool):Sg:=
 [.BJ (h.conds.map D.str),.BJ (h.Ak.map Aa),.BJ (h.BC.map D.str),.BJ (h.AD.map AH),.row true 51 [.d (H0 g x h mm lg)]]
theorem Jo{n b:Nat}{tm:Tm}(g:AF)(x:AAC)(h:AF)(m:V)(mm:List Rewrite)(lg w0 w1 w2 w3:Bool)
  (hm:m=.full (mm.map Ab)):AJ prog n b tm (CG g x h m lg w0 w1 w2 w3) tm (D5 g x h mm lg):=by
 subst hm;have g0:=AJ.B6 (P:=prog) (n:=n) (b:=b) (tm:=tm) (S:=CG g x h (.full (mm.map Ab)) lg w0 w1 w2 w3) 0 rfl (Bz _ D.str h.conds);have g1:=AJ.B6 (P:=prog) (n:=n) (b:=b) (tm:=tm) (S:=(CG g x h (.full (mm.map Ab)) lg w0 w1 w2 w3).set 0 (.BJ (h.conds.map D.str))) 1 rfl (Bz _ Aa h.Ak);have g2:=AJ.B6 (P:=prog) (n:=n) (b:=b) (tm:=tm) (S:=((CG g x h (.full (mm.map Ab)) lg w0 w1 w2 w3).set 0 (.BJ (h.conds.map D.str))).set 1 (.BJ (h.Ak.map Aa))) 2 rfl (Bz _ D.str h.BC);have g3:=AJ.B6 (P:=prog) (n:=n) (b:=b) (tm:=tm) (S:=(((CG g x h (.full (mm.map Ab)) lg w0 w1 w2 w3).set 0 (.BJ (h.conds.map D.str))).set 1 (.BJ (h.Ak.map Aa))).set 2 (.BJ (h.BC.map D.str))) 3 rfl (Bz _ AH h.AD);refine(((g0.trans g1).trans g2).trans g3).trans ?_;refine AJ.A2 (P:=prog) (n:=n) (b:=b) (tm:=tm) 4 (wr:=true) (sz:=51) (xs:=[H0 g x h mm lg]) rfl ?_;simp[AAi,CG,bV,AA0,AAn,H0]
theorem YZ(g:AF)(x:AAC)(hi:Fz x g.BC.length=true):AE prog 64 [.ptr 4 1 0 0] (bS g x) (.Bd []) (D5 g x {g with BC:=g.BC.set x.number.toNat x.name} [] false):=by
 simp only[Fz,Bool.and_eq_true,decide_eq_true_eq]at hi;obtain⟨j,hj⟩:∃j:Nat,x.number=j:=⟨x.number.toNat,by omega⟩;have ij:j<g.BC.length:=by omega
 have iE:g.BC.isEmpty=false:=by cases h:g.BC<;>simp[h]at ij⊢
 refine AE.AI func64 (by kernel_rfl) rfl (by simp) fun wf _=>?_;rw[ntmps64];unfold bS CG bV;refine xE [0,2,4,6,8,10,12,14,16,18,20,22,24,26,28,30,33] (by kernel_rfl) fun K hK=>?_;simp;refine xA 1 ?_;simp[hj,ij,iE];refine xX 65535 (by kernel_rfl) ?_;simp[ij,AR];refine xM (hK _ _ ?_);refine⟨_,(AJ.JK (S':=CG g x {g with BC:=g.BC.set x.number.toNat x.name} (.full []) false (!g.conds.isEmpty) (!g.Ak.isEmpty) (!g.BC.isEmpty) (!g.AD.isEmpty)) ?_).trans (Jo g x _ (.full []) [] false _ _ _ _ rfl),?_⟩
 ·simp[CG,bV,hj,iE,List.map_set]
 ·simp[Am]
theorem YO(g:AF)(x:AAC)(hi:Fz x g.conds.length=true):AE prog 68 [.ptr 4 1 0 0] (bS g x) (.Bd []) (D5 g x {g with conds:=g.conds.set x.number.toNat x.name} [] false):=by
 simp only[Fz,Bool.and_eq_true,decide_eq_true_eq]at hi;obtain⟨j,hj⟩:∃j:Nat,x.number=j:=⟨x.number.toNat,by omega⟩;have ij:j<g.conds.length:=by omega
 have iE:g.conds.isEmpty=false:=by cases h:g.conds<;>simp[h]at ij⊢
 refine AE.AI func68 (by kernel_rfl) rfl (by simp) fun wf _=>?_;rw[ntmps68];unfold bS CG bV;refine xE [0,2,4,6,8,10,12,14,16,18,20,22,24,26,28,30,33] (by kernel_rfl) fun K hK=>?_;simp;refine xA 1 ?_;simp[hj,ij,iE];refine xX 65535 (by kernel_rfl) ?_;simp[ij,AR];refine xM (hK _ _ ?_);refine⟨_,(AJ.JK (S':=CG g x {g with conds:=g.conds.set x.number.toNat x.name} (.full []) false (!g.conds.isEmpty) (!g.Ak.isEmpty) (!g.BC.isEmpty) (!g.AD.isEmpty)) ?_).trans (Jo g x _ (.full []) [] false _ _ _ _ rfl),?_⟩
 ·simp[CG,bV,hj,iE,List.map_set]
 ·simp[Am]
theorem X0(g:AF)(x:AAC)(hi:Fz x g.AD.length=true):AE prog 66 [.ptr 4 1 0 0] (bS g x) (.Bd []) (D5 g x {g with AD:=g.AD.set x.number.toNat {g.AD.getD x.number.toNat F1 with name:=x.name}} [] false):=by
 simp only[Fz,Bool.and_eq_true,decide_eq_true_eq]at hi;obtain⟨j,hj⟩:∃j:Nat,x.number=j:=⟨x.number.toNat,by omega⟩;have ij:j<g.AD.length:=by omega
 have iE:g.AD.isEmpty=false:=by cases h:g.AD<;>simp[h]at ij⊢
 have jn:g.AD.getD x.number.toNat F1=g.AD[j]:=by simp[hj,ij]
 rw[jn];generalize jF:g.AD[j]=p;have cy:=AH.eq_1 p;refine AE.AI func66 (by kernel_rfl) rfl (by simp) fun wf _=>?_;rw[ntmps66];unfold bS CG bV;refine xE [0,2,4,6,8,10,12,14,16,18,20,22,24,26,28,30,32,35] (by kernel_rfl) fun K hK=>?_;simp;refine xA 1 ?_;simp[hj,ij,iE];refine xX 131069 (by kernel_rfl) ?_;simp[ij,jF,cy,AR];refine xM (hK _ _ ?_);refine⟨_,((AJ.A2 3 (xs:=(g.AD.set j {p with name:=x.name}).map AH) rfl ?_).trans (AJ.JK (S':=CG g x {g with AD:=g.AD.set x.number.toNat {p with name:=x.name}} (.full []) false (!g.conds.isEmpty) (!g.Ak.isEmpty) (!g.BC.isEmpty) (!g.AD.isEmpty)) ?_)).trans (Jo g x _ (.full []) [] false _ _ _ _ rfl),?_⟩
 ·rw[Bc,List.map_set,List.map_map,List.map_set,List.map_set,List.map_map];congr 1
 ·simp[CG,bV,hj,iE,List.map_set,Function.comp_def]
 ·simp[Am]
theorem Xc(g:AF)(x:AAC):AE prog 87 [.ptr 4 1 0 0] (bS g x) (.Bd []) (D5 g x {g with levels:=x.levels} [] false):=by
 refine AE.AI func87 (by kernel_rfl) rfl (by simp) fun wf _=>?_;rw[ntmps87];unfold bS CG bV;refine BX fun K hK=>?_;refine xJ ?_;simp;refine Aj (hK _ _ ?_);refine⟨_,(AJ.JK (S':=CG g x {g with levels:=x.levels} (.full []) false (!g.conds.isEmpty) (!g.Ak.isEmpty) (!g.BC.isEmpty) (!g.AD.isEmpty)) ?_).trans (Jo g x _ (.full []) [] false _ _ _ _ rfl),?_⟩
 ·simp[CG,bV]
 ·simp[Am]
theorem XY(g:AF)(x:AAC):AE prog 89 [.ptr 4 1 0 0] (bS g x) (.Bd []) (D5 g x {g with AM:=x.AM} [] false):=by
 refine AE.AI func89 (by kernel_rfl) rfl (by simp) fun wf _=>?_;rw[ntmps89];unfold bS CG bV;refine BX fun K hK=>?_;refine xJ ?_;simp;refine Aj (hK _ _ ?_);refine⟨_,(AJ.JK (S':=CG g x {g with AM:=x.AM} (.full []) false (!g.conds.isEmpty) (!g.Ak.isEmpty) (!g.BC.isEmpty) (!g.AD.isEmpty)) ?_).trans (Jo g x _ (.full []) [] false _ _ _ _ rfl),?_⟩
 ·simp[CG,bV]
 ·simp[Am]
open Go.Proofs Tryz DT
theorem YG(g:AF)(x:AAC)(hl:g.Ak.length≤2 ^ 20):AE prog 91 [.ptr 4 1 0 0] (bS g x) (.Bd []) (D5 g x {g with Ak:=g.Ak++[x.token]} [] false):=by
 have cy:=Aa.eq_1 x.token;have gm:1≤maxLen:=by unfold maxLen;omega
 have jc:g.Ak.length+1≤1073741824:=by omega
 refine AE.AI func91 (by kernel_rfl) rfl (by simp) fun wf _=>?_;rw[ntmps91];unfold bS CG bV;refine xE [0,2,4,6,8,10,12,14,16,18,20,22,25,26,28,30,33] (by kernel_rfl) fun K hK=>?_;simp;refine xA 1 ?_;simp[gm];refine xX 65 (by kernel_rfl) ?_;simp[AR,jc,Af];refine xA 1 ?_;simp;refine xX 8185 (by kernel_rfl) ?_;simp[AR];refine xM (hK _ _ ?_);refine⟨_,(AJ.JK (S':=CG g x {g with Ak:=g.Ak++[x.token]} (.full []) false (!g.conds.isEmpty) true (!g.BC.isEmpty) (!g.AD.isEmpty)) ?_).trans (Jo g x _ (.full []) [] false _ _ _ _ rfl),?_⟩
 ·simp[CG,bV,cy]
 ·simp[Am]
theorem dY(g:AF)(x:AAC)(hl:g.AD.length≤2 ^ 20):AE prog 93 [.ptr 4 1 0 0] (bS g x) (.Bd []) (D5 g x {g with AD:=g.AD++[x.prod]} [] false):=by
 have cy:=AH.eq_1 x.prod;have gm:1≤maxLen:=by unfold maxLen;omega
 have jc:g.AD.length+1≤1073741824:=by omega
 refine AE.AI func93 (by kernel_rfl) rfl (by simp) fun wf _=>?_;rw[ntmps93];unfold bS CG bV;refine xE [0,2,4,6,8,10,12,14,16,18,20,22,25,26,28,30,33] (by kernel_rfl) fun K hK=>?_;simp;refine xA 1 ?_;simp[gm];refine xX 65 (by kernel_rfl) ?_;simp[AR,jc,Af];refine xA 1 ?_;simp;refine xX 8185 (by kernel_rfl) ?_;simp[AR];refine xM (hK _ _ ?_);refine⟨_,(AJ.JK (S':=CG g x {g with AD:=g.AD++[x.prod]} (.full []) false (!g.conds.isEmpty) (!g.Ak.isEmpty) (!g.BC.isEmpty) true) ?_).trans (Jo g x _ (.full []) [] false _ _ _ _ rfl),?_⟩
 ·simp[CG,bV,cy]
 ·simp[Am]
theorem eF(g:AF)(x:AAC)(hl:g.conds.length≤2 ^ 20):AE prog 70 [.ptr 4 1 0 0] (bS g x) (.Bd []) (D5 g x {g with conds:=g.conds++[x.name]} [] false):=by
 have gm:1≤maxLen:=by unfold maxLen;omega
 have jc:g.conds.length+1≤1073741824:=by omega
 refine AE.AI func70 (by kernel_rfl) rfl (by simp) fun wf _=>?_;rw[ntmps70];unfold bS CG bV;refine xE [0,2,4,6,8,10,12,14,16,18,20,22,25,26,28,30,33] (by kernel_rfl) fun K hK=>?_;simp;refine xA 1 ?_;simp[gm];refine xX 65 (by kernel_rfl) ?_;simp[AR,jc,Af];refine xA 1 ?_;simp;refine xX 8185 (by kernel_rfl) ?_;simp[AR];refine xM (hK _ _ ?_);refine⟨_,(AJ.JK (S':=CG g x {g with conds:=g.conds++[x.name]} (.full []) false true (!g.Ak.isEmpty) (!g.BC.isEmpty) (!g.AD.isEmpty)) ?_).trans (Jo g x _ (.full []) [] false _ _ _ _ rfl),?_⟩
 ·simp[CG,bV]
 ·simp[Am]
def Xj(x:AAC):List Rewrite:=[⟨x.number,-1,-1,x.BL⟩]
theorem dA(g:AF)(x:AAC)(hi:Ck g x=true):AE prog 95 [.ptr 4 1 0 0] (bS g x) (.Bd []) (D5 g x {g with AD:=g.AD.set x.number.toNat x.prod} (Xj x) false):=by
 simp only[Ck,Bool.and_eq_true,decide_eq_true_eq]at hi;obtain⟨j,hj⟩:∃j:Nat,x.number=j:=⟨x.number.toNat,by omega⟩;have ij:j<g.AD.length:=by omega
 have iE:g.AD.isEmpty=false:=by cases h:g.AD<;>simp[h]at ij⊢
 have cy:=AH.eq_1 x.prod;have gm:1≤maxLen:=by unfold maxLen;omega
 refine AE.AI func95 (by kernel_rfl) rfl (by simp) fun wf _=>?_;rw[ntmps95];unfold bS CG bV;refine xD [0,2,4,6,8,10,12,14,16,18,20,22,24,26,28,30,33] (by kernel_rfl) fun K hK=>?_;simp;refine xA 1 ?_;simp[hj,ij,iE];refine xX 65535 (by kernel_rfl) ?_;simp[ij,AR];refine xM (hK _ _ ?_);refine xE [0,2,4,6,8,10,12,14,16,18,20,22,24,26,28,31] (by kernel_rfl) fun K hK=>?_;simp;refine xA 1 ?_;simp[gm];refine xX 32765 (by kernel_rfl) ?_;simp[AR,gm];refine xM (hK _ _ ?_);refine⟨_,((AJ.A2 3 (xs:=(g.AD.set j x.prod).map AH) rfl ?_).trans (AJ.JK (S':=CG g x {g with AD:=g.AD.set x.number.toNat x.prod} (.full ((Xj x).map Ab)) false (!g.conds.isEmpty) (!g.Ak.isEmpty) (!g.BC.isEmpty) (!g.AD.isEmpty)) ?_)).trans (Jo g x _ _ (Xj x) false _ _ _ _ rfl),?_⟩
 ·rw[Bc,List.map_set,List.map_map,List.map_set,List.map_set,List.map_map];congr 1
 ·simp[CG,bV,hj,iE,List.map_set,Function.comp_def,Xj,Ab]
 ·simp[Am]
open Go.Proofs Tryz DT
theorem AE.Ei{P:Program}{f:FuncId}{args args':List V}{S S':Sg}{v:V}(h:AE P f args S v S')(hl:args'.length=args.length)
  (hw:∀i (h:i<args.length) (h':i<args'.length),args[i]=args'[i]∨∃d,asD S args'[i]=some d∧args[i]=.d d):AE P f args' S v S':=
 ⟨h.1,fun G w cargs R hs ha=>h.2 G w cargs R (by omega) fun i hi gj=>by
  have h2:=ha i (by omega) gj;rcases hw i hi (by omega)with e|⟨d,e1,e2⟩
  ·rw[e];exact h2
  ·rw[e2];exact .d _ _ (h2.asD R e1)⟩
theorem az(a:AN):Pure prog 140 [AA a] (.Bd [AA (Du (fun x _=>!x) a ⟨[],0⟩).1,AG (Du (fun x _=>!x) a ⟨[],0⟩).2]):=by
 have hb:=(JJ Yj a ⟨[],0⟩).Ei (args':=[.d (AA a),.agg [.full [],.d (AG 0)],.fn (.func 170) [] []]) rfl fun i h h'=>by
  match i,h with
  |0,_=>exact .inl rfl
  |1,_=>exact .inr ⟨AA ⟨[],0⟩,by simp[asD,AA],rfl⟩
  |2,_=>exact .inl rfl
 refine AE.B9 func140 (by kernel_rfl) rfl (by simp) fun wf wfs=>?_;rw[ntmps140];refine xW fun K hK=>?_;simp;apply hK;(repeat refine xS ?_);refine BX fun K hK=>?_;refine xJ ?_;simp[AA];refine AS.Oa hb rfl (by simp[AA];try rfl) ?_;simp;refine xJ ?_;simp;refine Aj (hK _ _ ?_);(try simp only[xQ,reduceIte]);refine Ag ?_;(try simp only[xQ,reduceIte]);refine⟨_,_,_,AJ.refl,by simp,by simp,AJ.AY 0 (by simp) (by simp) (by simp) (by simp)⟩
theorem Pq{S:Sg}{r:Nat}{g:AF}{x:AAC}{h0 h1 h2 h3 h4 h5 h6 h7 h8 m:V}{lg:Bool}(hb:S[r]?=some (.row true 51 [bV g x h0 h1 h2 h3 h4 h5 h6 h7 h8 m lg]))(a b:AN)
  (hs:(S.set r (.row true 51 [bV g x h0 h1 h2 h3 h4 h5 h6 h7 h8 m (lg||(Du and a b).2!=0)])).all (AAG S.length)=true):
  AE prog 77 [.ptr r 1 0 0,.d (AA a),.d (AA b)] S (.d (AA (Du and a b).1)) (S.set r (.row true 51 [bV g x h0 h1 h2 h3 h4 h5 h6 h7 h8 m (lg||(Du and a b).2!=0)])):=by
 unfold bV at hb hs⊢;have hr:=AZ hb;have iC:∀T,(S++T)[r]?=_:=fun T=>(List.getElem?_append_left hr).trans hb;have gn:∀T o,(S++T).set r o=S.set r o++T:=fun T o=>List.set_append_left _ _ hr;refine AE.B9 func77 (by kernel_rfl) rfl (by simp) fun wf wfs=>?_;rw[ntmps77];refine xW fun K hK=>?_;simp[AA];apply hK;refine Az fun K hK=>?_;refine xJ ?_;simp;refine Bp (I2 a b) rfl (by simp[AA]) ?_;simp[AA];refine xJ ?_;simp;refine Aj (hK _ _ ?_);(repeat refine xS ?_);refine BX fun K hK=>?_;refine xJ ?_;simp[iC];refine Aj (hK _ _ ?_);(try simp only[]);rw[gn];have hlen:∀o,(S.set r o).length=S.length:=fun o=>List.length_set;(repeat refine xS ?_);refine BX fun K hK=>?_;refine xJ ?_;simp[hlen,List.set_append_right];refine Aj (hK _ _ ?_);(try simp only[xQ,reduceIte]);refine Ag ?_;(try simp only[xQ,reduceIte]);refine⟨_,_,_,AJ.refl,?_,?_,AJ.AY S.length (by simp[hlen]) (Nat.le_refl _) (by simp[hlen]) (by simpa[hlen]using hs)⟩
 ·simp[hlen]
 ·simp[hlen,AA]
open Go.Proofs Tryz DT
theorem eI(g:AF)(x:AAC)(hi:Ck g x=true):
  AE prog 76 [.ptr 4 1 0 0] (bS g x) (.Bd []) (D5 g x {g with AD:=g.AD.set x.number.toNat {CL g x with cond:=(Du and (CL g x).cond x.cond).1}} [] ((Du and (CL g x).cond x.cond).2!=0)):=by
 simp only[Ck,Bool.and_eq_true,decide_eq_true_eq]at hi;obtain⟨j,hj⟩:∃j:Nat,x.number=j:=⟨x.number.toNat,by omega⟩;have ij:j<g.AD.length:=by omega
 have iE:g.AD.isEmpty=false:=by cases h:g.AD<;>simp[h]at ij⊢
 have g7:CL g x=g.AD[j]:=by simp[CL,hj,ij]
 rw[g7];generalize jF:g.AD[j]=p;have cy:=AH.eq_1 p;have ha:=Pq (S:=bS g x) (r:=4) (by rfl) p.cond x.cond (by simp[bS,CG,bV]);have oO:=ha.Ei (args':=[.ptr 4 1 0 0,.agg [.d (AV p.cond.nodes),.d (AG p.cond.root)],.agg [.d (AV x.cond.nodes),.d (AG x.cond.root)]]) rfl fun i h h'=>by
  match i,h with
  |0,_=>exact .inl rfl
  |1,_=>exact .inr ⟨AA p.cond,by simp[asD,AA],rfl⟩
  |2,_=>exact .inr ⟨AA x.cond,by simp[asD,AA],rfl⟩
 generalize rO:Du and p.cond x.cond=rr at *;refine AE.AI func76 (by kernel_rfl) rfl (by simp) fun wf _=>?_;rw[ntmps76];unfold bS CG bV at oO⊢;simp only[List.set_cons_succ,List.set_cons_zero,iE,hj,Bool.not_false,Bool.false_or]at oO;refine xD [0,2,4,6,8,10,12,14,16,18,20,22] (by kernel_rfl) fun K hK=>?_;simp;refine xA 0 ?_;simp[hj,ij,iE];refine xM (hK _ _ ?_);refine xE [0,2,4,6,8,10,12,14,16,18,20,23,24,26,29] (by kernel_rfl) fun K hK=>?_;simp;refine xA 1 ?_;simp[ij,jF,cy];refine xL 545 _ (oO) (by kernel_rfl) rfl rfl ?_;simp[ij,jF,cy,AR,AA];refine xA 1 ?_;simp[ij];refine xX 1021 (by kernel_rfl) ?_;simp[ij,jF,cy,AR];refine xM (hK _ _ ?_);refine⟨_,((AJ.A2 3 (xs:=(g.AD.set j {p with cond:=rr.1}).map AH) rfl ?_).trans (AJ.JK (S':=CG g x {g with AD:=g.AD.set x.number.toNat {p with cond:=rr.1}} (.full []) (rr.2!=0) (!g.conds.isEmpty) (!g.Ak.isEmpty) (!g.BC.isEmpty) (!g.AD.isEmpty)) ?_)).trans (Jo g x _ (.full []) [] _ _ _ _ _ rfl),?_⟩
 ·rw[Bc,List.map_set,List.map_map,List.map_set,List.map_set,List.map_map];congr 1
 ·simp[CG,bV,hj,iE,List.map_set,Function.comp_def]
 ·simp[Am]
open Go.Proofs Tryz DT
noncomputable def OR(x:AAC):AN×Int:=if x.value then(Ap x.number,O5 x.number)else Du (fun x _=>!x) (Ap x.number) ⟨[],0⟩
theorem eB(g:AF)(x:AAC):
  AE prog 72 [.ptr 4 1 0 0] (bS g x) (.Bd []) (D5 g x {g with fam:=(Du and g.fam (OR x).1).1} [] (((OR x).2!=0)||((Du and g.fam (OR x).1).2!=0))):=by
 have hv:=an x.number;have gy:=az (Ap x.number);have ha:∀d lg,_:=fun d lg=>(Pq (S:=CG g x g (.full []) lg (!g.conds.isEmpty) (!g.Ak.isEmpty) (!g.BC.isEmpty) (!g.AD.isEmpty)++[.row true 2 [.d (AA d)]]) (r:=4) (by rfl) g.fam d (by simp[CG,bV])).Ei (args':=[.ptr 4 1 0 0,.agg [.d (AV g.fam.nodes),.d (AG g.fam.root)],.d (AA d)]) rfl fun i h h'=>by
  match i,h with
  |0,_=>exact .inl rfl
  |1,_=>exact .inr ⟨AA g.fam,by simp[asD,AA],rfl⟩
  |2,_=>exact .inl rfl
 refine AE.AI func72 (by kernel_rfl) rfl (by simp) fun wf _=>?_;rw[ntmps72];unfold bS CG bV;refine Az fun K hK=>?_;refine xJ ?_;simp;refine Bp (hv) rfl (by simp[xN]) ?_;simp;refine xJ ?_;simp;refine Aj (hK _ _ ?_);refine AW.El (R:=fun tm S=>tm 0=.ptr 4 1 0 0∧tm 2=.ptr 5 1 0 0∧tm 3=.d (AG (OR x).2)∧S=CG g x g (.full []) false (!g.conds.isEmpty) (!g.Ak.isEmpty) (!g.BC.isEmpty) (!g.AD.isEmpty)++[.row true 2 [.d (AA (OR x).1)]]) ?_ ?_
 ·(repeat refine xS ?_);refine xV fun K hK=>?_;simp;refine hK _ _ ?_;(try simp only[]);cases pe:x.value with
  |true=>
   refine AU ?_;simp;refine CC ?_;simp[OR,pe,CG,bV]
  |false=>
   refine AU ?_;simp;refine BX fun K hK=>?_;refine xJ ?_;simp;refine Bp (gy) rfl (by simp[xN]) ?_;simp;refine xJ ?_;simp;refine Aj (hK _ _ ?_);simp[OR,pe,CG,bV]
 ·rintro tm S ⟨t0,t2,t3,rfl⟩;generalize OR x=de at *;obtain⟨d,e⟩:=de;simp only[]at t3⊢;have oO:=ha d (e !=0);generalize Du and g.fam d=rr at *;obtain⟨r1,r2⟩:=rr;unfold CG bV at oO⊢;simp only[List.cons_append,List.nil_append,List.set_cons_succ,List.set_cons_zero]at oO⊢;refine Az fun K hK=>?_;refine xJ ?_;simp[t0,t3];refine Aj (hK _ _ ?_);refine xE [0,2,4,6,8,10,12,14,17,18,20,22,25] (by kernel_rfl) fun K hK=>?_;simp;refine xA 1 ?_;simp[t0,t2,AA];refine xL 67 _ (oO) (by kernel_rfl) rfl rfl ?_;simp[t0,t2,AA,AR];refine xA 1 ?_;simp;refine xX 249 (by kernel_rfl) ?_;simp[t0,AR];refine xM (hK _ _ ?_);refine⟨_,((AJ.AY 5 (S':=CG g x {g with fam:=r1} (.full []) ((e !=0)||(r2 !=0)) (!g.conds.isEmpty) (!g.Ak.isEmpty) (!g.BC.isEmpty) (!g.AD.isEmpty)) ?_ (by simp) (by simp) (by simp))).trans (Jo g x _ (.full []) [] _ _ _ _ _ rfl),?_⟩
  ·simp[CG,bV]
  ·simp[Am]
open Go.Proofs Tryz DT
theorem Mq(xs:List Int)(v:Int):Pure prog 208 [Ci xs,AG v] (AG (firstIdx (·==v) xs)):=by
 refine Pure.AI func208 (by kernel_rfl) rfl (by simp) fun wf=>?_;have a1:xs.length≤maxLen:=by have:=wf.1;simp[WFD]at this;simpa using this.1
 rw[ntmps208];refine xW fun K hK=>?_;simp;apply hK;refine xS (xW fun K hK=>?_);simp;apply hK;refine Bw ?_;refine DC xs.length (fun i tm S=>tm 0=.d (Ci xs)∧tm 1=.d (AG v)∧tm 8=.d (.int .i64 i)∧tm 7=.d (.int .i64 xs.length)∧S=[]∧∀j (_:j<i) (h:j<xs.length),(xs[j]==v)=false) (Nat.zero_le _) (by simp) ?_;rintro i tm S hi ⟨t0,t1,t8,t7,rfl,hq⟩;refine xW fun K hK=>?_;simp[t8,t7];apply hK;refine xC ?_;simp;refine⟨fun cx=>?_,fun hO=>?_⟩
 ·refine xK ?_;refine xB ?_;refine xW fun K hK=>?_;simp[t8];apply hK;refine Az fun K hK=>?_;refine xJ ?_;simp[t0,t1,cx];refine Aj (hK _ _ ?_);refine AU ?_;simp;refine⟨fun hp=>?_,fun hp=>?_⟩
  ·refine xW fun K hK=>?_;simp;apply hK;refine Ag ?_;(try simp only[xQ,reduceIte]);refine⟨_,_,AJ.refl,?_⟩;simp;exact(B8 cx (by simp[hp]) fun j hj=>hq j hj (by omega)).symm
  ·refine CC ?_;refine xV fun K hK=>?_;simp[t8];apply hK;refine⟨cx,_,_,AJ.refl,?_⟩;simp[t0,t1,t7,AQ cx a1];intro j hj iV;by_cases e:j=i
   ·subst e;exact fun h=>hp h.symm
   ·exact by simpa using hq j (by omega) iV
 ·refine Cu ?_;refine xW fun K hK=>?_;simp;apply hK;refine Ag ?_;(try simp only[xQ,reduceIte]);refine⟨_,_,AJ.refl,?_⟩;simp;exact(firstIdx_none fun j hj=>hq j (by omega) hj).symm
theorem Jg(xs:List Int)(v:Int):Pure prog 174 [Ci xs,AG v] (CS (xs.contains v)):=by
 refine Pure.AI func174 (by kernel_rfl) rfl (by simp) fun wf=>?_;rw[ntmps174];refine xW fun K hK=>?_;simp;apply hK;(repeat refine xS ?_);refine BX fun K hK=>?_;refine xJ ?_;simp;refine Bp (Mq xs v) rfl (by simp) ?_;simp;refine xJ ?_;simp;refine Aj (hK _ _ ?_);(try simp only[xQ,reduceIte]);refine Ag ?_;(try simp only[xQ,reduceIte]);refine⟨_,_,AJ.refl,?_⟩;simp;have:=CR (·==v) xs;rw[Bool.eq_iff_iff]at this;simpa using this
theorem SL{S:Sg}{q:Nat}{i:Int}(hq:S[q]?=some (.row true 1 [.d (AG i)]))(hs:S.all (AAG S.length)=true)(l:Level):AE prog 173 [.d (Ac l),.ptr q 1 0 0] S (.d (CS (l.AD.contains i))) S:=by
 have iC:∀X,(S++[X])[q]?=_:=fun X=>(List.getElem?_append_left (AZ hq)).trans hq;refine AE.B9 func173 (by kernel_rfl) rfl (by simp) fun wf _=>?_;rw[ntmps173];refine xW fun K hK=>?_;simp[Ac];apply hK;(repeat refine xS ?_);refine BX fun K hK=>?_;refine xJ ?_;simp[iC];refine Bp (Jg l.AD i) rfl (by simp) ?_;simp;refine xJ ?_;simp;refine Aj (hK _ _ ?_);(try simp only[xQ,reduceIte]);refine Ag ?_;(try simp only[xQ,reduceIte]);refine⟨_,_,_,AJ.refl,?_,?_,AJ.AY S.length (by simp) (Nat.le_refl _) (by simp) (by simpa using hs)⟩
 ·simp
 ·simp
theorem R1{S:Sg}{q:Nat}{i:Int}(hq:S[q]?=some (.row true 1 [.d (AG i)]))(hs:S.all (AAG S.length)=true)(f:Filter):AE prog 176 [.d (AK f),.ptr q 1 0 0] S (.d (CS ((decide (f.kind=1)||decide (f.kind=2))&&(decide (f.parent=i)||decide (f.child=i))))) S:=by
 have iC:∀X,(S++[X])[q]?=_:=fun X=>(List.getElem?_append_left (AZ hq)).trans hq;refine AE.B9 func176 (by kernel_rfl) rfl (by simp) fun wf _=>?_;rw[ntmps176];refine xW fun K hK=>?_;simp[AK];apply hK;(repeat refine xS ?_);refine BX fun K hK=>?_;(iterate 9 (refine B7 (by simp) ?_;simp));cases hk:(f.kind==1||f.kind==2)with
 |false=>
  have jN:(decide (f.kind=1)||decide (f.kind=2))=false:=by rw[←hk];rfl
  (repeat(refine Dp rfl ?_ ?_;(·simp);simp));refine xJ ?_;simp;refine Aj (hK _ _ ?_);(try simp only[xQ,reduceIte]);refine Ag ?_;(try simp only[xQ,reduceIte]);refine⟨_,_,_,AJ.refl,?_,?_,AJ.AY S.length (by simp) (Nat.le_refl _) (by simp) (by simpa using hs)⟩
  ·simp
  ·simp[jN]
 |true=>
  have jN:(decide (f.kind=1)||decide (f.kind=2))=true:=by rw[←hk];rfl
  (iterate 5 ((refine Jf rfl (by simp[iC];try rfl) ?_);simp[iC]));(iterate 4 (refine B7 (by simp[iC]) ?_;simp[iC]));((refine Jf rfl (by simp;try rfl) ?_);simp);refine xJ ?_;simp;refine Aj (hK _ _ ?_);refine Ag ?_;(try simp only[xQ,reduceIte]);refine⟨_,_,_,AJ.refl,?_,?_,AJ.AY S.length (by simp) (Nat.le_refl _) (by simp) (by simpa using hs)⟩
  ·simp
  ·simp[jN,BEq.beq]
theorem J3{S:Sg}{q:Nat}{i:Int}(hq:S[q]?=some (.row true 1 [.d (AG i)]))(hs:S.all (AAG S.length)=true)(f:Filter):AE prog 177 [.d (AK f),.ptr q 1 0 0] S (.d (CS ((decide (f.kind=3)||decide (f.kind=4))&&decide (f.left=i)))) S:=by
 have iC:∀X,(S++[X])[q]?=_:=fun X=>(List.getElem?_append_left (AZ hq)).trans hq;refine AE.B9 func177 (by kernel_rfl) rfl (by simp) fun wf _=>?_;rw[ntmps177];refine xW fun K hK=>?_;simp[AK];apply hK;(repeat refine xS ?_);refine BX fun K hK=>?_;refine xJ ?_;simp[iC];refine Aj (hK _ _ ?_);(try simp only[xQ,reduceIte]);refine Ag ?_;(try simp only[xQ,reduceIte]);refine⟨_,_,_,AJ.refl,?_,?_,AJ.AY S.length (by simp) (Nat.le_refl _) (by simp) (by simpa using hs)⟩
 ·simp
 ·simp[BEq.beq]
end Go.Koi
