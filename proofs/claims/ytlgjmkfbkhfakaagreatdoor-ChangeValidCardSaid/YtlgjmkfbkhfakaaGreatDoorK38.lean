/- Part 39 of the proof that the law ChangeValid returns true for every input. -/
import Derived.Test.YtlgjmkfbkhfakaaGreatDoorK35
import Derived.Test.YtlgjmkfbkhfakaaGreatDoorK36
import Derived.Test.YtlgjmkfbkhfakaaGreatDoorK37
set_option maxHeartbeats 64000000
set_option maxRecDepth 100000
namespace Go.Koi
open Go.Proofs Tryz DT
theorem I9{g:AF}{x:AAC}{h:AF}{mm:List Rewrite}{lg:Bool}{k1 k:FuncId}(ha:AE prog k [.ptr 4 1 0 0] (bS g x) (.Bd []) (D5 g x h mm lg)):
  AE prog 61 (.ptr 4 1 0 0::A3 true 6) (bS g x++bx k1 k) (.d (AG 0)) (D5 g x h mm lg++bx k1 k):=by
 have h1:=ha.Iz (bx k1 k) (by simp[bS,CG,D5]) (by simp[bS,CG,bV]) (by simp[bS,CG,D5]) (by simp[bS,CG,AAB]) (by simp[AAB,AAI]);exact VL h1 rfl
theorem aL{g:AF}{x:AAC}{h:AF}{mm:List Rewrite}{ae:Int}{k:FuncId}(k1 k2:FuncId)(ha:AE prog k [.ptr 4 1 0 0] (bS g x) (.d (AG ae)) (D5 g x h mm false)):
  AE prog k (.ptr 4 1 0 0::A3 false 6) (bS g x++bx k1 k2) (.d (AG ae)) (D5 g x h mm false++bx k1 k2):=
 ha.Iz (bx k1 k2) (by simp[bS,CG,D5]) (by simp[bS,CG,bV]) (by simp[bS,CG,D5]) (by simp[bS,CG,AAB]) (by simp[AAB])
theorem aZ(g:AF)(x:AAC)(k1 k2:FuncId):(bS g x++bx k1 k2).all (AAG (bS g x++bx k1 k2).length)=true:=by simp[bS,CG,bV,bx,AAB,AAI]
theorem RY(g:AF)(x:AAC)(k1 k2:FuncId):Oj (bS g x++bx k1 k2) 4 g x:=⟨_,_,_,_,_,_,_,_,_,_,_,rfl⟩
theorem XI{g:AF}(h:DX g=0):g.Ak.length≤2 ^ 20:=by
 have:=(Ir h).1;simp[Dg]at this;omega
theorem ABF{g:AF}(h:DX g=0):g.AD.length≤2 ^ 20:=by
 have:=(Ir h).1;simp[Dg]at this;omega
theorem ADy{g:AF}(h:DX g=0):g.BC.length≤2 ^ 20:=by
 have:=(Ir h).1;simp[Dg]at this;omega
theorem AFQ(g:AF)(x:AAC)(hk:x.kind=1)(jG:g.conds.length≤12):
  Pure prog 7 [AB g,AO x] (AAu (ABH g (apX g (Fi ((fun x:AAC=>{x with number:=0,name:=⟨#[]⟩}) x)) (Fz x g.BC.length) 0 {g with BC:=g.BC.set x.number.toNat x.name} [] false))):=
 AAk DP ⟨1,58,138,61,true,true,true,63,64,4,5⟩ (by simp[ABl]) g x hk (by omega) (fun x:AAC=>{x with number:=0,name:=⟨#[]⟩}) (Fz x g.BC.length) 0 {g with BC:=g.BC.set x.number.toNat x.name} [] false Ko (fun hg hu=>JX (q:=5) (RY g x 63 64) rfl (YE g)) (fun hg hf=>I9 (YZ g x hf))
  fun hg hf _=>⟨by simp,by simp,by simp;try omega⟩
theorem AFL(g:AF)(x:AAC)(hk:x.kind=2)(jG:g.conds.length≤12):
  Pure prog 7 [AB g,AO x] (AAu (ABH g (apX g (Fi ((fun x:AAC=>{x with number:=0,name:=⟨#[]⟩}) x)) (Ck g x) 0 {g with AD:=g.AD.set x.number.toNat {g.AD.getD x.number.toNat F1 with name:=x.name}} [] false))):=
 AAk DP ⟨2,58,65,61,false,true,true,63,66,4,6⟩ (by simp[ABl]) g x hk (by omega) (fun x:AAC=>{x with number:=0,name:=⟨#[]⟩}) (Ck g x) 0 {g with AD:=g.AD.set x.number.toNat {g.AD.getD x.number.toNat F1 with name:=x.name}} [] false Ko (fun hg hu=>Ea (RY g x 63 66)) (fun hg hf=>I9 (X0 g x hf))
  fun hg hf _=>⟨by simp,by simp,by simp;try omega⟩
theorem AFU(g:AF)(x:AAC)(hk:x.kind=3)(jG:g.conds.length≤12):
  Pure prog 7 [AB g,AO x] (AAu (ABH g (apX g (Fi ((fun x:AAC=>{x with number:=0,name:=⟨#[]⟩}) x)) (Fz x g.conds.length) 0 {g with conds:=g.conds.set x.number.toNat x.name} [] false))):=
 AAk DP ⟨3,58,138,61,true,true,true,67,68,7,8⟩ (by simp[ABl]) g x hk (by omega) (fun x:AAC=>{x with number:=0,name:=⟨#[]⟩}) (Fz x g.conds.length) 0 {g with conds:=g.conds.set x.number.toNat x.name} [] false Ko (fun hg hu=>JX (q:=5) (RY g x 67 68) rfl (XW g)) (fun hg hf=>I9 (YO g x hf))
  fun hg hf _=>⟨by simp,by simp,by simp;try omega⟩
theorem AFM(g:AF)(x:AAC)(hk:x.kind=4)(jG:g.conds.length≤11):
  Pure prog 7 [AB g,AO x] (AAu (ABH g (apX g (Fi ((fun x:AAC=>{x with name:=⟨#[]⟩}) x)) (true) 0 {g with conds:=g.conds++[x.name]} [] false))):=
 AAk DP ⟨4,69,57,61,false,true,true,63,70,4,9⟩ (by simp[ABl]) g x hk (by omega) (fun x:AAC=>{x with name:=⟨#[]⟩}) (true) 0 {g with conds:=g.conds++[x.name]} [] false du (fun hg hu=>Is _ _) (fun hg hf=>I9 (eF g x (by omega)))
  fun hg hf _=>⟨by simp,by simp,by simp;try omega⟩
theorem AFP(g:AF)(x:AAC)(hk:x.kind=5)(jG:g.conds.length≤12):
  Pure prog 7 [AB g,AO x] (AAu (ABH g (apX g (Fi ((fun x:AAC=>{x with number:=0,value:=false}) x)) (Fz x g.conds.length) 0 {g with fam:=(Du and g.fam (OR x).1).1} [] (((OR x).2!=0)||((Du and g.fam (OR x).1).2!=0))))):=
 AAk DP ⟨5,71,138,61,true,true,false,67,72,10,11⟩ (by simp[ABl]) g x hk (by omega) (fun x:AAC=>{x with number:=0,value:=false}) (Fz x g.conds.length) 0 {g with fam:=(Du and g.fam (OR x).1).1} [] (((OR x).2!=0)||((Du and g.fam (OR x).1).2!=0)) db (fun hg hu=>JX (q:=5) (RY g x 67 72) rfl (XW g)) (fun hg hf=>I9 (eB g x))
  fun hg hf _=>⟨by simp,by simp,by simp;try omega⟩
theorem AFK(g:AF)(x:AAC)(hk:x.kind=6)(jG:g.conds.length≤12):
  Pure prog 7 [AB g,AO x] (AAu (ABH g (apX g (Fi ((fun x:AAC=>{x with number:=0,cond:=⟨[],0⟩}) x)) ((Ck g x&&(HW x.cond==0))) 0 {g with AD:=g.AD.set x.number.toNat {CL g x with cond:=(Du and (CL g x).cond x.cond).1}} [] ((Du and (CL g x).cond x.cond).2!=0)))):=
 AAk DP ⟨6,73,74,61,false,true,false,63,76,4,12⟩ (by simp[ABl]) g x hk (by omega) (fun x:AAC=>{x with number:=0,cond:=⟨[],0⟩}) ((Ck g x&&(HW x.cond==0))) 0 {g with AD:=g.AD.set x.number.toNat {CL g x with cond:=(Du and (CL g x).cond x.cond).1}} [] ((Du and (CL g x).cond x.cond).2!=0) cz (fun hg hu=>Zh (RY g x 63 76)) (fun hg hf=>I9 (eI g x (by simp only[Bool.and_eq_true]at hf;exact hf.1)))
  fun hg hf _=>⟨by simp,by simp,by simp;try omega⟩
theorem AE3(g:AF)(x:AAC)(hk:x.kind=10)(jG:g.conds.length≤12):
  Pure prog 7 [AB g,AO x] (AAu (ABH g (apX g (Fi ((fun x:AAC=>{x with levels:=[]}) x)) (true) 0 {g with levels:=x.levels} [] false))):=
 AAk DP ⟨10,86,57,61,false,true,false,63,87,4,13⟩ (by simp[ABl]) g x hk (by omega) (fun x:AAC=>{x with levels:=[]}) (true) 0 {g with levels:=x.levels} [] false Ui (fun hg hu=>Is _ _) (fun hg hf=>I9 (Xc g x))
  fun hg hf _=>⟨by simp,by simp,by simp;try omega⟩
theorem AE2(g:AF)(x:AAC)(hk:x.kind=11)(jG:g.conds.length≤12):
  Pure prog 7 [AB g,AO x] (AAu (ABH g (apX g (Fi ((fun x:AAC=>{x with AM:=[]}) x)) (true) 0 {g with AM:=x.AM} [] false))):=
 AAk DP ⟨11,88,57,61,false,true,false,63,89,4,14⟩ (by simp[ABl]) g x hk (by omega) (fun x:AAC=>{x with AM:=[]}) (true) 0 {g with AM:=x.AM} [] false Va (fun hg hu=>Is _ _) (fun hg hf=>I9 (XY g x))
  fun hg hf _=>⟨by simp,by simp,by simp;try omega⟩
theorem AE4(g:AF)(x:AAC)(hk:x.kind=12)(jG:g.conds.length≤12):
  Pure prog 7 [AB g,AO x] (AAu (ABH g (apX g (Fi ((fun x:AAC=>{x with token:=Fm}) x)) (true) 0 {g with Ak:=g.Ak++[x.token]} [] false))):=
 AAk DP ⟨12,90,57,61,false,true,false,63,91,4,15⟩ (by simp[ABl]) g x hk (by omega) (fun x:AAC=>{x with token:=Fm}) (true) 0 {g with Ak:=g.Ak++[x.token]} [] false VV (fun hg hu=>Is _ _) (fun hg hf=>I9 (YG g x (XI hg)))
  fun hg hf _=>⟨by simp,by simp,by simp;try omega⟩
theorem AE7(g:AF)(x:AAC)(hk:x.kind=13)(jG:g.conds.length≤12):
  Pure prog 7 [AB g,AO x] (AAu (ABH g (apX g (Fi ((fun x:AAC=>{x with prod:=Dq}) x)) (true) 0 {g with AD:=g.AD++[x.prod]} [] false))):=
 AAk DP ⟨13,92,57,61,false,true,false,63,93,4,16⟩ (by simp[ABl]) g x hk (by omega) (fun x:AAC=>{x with prod:=Dq}) (true) 0 {g with AD:=g.AD++[x.prod]} [] false cY (fun hg hu=>Is _ _) (fun hg hf=>I9 (dY g x (ABF hg)))
  fun hg hf _=>⟨by simp,by simp,by simp;try omega⟩
theorem AFD(g:AF)(x:AAC)(hk:x.kind=14)(jG:g.conds.length≤12)(n7:x.BL.length≤2 ^ 30):
  Pure prog 7 [AB g,AO x] (AAu (ABH g (apX g (Fi ((fun x:AAC=>{x with number:=0,prod:=Dq,BL:=[]}) x)) (Ck g x) 0 {g with AD:=g.AD.set x.number.toNat x.prod} (Xj x) false))):=
 AAk DP ⟨14,94,65,61,false,true,false,63,95,4,17⟩ (by simp[ABl]) g x hk (by omega) (fun x:AAC=>{x with number:=0,prod:=Dq,BL:=[]}) (Ck g x) 0 {g with AD:=g.AD.set x.number.toNat x.prod} (Xj x) false bq (fun hg hu=>Ea (RY g x 63 95)) (fun hg hf=>I9 (dA g x hf))
  fun hg hf _=>⟨by simp[Xj],by simp[Xj,n7],by simp;try omega⟩
theorem ADQ{g:AF}{x:AAC}:∀{l:List Int} {k:Nat} {r:Rewrite},r∈Iy g x k l→∃i∈l,r.BL.length=1+(Ru g x i).length
 |[],_,_,h=>by cases h
 |i::l,k,r,h=>by
  rcases List.mem_cons.1 h with rfl|h
  ·exact⟨i,by simp,by simp[PZ,C2];omega⟩
  ·obtain⟨j,hj,e⟩:=ADQ h;exact⟨j,by simp[hj],e⟩
theorem AED{g:AF}{x:AAC}:∀{l:List Int} {k:Nat} {r:Rewrite},r∈SK g x k l→∃i∈l,r.BL.length≤2+x.at_.toNat+((CL g x).right.length+(CO g i).right.length)
 |[],_,_,h=>by cases h
 |i::l,k,r,h=>by
  rcases List.mem_cons.1 h with rfl|h
  ·exact⟨i,by simp,by simp[Zc,ep,C2];omega⟩
  ·obtain⟨j,hj,e⟩:=AED h;exact⟨j,by simp[hj],e⟩
def AC1(g:AF)(x:AAC):Bool:=GO g x.number||(Mh g x||(B1 g x).any (fun i=>VT g x&&(CO g i).right.isEmpty))
def AC3(g:AF)(x:AAC):Bool:=GO g x.number||Mh g x
theorem ABE{g:AF}{x:AAC}(h:Ck g x=true):CL g x∈g.AD:=by
 simp only[Ck,Bool.and_eq_true,decide_eq_true_eq]at h;unfold CL;have:x.number.toNat<g.AD.length:=by omega
 simp[List.getD,this]
theorem ABB{g:AF}{x:AAC}{i:Int}(h:i∈B1 g x):CO g i∈g.AD:=by
 have h1:=Io h;unfold CO;have:i.toNat<g.AD.length:=by omega
 simp[List.getD,this]
theorem ACi{g:AF}(h:DX g=0){p:AT}(hp:p∈g.AD):DS p.cond g.conds.length=true:=by
 obtain⟨_,_,_,_,ly,_⟩:=Ir h;have h1:=(Gm ly p hp).2;simp only[Mz,Bool.and_eq_true]at h1;exact h1.1.1.1
theorem ADp{g:AF}(h:DX g=0)(hn:g.conds.length≤12){p q:AT}(hp:p∈g.AD)(hq:q∈g.AD):(Du and p.cond q.cond).2=0:=by
 obtain⟨xy,g7⟩:=Kk (ACi h hp);obtain⟨xz,x0⟩:=Kk (ACi h hq);rw[(NM hn (Fl xy) (Fl xz) g7 x0).1]
theorem AEo(g:AF)(x:AAC)(hk:x.kind=7)(jG:g.conds.length≤12)(mM:∀p∈g.AD,p.name.size≤2 ^ 20):
  Pure prog 7 [AB g,AO x] (AAu (ABH g (apX g (Fi ((fun x:AAC=>{x with number:=0,at_:=0}) x)) (CH g x) (if AC1 g x then 311 else 0) (if AC1 g x then g else X1 g x) (if AC1 g x then []else Iy g x g.AD.length (B1 g x)) false))):=
 AAk DP ⟨7,78,79,80,false,false,true,63,64,4,5⟩ (by simp[ABl]) g x hk jG (fun x:AAC=>{x with number:=0,at_:=0}) (CH g x) _ _ _ false V6 (fun hg hu=>JU (RY g x 63 64) (aZ g x 63 64)) (fun hg hf=>aL _ _ (by
  have hp:=(Hl hf).1;have hr:=AA3 hg;have ho:=hr _ (ABE hp);cases hb:AC1 g x with
  |true=>exact ADC g x hf hb (ABF hg) (by omega)
  |false=>
   simp only[AC1,Bool.or_eq_false_iff]at hb;exact SY g x hf hb.1 hb.2.1 hb.2.2 (fun i hi=>ADp hg jG (ABE hp) (ABB hi)) (ABF hg) (by omega) (fun i hi=>⟨by have:=hr _ (ABB hi);omega,mM _ (ABB hi)⟩) (mM _ (ABE hp))))
  fun hg hf hb=>by
   have hp:=(Hl hf).1;have hr:=AA3 hg;have ho:=hr _ (ABE hp);cases kb:AC1 g x with
   |true=>rw[kb]at hb;cases hb
   |false=>
    refine⟨?_,fun r hm=>?_,by simpa[X1]using jG⟩
    ·simp only[if_neg Bool.false_ne_true,AB3];exact Nat.le_trans (Jy _ _ _) (ABF hg)
    ·simp only[if_neg Bool.false_ne_true]at hm;obtain⟨i,hi,e⟩:=ADQ hm;have:=hr _ (ABB hi);simp only[Ru,List.length_append,List.length_take,List.length_drop]at e;omega
theorem AE6(g:AF)(x:AAC)(hk:x.kind=9)(jG:g.conds.length≤12)(mM:∀p∈g.AD,p.name.size≤2 ^ 20):
  Pure prog 7 [AB g,AO x] (AAu (ABH g (apX g (Fi ((fun x:AAC=>{x with number:=0,at_:=0,name:=⟨#[]⟩}) x)) (CH g x) (if AC3 g x then 311 else 0) (if AC3 g x then g else eP g x) (if AC3 g x then []else SK g x g.AD.length (B1 g x)) false))):=
 AAk DP ⟨9,84,79,85,false,false,true,63,64,4,5⟩ (by simp[ABl]) g x hk jG (fun x:AAC=>{x with number:=0,at_:=0,name:=⟨#[]⟩}) (CH g x) _ _ _ false Vs (fun hg hu=>JU (RY g x 63 64) (aZ g x 63 64)) (fun hg hf=>aL _ _ (by
  have hp:=(Hl hf).1;have hr:=AA3 hg;have ho:=hr _ (ABE hp);cases hb:AC3 g x with
  |true=>exact ADg g x hf hb (ABF hg)
  |false=>
   simp only[AC3,Bool.or_eq_false_iff]at hb;exact VM g x hf hb.1 hb.2 (ABF hg) (ADy hg) (by omega) (fun i hi=>⟨by have:=hr _ (ABB hi);omega,mM _ (ABB hi)⟩)))
  fun hg hf hb=>by
   obtain⟨hp,a,ha,jP,_⟩:=Hl hf;have hr:=AA3 hg;have ho:=hr _ (ABE hp);cases kb:AC3 g x with
   |true=>rw[kb]at hb;cases hb
   |false=>
    refine⟨?_,fun r hm=>?_,by simpa[eP]using jG⟩
    ·simp only[if_neg Bool.false_ne_true,Mi];exact Nat.le_trans (Jy _ _ _) (ABF hg)
    ·simp only[if_neg Bool.false_ne_true]at hm;obtain⟨i,hi,e⟩:=AED hm;have:=hr _ (ABB hi);omega
theorem AFA(g:AF)(x:AAC)(hk:x.kind=8)(jG:g.conds.length≤12):
  Pure prog 7 [AB g,AO x] (AAu (ABH g (apX g (Fi ((fun x:AAC=>{x with number:=0,at_:=0,to:=0,name:=⟨#[]⟩}) x)) (FE g x) (if GO g x.number then 311 else 0) (if GO g x.number then g else Vu g x) (if GO g x.number then []else foldM g x) false))):=
 AAk DP ⟨8,59,81,83,false,false,true,63,64,4,5⟩ (by simp[ABl]) g x hk jG (fun x:AAC=>{x with number:=0,at_:=0,to:=0,name:=⟨#[]⟩}) (FE g x) _ _ _ false Ua (fun hg hu=>Sa (RY g x 63 64) (aZ g x 63 64)) (fun hg hf=>aL _ _ (by
  have hp:=(LZ hf).1;have ho:=AA3 hg _ (ABE hp);cases hb:GO g x.number with
  |true=>exact AD1 g x hf hb
  |false=>exact YI g x hf hb (ABF hg) (ADy hg) (by omega)))
  fun hg hf hb=>by
   obtain⟨hp,j,a,t,hj,ha,ht,ij,h1,h2⟩:=LZ hf;have ho:=AA3 hg _ (ABE hp);cases kb:GO g x.number with
   |true=>rw[kb]at hb;cases hb
   |false=>
    refine⟨by simp[foldM],fun r hm=>?_,by simpa[Vu]using jG⟩;simp only[if_neg Bool.false_ne_true,foldM,List.mem_singleton]at hm;subst hm;simp[Yt,C2];omega
open Go.Proofs Tryz DT
def WiD(d e:AN):Prop:=d=e∨∃v:AN,d=(Du and e v).1∧(Du and e v).2=0
structure AEE(g h:AF)(k:Int):Prop where
 conds:g.conds.length≤h.conds.length∧h.conds.length≤12
 Ak:∀i,i<g.Ak.length→h.Ak[i]?=g.Ak[i]?
 BC:g.BC.length≤h.BC.length
 AFN:g.AD.length≤h.AD.length
 AD:∀i:Nat,i<g.AD.length→(i:Int)≠k→h.AD[i]?=g.AD[i]?
 start:h.start=g.start
 fam:WiD h.fam g.fam
theorem AEG(g h:AF)(u fit:Bool)(ae:Int)(mm:List Rewrite)(lg:Bool):
  ((ABH g (apX g u fit ae h mm lg)).2.2≠0∧(ABH g (apX g u fit ae h mm lg)).1=BV∧(ABH g (apX g u fit ae h mm lg)).2.1=[])∨(ABH g (apX g u fit ae h mm lg)=(h,mm,0)∧okF g∧okF h∧mpE g h mm=0∧u=true∧fit=true∧ae=0∧lg=false):=by
 unfold ABH apX;split
 ·rename_i h1;exact .inl ⟨h1,rfl,rfl⟩
 ·rename_i h1;split
  ·exact .inl ⟨by decide,rfl,rfl⟩
  ·rename_i h2;split
   ·rename_i h3;exact .inl ⟨h3,rfl,rfl⟩
   ·rename_i h3;split
    ·exact .inl ⟨by decide,rfl,rfl⟩
    ·rename_i h4;split
     ·rename_i h5;exact .inl ⟨h5,rfl,rfl⟩
     ·rename_i h5;split
      ·rename_i h6;exact .inl ⟨h6,rfl,rfl⟩
      ·rename_i h6;have oz:(u&&fit)=true:=by simpa using h2
       rw[Bool.and_eq_true]at oz;exact .inr ⟨rfl,AAt.1 (by simpa using h1),AAt.1 (by simpa using h5),by simpa using h6,oz.1,oz.2,by simpa using h3,by simpa using h4⟩
def ApS(g:AF)(x:AAC):Prop:=∃(h:AF) (m:List Rewrite) (e:Int),Pure prog 7 [AB g,AO x] (.Bd [AB h,An m,AG e])∧((e≠0∧h=BV∧m=[])∨(e=0∧okF g∧okF h∧mpE g h m=0∧AEE g h x.number))
theorem ApS.of{g h:AF}{x:AAC}{u fit:Bool}{ae:Int}{mm:List Rewrite}{lg:Bool}(hp:Pure prog 7 [AB g,AO x] (AAu (ABH g (apX g u fit ae h mm lg))))
  (hk:okF g→fit=true→ae=0→lg=false→AEE g h x.number):ApS g x:=by
 rcases AEG g h u fit ae mm lg with⟨h1,h2,h3⟩|⟨h1,h2,h3,h4,_,h5,h6,h7⟩
 ·generalize ABH g (apX g u fit ae h mm lg)=r at *;obtain⟨a,b,c⟩:=r;exact⟨a,b,c,hp,.inl ⟨h1,h2,h3⟩⟩
 ·rw[h1]at hp;exact⟨h,mm,0,hp,.inr ⟨rfl,h2,h3,h4,hk h2 h5 h6 h7⟩⟩
theorem ABV{α:Type}(l:List α)(k:Int)(hk:0≤k)(a:α)(i:Nat)(hi:(i:Int)≠k):(l.set k.toNat a)[i]?=l[i]?:=by
 rw[List.getElem?_set_ne];omega
theorem ABf{α:Type}(l m:List α)(i:Nat)(hi:i<l.length):(l++m)[i]?=l[i]?:=List.getElem?_append_left hi
theorem AEP(g:AF)(x:AAC)(hk:1≤x.kind∧x.kind≤14)(jG:g.conds.length≤11)(mM:∀p∈g.AD,p.name.size≤2 ^ 20)(n7:x.BL.length≤2 ^ 30):ApS g x:=by
 have hc:g.conds.length≤12:=by omega
 have x3:x.kind=1∨x.kind=2∨x.kind=3∨x.kind=4∨x.kind=5∨x.kind=6∨x.kind=7∨x.kind=8∨x.kind=9∨x.kind=10∨x.kind=11∨x.kind=12∨x.kind=13∨x.kind=14:=by omega
 have hn:∀n:Nat,Fz x n=true→0≤x.number:=fun n h=>by simp only[Fz,Bool.and_eq_true,decide_eq_true_eq]at h;exact h.1
 have jt:Ck g x=true→0≤x.number:=fun h=>by simp only[Ck,Bool.and_eq_true,decide_eq_true_eq]at h;exact h.1
 rcases x3 with h|h|h|h|h|h|h|h|h|h|h|h|h|h
 ·exact ApS.of (AFQ g x h hc) fun _ hf _ _=>⟨⟨Nat.le_refl _,hc⟩,fun i hi=>rfl,by simp,Nat.le_refl _,fun i hi _=>rfl,rfl,.inl rfl⟩
 ·exact ApS.of (AFL g x h hc) fun _ hf _ _=>⟨⟨Nat.le_refl _,hc⟩,fun i hi=>rfl,Nat.le_refl _,by simp,fun i hi dI=>ABV _ _ (jt hf) _ i dI,rfl,.inl rfl⟩
 ·exact ApS.of (AFU g x h hc) fun _ hf _ _=>⟨⟨by simp,by simpa using hc⟩,fun i hi=>rfl,Nat.le_refl _,Nat.le_refl _,fun i hi _=>rfl,rfl,.inl rfl⟩
 ·exact ApS.of (AFM g x h jG) fun _ hf _ _=>⟨⟨by simp,by simp;omega⟩,fun i hi=>rfl,Nat.le_refl _,Nat.le_refl _,fun i hi _=>rfl,rfl,.inl rfl⟩
 ·refine ApS.of (AFP g x h hc) fun _ hf _ hl=>⟨⟨Nat.le_refl _,hc⟩,fun i hi=>rfl,Nat.le_refl _,Nat.le_refl _,fun i hi _=>rfl,rfl,.inr ⟨_,rfl,?_⟩⟩;simp only[Bool.or_eq_false_iff,bne_eq_false_iff_eq]at hl;exact hl.2
 ·exact ApS.of (AFK g x h hc) fun _ hf _ _=>⟨⟨Nat.le_refl _,hc⟩,fun i hi=>rfl,Nat.le_refl _,by simp,fun i hi dI=>ABV _ _ (jt (by simp only[Bool.and_eq_true]at hf;exact hf.1)) _ i dI,rfl,.inl rfl⟩
 ·refine ApS.of (AEo g x h hc mM) fun _ hf hb _=>?_;have hp:=jt (Hl hf).1;cases kb:AC1 g x with
  |true=>rw[kb]at hb;cases hb
  |false=>
   rw[if_neg Bool.false_ne_true];exact⟨⟨Nat.le_refl _,hc⟩,fun i hi=>rfl,Nat.le_refl _,by simp[X1],fun i hi dI=>(ABV _ _ hp _ i dI).trans (ABf _ _ i hi),rfl,.inl rfl⟩
 ·refine ApS.of (AFA g x h hc) fun _ hf hb _=>?_;have hp:=jt (LZ hf).1;cases kb:GO g x.number with
  |true=>rw[kb]at hb;cases hb
  |false=>
   rw[if_neg Bool.false_ne_true];exact⟨⟨Nat.le_refl _,hc⟩,fun i hi=>rfl,by simp[Vu],by simp[Vu],fun i hi dI=>(ABV _ _ hp _ i dI).trans (ABf _ _ i hi),rfl,.inl rfl⟩
 ·refine ApS.of (AE6 g x h hc mM) fun _ hf hb _=>?_;have hp:=jt (Hl hf).1;cases kb:AC3 g x with
  |true=>rw[kb]at hb;cases hb
  |false=>
   rw[if_neg Bool.false_ne_true];exact⟨⟨Nat.le_refl _,hc⟩,fun i hi=>rfl,by simp[eP],by simp[eP],fun i hi dI=>(ABV _ _ hp _ i dI).trans (ABf _ _ i hi),rfl,.inl rfl⟩
 ·exact ApS.of (AE3 g x h hc) fun _ hf _ _=>⟨⟨Nat.le_refl _,hc⟩,fun i hi=>rfl,Nat.le_refl _,Nat.le_refl _,fun i hi _=>rfl,rfl,.inl rfl⟩
 ·exact ApS.of (AE2 g x h hc) fun _ hf _ _=>⟨⟨Nat.le_refl _,hc⟩,fun i hi=>rfl,Nat.le_refl _,Nat.le_refl _,fun i hi _=>rfl,rfl,.inl rfl⟩
 ·exact ApS.of (AE4 g x h hc) fun _ hf _ _=>⟨⟨Nat.le_refl _,hc⟩,fun i hi=>ABf _ _ i hi,Nat.le_refl _,Nat.le_refl _,fun i hi _=>rfl,rfl,.inl rfl⟩
 ·exact ApS.of (AE7 g x h hc) fun _ hf _ _=>⟨⟨Nat.le_refl _,hc⟩,fun i hi=>rfl,Nat.le_refl _,by simp,fun i hi _=>ABf _ _ i hi,rfl,.inl rfl⟩
 ·exact ApS.of (AFD g x h hc n7) fun _ hf _ _=>⟨⟨Nat.le_refl _,hc⟩,fun i hi=>rfl,Nat.le_refl _,by simp,fun i hi dI=>ABV _ _ (jt hf) _ i dI,rfl,.inl rfl⟩
open Go.Proofs DT
theorem AEH{f:FuncId}{g:Bool→Bool→Bool}(hf:Mr f g)(a b:AN)(h:(Du g a b).2=0):∃t:DT,t.Good∧(Du g a b).1=B2 t∧∀c,t.sem c=g ((tr a).sem c) ((tr b).sem c):=by
 unfold Du at h⊢;split at h
 ·rename_i h1;exact absurd h h1
 ·rename_i he;have he:ABU [a,b]=0:=by simpa using he
  have ha:HW a=0:=by
   simp only[ABU]at he;split at he
   ·assumption
   ·next h=>simpa using h
  have hb:HW b=0:=by
   simp only[ABU,ha,ne_eq,not_true,if_false]at he;split at he
   ·assumption
   ·next h=>simpa using h
  have va:=JA ha;have vb:=JA hb;have la:(B2 (tr a)).nodes.length≤4096:=Ky (by rw[Fl va];exact ha);have lb:(B2 (tr b)).nodes.length≤4096:=Ky (by rw[Fl vb];exact hb);have kY:((B2 (tr a)).nodes.length+2) * ((B2 (tr b)).nodes.length+2) * 2<2 ^ 30:=by
   have h1:=Nat.mul_le_mul (show(B2 (tr a)).nodes.length+2≤4098 by omega) (show(B2 (tr b)).nodes.length+2≤4098 by omega);omega
  obtain⟨t,tg,ts,_⟩:=KD hf (tr a) (tr b) (MP a) (MP b) kY;have g7:Yv g a b=B2 t:=by unfold Yv;rw[JN tg ts]
  rw[if_neg (by simpa using he)];split at h
  ·cases h
  ·rename_i h4;rw[if_neg h4];exact⟨t,tg,g7,ts⟩
theorem WiD.sub{d e:AN}(h:WiD d e)(he:HW e=0):∃u s:DT,u.Good∧s.Good∧d=B2 u∧e=B2 s∧∀c,u.sem c=true→s.sem c=true:=by
 have ve:=JA he;rcases h with rfl|⟨v,rfl,h2⟩
 ·exact⟨tr d,tr d,MP d,MP d,(Fl ve).symm,(Fl ve).symm,fun c h=>h⟩
 ·obtain⟨t,tg,ht,ts⟩:=AEH Fe e v h2;refine⟨t,tr e,tg,MP e,ht,(Fl ve).symm,fun c h=>?_⟩;rw[ts]at h;simp only[Bool.and_eq_true]at h;exact h.1
theorem ACt{g:AF}(h:DX g=0):HW g.fam=0:=by
 obtain⟨_,hf,_⟩:=Ir h;simp only[FY,Bool.and_eq_true]at hf;have h1:=hf.1.2;simp only[DS,Bool.and_eq_true,decide_eq_true_eq]at h1;exact h1.1
open Go.Proofs Tryz DT
theorem ACn{g h:AF}{u fit lg:Bool}{ae:Int}{mm:List Rewrite}(h0:okF g)(h1:(u&&fit)=true)(h2:ae=0)(h3:lg=false)(h4:okF h)(h5:mpE g h mm=0):ABH g (apX g u fit ae h mm lg)=(h,mm,0):=by
 unfold ABH apX;rw[if_neg (by simpa using AAt.2 h0),if_neg (by simp[h1]),if_neg (by simpa using h2),if_neg (by simp[h3]),if_neg (by simpa using AAt.2 h4),if_neg (by simpa using h5)]
theorem ACs{g h:AF}{m:List Rewrite}(h0:okF g)(h1:okF h)(h2:g.Ak.length≤h.Ak.length∧g.BC.length≤h.BC.length)(h3:m.all (ABs g h)=true)(h4:((List.range g.AD.length).all fun p=>ABo g h p||ACR g m p)=true):mpE g h m=0:=by
 unfold mpE;rw[if_neg (by simpa using AAt.2 h0),if_neg (by simpa using AAt.2 h1),if_neg (by omega),if_pos ⟨h3,h4⟩]
theorem ND:Du and Cn Cn=(Cn,0):=by
 have hg:(DT.leaf true).Good:=trivial;have h1:tr Cn=.leaf true:=Ou hg;have hv:Valid Cn:=⟨.leaf true,trivial,rfl⟩;have hc:HW Cn=0:=by
  unfold HW;rw[if_neg (by decide),if_pos hv]
 have ho:Yv and Cn Cn=Cn:=by
  unfold Yv;rw[JN (t:=.leaf true) hg (fun c=>by rw[h1];rfl)];rfl
 have hz:ABU [Cn,Cn]=0:=by simp[ABU,hc]
 unfold Du;rw[hz,ho];simp[Cn]
def eT(BC:List ByteArray)(AD:List AT):AF:=⟨[⟨#[65]⟩,⟨#[66]⟩],Cn,Dr,BC,AD,0,[],[]⟩
def Tw(name:ByteArray)(left:Int)(right:List Symbol):AT:=⟨name,left,right,Cn,false,0,[],Av⟩
def Yy(k n a t:Int)(name:ByteArray):AAC:=⟨k,n,a,t,name,false,⟨[],0⟩,[],[],Fm,Dq,[]⟩
def fB:AT:=Tw ⟨#[110,117,109]⟩ 0 [⟨true,0⟩]
def eZ:AT:=Tw ⟨#[98,105,110]⟩ 0 [⟨false,0⟩,⟨false,1⟩,⟨false,0⟩]
def fE:AT:=Tw ⟨#[112,108,117,115]⟩ 1 [⟨true,1⟩]
def eV:AT:=Tw ⟨#[116,105,109,101,115]⟩ 1 [⟨true,2⟩]
def KL:ByteArray:=⟨#[98,105,110,95,112,108,117,115]⟩
def Ln:ByteArray:=⟨#[98,105,110,95,99,111,112,121]⟩
def cH:AAC:=Yy 7 1 1 0 ⟨#[]⟩
def gH:AF:=eT [⟨#[69]⟩,⟨#[79]⟩] [fB,{eZ with cond:=fT},fE,eV,Tw KL 0 [⟨false,0⟩,⟨true,1⟩,⟨false,0⟩],Tw ⟨#[98,105,110,95,116,105,109,101,115]⟩ 0 [⟨false,0⟩,⟨true,2⟩,⟨false,0⟩]]
def mH:List Rewrite:=[⟨1,1,2,Bh 4::Cg 0 3⟩,⟨1,1,3,Bh 5::Cg 0 3⟩]
def cK:AAC:=Yy 8 1 1 3 ⟨#[114,101,115,116]⟩
def gK:AF:=eT [⟨#[69]⟩,⟨#[79]⟩,⟨#[114,101,115,116]⟩] [fB,{eZ with right:=[⟨false,0⟩,⟨false,2⟩]},fE,eV,Tw ⟨#[114,101,115,116]⟩ 2 [⟨false,1⟩,⟨false,0⟩]]
def mK:List Rewrite:=[⟨1,-1,-1,[Bh 1,Dk 0,Bh 4,Dk 1,Dk 2]⟩]
def cS:AAC:=Yy 9 1 2 0 ⟨#[114,105,103,104,116]⟩
def gS:AF:=eT [⟨#[69]⟩,⟨#[79]⟩,⟨#[114,105,103,104,116]⟩] [fB,{eZ with right:=[⟨false,0⟩,⟨false,1⟩,⟨false,2⟩]},fE,eV,Tw ⟨#[110,117,109,95,99,111,112,121]⟩ 2 [⟨true,0⟩],Tw Ln 2 [⟨false,0⟩,⟨false,1⟩,⟨false,0⟩]]
def bu:List Rewrite:=[⟨1,2,0,[Bh 1,Dk 0,Dk 1,Bh 4,Dk 2]⟩,⟨1,2,1,[Bh 1,Dk 0,Dk 1,Bh 5,Dk 2,Dk 3,Dk 4]⟩]
def cN:AAC:=Yy 7 0 0 0 ⟨#[]⟩
theorem bM:okF gH:=⟨MV _ _ (by decide+kernel),Qk _ (by decide+kernel)⟩
theorem ai:okF gK:=⟨MV _ _ (by decide+kernel),Qk _ (by decide+kernel)⟩
theorem aO:okF gS:=⟨MV _ _ (by decide+kernel),Qk _ (by decide+kernel)⟩
theorem O1:B1 GH cH=[2,3]:=by decide+kernel
theorem WQ:B1 GH cS=[0,1]:=by decide+kernel
theorem aw:X1 GH cH=gH:=by
 have h2:F9 GH cH 2=Tw KL 0 [⟨false,0⟩,⟨true,1⟩,⟨false,0⟩]:=by
  unfold F9;rw[show Du and (CL GH cH).cond (CO GH 2).cond=(Cn,0)from ND];decide+kernel
 have h3:F9 GH cH 3=Tw ⟨#[98,105,110,95,116,105,109,101,115]⟩ 0 [⟨false,0⟩,⟨true,2⟩,⟨false,0⟩]:=by
  unfold F9;rw[show Du and (CL GH cH).cond (CO GH 3).cond=(Cn,0)from ND];decide+kernel
 unfold X1;rw[O1];simp only[List.map_cons,List.map_nil,h2,h3];rfl
theorem Zd:Iy GH cH GH.AD.length (B1 GH cH)=mH:=by decide+kernel
theorem Xv:Vu GH cK=gK:=by rfl
theorem XE:foldM GH cK=mK:=by decide+kernel
theorem cW:eP GH cS=gS:=by unfold eP;rw[WQ];rfl
theorem cT:SK GH cS GH.AD.length (B1 GH cS)=bu:=by decide+kernel
theorem Zv:Pure prog 7 [AB GH,AO cH] (.Bd [AB gH,An mH,AG 0]):=by
 have h:=AEo GH cH rfl (by decide) (by decide);have hb:AC1 GH cH=false:=by decide+kernel
 rw[hb,if_neg Bool.false_ne_true,if_neg Bool.false_ne_true,if_neg Bool.false_ne_true,aw,Zd]at h;rw[ACn Jv (by decide+kernel) rfl rfl bM (ACs Jv bM (by decide) (by decide+kernel) (by decide+kernel))]at h;exact h
theorem aT:Pure prog 7 [AB GH,AO cK] (.Bd [AB gK,An mK,AG 0]):=by
 have h:=AFA GH cK rfl (by decide);have hb:GO GH cK.number=false:=by decide+kernel
 rw[hb,if_neg Bool.false_ne_true,if_neg Bool.false_ne_true,if_neg Bool.false_ne_true,Xv,XE]at h;rw[ACn Jv (by decide+kernel) rfl rfl ai (ACs Jv ai (by decide) (by decide+kernel) (by decide+kernel))]at h;exact h
theorem af:Pure prog 7 [AB GH,AO cS] (.Bd [AB gS,An bu,AG 0]):=by
 have h:=AE6 GH cS rfl (by decide) (by decide);have hb:AC3 GH cS=false:=by decide+kernel
 rw[hb,if_neg Bool.false_ne_true,if_neg Bool.false_ne_true,if_neg Bool.false_ne_true,cW,cT]at h;rw[ACn Jv (by decide+kernel) rfl rfl aO (ACs Jv aO (by decide) (by decide+kernel) (by decide+kernel))]at h;exact h
theorem applyN:Pure prog 7 [AB GH,AO cN] (.Bd [AB BV,An [],AG 310]):=by
 have h:=AEo GH cN rfl (by decide) (by decide);have e:CH GH cN=false:=by decide+kernel
 unfold ABH apX at h;rw[if_neg (by simpa using AAt.2 Jv),if_pos (by rw[e,Bool.and_false])]at h;exact h
open Go.Proofs Tryz DT
theorem Q7:Pure prog 4 [] (.bool true):=by
 have aH:=Zv;have aK:=aT;have aS:=af;have aN:=applyN;have hl:(5:Nat)≤maxLen:=by decide
 obtain⟨fH1,fH2,fH3,fH4,fH5⟩:gH.AD.length=6∧(∃p,gH.AD[4]?=some p∧p.name=KL)∧(∃p,gH.AD[1]?=some p∧p.cond.root=0)∧mH.length=2∧(∃r,mH[1]?=some r∧r.child=3):=
  ⟨rfl,⟨_,rfl,rfl⟩,⟨_,rfl,rfl⟩,rfl,⟨_,rfl,rfl⟩⟩
 obtain⟨fK1,fK2,fK3,fK4,fK5⟩:gK.AD.length=5∧(∃p,gK.AD[4]?=some p∧p.right.length=2)∧(∃p,gK.AD[1]?=some p∧p.right.length=2)∧mK.length=1∧(∃r n,mK[0]?=some r∧r.BL.length=5∧r.BL[2]?=some n∧n.prod=4):=
  ⟨rfl,⟨_,rfl,rfl⟩,⟨_,rfl,rfl⟩,rfl,⟨_,_,rfl,rfl,rfl,rfl⟩⟩
 obtain⟨fS1,fS2,fS3⟩:gS.AD.length=6∧(∃p y,gS.AD[5]?=some p∧p.name=Ln∧p.right.length=3∧p.right[2]?=some y∧y.index=0)∧(∃p y,gS.AD[1]?=some p∧p.right.length=3∧p.right[2]?=some y∧y.index=2):=
  ⟨rfl,⟨_,_,rfl,rfl,rfl,rfl,rfl⟩,⟨_,_,rfl,rfl,rfl,rfl⟩⟩
 generalize gH=H at *;generalize mH=MH at *;generalize gK=K at *;generalize mK=MK at *;generalize gS=T at *;generalize bu=MT at *;have hcH:AO cH=_:=AO.eq_1 cH;have hcK:AO cK=_:=AO.eq_1 cK;have hcS:AO cS=_:=AO.eq_1 cS;have hcN:AO cN=_:=AO.eq_1 cN;refine Pure.AI func4 (by kernel_rfl) rfl (by simp) fun wf=>?_;rw[ntmps4];refine xW fun K hK=>?_;simp;apply hK;(repeat refine xS ?_);refine BX fun K hK=>?_;refine xJ ?_;simp;refine Bp (aB) rfl (by simp) ?_;simp;refine xJ ?_;simp;refine Aj (hK _ _ ?_);(try simp only[xQ,reduceIte]);generalize GH=G at *;refine Az fun K hK=>?_;refine xJ ?_;simp[maxLen];refine AS.ghost (AJ.bI 18 (AO cH) (by simp[asD,AO,cH,Yy,Fm,Dq,Ce])) ?_;refine Bp (aH) rfl (by simp[xN]) ?_;simp;refine xJ ?_;simp;refine Aj (hK _ _ ?_);refine Az fun K hK=>?_;refine xJ ?_;simp[maxLen];refine AS.ghost (AJ.bI 25 (AO cK) (by simp[asD,AO,cK,Yy,Fm,Dq,Ce])) ?_;refine Bp (aK) rfl (by simp[xN]) ?_;simp;refine xJ ?_;simp;refine Aj (hK _ _ ?_);refine Az fun K hK=>?_;refine xJ ?_;simp[maxLen];refine AS.ghost (AJ.bI 32 (AO cS) (by simp[asD,AO,cS,Yy,Fm,Dq,Ce])) ?_;refine Bp (aS) rfl (by simp[xN]) ?_;simp;refine xJ ?_;simp;refine Aj (hK _ _ ?_);(repeat refine xS ?_);refine BX fun K hK=>?_;refine xJ ?_;simp[maxLen];refine AS.ghost (AJ.bI 39 (AO cN) (by simp[asD,AO,cN,Yy,Fm,Dq,Ce])) ?_;refine Bp (aN) rfl (by simp[xN]) ?_;simp;refine xJ ?_;simp;refine Aj (hK _ _ ?_);(try simp only[xQ,reduceIte]);obtain⟨a4,hA4,nA4⟩:=fH2;obtain⟨a1,hA1,nA1⟩:=fH3;obtain⟨r1,hR1,nR1⟩:=fH5;obtain⟨k4,hK4,nK4⟩:=fK2;obtain⟨k1,hK1,nK1⟩:=fK3;obtain⟨r0,n2,hR0,nR0,hN2,nN2⟩:=fK5;obtain⟨s5,y5,hS5,nS5,lS5,hY5,nY5⟩:=fS2;obtain⟨s1,y1,hS1,lS1,hY1,nY1⟩:=fS3;obtain⟨_,hA4⟩:=List.getElem?_eq_some_iff.1 hA4;obtain⟨_,hA1⟩:=List.getElem?_eq_some_iff.1 hA1;obtain⟨_,hR1⟩:=List.getElem?_eq_some_iff.1 hR1;obtain⟨_,hK4⟩:=List.getElem?_eq_some_iff.1 hK4;obtain⟨_,hK1⟩:=List.getElem?_eq_some_iff.1 hK1;obtain⟨_,hR0⟩:=List.getElem?_eq_some_iff.1 hR0;obtain⟨_,hN2⟩:=List.getElem?_eq_some_iff.1 hN2;obtain⟨_,hS5⟩:=List.getElem?_eq_some_iff.1 hS5;obtain⟨_,hY5⟩:=List.getElem?_eq_some_iff.1 hY5;obtain⟨_,hS1⟩:=List.getElem?_eq_some_iff.1 hS1;obtain⟨_,hY1⟩:=List.getElem?_eq_some_iff.1 hY1;have eA4:=AH.eq_1 a4;have eA1:=AH.eq_1 a1;have eR1:=Ab.eq_1 r1;have eK4:=AH.eq_1 k4;have eK1:=AH.eq_1 k1;have eR0:=Ab.eq_1 r0;have eN2:=A1.eq_1 n2;have eS5:=AH.eq_1 s5;have eS1:=AH.eq_1 s1;have eY5:=AL.eq_1 y5;have eY1:=AL.eq_1 y1;refine xS (Az fun K hK=>?_);refine xH ?_;simp[fH1,fH4,fK1,fK4,fS1];refine Aj (hK _ _ ?_);(try simp only[xQ,reduceIte]);refine AU ?_;simp;refine xK ?_;refine Az fun K hK=>?_;refine xH ?_;simp[hR0,eR0,nR0,fK4,hN2,eN2,nN2,hK4,eK4,nK4,hK1,eK1,nK1,fK1];refine Aj (hK _ _ ?_);(repeat refine xS ?_);refine BX fun K hK=>?_;(repeat((first|refine Dp rfl ?_ ?_;(·simp)|refine Jf rfl ?_ ?_;(·simp[hA1,eA1,nA1,fH1,hR1,eR1,nR1,fH4,hS5,eS5,nS5,lS5,hY5,eY5,nY5,hS1,eS1,lS1,hY1,eY1,nY1,fS1,Ln,maxLen])|refine B7 ?_ ?_;(·simp[hA4,eA4,nA4,fH1,KL,maxLen]));simp[hA4,eA4,nA4,hA1,eA1,nA1,fH1,hR1,eR1,nR1,fH4,hS5,eS5,nS5,lS5,hY5,eY5,nY5,hS1,eS1,lS1,hY1,eY1,nY1,fS1,KL,Ln,maxLen]));refine Aj (hK _ _ ?_);(try simp only[xQ,reduceIte]);refine Ag ⟨_,_,AJ.refl,?_⟩;try simp
open Go.Proofs Tryz DT
def mtA(x y:Int):List V:=[.d (AG x),.d (AG y),.ptr 0 1 0 0,.ptr 1 1 0 0,.ptr 2 1 0 0,.ptr 3 1 0 0,.ptr 4 1 0 0]
def bV1(x:Bool):V:=.d (.bool x)
@[simp] theorem AFO(x:Bool):bV1 x=.d (.bool x):=rfl
def mtS(a b:AN)(seen:List (Pr×Bool)):Sg:=
 [.row true 1 [.d (.bool false)],.row true 1 [.map 5],.row true 2 [.d (AA a)],.row true 2 [.d (AA b)],.row true 1 [.fn (.func 124) [] [.ptr 0 1 0 0,.ptr 1 1 0 0,.ptr 2 1 0 0,.ptr 3 1 0 0,.ptr 4 1 0 0]],.map (BO GN (fun x=>.d (.bool x)) seen)]
theorem ADN(a b:AN)(y:Int)(seen:List (Pr×Bool)):AE prog 124 (mtA 0 y) (mtS a b seen) (.d (.bool false)) (mtS a b seen):=by
 unfold mtA mtS;refine AE.B9 func124 (by kernel_rfl) rfl (by simp) fun wf _=>?_;rw[ntmps124];refine xW fun K hK=>?_;simp;apply hK;refine xS (xW fun K hK=>?_);simp;apply hK;refine AU ?_;simp;(repeat refine xS ?_);refine xV fun K hK=>?_;simp;refine hK _ _ ?_;(try simp only[xQ,reduceIte]);(refine Ag ?_;(try simp only[xQ,reduceIte]);refine⟨_,_,_,AJ.refl,?_,?_,AJ.AY 6 (by simp) (by simp) (by simp) (by simp)⟩<;>simp[asD])
theorem AEF(a b:AN){x:Int}(hx:¬x=0)(seen:List (Pr×Bool)):AE prog 124 (mtA x 1) (mtS a b seen) (.d (.bool false)) (mtS a b seen):=by
 unfold mtA mtS;refine AE.B9 func124 (by kernel_rfl) rfl (by simp) fun wf _=>?_;rw[ntmps124];refine xW fun K hK=>?_;simp;apply hK;refine xS (xW fun K hK=>?_);simp;apply hK;refine AU ?_;simp[hx];refine xK ?_;refine xS (Az fun K hK=>?_);refine xH ?_;simp;refine Aj (hK _ _ ?_);(try simp only[xQ,reduceIte]);refine AU ?_;simp;(repeat refine xS ?_);refine xV fun K hK=>?_;simp;refine hK _ _ ?_;(try simp only[xQ,reduceIte]);(refine Ag ?_;(try simp only[xQ,reduceIte]);refine⟨_,_,_,AJ.refl,?_,?_,AJ.AY 6 (by simp) (by simp) (by simp) (by simp)⟩<;>simp[asD])
theorem AEN(a b:AN){x y:Int}(hx:¬x=0)(hy:¬y<2){seen:List (Pr×Bool)}(hs:look seen (x,y)=some true):AE prog 124 (mtA x y) (mtS a b seen) (.d (.bool false)) (mtS a b seen):=by
 unfold mtA mtS;refine AE.B9 func124 (by kernel_rfl) rfl (by simp) fun wf _=>?_;rw[ntmps124];refine xW fun K hK=>?_;simp;apply hK;refine xS (xW fun K hK=>?_);simp;apply hK;refine AU ?_;simp[hx];refine xK ?_;refine xS (Az fun K hK=>?_);refine xH ?_;simp[hy];refine Aj (hK _ _ ?_);(try simp only[xQ,reduceIte]);refine AU ?_;simp;refine xK ?_;refine xS (xW fun K hK=>?_);simp[hy];apply hK;refine AU ?_;simp;refine xK ?_;refine xS (xW fun K hK=>?_);simp[hs];apply hK;refine AU ?_;simp;(repeat refine xS ?_);refine xV fun K hK=>?_;simp;refine hK _ _ ?_;(try simp only[xQ,reduceIte]);(refine Ag ?_;(try simp only[xQ,reduceIte]);refine⟨_,_,_,AJ.refl,?_,?_,AJ.AY 6 (by simp) (by simp) (by simp) (by simp)⟩<;>simp[asD])
theorem AEn(a b:AN){x y v:Int}(hx:¬x=0)(hy:¬y<2){seen s1 s2:List (Pr×Bool)}(hs:(look seen (x,y)).getD false=false)(vV:x<2+a.nodes.length)(vW:y<2+b.nodes.length)
  (hv:min (a.level x) (b.level y)=v) (jU:v<64)
  (c1:AE prog 124 (mtA (a.FQ x v) (b.FQ y v)) (mtS a b (CU seen (x,y) true)) (.d (.bool false)) (mtS a b s1))
  (c2:AE prog 124 (mtA (a.FO x v) (b.FO y v)) (mtS a b s1) (.d (.bool false)) (mtS a b s2)):
  AE prog 124 (mtA x y) (mtS a b seen) (.d (.bool false)) (mtS a b s2):=by
 unfold mtA at c1 c2⊢;unfold mtS at c1 c2⊢;have iT:=C9 (ek:=GN) (ev:=fun x=>V.d (.bool x)) ZI seen (x,y) true;simp only[GN]at iT;have x5:=Fv a x vV;have x6:=Fv b y vW;have x7:=Kf a x v vV jU;have qT:=Kf b y v vW jU;refine AE.B9 func124 (by kernel_rfl) rfl (by simp) fun wf _=>?_;rw[ntmps124];refine xW fun K hK=>?_;simp;apply hK;refine xS (xW fun K hK=>?_);simp;apply hK;refine AU ?_;simp[hx];refine xK ?_;refine xS (Az fun K hK=>?_);refine xH ?_;simp[hy];refine Aj (hK _ _ ?_);(try simp only[xQ,reduceIte]);refine AU ?_;simp;refine xK ?_;refine xS (xW fun K hK=>?_);simp[hy];apply hK;refine AU ?_;simp;refine xK ?_;refine xS (xW fun K hK=>?_);simp[hs];apply hK;refine AU ?_;simp;refine xK ?_;refine xW fun K hK=>?_;simp[iT];apply hK;(repeat refine xS ?_);refine xE [0,2,4,6,8,10,12,14] (by kernel_rfl) fun K hK=>?_;simp;refine xA 1 ?_;simp;refine Bj (x5) rfl (by simp[xN]) ?_;simp;refine xA 1 ?_;simp;refine Bj (x6) rfl (by simp[xN]) ?_;simp;refine xA 1 ?_;simp;refine xM (hK _ _ ?_);(try simp only[xQ,reduceIte]);have vm:(if b.level y<a.level x then b.level y else a.level x)=v:=by rw[←hv];split<;>omega
 simp only[vm];refine Az fun K hK=>?_;refine xJ ?_;simp;refine Bp (x7) rfl (by simp[xN]) ?_;simp;refine xJ ?_;simp;refine Aj (hK _ _ ?_);refine Az fun K hK=>?_;refine xJ ?_;simp;refine Bp (qT) rfl (by simp[xN]) ?_;simp;refine xJ ?_;simp;refine Aj (hK _ _ ?_);(repeat refine xS ?_);refine BX fun K hK=>?_;refine xJ ?_;simp;refine xF (c1) [0,1,2,3,4,5] rfl ?_;simp;refine xH ?_;simp;refine AS.KR (c2) [0,1,2,3,4,5] rfl rfl (by simp;try rfl) ?_;simp;refine xH ?_;simp;refine Aj (hK _ _ ?_);(try simp only[xQ,reduceIte]);(refine Ag ?_;(try simp only[xQ,reduceIte]);refine⟨_,_,_,AJ.refl,?_,?_,AJ.AY 6 (by simp) (by simp) (by simp) (by simp)⟩<;>simp[asD])
theorem ADx(a b:AN):∀(m:Nat) (s t:DT) (x y:Int) (seen:List (Pr×Bool)),s.size+t.size≤m→AAQ a.nodes s x→AAQ b.nodes t y→s.Good→t.Good→(∀c,s.sem c=true→t.sem c=true)→∃seen',AE prog 124 (mtA x y) (mtS a b seen) (.d (.bool false)) (mtS a b seen'):=by
 intro m;induction m with
 |zero=>
  intro s t x y seen hm hs ht gs gt gn;obtain⟨b0,rfl⟩:=Cs (t:=s) (by omega);obtain⟨b1,rfl⟩:=Cs (t:=t) (by omega);simp only[AAQ]at hs ht;cases b0 with
  |false=>simp at hs;subst hs;exact⟨seen,ADN a b y seen⟩
  |true=>
   have h1:b1=true:=gn (fun _=>false) rfl;subst h1;simp at hs ht;subst hs;subst ht;exact⟨seen,AEF a b (by decide) seen⟩
 |succ m ih=>
  intro s t x y seen hm hs ht gs gt gn;by_cases hx:x=0
  ·subst hx;exact⟨seen,ADN a b y seen⟩
  by_cases hy:y<2
  ·obtain⟨b1,rfl⟩:=ht.Dy.1 hy;cases b1 with
   |true=>
    simp only[AAQ]at ht;simp at ht;subst ht;exact⟨seen,AEF a b hx seen⟩
   |false=>
    exfalso;have uX:s=.leaf false:=DT.unique gs trivial fun c=>by
     cases h:s.sem c with
     |false=>rfl
     |true=>exact absurd (gn c h) (by simp[DT.sem])
    subst uX;simp only[AAQ]at hs;simp at hs;exact hx hs
  have x8:t.size≠0:=fun e=>by
   obtain⟨b1,rfl⟩:=Cs e;exact hy (ht.Dy.2 ⟨b1,rfl⟩)
  cases hl:(look seen (x,y)).getD false with
  |true=>
   have:look seen (x,y)=some true:=by cases h:look seen (x,y)with
    |none=>rw[h]at hl;cases hl
    |some r=>rw[h]at hl;simp at hl;rw[hl]
   exact⟨seen,AEN a b hx hy this⟩
  |false=>
   obtain⟨v,hv⟩:∃v,min s.level t.level=v:=⟨_,rfl⟩;have l1:=D4 gt x8;have l0:=Kb gs;have jU:v<64:=by omega
   have tH:(s.lo v).size+(t.lo v).size≤m:=by
    have d0:=Ik s v;have d1:=Ik t v;rcases(by omega:s.level=v∨t.level=v)with e|e
    ·have:=FU e (by omega);omega
    ·have:=FU e (by omega);omega
   have tI:(s.hi v).size+(t.hi v).size≤m:=by
    have d0:=Ii s v;have d1:=Ii t v;rcases(by omega:s.level=v∨t.level=v)with e|e
    ·have:=FJ e (by omega);omega
    ·have:=FJ e (by omega);omega
   obtain⟨s1,c1⟩:=ih (s.lo v) (t.lo v) _ _ (CU seen (x,y) true) tH (hs.FQ jU) (ht.FQ jU) (IQ gs v) (IQ gt v) fun c h=>by
    rw[Pc gt (by omega)];rw[Pc gs (by omega)]at h;exact gn _ h
   obtain⟨s2,c2⟩:=ih (s.hi v) (t.hi v) _ _ s1 tI (hs.FO jU) (ht.FO jU) (IC gs v) (IC gt v) fun c h=>by
    rw[Ov gt (by omega)];rw[Ov gs (by omega)]at h;exact gn _ h
   exact⟨s2,AEn a b hx hy hl hs.lt ht.lt (by rw[hs.level,ht.level];exact hv) jU c1 c2⟩
theorem AD8{s t:DT}(gs:s.Good)(gt:t.Good)(gn:∀c,s.sem c=true→t.sem c=true):Pure prog 38 [AA (B2 s),AA (B2 t),CS false] (.bool false):=by
 obtain⟨sn,hc⟩:=ADx (B2 s) (B2 t) _ s t (B2 s).root (B2 t).root [] (Nat.le_refl _) (FD s) (FD t) gs gt gn;unfold mtA mtS at hc;refine AE.B9 func38 (by kernel_rfl) rfl (by simp) fun wf _=>?_;rw[ntmps38];generalize B2 s=a at *;generalize B2 t=b at *;refine xW fun K hK=>?_;simp;apply hK;refine xW fun K hK=>?_;simp;apply hK;refine xW fun K hK=>?_;simp;apply hK;refine xW fun K hK=>?_;simp;apply hK;(repeat refine xS ?_);refine BX fun K hK=>?_;refine xJ ?_;simp;refine xF (hc) [2,4,0,1,5,3] rfl ?_;simp;refine xJ ?_;simp;refine Aj (hK _ _ ?_);(try simp only[xQ,reduceIte]);(refine Ag ?_;(try simp only[xQ,reduceIte]);refine⟨_,_,_,AJ.refl,?_,?_,AJ.AY 0 (S':=[]) rfl (by simp) (by simp) (by simp)⟩<;>simp[asD])
theorem ADY{d e:AN}{s t:DT}(gs:s.Good)(gt:t.Good)(hd:d=B2 s)(he:e=B2 t)(cd:HW d=0)(ce:HW e=0)(gn:∀c,s.sem c=true→t.sem c=true):Pure prog 11 [AA d,AA e] (.bool true):=by
 have hm:=AD8 gs gt gn;rw[←hd,←he]at hm;have sZ:ABU [d,e]=0:=by simp[ABU,cd,ce]
 have vX:=WH [d,e];rw[sZ]at vX;refine AE.B9 func11 (by kernel_rfl) rfl (by simp) fun wf _=>?_;rw[ntmps11];refine xW fun K hK=>?_;simp;apply hK;(repeat refine xS ?_);refine BX fun K hK=>?_;refine xJ ?_;simp[maxLen];refine Bp (vX) rfl (by simp[xN]) ?_;simp;refine xH ?_;simp;refine AS.Cj (hm) rfl rfl (by simp[xN];try rfl) ?_;simp;refine xH ?_;simp;refine Aj (hK _ _ ?_);(try simp only[xQ,reduceIte]);(refine Ag ?_;(try simp only[xQ,reduceIte]);refine⟨_,_,_,AJ.refl,?_,?_,AJ.AY 0 (S':=[]) rfl (by simp) (by simp) (by simp)⟩<;>simp[asD])
end Go.Koi
