/- Part 36 of the proof that the law ChangeValid returns true for every input. -/
import Derived.Test.YtlgjmkfbkhfakaaGreatDoorK34
set_option maxHeartbeats 64000000
set_option maxRecDepth 100000
namespace Go.Koi
open Go.Proofs Tryz
def GH:AF:=⟨[⟨#[65]⟩,⟨#[66]⟩],Cn,Dr,[⟨#[69]⟩,⟨#[79]⟩],[⟨⟨#[110,117,109]⟩,0,[⟨true,0⟩],Cn,false,0,[],Av⟩,⟨⟨#[98,105,110]⟩,0,[⟨false,0⟩,⟨false,1⟩,⟨false,0⟩],Cn,false,0,[],Av⟩,⟨⟨#[112,108,117,115]⟩,1,[⟨true,1⟩],Cn,false,0,[],Av⟩,⟨⟨#[116,105,109,101,115]⟩,1,[⟨true,2⟩],Cn,false,0,[],Av⟩],0,[],[]⟩
def fT:AN:=⟨[],0⟩
theorem O6{d:AN}(h:d=Cn∨d=fT)(n:Int):DS d n=true:=by
 have hv:Valid d:=by
  rcases h with rfl|rfl
  ·exact⟨.leaf true,trivial,rfl⟩
  ·exact⟨.leaf false,trivial,rfl⟩
 have hn:d.nodes=[]:=by rcases h with rfl|rfl<;>rfl
 simp[DS,HW,hv,hn]
def MR(g:AF):List ByteArray→List AT→Bool
 |_,[]=>true
 |L,p::l=>LX g p&&!FV L p.name&&(decide (p.cond=Cn)||decide (p.cond=fT))&&decide (-1≤p.Di)&&decide (p.Di≤1)&&ABW p&&MR g (L++[p.name]) l
theorem Lv(g:AF):∀(l:List AT) (L:List ByteArray),MR g L l=true→AAm g L l=0
 |[],_,_=>rfl
 |p::l,L,h=>by
  simp only[MR,Bool.and_eq_true,Bool.or_eq_true,decide_eq_true_eq,Bool.not_eq_true']at h;obtain⟨⟨⟨⟨⟨⟨h1,h2⟩,h3⟩,h4⟩,h5⟩,h6⟩,h7⟩:=h;have h8:Mz g p=true:=by simp[Mz,O6 h3,h4,h5,h6]
  simp[AAm,h1,h2,h8,Lv g l _ h7]
def dm(t:Token):Bool:=decide (0≤t.cls)&&decide (t.cls≤2)&&decide (t.cond=Cn)&&II t
theorem Ob:AAl [⟨#[]⟩] (Dr.map (·.name))=true∧Dr.all dm=true:=by decide+kernel
def fe(g:AF):Bool:=!Dg g&&IY g&&MR g [⟨#[]⟩] g.AD
theorem MV(BC:List ByteArray)(AD:List AT)(h:fe ⟨[⟨#[65]⟩,⟨#[66]⟩],Cn,Dr,BC,AD,0,[],[]⟩=true):DX ⟨[⟨#[65]⟩,⟨#[66]⟩],Cn,Dr,BC,AD,0,[],[]⟩=0:=by
 generalize hg:(⟨[⟨#[65]⟩,⟨#[66]⟩],Cn,Dr,BC,AD,0,[],[]⟩:AF)=g at *;simp only[fe,Bool.and_eq_true,Bool.not_eq_true']at h;obtain⟨⟨h1,h2⟩,h3⟩:=h;have e1:FY g=true:=by
  subst hg;have:([⟨#[65]⟩,⟨#[66]⟩]:List ByteArray).all Dz&&AAl [⟨#[]⟩] [⟨#[65]⟩,⟨#[66]⟩]=true:=by unfold Dz;decide+kernel
  simp only[FY,O6 (.inl rfl)];rfl
 have e2:ES g=true:=by
  subst hg;simp only[ES,Ob.1,Bool.true_and,List.all_eq_true];intro t ht;have:=List.all_eq_true.1 Ob.2 t ht;simp only[dm,Bool.and_eq_true,decide_eq_true_eq]at this;simp[F6,this.1.1.1,this.1.1.2,O6 (.inl this.1.2),this.2]
 have e3:AAm g [⟨#[]⟩] g.AD=0:=Lv g _ _ h3;have e4:AAv g [] g.levels=true:=by subst hg;rfl
 have e5:FH g=true:=by subst hg;rfl
 simp[DX,h1,C1,e1,e2,h2,e3,e4,e5,ABI]
def gM(g:AF):Bool:=g.AD.all fun p=>match p.right with|[]=>false|[s]=>s.token|_=>true
theorem Qk(g:AF)(h:gM g=true):¬ACv g:=ABy.none <| EB.AFT fun p hp=>by
 have:=List.all_eq_true.1 h p hp;cases hr:p.right with
 |nil=>rw[hr]at this;simp at this
 |cons a l=>
  rw[hr]at this;cases l with
  |nil=>refine⟨by simp,fun s hs=>?_⟩;cases hs;exact this
  |cons b l=>exact⟨by simp,fun s hs=>by simp at hs⟩
theorem Jv:okF GH:=⟨MV _ _ (by decide+kernel),Qk _ (by decide+kernel)⟩
theorem aB:Pure prog 12 [] (AB GH):=by
 have h1:=Bi true;simp at h1;have iP:=(Fa [⟨#[69]⟩,⟨#[79]⟩]).Ei (args':=[.full [.str ⟨#[69]⟩,.str ⟨#[79]⟩]]) rfl fun i h h'=>by
  match i,h with
  |0,_=>exact .inr ⟨CW [⟨#[69]⟩,⟨#[79]⟩],by simp[asD],rfl⟩
 have ie:ByteArray.empty=(⟨#[]⟩:ByteArray):=rfl;refine Pure.AI func12 (by kernel_rfl) rfl (by simp) fun wf=>?_;rw[ntmps12];refine xW fun K hK=>?_;simp;apply hK;refine Az fun K hK=>?_;refine xJ ?_;simp[maxLen];refine xF (iP) [] rfl ?_;simp;refine xJ ?_;simp[Ft];refine Aj (hK _ _ ?_);refine Az fun K hK=>?_;refine xJ ?_;simp;refine Bp (h1) rfl (by simp) ?_;simp;refine xJ ?_;simp[AA];refine Aj (hK _ _ ?_);refine xD [0,2,4,6,8,10,12,14,16,18,20,22,24,26,28,30,32,34,36,38,41] (by kernel_rfl) fun K hK=>?_;simp;refine xA 1 ?_;simp;refine Bj (Cp 0) rfl (by simp[maxLen]) ?_;simp;refine xA 1 ?_;simp[maxLen];refine Bj (Dh 0) rfl (by simp[maxLen,xN]) ?_;simp;refine Bj (Dh 1) rfl (by simp[maxLen,xN]) ?_;simp;refine Bj (Dh 0) rfl (by simp[maxLen,xN]) ?_;simp;refine xA 1 ?_;simp[maxLen];refine Bj (Cp 1) rfl (by simp[maxLen,xN]) ?_;simp;refine xA 1 ?_;simp[maxLen];refine Bj (Cp 2) rfl (by simp[maxLen,xN]) ?_;simp;refine xA 1 ?_;simp[maxLen];refine xX 1048575 (by kernel_rfl) ?_;simp[AR,Al,maxLen];refine xM (hK _ _ ?_);refine xW fun K hK=>?_;simp;apply hK;refine Ag ?_;(try simp only[xQ,reduceIte]);refine⟨_,_,AJ.refl,?_⟩;simp[asD,AB,GH,AH,Av,Cn]
open Go.Proofs DT
def noC(t:Token):Token:={t with cond:=Cn}
structure VG(g:AF)(kn:Bool):Prop where
 tk:g.Ak.map noC=Dr
 tf:∀t∈g.Ak,DS t.cond g.conds.length=true
 fam:FY g=true
 BC:IY g=true
 pr:AAm g [⟨#[]⟩] g.AD=0
 lv:AAv g [] g.levels=true
 fl:FH g=true
 sz:∀p∈g.AD,p.right.length≤16∧p.layout.length≤16
 nm:∀p∈g.AD,∀k,g.AD.length≤k→k<120→p.name≠ABv k
 ac:∃N:Int→Bool,ABy g N Int.toNat∧(kn=false→∀x,N x=true)
theorem VG.len{g:AF}{kn:Bool}(h:VG g kn):g.Ak.length=11:=by
 have:=congrArg List.length h.tk;rw[List.length_map]at this;exact this.trans rfl
theorem VG.tok{g:AF}{kn:Bool}(h:VG g kn){k:Nat}(hk:k<9):∃t,g.Ak[k]?=some t∧t.cls=0∧(MO t=true↔k≠0):=by
 have hl:=h.len;have iX:k<g.Ak.length:=by omega
 refine⟨g.Ak[k],List.getElem?_eq_getElem iX,?_⟩;have e:noC g.Ak[k]=Dr[k]'(by show k<11;omega):=by
  have:=congrArg (fun l=>l[k]?) h.tk;simp only[List.getElem?_map,List.getElem?_eq_getElem iX,Option.map_some,List.getElem?_eq_getElem (show k<Dr.length by show k<11;omega),Option.some.injEq]at this;exact this
 have h1:g.Ak[k].cls=(noC g.Ak[k]).cls:=rfl;have h2:MO g.Ak[k]=MO (noC g.Ak[k]):=rfl;have gg:((List.range 9).all fun k=>match Dr[k]? with|some t=>decide (t.cls=0)&&(MO t==decide (k≠0))|none=>false)=true:=by decide+kernel
 have:=List.all_eq_true.1 gg k (by simpa using hk);rw[List.getElem?_eq_getElem (show k<Dr.length by show k<11;omega)]at this;simp only[Bool.and_eq_true,decide_eq_true_eq,beq_iff_eq]at this;rw[h1,h2,e];exact⟨this.1,by rw[this.2];simp⟩
theorem VG.Ak{g:AF}{kn:Bool}(h:VG g kn):ES g=true:=by
 have h1:=Ob;have hn:g.Ak.map (·.name)=Dr.map (·.name):=by rw[←h.tk,List.map_map];rfl
 simp only[ES,hn,h1.1,Bool.true_and,List.all_eq_true];intro t ht;have hm:noC t∈Dr:=by rw[←h.tk];exact List.mem_map.2 ⟨t,ht,rfl⟩
 have:=List.all_eq_true.1 h1.2 _ hm;simp only[dm,Bool.and_eq_true,decide_eq_true_eq]at this;obtain⟨⟨⟨a1,a2⟩,_⟩,a4⟩:=this;have b1:0≤t.cls:=a1;have b2:t.cls≤2:=a2;have b4:II t=true:=a4;simp[F6,b1,b2,b4,h.tf t ht]
theorem VG.HW{g:AF}{kn:Bool}(h:VG g kn)(h1:g.conds.length≤3)(h2:g.BC.length≤3)(h3:g.AD.length≤100)(h4:g.levels.length≤100)(h5:g.AM.length≤100):DX g=0:=by
 have hl:=h.len;have hL:Dg g=false:=by
  have:g.AD.any Lp=false:=List.any_eq_false.2 fun p hp=>by
   have:=h.sz p hp;simp[Lp];omega
  simp[Dg,this];omega
 simp[DX,hL,C1,h.fam,h.Ak,h.BC,h.pr,h.lv,h.fl,ABI]
theorem VG.okF{g:AF}{kn:Bool}(h:VG g kn)(h1:g.conds.length≤3)(h2:g.BC.length≤3)(h3:g.AD.length≤100)(h4:g.levels.length≤100)(h5:g.AM.length≤100):Koi.okF g:=by
 obtain⟨N,hN,_⟩:=h.ac;exact⟨h.HW h1 h2 h3 h4 h5,hN.none⟩
theorem ACW{g g':AF}(h1:∀p,LX g' p=LX g p)(h2:∀p,Mz g' p=Mz g p){q:AT}(jv:LX g q=true)(jY:Mz g q=true):
  ∀{l:List AT} {L:List ByteArray},AAm g L l=0→FV L q.name=false→(∀p∈l,p.name≠q.name)→AAm g' L (l++[q])=0
 |[],L,_,hn,_=>by simp[AAm,h1,h2,jv,jY,hn]
 |p::l,L,h,hn,dI=>by
  unfold AAm at h;split at h
  ·cases h
  ·next c1=>
   split at h
   ·cases h
   ·next c2=>
    rw[List.cons_append];unfold AAm;rw[h1,h2,if_neg c1,if_neg c2];refine ACW h1 h2 jv jY h ?_ fun x hx=>dI x (by simp[hx]);have:¬(p.name=q.name):=dI p (by simp);simp only[FV,List.any_append,List.any_cons,List.any_nil,Bool.or_false,this,decide_false]at hn⊢;exact hn
theorem ABG{g g':AF}(h1:∀p,LX g' p=LX g p)(h2:∀p,Mz g' p=Mz g p):∀(l:List AT) (L:List ByteArray),AAm g' L l=AAm g L l
 |[],_=>rfl
 |p::l,L=>by simp only[AAm,h1,h2,ABG h1 h2 l]
theorem ABp{N M:Nat}(h:N≤M):∀{l u v:List Int},AAc N u l=some v→AAc M u l=some v
 |[],_,_,e=>e
 |p::l,u,v,e=>by
  unfold AAc at e⊢;split at e
  ·cases e
  ·next hn=>
   simp only[not_or]at hn;rw[if_neg (by simp only[not_or];exact⟨hn.1,by omega,hn.2.2⟩)];exact ABp h e
theorem ACG{N:Nat}:∀{l u v:List Int},AAc N u l=some v→v=u++l
 |[],u,v,e=>by simp only[AAc,Option.some.injEq]at e;simp[e]
 |p::l,u,v,e=>by
  unfold AAc at e;split at e
  ·cases e
  ·have:=ACG e;simp[this]
theorem ACC{N:Nat}:∀{l u:List Int},l.Nodup→(∀p∈l,0≤p∧p<N∧p∉u)→AAc N u l=some (u++l)
 |[],u,_,_=>by simp[AAc]
 |p::l,u,hd,h=>by
  obtain⟨h1,h2,h3⟩:=h p (by simp);unfold AAc;rw[if_neg (by simp only[not_or];exact⟨by omega,by omega,h3⟩),ACC (List.nodup_cons.1 hd).2 fun x hx=>?_]
  ·simp
  ·obtain⟨a1,a2,a3⟩:=h x (by simp[hx]);refine⟨a1,a2,fun hm=>?_⟩;rcases List.mem_append.1 hm with hm|hm
   ·exact a3 hm
   ·simp only[List.mem_singleton]at hm;subst hm;exact(List.nodup_cons.1 hd).1 hx
theorem ABC{g g':AF}(hc:g'.conds=g.conds)(hp:g.AD.length≤g'.AD.length):∀{ls:List Level} {u:List Int},AAv g u ls=true→AAv g' u ls=true
 |[],_,_=>rfl
 |l::ls,u,h=>by
  unfold AAv at h⊢;rw[hc];split at h
  ·next h1=>
   rw[if_pos h1];cases hv:AAc g.AD.length u l.AD with
   |none=>rw[hv]at h;cases h
   |some v=>rw[hv]at h;rw[ABp hp hv];exact ABC hc hp h
  ·cases h
theorem ACh{g:AF}{l:Level}(h1:0≤l.assoc)(h2:l.assoc≤3)(h3:DS l.cond g.conds.length=true)(hd:l.AD.Nodup)(hr:∀p∈l.AD,0≤p∧p<g.AD.length):
  ∀{ls:List Level} {u:List Int},AAv g u ls=true→(∀p∈l.AD,p∉u∧∀x∈ls,p∉x.AD)→AAv g u (ls++[l])=true
 |[],u,_,hn=>by
  have:=ACC (u:=u) hd fun p hp=>⟨(hr p hp).1,(hr p hp).2,(hn p hp).1⟩;simp[AAv,h1,h2,h3,this]
 |a::ls,u,h,hn=>by
  rw[List.cons_append];unfold AAv at h⊢;split at h
  ·next hc=>
   rw[if_pos hc];cases hv:AAc g.AD.length u a.AD with
   |none=>rw[hv]at h;cases h
   |some v=>
    rw[hv]at h;refine ACh h1 h2 h3 hd hr h fun p hp=>⟨fun hm=>?_,fun x hx=>(hn p hp).2 x (by simp[hx])⟩;rw[ACG hv]at hm;rcases List.mem_append.1 hm with hm|hm
    ·exact(hn p hp).1 hm
    ·exact(hn p hp).2 a (by simp) hm
  ·cases h
theorem ABY{g g':AF}(hc:g'.conds=g.conds)(hn:g'.BC=g.BC)(ht:g'.Ak=g.Ak)(hp:∀(i:Nat) p,g.AD[i]?=some p→g'.AD[i]?=some p){f:Filter}(h:GU g f=true):GU g' f=true:=by
 simp only[GU,Bool.and_eq_true]at h⊢;refine⟨?_,h.2⟩;have h1:=h.1;unfold FZ at h1⊢;rw[hc,hn];have uM:∀k l,LM g' k l=LM g k l:=fun k l=>by unfold LM AA8;rw[ht]
 have k9:∀i k,ABR g' i k=ABR g i k:=fun i k=>by unfold ABR;rw[ht]
 simp only[uM,k9];split at h1
 ·next c=>
  rw[if_pos c];simp only[Bool.and_eq_true]at h1⊢;refine⟨h1.1,?_⟩;have h2:=h1.2;unfold ABm at h2⊢;simp only[Bool.and_eq_true]at h2⊢;refine⟨h2.1,?_⟩;have h3:=h2.2;split at h3
  ·next p c e1 e2=>rw[hp _ _ e1,hp _ _ e2];exact h3
  ·cases h3
 ·next c=>
  rw[if_neg c];exact h1
theorem ABy.line{g:AF}{N:Int→Bool}{q:AT}(h:ABy g N Int.toNat)(hq:EC q.right=false→(∀x,N x=true)∧0≤q.left∧∀s∈q.right,q.left<s.index):ABy {g with AD:=g.AD++[q]} N Int.toNat:=by
 refine⟨fun p hp ha hs=>?_,fun p hp j hj ht ha hs=>?_⟩
 ·rcases List.mem_append.1 hp with hp|hp
  ·exact h.1 p hp ha hs
  ·simp only[List.mem_singleton]at hp;subst hp;exact(hq ha).1 _
 ·rcases List.mem_append.1 hp with hp|hp
  ·exact h.2 p hp j hj ht ha hs
  ·simp only[List.mem_singleton]at hp;subst hp;have gg:EC p.right=false:=by
    unfold EC DQ at *;rw[←List.take_append_drop j p.right,List.drop_eq_getElem_cons hj];simp only[List.any_append,List.any_cons,Bool.or_eq_false_iff]at ha⊢;exact⟨ha.1,ht,ha.2⟩
   obtain⟨_,h0,hl⟩:=hq gg;have:=hl _ (List.getElem_mem hj);omega
theorem VG.line{g:AF}{kn:Bool}(h:VG g kn)(hp:g.AD.length<100){q:AT}(hq:AC7 g kn q):VG {g with AD:=g.AD++[q]} kn:=by
 have kJ:LX g q=true:=by
  obtain⟨lf,rT,hle⟩:=hq.left;have h1:ABM g ⟨false,q.left⟩=true:=by simp[ABM,hle,rT]
  simp only[LX,h1,Bool.true_and,List.all_eq_true];intro s hs;rcases hq.syms s hs with⟨ht,k,hk,he⟩|⟨ht,k,hk,he⟩
  ·obtain⟨t,e1,e2,_⟩:=h.tok hk;simp[ABM,ht,he,e1,e2]
  ·simp[ABM,ht,he,hk]
 have ln:Mz g q=true:=by simp[Mz,hq.fits,hq.r1,hq.r2,hq.det]
 have dI:∀p∈g.AD,p.name≠q.name:=fun p jH=>by rw[hq.name];exact h.nm p jH _ (Nat.le_refl _) (by omega)
 have iE:FV [⟨#[]⟩] q.name=false:=by
  rw[hq.name];have h1:(ABv g.AD.length).size=2:=by simp[ABv,Hm]
  have h2:¬((⟨#[]⟩:ByteArray)=ABv g.AD.length):=fun e=>by rw[←e]at h1;simp at h1
  simp[FV,h2]
 refine⟨h.tk,h.tf,h.fam,h.BC,ACW (g:=g) (g':={g with AD:=g.AD++[q]}) (fun _=>rfl) (fun _=>rfl) kJ ln h.pr iE dI,ABC (g:=g) (g':={g with AD:=g.AD++[q]}) rfl (by simp) h.lv,?_,fun p jH=>?_,fun p jH k hk jy=>?_,?_⟩
 ·simp only[FH,List.all_eq_true];intro f hf;refine ABY (g:=g) (g':={g with AD:=g.AD++[q]}) rfl rfl rfl (fun i p e=>?_) (List.all_eq_true.1 h.fl f hf);show(g.AD++[q])[i]?=some p
  rw[List.getElem?_append_left (by have:=List.getElem?_eq_some_iff.1 e;exact this.1)];exact e
 ·rcases List.mem_append.1 jH with jH|jH
  ·exact h.sz p jH
  ·simp only[List.mem_singleton]at jH;subst jH;have:=hq.len;have:=hq.lay;omega
 ·have jN:g.AD.length+1≤k:=by simpa using hk
  rcases List.mem_append.1 jH with jH|jH
  ·exact h.nm p jH k (by omega) jy
  ·simp only[List.mem_singleton]at jH;subst jH;rw[hq.name];intro e;have h1:IntKind.u8.wrap (97+(g.AD.length:Int))=97+(g.AD.length:Int):=by simp[IntKind.wrap,IntKind.signed,IntKind.bits];omega
   have h2:IntKind.u8.wrap (97+(k:Int))=97+(k:Int):=by simp[IntKind.wrap,IntKind.signed,IntKind.bits];omega
   have h3:=congrArg (fun s:ByteArray=>s.data.toList) e;simp only[ABv,Gr,h1,h2,ByteArray.data_append,ByteArray.data_push,Array.toList_append,Array.toList_push]at h3;have h4:UInt8.ofNat (97+(g.AD.length:Int)).toNat=UInt8.ofNat (97+(k:Int)).toNat:=by simpa using h3
   have h5:=congrArg UInt8.toNat h4;simp at h5;omega
 ·obtain⟨N,hN,hk⟩:=h.ac;refine⟨N,hN.line fun ha=>?_,hk⟩;obtain⟨a1,a2⟩:=hq.later ha;obtain⟨lf,_,hle⟩:=hq.left;exact⟨hk a1,by omega,a2⟩
theorem ADI{l l':List Token}(h:l'.map noC=l.map noC)(i:Nat):(l'[i]?=none∧l[i]?=none)∨∃t' t,l'[i]?=some t'∧l[i]?=some t∧noC t'=noC t:=by
 have h1:=congrArg (fun x=>x[i]?) h;simp only[List.getElem?_map]at h1;cases h2:l'[i]? with
 |none=>
  cases h3:l[i]? with
  |none=>exact .inl ⟨rfl,rfl⟩
  |some t=>rw[h2,h3]at h1;cases h1
 |some t'=>
  cases h3:l[i]? with
  |none=>rw[h2,h3]at h1;cases h1
  |some t=>
   rw[h2,h3]at h1;simp only[Option.map_some,Option.some.injEq]at h1;exact .inr ⟨t',t,rfl,rfl,h1⟩
theorem ACk{g:AF}{T:List Token}(hm:T.map noC=g.Ak.map noC)(s:Symbol):ABM {g with Ak:=T} s=ABM g s:=by
 unfold ABM;dsimp only;rcases ADI hm s.index.toNat with⟨e1,e2⟩|⟨t',t,e1,e2,e3⟩
 ·simp only[e1,e2]
 ·have e4:t'.cls=t.cls:=by
   show(noC t').cls=(noC t).cls
   rw[e3]
  simp only[e1,e2,e4]
theorem ADF{g:AF}{T:List Token}(hm:T.map noC=g.Ak.map noC){k:Token→Bool}(hk:∀t,k (noC t)=k t)(l:List Int)(i:Nat):AA8 {g with Ak:=T} k l i=AA8 g k l i:=by
 have hl:T.length=g.Ak.length:=by have:=congrArg List.length hm;simpa using this
 unfold AA8;dsimp only;rw[hl];rcases ADI hm (l.getD i 0).toNat with⟨e1,e2⟩|⟨t',t,e1,e2,e3⟩
 ·simp only[e1,e2]
 ·have e4:k t'=k t:=by rw[←hk t',e3,hk]
  simp only[e1,e2,e4]
theorem ACc{g:AF}{T:List Token}(hm:T.map noC=g.Ak.map noC){k:Token→Bool}(hk:∀t,k (noC t)=k t)(l:List Int):LM {g with Ak:=T} k l=LM g k l:=by
 unfold LM;rw[show AA8 {g with Ak:=T} k l=AA8 g k l from funext (ADF hm hk l)]
theorem ADH{g:AF}{T:List Token}(hm:T.map noC=g.Ak.map noC){k:Token→Bool}(hk:∀t,k (noC t)=k t)(i:Int):ABR {g with Ak:=T} i k=ABR g i k:=by
 unfold ABR;dsimp only;rcases ADI hm i.toNat with⟨e1,e2⟩|⟨t',t,e1,e2,e3⟩
 ·simp only[e1,e2]
 ·have e4:k t'=k t:=by rw[←hk t',e3,hk]
  simp only[e1,e2,e4]
theorem ADm{g:AF}{kn:Bool}(h:VG g kn){f:Filter}(hf:FlQ g f):GU g f=true:=by
 obtain⟨d,hd,hf⟩:=hf;rcases hf with⟨A,C,B,k,hk,hA,hB,hp,rfl⟩|⟨l,t,k,hk,hl,ht,rfl⟩|rfl
 ·have kr:ABm g ⟨k,A,C,B,0,0,[],d⟩=true:=by
   have e1:g.AD.getD A F1=g.AD[A]:=by simp[List.getD,hA]
   have e2:g.AD.getD B F1=g.AD[B]:=by simp[List.getD,hB]
   unfold Ls at hp;rw[e1,e2]at hp;simp only[Bool.and_eq_true,Bool.not_eq_true',decide_eq_true_eq]at hp;have hC:C<(g.AD[A]).right.length:=by
    refine Classical.byContradiction fun hn=>?_;have:(g.AD[A]).right.getD C ⟨true,0⟩=⟨true,0⟩:=by rw[List.getD_eq_getElem?_getD,List.getElem?_eq_none (by omega)];rfl
    rw[this]at hp;simp at hp
   have e3:(g.AD[A]).right.getD C ⟨true,0⟩=(g.AD[A]).right[C]:=by simp[List.getD,hC]
   rw[e3]at hp;have hs:(g.AD[A]).right[C]=⟨false,(g.AD[B]).left⟩:=by
    generalize(g.AD[A]).right[C]=y at hp;cases y;simp only at hp;rw[hp.1,hp.2]
   unfold ABm;simp only[Int.toNat_natCast,List.getElem?_eq_getElem hA,List.getElem?_eq_getElem hB,List.getElem?_eq_getElem hC,hs];simp
  rcases hk with rfl|rfl<;>simp[GU,FZ,hd,kr,D8,Og]
 ·obtain⟨x,e1,e2,_⟩:=h.tok ht;have uN:=h.len;have ha:LM g My [(t:Int)]=true:=by simp[LM,AA8,List.range_succ,e1,My,e2];omega
  rcases hk with rfl|rfl<;>simp[GU,FZ,hd,ha,D8,Og,hl]
 ·obtain⟨x,e1,e2,e3⟩:=h.tok (k:=5) (by omega);obtain⟨y,f1,f2,f3⟩:=h.tok (k:=0) (by omega);have uN:=h.len;have xn:MO x=true:=e3.2 (by omega);have xo:MO y=false:=by cases hh:MO y with|false=>rfl|true=>exact absurd rfl (f3.1 hh)
  have ha:LM g MO [(5:Int)]=true:=by simp[LM,AA8,List.range_succ,e1,xn];omega
  have hb:ABR g 0 (fun t=>My t&&!MO t)=true:=by simp[ABR,f1,My,f2,xo]
  simp[GU,FZ,hd,ha,hb,D8,Og]
theorem VG.AEr{g F:AF}{kn:Bool}(h:VG g kn)(hF:Gg g F):VG F kn:=by
 rcases hF with rfl|⟨l,hl,rfl⟩|⟨f,hf,rfl⟩|⟨t,ht,rfl⟩
 ·exact h
 ·obtain⟨l0,l1,l2,l3,l4,l5⟩:=hl;refine⟨h.tk,h.tf,h.fam,h.BC,(ABG (g:=g) (g':={g with levels:=g.levels++[l]}) (fun _=>rfl) (fun _=>rfl) _ _).trans h.pr,?_,?_,h.sz,h.nm,h.ac⟩
  ·refine ABC (g:=g) (g':={g with levels:=g.levels++[l]}) rfl (Nat.le_refl _) (ACh l1 l2 l3 l4 (fun p hp=>⟨(l5 p hp).1,(l5 p hp).2.1⟩) h.lv fun p hp=>⟨by simp,fun x hx hm=>?_⟩);have:=List.any_eq_false.1 (l5 p hp).2.2 x hx;simp[hm]at this
  ·simp only[FH,List.all_eq_true];exact fun f hf=>ABY (g:=g) (g':={g with levels:=g.levels++[l]}) rfl rfl rfl (fun _ _ e=>e) (List.all_eq_true.1 h.fl f hf)
 ·refine⟨h.tk,h.tf,h.fam,h.BC,(ABG (g:=g) (g':={g with AM:=g.AM++[f]}) (fun _=>rfl) (fun _=>rfl) _ _).trans h.pr,ABC (g:=g) (g':={g with AM:=g.AM++[f]}) rfl (Nat.le_refl _) h.lv,?_,h.sz,h.nm,h.ac⟩;simp only[FH,List.all_eq_true];intro x hx;refine ABY (g:=g) (g':={g with AM:=g.AM++[f]}) rfl rfl rfl (fun _ _ e=>e) ?_;rcases List.mem_append.1 hx with hx|hx
  ·exact List.all_eq_true.1 h.fl x hx
  ·simp only[List.mem_singleton]at hx;subst hx;exact ADm h hf
 ·obtain⟨e,d,hd,lE,rfl⟩:=ht;have hm:(g.Ak.set e {g.Ak[e]with cond:=d}).map noC=g.Ak.map noC:=by
   rw[List.map_set];apply List.ext_getElem (by simp);intro i h1 h2;rw[List.getElem_set];split
   ·next he=>subst he;simp[noC]
   ·rfl
  generalize hT:g.Ak.set e {g.Ak[e]with cond:=d}=T at *;have kK:∀p,LX {g with Ak:=T} p=LX g p:=fun p=>by
   unfold LX;rw[ACk hm,show ABM {g with Ak:=T}=ABM g from funext (ACk hm)]
  refine⟨hm.trans h.tk,fun t ht=>?_,h.fam,h.BC,(ABG (g:=g) (g':={g with Ak:=T}) kK (fun _=>rfl) _ _).trans h.pr,ABC (g:=g) (g':={g with Ak:=T}) rfl (Nat.le_refl _) h.lv,?_,h.sz,h.nm,h.ac⟩
  ·rw[←hT]at ht;rcases List.mem_or_eq_of_mem_set ht with ht|rfl
   ·exact h.tf t ht
   ·exact hd
  ·simp only[FH,List.all_eq_true];intro f hf;have h1:=List.all_eq_true.1 h.fl f hf;simp only[GU,Bool.and_eq_true]at h1⊢;refine⟨?_,h1.2⟩;have:=h1.1;unfold FZ at this⊢;rw[ACc hm (k:=My) (fun _=>rfl),ACc hm (k:=MO) (fun _=>rfl),ADH hm (fun _=>rfl)];exact this
theorem VG.AEJ{g:AF}{kn:Bool}(h:VG g kn){d:AN}(hd:DS d g.conds.length=true)(hr:d.root≠0):VG {g with fam:=d} kn:=by
 refine⟨h.tk,h.tf,?_,h.BC,(ABG (g:=g) (g':={g with fam:=d}) (fun _=>rfl) (fun _=>rfl) _ _).trans h.pr,ABC (g:=g) (g':={g with fam:=d}) rfl (Nat.le_refl _) h.lv,?_,h.sz,h.nm,h.ac⟩
 ·have:=h.fam;simp only[FY,Bool.and_eq_true]at this⊢;exact⟨⟨this.1.1,hd⟩,by simp[hr]⟩
 ·simp only[FH,List.all_eq_true];exact fun f hf=>ABY (g:=g) (g':={g with fam:=d}) rfl rfl rfl (fun _ _ e=>e) (List.all_eq_true.1 h.fl f hf)
def ACu(g:AF):List ByteArray→List AT→Bool
 |_,[]=>true
 |L,p::l=>LX g p&&(!FV L p.name&&(ADE p.cond g.conds.length&&(decide (-1≤p.Di)&&(decide (p.Di≤1)&&(ABW p&&ACu g (L++[p.name]) l)))))
theorem ACg(g:AF):∀(l:List AT) (L:List ByteArray),ACu g L l=true→AAm g L l=0
 |[],_,_=>rfl
 |p::l,L,h=>by
  simp only[ACu,Bool.and_eq_true,decide_eq_true_eq,Bool.not_eq_true']at h;obtain⟨h1,h2,h3,h4,h5,h6,h7⟩:=h;have h8:Mz g p=true:=by simp[Mz,AB0 h3,h4,h5,h6]
  simp[AAm,h1,h2,h8,ACg g l _ h7]
def ADP(g:AF):List Int→List Level→Bool
 |_,[]=>true
 |u,l::ls=>decide (0≤l.assoc)&&(decide (l.assoc≤3)&&(ADE l.cond g.conds.length&&(match AAc g.AD.length u l.AD with|none=>false|some v=>ADP g v ls)))
theorem AC2(g:AF):∀(l:List Level) (u:List Int),ADP g u l=true→AAv g u l=true
 |[],_,_=>rfl
 |l::ls,u,h=>by
  simp only[ADP,Bool.and_eq_true,decide_eq_true_eq]at h;obtain⟨h1,h2,h3,h4⟩:=h;unfold AAv;rw[if_pos (by simp[h1,h2,AB0 h3])];cases hv:AAc g.AD.length u l.AD with
  |none=>rw[hv]at h4;cases h4
  |some v=>rw[hv]at h4;exact AC2 g ls v h4
def AD4(g:AF)(f:Filter):Bool:=
 ADE f.cond g.conds.length&&(if f.kind=1∨f.kind=2 then ABm g f
 else if f.kind=3∨f.kind=4 then decide (0≤f.left)&&decide (f.left<g.BC.length)&&LM g My f.tokens
 else if f.kind=5 then LM g MO f.tokens&&ABR g f.token (fun t=>My t&&!MO t)
 else false)
theorem AD9{g:AF}{f:Filter}(h:AD4 g f=true):FZ g f=true:=by
 simp only[AD4,Bool.and_eq_true]at h;obtain⟨h1,h2⟩:=h;unfold FZ;rw[AB0 h1];simpa using h2
def acB(g:AF)(N:Int→Bool):Bool:=g.AD.all fun p=>(EC p.right||(!(p.right.all fun s=>N s.index)||N p.left))&&
 (List.range p.right.length).all fun j=>(p.right.getD j ⟨true,0⟩).token||(EC (DQ p.right j)||(!((DQ p.right j).all fun s=>N s.index)||decide (p.left.toNat<(p.right.getD j ⟨true,0⟩).index.toNat)))
theorem AEw{g:AF}{N:Int→Bool}(h:acB g N=true):ABy g N Int.toNat:=by
 refine⟨fun p hp ha hs=>?_,fun p hp j hj ht ha hs=>?_⟩
 ·have:=List.all_eq_true.1 h p hp;simp only[Bool.and_eq_true,Bool.or_eq_true,ha,Bool.false_eq_true,false_or,List.all_eq_true.2 hs,Bool.not_true]at this;exact this.1
 ·have h0:=List.all_eq_true.1 h p hp;simp only[Bool.and_eq_true]at h0;have:=List.all_eq_true.1 h0.2 j (by simpa using hj);have e:p.right.getD j ⟨true,0⟩=p.right[j]:=by simp[List.getD,hj]
  rw[e]at this;simp only[Bool.or_eq_true,ht,ha,Bool.false_eq_true,false_or,List.all_eq_true.2 hs,Bool.not_true,decide_eq_true_eq]at this;exact this
noncomputable def vgB(g:AF)(N:Int→Bool):Bool:=g.conds.all Dz&&(AAl [⟨#[]⟩] g.conds&&(IY g&&(ACu g [⟨#[]⟩] g.AD&&(ADP g [] g.levels&&((g.AM.all fun f=>AD4 g f&&Og (D8 f))&&
 ((g.AD.all fun p=>decide (p.right.length≤16)&&decide (p.layout.length≤16))&&((g.AD.all fun p=>(List.range 120).all fun k=>decide (k<g.AD.length)||decide (p.name≠ABv k))&&acB g N)))))))
theorem ABr{g:AF}{N:Int→Bool}{kn:Bool}(ht:g.Ak=Dr)(hf:g.fam=Cn)(hN:kn=false→∀x,N x=true)(h:vgB g N=true):VG g kn:=by
 simp only[vgB,Bool.and_eq_true]at h;obtain⟨h1,h2,h3,h4,h5,h6,h7,h8,h9⟩:=h;have vR:∀t∈g.Ak,t.cond=Cn:=fun t hm=>by
  rw[ht]at hm;have:=List.all_eq_true.1 Ob.2 t hm;simp only[dm,Bool.and_eq_true,decide_eq_true_eq]at this;exact this.1.2
 refine⟨?_,fun t hm=>O6 (.inl (vR t hm)) _,?_,h3,ACg g _ _ h4,AC2 g _ _ h5,?_,fun p hp=>?_,fun p hp k hk jy=>?_,N,AEw h9,hN⟩
 ·have:g.Ak.map noC=g.Ak.map id:=List.map_congr_left fun t hm=>by
   have:=vR t hm;cases t;simp only at this;subst this;rfl
  rw[this,List.map_id,ht]
 ·simp only[FY,h1,h2,hf,O6 (.inl rfl)];rfl
 ·simp only[FH,List.all_eq_true];intro f hm;have:=List.all_eq_true.1 h6 f hm;simp only[Bool.and_eq_true]at this;simp[GU,AD9 this.1,this.2]
 ·have:=List.all_eq_true.1 h7 p hp;simpa using this
 ·have:=List.all_eq_true.1 (List.all_eq_true.1 h8 p hp) k (by simpa using jy);simp only[Bool.or_eq_true,decide_eq_true_eq]at this;exact this.resolve_left (by omega)
def nKn(r:Nat)(x:Int):Bool:=match r with|2=>decide (x=0)|4=>decide (x=2)|5=>decide (1≤x)|_=>false
theorem ADw(r:Nat):VG (Ml r) true:=by
 have hN:∀r,(true=false→∀x,nKn r x=true):=fun _ h=>by cases h
 match r with
 |0=>exact ABr rfl rfl (hN 0) (by decide+kernel)
 |1=>exact ABr rfl rfl (hN 1) (by decide+kernel)
 |2=>exact ABr rfl rfl (hN 2) (by decide+kernel)
 |3=>exact ABr rfl rfl (hN 3) (by decide+kernel)
 |4=>exact ABr rfl rfl (hN 4) (by decide+kernel)
 |r+5=>exact ABr (g:=OU) rfl rfl (hN 5) (by decide+kernel)
theorem AD2:((List.range 3).all fun m=>(List.range 4).all fun c=>vgB (Kx m c) fun _=>true)=true:=by decide+kernel
theorem AEV(m c:Nat)(hm:m<3)(hc:c<4):VG (Kx m c) false:=by
 have h:=AD2;simp only[List.all_eq_true,List.mem_range]at h;exact ABr rfl rfl (fun _ _=>rfl) (h m hm c hc)
structure Sh(g:AF):Prop where
 n:∀s∈g.BC,s.size≤8
 c:∀s∈g.conds,s.size≤8
 p:∀p∈g.AD,p.name.size≤8
def shB(g:AF):Bool:=g.BC.all (fun s=>decide (s.size≤8))&&(g.conds.all (fun s=>decide (s.size≤8))&&g.AD.all fun p=>decide (p.name.size≤8))
theorem ABq{g:AF}(h:shB g=true):Sh g:=by
 simp only[shB,Bool.and_eq_true,List.all_eq_true,decide_eq_true_eq]at h;exact⟨h.1,h.2.1,h.2.2⟩
theorem ADt(r:Nat):Sh (Ml r):=by
 match r with
 |0=>exact ABq (by decide+kernel)
 |1=>exact ABq (by decide+kernel)
 |2=>exact ABq (by decide+kernel)
 |3=>exact ABq (by decide+kernel)
 |4=>exact ABq (by decide+kernel)
 |r+5=>exact ABq (g:=OU) (by decide+kernel)
theorem AEs:((List.range 3).all fun m=>(List.range 4).all fun c=>shB (Kx m c))=true:=by decide+kernel
theorem AEW(m c:Nat)(hm:m<3)(hc:c<4):Sh (Kx m c):=by
 have h:=AEs;simp only[List.all_eq_true,List.mem_range]at h;exact ABq (h m hm c hc)
theorem Sh.line{g:AF}{kn:Bool}(h:Sh g){q:AT}(hq:AC7 g kn q):Sh {g with AD:=g.AD++[q]}:=by
 refine⟨h.n,h.c,fun p hp=>?_⟩;rcases List.mem_append.1 hp with hp|hp
 ·exact h.p p hp
 ·simp only[List.mem_singleton]at hp;subst hp;rw[hq.name];have:(ABv g.AD.length).size=2:=by simp[ABv,Hm]
  omega
theorem Sh.AEr{g F:AF}(h:Sh g)(hF:Gg g F):Sh F:=by
 rcases hF with rfl|⟨l,_,rfl⟩|⟨f,_,rfl⟩|⟨t,_,rfl⟩
 ·exact h
 ·exact⟨h.n,h.c,h.p⟩
 ·exact⟨h.n,h.c,h.p⟩
 ·exact⟨h.n,h.c,h.p⟩
open Go.Proofs Tryz
structure MGk(g:AF)(kn:Bool)(p l:Nat):Prop extends MG g p l where
 vg:VG g kn
 sh:Sh g
def PO(x:Raw)(g:AF):Sg:=[.row true 5 [.d (En x)],.row true 9 [Gc],.row true 9 [.d (AB g)]]
theorem AD3(x:Raw):At prog 5 [.d (En x)] [] (Ph fun g=>∃kn,MGk g kn 10 6):=by
 refine At.AI func5 (by kernel_rfl) rfl (by simp) fun wf _=>?_;have hb:x.base<256:=by have:=wf.1;simp[WFV,WFD,AAY,rng]at this;omega
 have hn:x.n<256:=by have:=wf.1;simp[WFV,WFD,AAY,rng]at this;omega
 have k8:∀k∈x.fam,k<256:=by
  have:=wf.1;simp[WFV,WFD,AAY,DM,rng]at this;intro k hk;have:=this.2.2.1.2 k hk;omega
 have uO:∀y∈x.lines,y.DV<256∧y.mark<256:=by
  have:=wf.1;simp[WFV,WFD,AAY,DM,rng]at this;intro k hk;have:=this.2.2.2.1.2 k hk;omega
 have uP:∀y∈x.rules,y.kind<256∧y.a<256∧y.b<256∧y.c<256∧y.DV<256:=by
  have:=wf.1;simp[WFV,WFD,AAY,DM,rng]at this;intro k hk;have:=this.2.2.2.2.2 k hk;omega
 have py:x.lines.length≤maxLen:=by have:=wf.1;simp[WFV,WFD,AAY]at this;exact this.2.2.2.1.1
 have iH:x.rules.length≤maxLen:=by have:=wf.1;simp[WFV,WFD,AAY]at this;exact this.2.2.2.2.1
 have jh:x.fam.length≤maxLen:=by have:=wf.1;simp[WFV,WFD,AAY]at this;exact this.2.2.1.1
 clear wf;obtain⟨b8,ry⟩:∃b8,x.base % 8=b8:=⟨_,rfl⟩;have q1:((x.base:Int).tmod 8)=b8:=by rw[Int.tmod_eq_emod_of_nonneg (by omega),←ry];simp
 have q1':(x.base:Int) % 8=b8:=by omega
 have ko:=WL b8 (by omega);have vS:MGk (Ml (b8 % 6)) true 0 0:=⟨Ur _,ADw _,ADt _⟩;rw[ntmps5];refine xW fun K hK=>?_;simp;apply hK;refine xW fun K hK=>?_;simp[q1];apply hK;refine Az fun K hK=>?_;refine xJ ?_;simp[q1];refine Bp (ko) rfl (by simp) ?_;simp;refine xJ ?_;simp;refine Aj (hK _ _ ?_);(repeat refine xS ?_);refine xV fun K hK=>?_;simp;refine hK _ _ ?_;(try simp only[xQ,reduceIte]);generalize Ml (b8 % 6)=g0 at *;refine AW.Ew (R:=fun tm S=>tm 1=.ptr 0 1 0 0∧tm 2=.ptr 1 1 0 0∧tm 4=.ptr 2 1 0 0∧(∃m:Nat,m≤10∧tm 5=.d (.int .i64 m))∧∃k,tm 3=.d (.bool k)∧∃g,MGk g k 0 0∧S=PO x g) ?_ ?_
 ·(repeat refine xS ?_);refine xV fun K hK=>?_;simp;refine hK _ _ ?_;(try simp only[xQ,reduceIte]);by_cases h6:b8<6
  ·have uQ:(b8:Int)<6:=by omega
   refine AU ?_;simp[uQ];refine CC ?_;refine⟨_,_,AJ.refl,?_⟩;simp;exact⟨⟨6,by omega,rfl⟩,g0,by simpa[h6]using vS,rfl⟩
  ·have uQ:¬(b8:Int)<6:=by omega
   obtain⟨n4,yu⟩:∃n4,x.n / 4=n4:=⟨_,rfl⟩;obtain⟨m,hm⟩:∃m,n4 % 3=m:=⟨_,rfl⟩;obtain⟨c,hc⟩:∃c,x.n % 4=c:=⟨_,rfl⟩;have r1:((x.n:Int).tdiv 4)=n4:=by rw[Int.tdiv_eq_ediv_of_nonneg (by omega)];omega
   have r1':(x.n:Int) / 4=n4:=by omega
   have r2:IntKind.u8.wrap (n4:Int)=n4:=by simp[IntKind.wrap,IntKind.signed,IntKind.bits];omega
   have r3:IntKind.i64.wrap (n4:Int)=n4:=by rw[IntKind.wrap_i64];omega
   have r4:((n4:Int).tmod 3)=m:=by rw[Int.tmod_eq_emod_of_nonneg (by omega),←hm];simp
   have r4':(n4:Int) % 3=m:=by omega
   obtain⟨m1,mh⟩:∃m1,1+m=m1:=⟨_,rfl⟩;have r5:IntKind.i64.wrap ((1:Int)+m)=m1:=by rw[IntKind.wrap_i64];omega
   have r6:((x.n:Int).tmod 4)=c:=by rw[Int.tmod_eq_emod_of_nonneg (by omega),←hc];simp
   have r6':(x.n:Int) % 4=c:=by omega
   have r7:IntKind.i64.wrap (c:Int)=c:=by rw[IntKind.wrap_i64];omega
   have s1:(m1:Int)≤3:=by omega
   have s2:(c:Int)≤3:=by omega
   have iP:=(Fa ([⟨#[83]⟩,⟨#[80]⟩,⟨#[81]⟩].take m1));have qA:MGk (Kx m c) false 0 0:=⟨Ya m c (by omega) (by omega),AEV m c (by omega) (by omega),AEW m c (by omega) (by omega)⟩;unfold Kx at qA;rw[mh]at qA;refine AU ?_;simp[uQ];refine Az fun K hK=>?_;refine xJ ?_;simp[maxLen,r1,r2,r3,r4,r5,s1];refine xF (iP) [] rfl ?_;simp[maxLen];refine xJ ?_;simp[Ft];refine Aj (hK _ _ ?_);refine xW fun K hK=>?_;simp[maxLen,r6,r7,s2];apply hK;refine xD [0,2,4,6,8,10,13,14,17] (by kernel_rfl) fun K hK=>?_;simp;refine xA 1 ?_;simp;refine Bj (Cp 0) rfl (by simp[maxLen,xN]) ?_;simp;refine xA 1 ?_;simp[maxLen];refine Bj (BU ⟨#[102,105,114,115,116]⟩ 0 [⟨true,0⟩]) rfl (by simp[maxLen,xN]) ?_;simp;refine xA 1 ?_;simp[maxLen];refine xX 19 (by kernel_rfl) ?_;simp[AR,Al,maxLen,Af];refine xA 1 ?_;simp;refine xX 15 (by kernel_rfl) ?_;simp[AR,Al,maxLen];refine xM (hK _ _ ?_);refine xV fun K hK=>?_;simp;apply hK;refine⟨_,_,((AJ.B6 3 (xs:=[AH Kt]) rfl (by simp[AAi,asD,Kt,Cn,Av])).trans (AJ.A2 2 (xs:=[AB ⟨[⟨#[65]⟩,⟨#[66]⟩,⟨#[67]⟩].take c,Cn,Dr,[⟨#[83]⟩,⟨#[80]⟩,⟨#[81]⟩].take m1,[Kt],0,[],[]⟩]) rfl ?_)).trans (AJ.AY 3 (S':=PO x ⟨[⟨#[65]⟩,⟨#[66]⟩,⟨#[67]⟩].take c,Cn,Dr,[⟨#[83]⟩,⟨#[80]⟩,⟨#[81]⟩].take m1,[Kt],0,[],[]⟩) ?_ (by simp) (by simp) (by simp)),?_⟩
   ·simp[AAi,AA0,AAn,AB,Cn,List.map_take]
   ·simp[PO,Gc]
   ·simp[clean,AAB];exact⟨⟨10,by omega,rfl⟩,_,by simpa[h6]using qA,rfl⟩
 ·rintro tm S ⟨t1,t2,t4,⟨most,vU,t5⟩,kn,t3,g,hg,rfl⟩;unfold PO;clear vS;obtain⟨d,hd⟩:=RB x.fam k8 g.conds.length hg.c1;have qR:=NN _ g.conds.length (by have:=hg.c1;omega) d hd;unfold Hj at qR;simp only[List.map_map]at qR;refine Az fun K hK=>?_;refine xJ ?_;simp[t1,t4];refine Bp (qR) rfl (by simp[xN]) ?_;simp;refine xJ ?_;simp;refine Aj (hK _ _ ?_);refine AW.Ew (R:=fun tm S=>tm 1=.ptr 0 1 0 0∧tm 2=.ptr 1 1 0 0∧tm 3=.d (.bool kn)∧tm 4=.ptr 2 1 0 0∧tm 5=.d (.int .i64 most)∧∃g,MGk g kn 0 0∧S=PO x g) ?_ ?_
  ·by_cases hf:0<x.fam.length
   ·have mc:x.fam≠[]:=by intro e;simp[e]at hf
    (repeat refine xS ?_);refine BX fun K hK=>?_;refine xH ?_;simp[t1,hf];refine Aj (hK _ _ ?_);(try simp only[xQ,reduceIte]);by_cases hr:d.root=0
    ·refine AU ?_;simp[hr];refine CC ?_;refine⟨_,_,AJ.AY 3 (S':=PO x g) rfl (by simp) (by simp) (by simp[Gc,AAB,AAI]),?_⟩;simp[clean,AAB,t1,t2,t3,t4,t5];exact⟨g,hg,rfl⟩
    ·refine AU ?_;simp[hr];refine xV fun K hK=>?_;simp[t4];apply hK;refine⟨_,_,(AJ.A2 2 (xs:=[AB {g with fam:=d}]) rfl (by simp[AAi,AA0,AAn,AB])).trans (AJ.AY 3 (S':=PO x {g with fam:=d}) rfl (by simp) (by simp) (by simp[Gc,AAB,AAI])),?_⟩;simp[clean,AAB,t1,t2,t3,t4,t5];exact⟨{g with fam:=d},⟨⟨hg.c1,hg.n0,hg.n1,hg.t1,hg.o1,hg.p0,hg.p1,hg.l1,hg.l2,hg.f1⟩,hg.vg.AEJ (ADS x.fam k8 _ hg.c1 hd) hr,⟨hg.sh.n,hg.sh.c,hg.sh.p⟩⟩,rfl⟩
   ·have mc:x.fam=[]:=by cases h:x.fam with|nil=>rfl|cons a l=>simp[h]at hf
    refine Az fun K hK=>?_;refine xH ?_;simp[t1,mc];refine Aj (hK _ _ ?_);refine AU ?_;simp;refine CC ?_;refine⟨_,_,AJ.AY 3 (S':=PO x g) rfl (by simp) (by simp) (by simp[Gc,AAB,AAI]),?_⟩;simp[clean,AAB,t1,t2,t3,t4,t5];exact⟨g,hg,rfl⟩
  rintro tm S ⟨t1,t2,t3,t4,t5,g1,o9,rfl⟩;clear qR hd hg ko;obtain⟨N,hN⟩:∃N,min x.lines.length most=N:=⟨_,rfl⟩;obtain⟨M,hM⟩:∃M,min x.rules.length 6=M:=⟨_,rfl⟩;refine AW.El (R:=fun tm S=>tm 1=.ptr 0 1 0 0∧tm 2=.ptr 1 1 0 0∧tm 4=.ptr 2 1 0 0∧∃g,MGk g kn N 0∧S=PO x g) ?_ ?_
  ·refine xW fun K hK=>?_;simp;apply hK;refine Bw ?_;refine DC N (fun i tm S=>tm 1=.ptr 0 1 0 0∧tm 2=.ptr 1 1 0 0∧tm 3=.d (.bool kn)∧tm 4=.ptr 2 1 0 0∧tm 5=.d (.int .i64 most)∧tm 7=.d (.int .i64 i)∧∃g,MGk g kn i 0∧S=PO x g) (Nat.zero_le _) ⟨by simp[t1],by simp[t2],by simp[t3],by simp[t4],by simp[t5],by simp,g1,o9,rfl⟩ ?_;rintro i tm S hi ⟨t1,t2,t3,t4,t5,t7,g,hg,rfl⟩;unfold PO;refine xS (xW fun K hK=>?_);simp[t1,t5,t7];apply hK;(repeat refine xS ?_);refine AW.BD (t:=decide (i<x.lines.length)&&decide (i<most)) ?_ (fun hb=>?_) (fun hb=>?_)
   ·simp
   ·simp only[Bool.and_eq_true,decide_eq_true_eq]at hb;obtain⟨cx,xp⟩:=hb;have mz:=uO _ (List.getElem_mem cx);generalize hy:x.lines[i]=y at *;obtain⟨F,hF,hp⟩:=LF g y kn ⟨hg.n0,hg.n1⟩ hg.c1 (by have:=hg.p1;omega) mz.1 mz.2;have hF2:MGk F kn (i+1) 0:=⟨XO hg.toMG hF,by rcases hF with rfl|⟨q,hq,rfl⟩;exact hg.vg;exact hg.vg.line (by have:=hg.p1;omega) hq,by rcases hF with rfl|⟨q,hq,rfl⟩;exact hg.sh;exact hg.sh.line hq⟩;have ji:IntKind.i64.wrap ((i:Int)+1)=(i+1:Nat):=by rw[IntKind.wrap_i64];omega
    refine xK ?_;refine xB ?_;refine xE [0,2,4,6,8,10,12,14,17] (by kernel_rfl) fun K hK=>?_;simp;refine xA 0 ?_;simp[t1,t3,t4,t7,cx,hy];refine Ae.CA (hp) rfl (by simp[CY,xN]) ?_;simp;refine xA 0 ?_;simp;refine xX 255 (by kernel_rfl) ?_;simp[t4];refine xM (hK _ _ ?_);refine xV fun K hK=>?_;simp[t7,ji];apply hK;refine⟨by omega,_,_,AJ.refl,?_⟩;simp[t1,t2,t3,t4,t5];exact⟨F,hF2,rfl⟩
   ·have e:i=N:=by simp at hb;omega
    subst e;refine Cu ?_;simp[t1,t2,t4];exact⟨g,hg,rfl⟩
  rintro tm S ⟨t1,t2,t4,g2,tD,rfl⟩;refine AW.El (R:=fun tm S=>tm 2=.ptr 1 1 0 0∧tm 4=.ptr 2 1 0 0∧∃g,MGk g kn N M∧S=PO x g) ?_ ?_
  ·refine xW fun K hK=>?_;simp;apply hK;refine Bw ?_;refine DC M (fun i tm S=>tm 1=.ptr 0 1 0 0∧tm 2=.ptr 1 1 0 0∧tm 4=.ptr 2 1 0 0∧tm 8=.d (.int .i64 i)∧∃g,MGk g kn N i∧S=PO x g) (Nat.zero_le _) ⟨by simp[t1],by simp[t2],by simp[t4],by simp,g2,tD,rfl⟩ ?_;rintro i tm S hi ⟨t1,t2,t4,t8,g,hg,rfl⟩;unfold PO;refine xS (xW fun K hK=>?_);simp[t1,t8];apply hK;(repeat refine xS ?_);refine AW.BD (t:=decide (i<x.rules.length)&&decide (i<6)) ?_ (fun hb=>?_) (fun hb=>?_)
   ·simp;rw[Bool.eq_iff_iff];simp;omega
   ·simp only[Bool.and_eq_true,decide_eq_true_eq]at hb;obtain⟨cx,xp⟩:=hb;have mz:=uP _ (List.getElem_mem cx);generalize hy:x.rules[i]=y at *;have xq:Fk g y:=⟨hg.p0,by have:=hg.p1;omega,hg.n0,by have:=hg.n1;omega,hg.c1,hg.t1,by have:=hg.l1;omega,fun l hl=>by have:=hg.l2 l hl;omega,by have:=hg.f1;omega,mz.1,mz.2.1,mz.2.2.1,mz.2.2.2.1,mz.2.2.2.2⟩;obtain⟨F,hF,hp⟩:=OE g y xq;have hF2:MGk F kn N (i+1):=⟨YP hg.toMG hF,hg.vg.AEr hF,hg.sh.AEr hF⟩;have ji:IntKind.i64.wrap ((i:Int)+1)=(i+1:Nat):=by rw[IntKind.wrap_i64];omega
    refine xK ?_;refine xB ?_;refine xE [0,2,4,6,8,10,12,15] (by kernel_rfl) fun K hK=>?_;simp;refine xA 0 ?_;simp[t1,t4,t8,cx,hy];refine Ae.CA (hp) rfl (by simp[Bt,xN]) ?_;simp;refine xA 0 ?_;simp;refine xX 127 (by kernel_rfl) ?_;simp[t4];refine xM (hK _ _ ?_);refine xV fun K hK=>?_;simp[t8,ji];apply hK;refine⟨by omega,_,_,AJ.refl,?_⟩;simp[t1,t2,t4];exact⟨F,hF2,rfl⟩
   ·have e:i=M:=by simp at hb;omega
    subst e;refine Cu ?_;simp[t2,t4];exact⟨g,hg,rfl⟩
  rintro tm S ⟨t2,t4,g,hg,rfl⟩;unfold PO;refine xW fun K hK=>?_;simp[t2,t4,Gc];apply hK;refine Ag ?_;(try simp only[xQ,reduceIte]);refine⟨_,_,AJ.refl,by simp[t2],_,_,⟨rfl,g,rfl,kn,⟨hg.c1,hg.n0,hg.n1,hg.t1,hg.o1,hg.p0,by have:=hg.p1;omega,by have:=hg.l1;omega,hg.l2,by have:=hg.f1;omega⟩,hg.vg,hg.sh⟩,.inl ⟨AB g,_,by simp[t2],rfl,AJ.AY 0 rfl (by simp) (by simp) (by simp)⟩⟩
theorem MGk.okF{g:AF}{kn:Bool}(h:MGk g kn 10 6):Koi.okF g:=
 h.vg.okF h.c1 h.n1 (by have:=h.p1;omega) (by have:=h.l1;omega) (by have:=h.f1;omega)
open Go.Proofs Tryz
def Ji(p:ByteArray)(k:Nat):ByteArray:=p++Gr (IntKind.u8.wrap (97+(k % 20:Nat)))
theorem Fs(p:ByteArray)(k:Nat)(hk:k<256)(hp:p.size≤100):Pure prog 21 [.str p,.int .u8 k] (.str (Ji p k)):=by
 obtain⟨m,hm⟩:∃m,k % 20=m:=⟨_,rfl⟩;unfold Ji;rw[hm];have q:((k:Int).tmod 20)=m:=by rw[Int.tmod_eq_emod_of_nonneg (by omega),←hm];simp
 have q':(k:Int) % 20=m:=by omega
 have uD:prog.underlying 9=some .string:=by kernel_rfl
 have gp:p.size+1≤maxLen:=by unfold maxLen;omega
 refine Pure.AI func21 (by kernel_rfl) rfl (by simp) fun wf=>?_;rw[ntmps21];refine xW fun K hK=>?_;simp[maxLen];apply hK;(repeat refine xS ?_);refine BX fun K hK=>?_;(repeat(refine B7 ?_ ?_;(·simp[maxLen]);simp[q,maxLen]));refine AS.KJ 5 (IntKind.u8.wrap (97+m)) rfl (by simp) uD ?_;simp;refine xJ ?_;simp[Hm,gp];refine Aj (hK _ _ ?_);(try simp only[xQ,reduceIte]);refine Ag ⟨_,_,AJ.refl,?_⟩;try simp
def Ey(g:AF)(i:Nat):List Int:=((List.range i).filter fun j=>decide ((g.Ak.map (·.cls)).getD j 1=0)).map fun(j:Nat)=>(j:Int)
theorem Pu(g:AF)(i:Nat):Ey g (i+1)=if(g.Ak.map (·.cls)).getD i 1=0 then Ey g i++[(i:Int)]else Ey g i:=by
 unfold Ey;rw[List.range_succ,List.filter_append,List.map_append];split<;>rename_i h<;>simp only[List.filter_cons,List.filter_nil,h,decide_true,decide_false,if_true]<;>simp
theorem Rw(g:AF)(i:Nat):(Ey g i).length≤i:=by
 unfold Ey;rw[List.length_map];exact Nat.le_trans (List.length_filter_le _ _) (by simp)
theorem YM{g:AF}(h:(0:Int)∈g.Ak.map (·.cls)):0<(Ey g g.Ak.length).length:=by
 obtain⟨i,hi,he⟩:=List.mem_iff_getElem.1 h;have gj:i<g.Ak.length:=by simpa using hi
 unfold Ey;rw[List.length_map];refine List.length_pos_of_mem (a:=i) ?_;rw[List.mem_filter];refine⟨by simpa using gj,?_⟩;simp only[decide_eq_true_eq,List.getD_eq_getElem?_getD,List.getElem?_eq_getElem hi,Option.getD_some];exact he
theorem N5(g:AF)(hl:g.Ak.length≤100):Pure prog 23 [AB g] (Ci (Ey g g.Ak.length)):=by
 have a1:g.Ak.length≤maxLen:=by unfold maxLen;omega
 have gm:1≤maxLen:=by unfold maxLen;omega
 refine Pure.AI func23 (by kernel_rfl) rfl (by simp) fun wf=>?_;rw[ntmps23];refine xW fun K hK=>?_;simp;apply hK;refine xW fun K hK=>?_;simp[maxLen];apply hK;refine AW.ghost (AJ.BB 3 1 (xs:=[]) (by simp)) ?_;refine xS (xW fun K hK=>?_);simp;apply hK;refine Bw ?_;refine DC g.Ak.length (fun i tm S=>tm 1=.ptr 0 1 0 0∧tm 3=.row 1 (Ey g i).length∧tm 4=.d (.int .i64 i)∧∃w,S=[.row true 9 [.d (AB g)],.row w 1 ((Ey g i).map fun v=>.d (AG v))]) (Nat.zero_le _) (by simp[Ey,EJ]) ?_;rintro i tm S hi ⟨t1,t3,t4,w,rfl⟩;refine xS (xW fun K hK=>?_);simp[t1,t4];apply hK;refine AU ?_;simp;refine⟨fun cx=>?_,fun hO=>?_⟩
 ·have rZ:=Pu g i;have uR:=Rw g i;have jn:(g.Ak.map (·.cls)).getD i 1=g.Ak[i].cls:=by simp[cx]
  rw[jn]at rZ;generalize g9:g.Ak[i]=tk at *;have cy:=Aa.eq_1 tk;have jc:(Ey g i).length+1≤1073741824:=by omega
  refine xK ?_;refine xB ?_;refine xW fun K hK=>?_;simp[t1,t4,cx,g9,cy];apply hK;refine AU ?_;simp;refine⟨fun hc=>?_,fun hc=>?_⟩
  ·rw[if_pos hc]at rZ;refine BX fun K hK=>?_;refine xJ ?_;simp[t3,t4,gm,jc,Af,forall_and];refine Aj (hK _ _ ?_);refine xV fun K hK=>?_;simp[t4];apply hK;refine⟨cx,_,_,AJ.refl,?_⟩;simp[t1,rZ,AQ cx a1]
  ·rw[if_neg hc]at rZ;refine CC ?_;refine xV fun K hK=>?_;simp[t4];apply hK;refine⟨cx,_,_,AJ.refl,?_⟩;simp[t1,t3,rZ,AQ cx a1]
 ·have e:i=g.Ak.length:=by omega
  subst e;refine Cu ?_;refine xW fun K hK=>?_;simp[t3];apply hK;refine Ag ?_;(try simp only[xQ,reduceIte]);refine⟨_,_,AJ.B6 1 (xs:=(Ey g g.Ak.length).map AG) rfl (by simp),?_⟩;simp[asD]
end Go.Koi
