/- Part 7 of the proof that the law ChangeValid returns true for every input. -/
import Derived.Test.YtlgjmkfbkhfakaaGreatDoorK05
set_option maxHeartbeats 64000000
set_option maxRecDepth 100000
namespace Go.Koi
mutual
def WFD:D→Prop
 |.bool _=>True
 |.int k n=>rng k n=true
 |.str s=>s.size≤maxLen
 |.sl xs=>xs.length≤maxLen∧AAY xs
 |.agg cs=>AAY cs
 |.Bd vs=>AAY vs
 |.raw _=>True
def AAY:List D→Prop
 |[]=>True
 |x::xs=>WFD x∧AAY xs
end
theorem OF(xs:List D):AAY xs↔∀x∈xs,WFD x:=by
 induction xs with
 |nil=>simp[AAY]
 |cons x xs ih=>simp[AAY,ih]
theorem DM{α:Type}(f:α→D)(xs:List α):AAY (xs.map f)↔∀x∈xs,WFD (f x):=by
 rw[OF];simp
theorem H4{xs:List D}(h:∀i (h:i<xs.length),WFD xs[i]):AAY xs:=(OF xs).2 fun x hx=>by
 obtain⟨i,hi,rfl⟩:=List.mem_iff_getElem.1 hx;exact h i hi
theorem CD.wf{I:Nat→Prop}{w:World}{d:D}{v:Value}(h:CD I w d v):WFD d:=by
 induction h with
 |bool=>trivial
 |int k n h=>exact h
 |str s h=>exact h
 |nil=>exact⟨by simp[maxLen],trivial⟩
 |sl sz xs b off cap vs hI hl hc h1 h2 ih=>exact⟨hl,H4 ih⟩
 |agg ds vs hs h ho ih=>exact H4 ih
 |Bd ds vs hs h ih=>exact H4 ih
 |raw=>trivial
section
variable {P:Program} {n b:Nat} {o:Oper} {tm:Tm} {S S':Sg} {v:V} {ops:Array Oper} {K:Tm→Sg→Prop} {Q:Exit→Tm→Sg→Prop}
theorem AW.assume{p:Prop}{c:Code}(hp:∀G w a,St P n G S w a tm→p)(h:p→AW P n b c Q tm S):AW P n b c Q tm S:=
 fun G w a st hb=>h (hp G w a st) G w a st hb
theorem AS.assume{p:Prop}{l:List Oper}(hp:∀G w a,St P n G S w a tm→p)(h:p→AS P n b ops l tm S K):AS P n b ops l tm S K:=
 fun k hk G w a Q st hb hq=>h (hp G w a st) k hk G w a Q st hb hq
theorem RZ{ds:List D}{G:Gh}{w:World}{a:Act}(st:St P n G S w a (Dl (ds.map .d))):AAY ds:=H4 fun i hi=>by
 have:=st.tm i;have e:Dl (ds.map .d) i=.d ds[i]:=by simp[Dl,List.getD,hi]
 rw[e]at this;cases this with|d _ _ h=>exact h.wf
theorem Pure.AI{f:FuncId}{fn:Func}{c:Code}{ds:List D}{d:D}(hf:P.funcs[f]?=some fn)(iJ:(fn.name== "runtime.NumGoroutine")=false)(hb:fn.body=some c)(hn:ds.length≤fn.ntmps)
  (h:AAY ds→AW P fn.ntmps 0 c (dQ P fn.ntmps fn.results.toList d) (Dl (ds.map .d)) []):Pure P f ds d:=
 Pure.intro hf iJ hb hn (AW.assume (fun _ _ _ st=>RZ st) h)
theorem AU{c:Operand}{x y:Code}(h:match ev tm c with|.d (.bool t)=>(t=true→AW P n b x Q tm S)∧(t=false→AW P n b y Q tm S)|_=>False):AW P n b (.cond c x y) Q tm S:=by
 split at h
 ·rename_i t ht;exact AW.BD ht h.1 h.2
 ·exact h.elim
theorem Az{id:Nat}{y:Code}(h:∀K:Tm→Sg→Prop,(∀tm S,AW P n b y Q tm S→K tm S)→AS P n b ops ops.toList tm S K):AW P n b (.seq (.region id ops false) y) Q tm S:=
 xS (AW.region (h _ fun _ _ h=>h))
mutual
def AAB(k:Nat):V→Bool
 |.row r _=>decide (r<k)
 |.ptr r _ _ _=>decide (r<k)
 |.map r=>decide (r<k)
 |.fn _ as bs=>AAI k as&&AAI k bs
 |.agg cs=>AAI k cs
 |.Bd vs=>AAI k vs
 |.opt _ v=>AAB k v
 |_=>true
def AAI(k:Nat):List V→Bool
 |[]=>true
 |x::xs=>AAB k x&&AAI k xs
end
def AAG(k:Nat):O→Bool
 |.row _ _ els=>AAI k els
 |.map es=>es.all fun e=>AAB k e.2
 |_=>true
theorem Ch{k:Nat}{xs:List V}(h:AAI k xs=true):∀i (hi:i<xs.length),AAB k xs[i]=true:=by
 induction xs with
 |nil=>intro i hi;simp at hi
 |cons x xs ih=>
  simp only[AAI,Bool.and_eq_true]at h;intro i hi;cases i with
  |zero=>exact h.1
  |succ i=>simpa using ih h.2 i (by simpa using hi)
@[simp] theorem Y9{α:Type}(k:Nat)(f:α→D)(xs:List α):AAI k (xs.map fun x=>V.d (f x))=true:=by
 induction xs with
 |nil=>rfl
 |cons x xs ih=>simp[AAI,AAB,ih]
@[simp] theorem Xq(k:Nat)(xs:List D):AAI k (xs.map V.d)=true:=by
 induction xs with
 |nil=>rfl
 |cons x xs ih=>simp[AAI,AAB,ih]
theorem CV.take{G:Gh}{w:World}{k:Nat}{x:V}{v:Value}(h:CV G S w x v)(hb:AAB k x=true)(hk:k≤S.length):CV G (S.take k) w x v:=by
 have hlen:∀r,r<k→(S.take k)[r]?=S[r]?:=fun r hr=>by simp[hr]
 have hl:(S.take k).length=k:=by simp[hk]
 induction h with
 |any v=>exact .any v
 |d d v h=>exact .d d v h
 |full xs a h=>exact .full xs a h
 |row r n v ho hr h=>
  have jf:r<k:=by simpa[AAB]using hb
  exact .row r n v ho (by omega) (by simpa only[lenOf,hlen r jf]using h)
 |ptr r n i j v ho hr h=>
  have jf:r<k:=by simpa[AAB]using hb
  exact .ptr r n i j v ho (by omega) (by simpa only[lenOf,AAf,hlen r jf]using h)
 |Cc cs b off vs hI h=>exact .Cc cs b off vs hI h
 |map r v ho hr h=>
  have jf:r<k:=by simpa[AAB]using hb
  exact .map r v ho (by omega) (by simpa only[AAN,hlen r jf]using h)
 |fn f as bs xs ys h1 h2 h3 h4 i3 i4=>
  simp only[AAB,Bool.and_eq_true]at hb;exact .fn f as bs xs ys h1 h2 (fun i hi=>i3 i hi (Ch hb.1 i hi)) (fun i hi=>i4 i hi (Ch hb.2 i hi))
 |agg cs vs hs h ho ih=>exact .agg cs vs hs (fun i hi=>ih i hi (Ch hb i hi)) ho
 |Bd cs vs hs h ih=>exact .Bd cs vs hs (fun i hi=>ih i hi (Ch hb i hi))
 |opt g x v h h' ih=>exact .opt g x v (fun hg=>ih hg (by simpa[AAB]using hb)) h'
def clean(k:Nat)(tm:Tm):Tm:=fun t=>if AAB k (tm t)then tm t else .any
theorem AJ.drop(k:Nat)(hb:b≤k)(hk:k≤S.length)(ho:(S.take k).all (AAG k)=true):AJ P n b tm S (clean k tm) (S.take k):=fun G w a st _=>by
 have ia:∀r o,(S.take k)[r]?=some o→S[r]?=some o∧r<k:=fun r o h=>by
  have h1:=AZ h;have h2:r<k:=by simp at h1;omega
  exact⟨by simpa[List.getElem?_take,h2]using h,h2⟩
 have kg:∀x,Eo G (S.take k) x→Eo G S x:=fun x ⟨r,o,h1,h2,h3⟩=>⟨r,o,(ia r o h1).1,h2,h3⟩;have hL:Dt b G S G (S.take k):=by
  refine⟨by simp;omega,fun r hr n' iz=>⟨n',?_,Nat.le_refl _,fun _=>⟨rfl,rfl,rfl,.inl ?_⟩⟩,fun r hr hm=>⟨?_,rfl⟩⟩
  ·simpa[lenOf,List.getElem?_take,show r<k by omega]using iz
  ·simp[AAf,show r<k by omega]
  ·simpa[AAN,List.getElem?_take,show r<k by omega]using hm
 refine⟨G,⟨st.size,fun t=>?_,⟨st.rel.Es,fun r o h=>?_,fun r r' o o' h h'=>st.rel.inj r r' o o' (ia r o h).1 (ia r' o' h').1,fun x hx=>st.rel.nI x (kg x hx),st.rel.G5,fun x hx=>st.rel.FW x (kg x hx)⟩⟩,⟨Nat.le_refl _,fun _ h=>h,fun _ _ _=>rfl,fun x hx=>.inl (kg x hx),fun x hx=>.inl hx,rfl,rfl⟩,hL⟩
 ·unfold clean;split
  ·rename_i ow;exact(st.tm t).take ow hk
  ·exact .any _
 ·obtain⟨h1,h2⟩:=ia r o h;have vr:AAG k o=true:=List.all_eq_true.1 ho o (List.mem_of_getElem? h);have ig:=st.rel.CT r o h1;cases o with
  |row wr sz els=>
   simp only[OK]at ig⊢;cases hv:G.BB r with
   |none=>
    simp only[hv]at ig⊢;obtain⟨c,T,g1,g2,g3,g4,g5⟩:=ig;refine⟨c,T,g1,g2,g3,g4,fun i hi=>?_⟩;obtain⟨u,u1,u2,u3,u4⟩:=g5 i hi;exact⟨u,u1.take (Ch vr i hi) hk,u2,u3,u4⟩
   |some a=>
    simp only[hv]at ig⊢;exact ig
  |BJ xs=>exact ig
  |map es=>
   simp only[OK]at ig⊢;obtain⟨ents,clock,g1,g2,gk,g3⟩:=ig;refine⟨ents,clock,g1,g2,gk,fun i hi=>?_⟩;obtain⟨e,e1,e2,e3,e4,e5⟩:=g3 i hi;have wy:AAB k es[i].2=true:=List.all_eq_true.1 vr es[i] (by simp);exact⟨e,e1,e2,e3.take wy hk,e4,e5⟩
  |dead=>trivial
theorem DC{c:Code}(N:Nat)(Inv:Nat→Tm→Sg→Prop){i0:Nat}(tz:i0≤N)(h0:Inv i0 tm S)
  (hr:∀i tm S,i≤N→Inv i tm S→AW P n b c (AAE (fun tm' S'=>i<N∧∃tm'' S'',AJ P n b tm' S' tm'' S''∧Inv (i+1) tm'' S'') Q) tm S):AW P n b (.loop c) Q tm S:=by
 refine AW.loop (fun m tm S=>∃i,i≤N∧m=N - i∧Inv i tm S) ⟨_,tm,S,AJ.refl,i0,tz,rfl,h0⟩ ?_;rintro m tm S ⟨i,hi,rfl,hI⟩;refine(hr i tm S hi hI).mono fun ex tm' S' hq=>?_;cases ex with
 |normal=>
  obtain⟨cx,tm2,S2,g,hI2⟩:=hq;exact⟨N - (i+1),tm2,S2,by omega,g,i+1,by omega,rfl,hI2⟩
 |_=>exact hq
theorem wrap_i64{x:Int}(h1:-9223372036854775808≤x)(h2:x≤9223372036854775807):IntKind.i64.wrap x=x:=by
 unfold IntKind.wrap;have e1:IntKind.i64.bits=64:=rfl;have e2:IntKind.i64.signed=true:=rfl;simp only[e1,e2,Bool.true_and,decide_eq_true_eq];have e3:(2:Int) ^ 64=18446744073709551616:=by decide
 have e4:(2:Int) ^ (64 - 1)=9223372036854775808:=by decide
 rw[e3,e4];split<;>omega
theorem AQ{i n:Nat}(h:i<n)(hn:n≤maxLen):IntKind.i64.wrap ((i:Int)+1)=((i+1:Nat):Int):=by
 unfold maxLen at hn;rw[wrap_i64 (by omega) (by omega)];simp
end
@[simp] theorem av(vs:List V):AAF (.agg vs)=vs:=rfl
@[simp] theorem Yx(ds:List D):AAF (.d (.agg ds))=ds.map .d:=rfl
@[simp] theorem ZB(x:Bool):AAF (.d (.bool x))=[.d (.bool x)]:=rfl
@[simp] theorem ZW(k:IntKind)(x:Int):AAF (.d (.int k x))=[.d (.int k x)]:=rfl
@[simp] theorem aa(x:ByteArray):AAF (.d (.str x))=[.d (.str x)]:=rfl
@[simp] theorem bf(x:List D):AAF (.d (.sl x))=[.d (.sl x)]:=rfl
@[simp] theorem Zl(x:Value):AAF (.d (.raw x))=[.d (.raw x)]:=rfl
@[simp] theorem ZC(x:List D):AAF (.full x)=[.full x]:=rfl
@[simp] theorem ZY(r m:Nat):AAF (.row r m)=[.row r m]:=rfl
@[simp] theorem aj(r m i j:Nat):AAF (.ptr r m i j)=[.ptr r m i j]:=rfl
@[simp] theorem Yw(x:List D):AAF (.Cc x)=[.Cc x]:=rfl
@[simp] theorem aI(r:Nat):AAF (.map r)=[.map r]:=rfl
@[simp] theorem bT(f:Fn)(a b:List V):AAF (.fn f a b)=[.fn f a b]:=rfl
@[simp] theorem Z3(vs:List V):Ar (.agg vs)=true:=rfl
@[simp] theorem Y2(ds:List D):Ar (.d (.agg ds))=true:=rfl
@[simp] theorem Y8(x:Bool):Ar (.d (.bool x))=false:=rfl
@[simp] theorem ZU(k:IntKind)(x:Int):Ar (.d (.int k x))=false:=rfl
@[simp] theorem bD(x:ByteArray):Ar (.d (.str x))=false:=rfl
@[simp] theorem cG(x:List D):Ar (.d (.sl x))=false:=rfl
@[simp] theorem Z0(x:Value):Ar (.d (.raw x))=false:=rfl
@[simp] theorem Ym(x:List D):Ar (.full x)=false:=rfl
@[simp] theorem bF(r m:Nat):Ar (.row r m)=false:=rfl
@[simp] theorem aM(r m i j:Nat):Ar (.ptr r m i j)=false:=rfl
@[simp] theorem Y4(x:List D):Ar (.Cc x)=false:=rfl
@[simp] theorem ZQ(r:Nat):Ar (.map r)=false:=rfl
@[simp] theorem bw(f:Fn)(a b:List V):Ar (.fn f a b)=false:=rfl
@[simp] theorem di(vs:List V):AAW (.agg vs)=false:=rfl
@[simp] theorem cI(ds:List D):AAW (.d (.agg ds))=false:=rfl
@[simp] theorem cD(x:Bool):AAW (.d (.bool x))=true:=rfl
@[simp] theorem ca(k:IntKind)(x:Int):AAW (.d (.int k x))=true:=rfl
@[simp] theorem cO(x:ByteArray):AAW (.d (.str x))=true:=rfl
@[simp] theorem eO(x:List D):AAW (.d (.sl x))=true:=rfl
@[simp] theorem dZ(x:Value):AAW (.d (.raw x))=one x:=rfl
@[simp] theorem bW(x:List D):AAW (.full x)=true:=rfl
@[simp] theorem dM(r m:Nat):AAW (.row r m)=true:=rfl
@[simp] theorem dT(r m i j:Nat):AAW (.ptr r m i j)=true:=rfl
@[simp] theorem cE(x:List D):AAW (.Cc x)=true:=rfl
@[simp] theorem dO(r:Nat):AAW (.map r)=true:=rfl
@[simp] theorem eH(f:Fn)(a b:List V):AAW (.fn f a b)=true:=rfl
@[simp] theorem aX(ds:List D):AAL (.agg ds)=ds:=rfl
@[simp] theorem ZE(x:Bool):AAL (.bool x)=[.bool x]:=rfl
@[simp] theorem Zu(k:IntKind)(x:Int):AAL (.int k x)=[.int k x]:=rfl
@[simp] theorem Z9(x:ByteArray):AAL (.str x)=[.str x]:=rfl
@[simp] theorem bd(x:List D):AAL (.sl x)=[.sl x]:=rfl
@[simp] theorem cw(ds:List D):AAe.oneD (.agg ds)=true:=rfl
@[simp] theorem br(x:Bool):AAe.oneD (.bool x)=true:=rfl
@[simp] theorem dj(k:IntKind)(x:Int):AAe.oneD (.int k x)=true:=rfl
@[simp] theorem dn(x:ByteArray):AAe.oneD (.str x)=true:=rfl
@[simp] theorem dw(x:List D):AAe.oneD (.sl x)=true:=rfl
@[simp] theorem getD_map{α β:Type}(f:α→β)(xs:List α)(i:Nat)(d:β)(h:i<xs.length):(xs.map f)[i]?.getD d=f xs[i]:=by simp[h]
attribute [simp] AAw Cq oS A6 AAS BP CM ABK ABL ev need strip put cst ADa isV AAd FI AE1 Zn arith ABg cp Zy ADq Vl ABn Gj Km OY ABZ P5 Tn faV ABD iaV AAe FM FF AFG ZS Tf AEp Z8 AEc B3 ABX DL Je AEb Tt ADM Jr Tu AET MZ asD AAn AA0 AC5 Lj ABh AA5 ACe ABk callee A5 ACU ABi FK ACy IL lenOf AAf AAN one AAE AAA AAB AAI AAG ABA AA9 Mx AAr mapOf UC mmV XC AEu hiV AAs EH Dm KT V7 AEe HZ ABS ABT OS PF AFE N8 AAV AAX AAU AAR rng AB2
end Go.Koi
