/- Part 11 of the proof that the law ChangeValid returns true for every input. -/
import Derived.Test.YtlgjmkfbkhfakaaGreatDoorK09
import Derived.Scope
set_option maxHeartbeats 64000000
set_option maxRecDepth 100000
namespace Go.Koi
section
variable {α β:Type} [DecidableEq α]
def BO(ek:α→D)(ev:β→V)(l:List (α×β)):List (D×V):=l.map fun p=>(ek p.1,ev p.2)
def look(l:List (α×β))(k:α):Option β:=(l.find? fun p=>decide (p.1=k)).map (·.2)
def CU(l:List (α×β))(k:α)(x:β):List (α×β):=
 if(look l k).isSome then l.map fun p=>if p.1=k then(p.1,x)else p else l++[(k,x)]
@[simp] theorem Vt(k:α):look ([]:List (α×β)) k=none:=rfl
theorem CQ(p:α×β)(l:List (α×β))(k:α):look (p::l) k=if p.1=k then some p.2 else look l k:=by
 unfold look;rw[List.find?_cons];by_cases h:p.1=k<;>simp[h]
theorem Nl(l m:List (α×β))(k:α):look (l++m) k=(look l k).or (look m k):=by
 induction l with
 |nil=>simp
 |cons p l ih=>rw[List.cons_append,CQ,CQ,ih];split<;>simp
theorem Vn(l:List (α×β))(k:α)(x:β)(j:α):look (l.map fun p=>if p.1=k then(p.1,x)else p) j=if j=k then(look l k).map fun _=>x else look l j:=by
 induction l with
 |nil=>simp
 |cons p l ih=>
  rw[List.map_cons,CQ,ih];by_cases h:p.1=k
  ·subst h;rw[CQ];simp only[if_true];by_cases e:p.1=j
   ·subst e;simp
   ·simp only[e,if_false,CQ];rw[if_neg (fun h=>e h.symm)];rw[if_neg (fun h=>e h.symm)]
  ·simp only[h,if_false,CQ];by_cases e:p.1=j
   ·subst e;simp[h]
   ·simp[e]
theorem E9(l:List (α×β))(k:α)(x:β)(j:α):look (CU l k x) j=if j=k then some x else look l j:=by
 unfold CU;split
 ·next h=>
  rw[Vn];split
  ·obtain⟨y,hy⟩:=Option.isSome_iff_exists.1 h;simp[hy]
  ·rfl
 ·next h=>
  rw[Nl,CQ];have hn:look l k=none:=by simpa using h
  by_cases e:j=k
  ·subst e;simp[hn]
  ·have e':¬k=j:=fun h=>e h.symm;simp[e,e']
theorem IT{l:List (α×β)}{k:α}(x:β)(h:look l k=none):CU l k x=l++[(k,x)]:=by simp[CU,h]
theorem F3{l:List (α×β)}{k:α}{x:β}(h:look l k=some x):(k,x)∈l:=by
 unfold look at h;simp only[Option.map_eq_some_iff]at h;obtain⟨p,h1,h2⟩:=h;have:=List.find?_some h1;simp only[decide_eq_true_eq]at this;subst this;subst h2;exact List.mem_of_find?_eq_some h1
theorem L4{l:List (α×β)}{k:α}:look l k=none↔k∉l.map (·.1):=by
 induction l with
 |nil=>simp
 |cons p l ih=>
  rw[CQ];by_cases h:p.1=k
  ·subst h;simp
  ·simp only[h,if_false,ih,List.map_cons,List.mem_cons,not_or];exact⟨fun a=>⟨fun e=>h e.symm,a⟩,fun a=>a.2⟩
def Keyed(l:List (α×β)):Prop:=(l.map (·.1)).Nodup
theorem Keyed.nil{α β:Type}:Keyed ([]:List (α×β)):=List.nodup_nil
theorem Keyed.CU{l:List (α×β)}(h:Keyed l)(k:α)(x:β):Keyed (CU l k x):=by
 unfold Koi.CU Keyed;split
 ·have:(l.map fun p=>if p.1=k then(p.1,x)else p).map (·.1)=l.map (·.1):=by
   rw[List.map_map];apply List.map_congr_left;intro p _;simp only[Function.comp];split<;>rfl
  rw[this];exact h
 ·next hn=>
  rw[List.map_append,List.nodup_append];refine⟨h,by simp,?_⟩;intro a ha b hb e;simp only[List.map_cons,List.map_nil,List.mem_singleton]at hb;subst e;subst hb;exact(L4.1 (by simpa using hn)) ha
theorem Keyed.look{l:List (α×β)}(h:Keyed l){k:α}{x:β}(hm:(k,x)∈l):Koi.look l k=some x:=by
 induction l with
 |nil=>simp at hm
 |cons p l ih=>
  rw[CQ];unfold Keyed at h;rw[List.map_cons,List.nodup_cons]at h;rcases List.mem_cons.1 hm with e|e
  ·subst e;simp
  ·have:p.1≠k:=fun e'=>h.1 (by rw[e'];exact List.mem_map.2 ⟨_,e,rfl⟩);rw[if_neg this];exact ih h.2 e
variable {ek:α→D} {ev:β→V}
theorem D1(h:∀a b,deq (ek a) (ek b)=decide (a=b))(l:List (α×β))(k:α):A4 (BO ek ev l) (ek k)=(look l k).map ev:=by
 unfold A4 BO look;rw[List.find?_map];have:((fun p:D×V=>deq p.1 (ek k)) ∘ fun p:α×β=>(ek p.1,ev p.2))=fun p=>decide (p.1=k):=by
  funext p;simp[h]
 rw[this];cases l.find? (fun p=>decide (p.1=k))<;>rfl
theorem C9(h:∀a b,deq (ek a) (ek b)=decide (a=b))(l:List (α×β))(k:α)(x:β):DU (BO ek ev l) (ek k) (ev x)=BO ek ev (CU l k x):=by
 unfold DU CU;rw[D1 h];have:((look l k).map ev).isSome=(look l k).isSome:=by cases look l k<;>rfl
 rw[this];split
 ·unfold BO;rw[List.map_map,List.map_map];apply List.map_congr_left;intro p _;simp only[Function.comp,h];by_cases e:p.1=k<;>simp[e]
 ·simp[BO]
theorem Dx{α β:Type}{ek:α→D}{ev:β→V}{kk:KK}(h:∀a,AAV kk (ek a)=true)(l:List (α×β)):AAR kk (BO ek ev l):=by
 apply JY;intro p hp;simp only[BO,List.mem_map]at hp;obtain⟨q,_,rfl⟩:=hp;exact h _
theorem PD{α β:Type}{ek:α→D}{ev:β→V}{k:Nat}(h:∀x,AAB k (ev x)=true)(l:List (α×β)):(BO ek ev l).all (fun e=>AAB k e.2)=true:=by
 rw[List.all_eq_true];intro p hp;simp only[BO,List.mem_map]at hp;obtain⟨q,_,rfl⟩:=hp;exact h _
end
section
variable {β:Type} {ev:β→V}
@[simp] theorem bn(l:List (Int×β))(k:Int):A4 (BO (D.int .i64) ev l) (.int .i64 k)=(look l k).map ev:=D1 (by intro a b;rw[Bool.eq_iff_iff];simp[deq]) l k
@[simp] theorem dp(l:List (Int×Int))(k x:Int):DU (BO (D.int .i64) (fun x=>.d (.int .i64 x)) l) (.int .i64 k) (.d (.int .i64 x))=BO (D.int .i64) (fun x=>.d (.int .i64 x)) (CU l k x):=C9 (ev:=fun x=>V.d (.int .i64 x)) (by intro a b;rw[Bool.eq_iff_iff];simp[deq]) l k x
@[simp] theorem XB(l:List (Int×β)):AAR (.one (.int .i64)) (BO (D.int .i64) ev l)=True:=eq_true (Dx (by intro a;simp[AAV,AAX]) l)
@[simp] theorem bo{α:Type}{ek:α→D}{k:Nat}(g:β→D)(l:List (α×β)):(BO ek (fun x=>V.d (g x)) l).all (fun e=>AAB k e.2)=true:=by
 rw[List.all_eq_true];intro p hp;simp only[BO,List.mem_map]at hp;obtain⟨q,_,rfl⟩:=hp;rfl
end
section
variable {P:Program} {n b:Nat} {o:Oper} {tm tm':Tm} {S S0 S0' S':Sg} {v:V} {ops:Array Oper} {K:Tm→Sg→Prop}
mutual
theorem IA{ρ:Nat→Nat}{k:Nat}(h:∀i,i<k→ρ i=i):∀x:V,AAB k x=true→AAO ρ x=x
 |.row r _,hb=>by simp only[AAB,decide_eq_true_eq]at hb;simp[AAO,h r hb]
 |.ptr r _ _ _,hb=>by simp only[AAB,decide_eq_true_eq]at hb;simp[AAO,h r hb]
 |.map r,hb=>by simp only[AAB,decide_eq_true_eq]at hb;simp[AAO,h r hb]
 |.fn _ as bs,hb=>by
  simp only[AAB,Bool.and_eq_true]at hb;simp only[AAO];rw[Fw h as hb.1,Fw h bs hb.2]
 |.agg cs,hb=>by simp only[AAB]at hb;simp only[AAO];rw[Fw h cs hb]
 |.Bd cs,hb=>by simp only[AAB]at hb;simp only[AAO];rw[Fw h cs hb]
 |.opt _ x,hb=>by simp only[AAB]at hb;simp only[AAO];rw[IA h x hb]
 |.any,_|.d _,_|.full _,_|.Cc _,_=>by simp only[AAO]
theorem Fw{ρ:Nat→Nat}{k:Nat}(h:∀i,i<k→ρ i=i):∀xs:List V,AAI k xs=true→AAa ρ xs=xs
 |[],_=>by simp only[AAa]
 |x::xs,hb=>by
  simp only[AAI,Bool.and_eq_true]at hb;simp only[AAa];rw[IA h x hb.1,Fw h xs hb.2]
end
theorem Qv{ρ:Nat→Nat}{k:Nat}(h:∀i,i<k→ρ i=i)(o:O)(hb:AAG k o=true):AAj ρ o=o:=by
 cases o with
 |row wr sz els=>simp only[AAG]at hb;simp only[AAj];rw[Fw h els hb]
 |map es=>
  simp only[AAG]at hb;simp only[AAj];congr 1;have:∀p∈es,((p.1,AAO ρ p.2):D×V)=p:=fun p hp=>by rw[IA h p.2 (List.all_eq_true.1 hb p hp)]
  rw[List.map_congr_left this,List.map_id']
 |BJ xs=>rfl
 |dead=>rfl
theorem AE.Iz{f:FuncId}{args:List V}(h:AE P f args S0 v S0')(T:Sg)(hl:S0'.length=S0.length)(h1:S0.all (AAG S0.length)=true)(h2:S0'.all (AAG S0.length)=true)
  (hb:args.all (AAB S0.length)=true) (hv:AAB S0.length v=true):AE P f args (S0++T) v (S0'++T):=by
 have pH:∀i,i<S0.length→(id:Nat→Nat) i=i:=fun _ _=>rfl;have hex:∀i,i<S0.length→CN id S0.length (S0++T).length i=i:=fun i hi=>by simp[CN,hi]
 have M:MA id (S0++T) S0 S0' (S0'++T):=by
  refine⟨fun i j _ _ e=>e,fun i hi=>⟨S0[i],List.getElem?_eq_getElem hi,?_⟩,fun i o ho=>List.all_eq_true.1 h1 o (List.mem_of_getElem? ho),fun i o ho=>?_,fun r hr gy=>?_,by simp[hl]⟩
  ·rw[Qv pH _ (List.all_eq_true.1 h1 _ (List.getElem_mem hi))];show(S0++T)[i]?=_
   rw[List.getElem?_append_left hi,List.getElem?_eq_getElem hi]
  ·have hi:=AZ ho;rw[Qv hex _ (List.all_eq_true.1 h2 _ (List.mem_of_getElem? ho)),hex i (by omega)];rw[List.getElem?_append_left hi];exact ho
  ·have sI:S0.length≤r:=by
    by_cases e:S0.length≤r
    ·exact e
    ·exact absurd rfl (gy r (by omega))
   rw[List.getElem?_append_right sI,List.getElem?_append_right (by omega),hl]
 have:=h.frame id M (by omega) (fun x hx=>List.all_eq_true.1 hb x hx);rw[IA hex _ hv]at this;have e:args.map (AAO id)=args:=by
  rw[List.map_congr_left (fun x hx=>IA pH x (List.all_eq_true.1 hb x hx)),List.map_id']
 rwa [e]at this
theorem AS.KF{rest:List Oper}{c:Call}{f:FuncId}{args:List V}(T:Sg)(h:AE P f args S0 v S0')(hS:S=S0++T)(ho:o.op=.call c)
  (hp:o.guard=none∧A6 n o.dst∧A5 tm c∧AA2 tm c f args∧S0'.length=S0.length∧S0.all (AAG S0.length)=true∧S0'.all (AAG S0.length)=true∧args.all (AAB S0.length)=true∧AAB S0.length v=true)
  (h2:AS P n b ops rest (put tm o.dst v) (S0'++T) K):AS P n b ops (o::rest) tm S K:=by
 obtain⟨h3,h4,h5,h6,h7,h8,h9,kT,pI⟩:=hp;subst hS;exact AS.call ho h3 h4 (D6 h6) h5 (h.Iz T h7 h8 h9 kT pI) h2
theorem AJ.AY(k:Nat)(hS:S.take k=S')(hb:b≤k)(hk:k≤S.length)(ho:(S.take k).all (AAG k)=true):AJ P n b tm S (clean k tm) S':=hS▸AJ.drop k hb hk ho
theorem AJ.JK(hS:S=S'):AJ P n b tm S tm S':=hS▸AJ.refl
@[simp] theorem UP(k:Nat)(xs ys:List V):AAI k (xs++ys)=(AAI k xs&&AAI k ys):=by
 induction xs with
 |nil=>simp[AAI]
 |cons x xs ih=>simp[AAI,ih,Bool.and_assoc]
@[simp] theorem Xx(ρ:Nat→Nat)(xs ys:List V):AAa ρ (xs++ys)=AAa ρ xs++AAa ρ ys:=by
 simp[DN]
theorem OX:∀(n:Nat) (l:List Nat),l.Nodup→(∀x∈l,x<n)→l.length≤n
 |0,l,_,h=>by
  cases l with
  |nil=>simp
  |cons x l=>exact absurd (h x (by simp)) (by omega)
 |n+1,l,hd,h=>by
  have h1:=OX n (l.erase n) (hd.erase n) (fun x hx=>by
   have h2:=h x (List.mem_of_mem_erase hx);have h3:x≠n:=fun e=>by subst e;exact hd.not_mem_erase hx
   omega)
  have h2:=List.length_erase (a:=n) (l:=l);split at h2<;>omega
theorem FL{α:Type}(f:α→Nat){l:List α}{n:Nat}(hd:l.Nodup)(h:∀x∈l,f x<n)(hi:∀x∈l,∀y∈l,f x=f y→x=y):l.length≤n:=by
 have h1:(l.map f).Nodup:=List.pairwise_map.2 (hd.imp_of_mem fun ha hb dI e=>dI (hi _ ha _ hb e));have:=OX n (l.map f) h1 (fun x hx=>by obtain⟨y,hy,rfl⟩:=List.mem_map.1 hx;exact h y hy);simpa using this
@[simp] theorem Zf{α:Type}(ρ:Nat→Nat)(f:α→D)(xs:List α):AAa ρ (xs.map fun x=>V.d (f x))=xs.map fun x=>V.d (f x):=by
 rw[DN,List.map_map];rfl
@[simp] theorem bK(ρ:Nat→Nat)(xs:List D):AAa ρ (xs.map V.d)=xs.map V.d:=by
 rw[DN,List.map_map];rfl
@[simp] theorem dV{α β:Type}(ρ:Nat→Nat)(ek:α→D)(g:β→D)(l:List (α×β)):(BO ek (fun x=>V.d (g x)) l).map (fun p=>(p.1,AAO ρ p.2))=BO ek (fun x=>V.d (g x)) l:=by
 unfold BO;rw[List.map_map];rfl
end
section
variable {P:Program} {n b:Nat} {o:Oper} {tm tm':Tm} {S S0 S0' S':Sg} {v:V} {ops:Array Oper} {K:Tm→Sg→Prop}
theorem At.intro{f:FuncId}{fn:Func}{c:Code}{args:List V}{R:V→Sg→Prop}(hf:P.funcs[f]?=some fn)(iJ:(fn.name== "runtime.NumGoroutine")=false)(hb:fn.body=some c)(hn:args.length≤fn.ntmps)
  (h:AW P fn.ntmps S.length c (T9 P fn.ntmps S.length fn.results.toList R) (Dl args) S):At P f args S R:=by
 refine⟨by simp[ACT,hf,iJ,hb],fun G w cargs R0 gp gi=>?_⟩;refine calls_of_wp hf hb ?_;have st:St P fn.ntmps G S w {tmps:=cargs++Array.replicate (fn.ntmps - cargs.size) undef,defers:=[]} (Dl args):=by
  refine⟨by simp;omega,fun k=>?_,R0⟩;unfold Dl;by_cases hk:k<args.length
  ·have e1:args.getD k .any=args[k]:=by simp[List.getD,hk]
   have e2:(cargs++Array.replicate (fn.ntmps - cargs.size) undef).getD k undef=cargs[k]'(by omega):=by
    rw[Array.getD_eq_getD_getElem?,Array.getElem?_append_left (by omega)];simp[show k<cargs.size by omega]
   simp only[e1,e2];exact gi k hk (by omega)
  ·have e1:args.getD k .any=.any:=by simp[List.getD,List.getElem?_eq_none (show args.length≤k by omega)]
   rw[e1];exact .any _
 refine wp_mono (h G w _ st (Nat.le_refl _)) fun ex a' w' hl=>?_;obtain⟨G',S0,tm',hc,hq⟩:=hl;have fin:(∃tm1 S1,AJ P fn.ntmps S.length tm' S0 tm1 S1∧ABi P tm1 S1 fn.results.toList∧∀G w a,St P fn.ntmps G S1 w a tm1→S.length≤S1.length→∃G' v' S'',(∀cv,CV G S1 w (IL P tm1 S1 fn.results.toList) cv→CV G' S'' w v' cv)∧Rel P G' S'' w∧Tr G S1 w G' S'' w∧Dt S.length G S1 G' S''∧R v' S'')→a'.defers=[]∧∃x,(results fn a'.tmps).run P w'=.ok x w'∧∃cv G' v S',R v S'∧Ending.returned x=.returned cv∧CV G' S' w' v cv∧Rel P G' S' w'∧Tr G S w G' S' w'∧A9 G S w G' S' w':=by
  intro hq;obtain⟨tm1,S1,g,h1,h2⟩:=hq;refine⟨hc.ds,?_⟩;obtain⟨G1,st1,t1,l1⟩:=g G' w' a' hc.st hc.late.len;obtain⟨vs,v1,v2,v3⟩:=Hs st1 fn.results.toList h1;obtain⟨G2,v',S'',g1,g2,g3,g4,g5⟩:=h2 G1 w' a' st1 l1.len;have kQ:∀(vs:List Value) (rs:List V),vs.length=rs.length→(∀i (h:i<vs.length) (h':i<rs.length),CV G1 S1 w' rs[i] vs[i])→CV G1 S1 w' (ACy rs) (pack vs):=fun vs rs v2 v3=>by
   match vs,rs with
   |[],[]=>exact .Bd _ _ rfl (fun i h=>by simp at h)
   |[x],[y]=>exact v3 0 (by simp) (by simp)
   |x::x'::xs,y::y'::ys=>
    refine .Bd _ _ (by simpa using v2) (fun i h=>?_);have:=v3 i (by omega) h;simpa using this
   |[],_::_=>simp at v2
   |_::_,[]=>simp at v2
   |[_],_::_::_=>simp at v2
   |_::_::_,[_]=>simp at v2
  have iO:=kQ vs _ v2 v3;have tr:=(hc.tr.trans t1).trans g3;have la:=(hc.late.trans l1).trans g4;exact⟨_,Ec v1,_,G2,v',S'',g5,rfl,g1 _ iO,g2,tr,la.later R0 tr⟩
 cases ex with
 |normal=>exact fin hq
 |ret=>exact fin hq
 |exit=>exact hq.elim
 |goto=>exact hq.elim
 |panic=>exact hq.elim
 |outgrown=>exact hq.elim
def Jm(P:Program)(n b:Nat)(rs:List ResultVar)(R:V→Sg→Prop):Exit→Tm→Sg→Prop
 |.normal,tm,S|.ret,tm,S=>∃tm1 S1,AJ P n b tm S tm1 S1∧ABi P tm1 S1 rs∧∃v S',R v S'∧((∃d tm2,asD S1 (IL P tm1 S1 rs)=some d∧v=.d d∧AJ P n b tm1 S1 tm2 S')∨(IL P tm1 S1 rs=v∧S'=S1))
 |_,_,_=>False
theorem At.AI{f:FuncId}{fn:Func}{c:Code}{args:List V}{R:V→Sg→Prop}(hf:P.funcs[f]?=some fn)(iJ:(fn.name== "runtime.NumGoroutine")=false)(hb:fn.body=some c)(hn:args.length≤fn.ntmps)
  (h:ABP args→ACL S→AW P fn.ntmps S.length c (Jm P fn.ntmps S.length fn.results.toList R) (Dl args) S):At P f args S R:=by
 refine At.intro hf iJ hb hn (AW.assume (p:=ABP args∧ACL S) (fun G w a st=>⟨Fg fun i hi=>?_,st.rel.fD⟩) fun hw=>(h hw.1 hw.2).mono fun ex tm S1 hq=>?_)
 ·have:=st.tm i;have e:Dl args i=args[i]:=by simp[Dl,List.getD,hi]
  rw[e]at this;exact this.wf
 ·have key:Jm P fn.ntmps S.length fn.results.toList R .ret tm S1→T9 P fn.ntmps S.length fn.results.toList R .ret tm S1:=by
   rintro⟨tm1,S2,g,h1,v,S',hR,h2⟩;rcases h2 with⟨d,tm2,h3,rfl,h4⟩|⟨h3,rfl⟩
   ·refine⟨tm1,S2,g,h1,fun G w a st hl=>?_⟩;obtain⟨G2,st2,t2,l2⟩:=h4 G w a st hl;exact⟨G2,.d d,S',fun cv iO=>.d _ _ ((iO.asD st.rel h3).mono t2.I (fun _ _=>rfl)),st2.rel,t2,l2,hR⟩
   ·exact⟨tm1,S',g,h1,fun G w a st hl=>⟨G,v,S',fun cv iO=>h3▸iO,st.rel,Tr.refl _ _ _,Dt.refl hl,hR⟩⟩
  cases ex with
  |normal=>exact key hq
  |ret=>exact key hq
  |exit=>exact hq.elim
  |goto=>exact hq.elim
  |panic=>exact hq.elim
  |outgrown=>exact hq.elim
theorem At.cZ{f:FuncId}{args:List V}(h:At P f args S fun u T=>u=v∧T=S'):AE P f args S v S':=
 ⟨h.1,fun G w cargs R hs ha=>(h.2 G w cargs R hs ha).mono fun _ _ ⟨cv,G',_,_,⟨e1,e2⟩,h1,h2,h3,h4,h5⟩=>⟨cv,G',h1,e1▸e2▸h2,e2▸h3,e2▸h4,e2▸h5⟩⟩
def e9(P:Program)(n b:Nat)(rs:List ResultVar)(d:D)(S':Sg):Exit→Tm→Sg→Prop
 |.normal,tm,S|.ret,tm,S=>∃tm1 S1 tm2,AJ P n b tm S tm1 S1∧ABi P tm1 S1 rs∧asD S1 (IL P tm1 S1 rs)=some d∧AJ P n b tm1 S1 tm2 S'
 |_,_,_=>False
theorem AE.B9{f:FuncId}{fn:Func}{c:Code}{args:List V}{d:D}(hf:P.funcs[f]?=some fn)(iJ:(fn.name== "runtime.NumGoroutine")=false)(hb:fn.body=some c)(hn:args.length≤fn.ntmps)
  (h:ABP args→ACL S→AW P fn.ntmps S.length c (e9 P fn.ntmps S.length fn.results.toList d S') (Dl args) S):AE P f args S (.d d) S':=by
 refine At.cZ (At.AI hf iJ hb hn fun h1 h2=>(h h1 h2).mono fun ex tm S1 hq=>?_);cases ex with
 |normal=>obtain⟨tm1,S1,tm2,g1,g2,g3,g4⟩:=hq;exact⟨tm1,S1,g1,g2,_,_,⟨rfl,rfl⟩,.inl ⟨d,tm2,g3,rfl,g4⟩⟩
 |ret=>obtain⟨tm1,S1,tm2,g1,g2,g3,g4⟩:=hq;exact⟨tm1,S1,g1,g2,_,_,⟨rfl,rfl⟩,.inl ⟨d,tm2,g3,rfl,g4⟩⟩
 |exit=>exact hq.elim
 |goto=>exact hq.elim
 |panic=>exact hq.elim
 |outgrown=>exact hq.elim
@[simp] theorem ck{α β:Type}(ek:α→D)(ev:β→V):BO ek ev []=[]:=rfl
@[simp] theorem ba{α β:Type}(ek:α→D)(ev:β→V)(p:α×β)(l:List (α×β)):BO ek ev (p::l)=(ek p.1,ev p.2)::BO ek ev l:=rfl
end
section
variable {P:Program} {n b:Nat} {o:Oper} {tm tm':Tm} {S S0 S0' S':Sg} {v:V} {ops:Array Oper} {K:Tm→Sg→Prop}
inductive AFC where
 |no
 |BZ (r:Nat)
 |fa (p:V)
def AEC(x:V):Option AFC:=
 match x with
 |.ptr r _ _ _=>some (.BZ r)
 |.Cc _=>some .no
 |_=>none
def U9(x:V):Option AFC:=
 match x with
 |.ptr r m i j=>some (.fa (.ptr r m i j))
 |.Cc _=>some .no
 |_=>none
def ACa(op:Op)(tm:Tm):Option AFC:=
 match op with
 |.move _|.assign _|.extract _ _|.makeFunc ..|.build ..|.pick ..|.convert ..=>some .no
 |.load _ x=>AEC (strip (ev tm x))
 |.fieldAddr _ x _|.nilCheck x=>U9 (strip (ev tm x))
 |.indexAddr _ x _=>match strip (ev tm x)with
  |.d _=>some .no
  |.full _=>some .no
  |.row r _=>some (.BZ r)
  |.ptr r m i j=>some (.fa (.ptr r m i j))
  |_=>none
 |_=>none
def cOf(d:Option AFC)(S S':Sg):Prop:=
 match d with
 |some (.BZ r)=>S'[r]?=S[r]?
 |some (.fa p)=>ABD S' p=ABD S p
 |_=>True
theorem QJ{op:Op}{d:AFC}(h:ACa op tm=some d)(hS:cOf (some d) S S'):AAS P op tm S'=AAS P op tm S∧BP P op tm S'=BP P op tm S∧CM P op tm S'=S':=by
 have hp:∀x:V,AEC x=some d→(∀a k,Gj a k S' x=Gj a k S x)∧∀a k,ABn a k S' x=ABn a k S x:=fun x hx=>by
  cases x with
  |ptr r m i j=>
   simp only[AEC,Option.some.injEq]at hx;subst hx;simp only[cOf]at hS;simp only[Gj,ABn,ABZ,P5,hS,and_self,implies_true]
  |Cc cs=>simp only[Gj,ABn,and_self,implies_true]
  |_=>simp[AEC]at hx
 have hf:∀x:V,U9 x=some d→ABD S' x=ABD S x∧Tf S' x=Tf S x:=fun x hx=>by
  cases x with
  |ptr r m i j=>
   simp only[U9,Option.some.injEq]at hx;subst hx;simp only[cOf]at hS;exact⟨hS,hS⟩
  |Cc cs=>exact⟨rfl,rfl⟩
  |_=>simp[U9]at hx
 cases op with
 |move x=>exact⟨rfl,rfl,rfl⟩
 |assign x=>exact⟨rfl,rfl,rfl⟩
 |extract x k=>exact⟨rfl,rfl,rfl⟩
 |makeFunc f a b=>exact⟨rfl,rfl,rfl⟩
 |build T ps=>exact⟨rfl,rfl,rfl⟩
 |pick c x y=>exact⟨rfl,rfl,rfl⟩
 |convert A B x=>exact⟨rfl,rfl,rfl⟩
 |load T x=>
  obtain⟨h3,h4⟩:=hp _ h;simp only[AAS,AA9,ABK,BP,ABA,ABL,CM,h3,h4,and_self]
 |fieldAddr T x f=>
  obtain⟨h1,_⟩:=hf _ h;simp only[AAS,AA9,ABK,BP,ABA,ABL,CM,h1,and_self]
 |nilCheck x=>
  obtain⟨_,h2⟩:=hf _ h;simp only[AAS,AA9,ABK,BP,ABA,ABL,CM,h2,and_self]
 |indexAddr T x y=>
  simp only[ACa]at h;simp only[AAS,AA9,ABK,BP,ABA,ABL,CM];generalize strip (ev tm x)=X at *;cases X with
  |d x=>cases x<;>simp[ABD,AAe]
  |full xs=>simp[ABD,AAe]
  |row r m=>
   simp only[Option.some.injEq]at h;subst h;simp only[cOf]at hS;simp only[ABD,AAe,hS,and_self]
  |ptr r m i j=>
   simp only[Option.some.injEq]at h;subst h;simp only[cOf]at hS;simp only[AAe,hS,and_self]
  |_=>simp at h
 |_=>simp[ACa]at h
theorem Ae.fL{B:List (Nat×(Sg→Prop))}{i:Nat}{rest:List (Nat×Bool×Oper)}(hp:o.guard=none∧(ACa o.op tm).isSome=true∧AAw P n ops o tm S)
  (h:Ae P n b ops ((i,cOf (ACa o.op tm) S)::B) rest (put tm o.dst (Cq P ops o tm S)) S K):Ae P n b ops B ((i,true,o)::rest) tm S K:=by
 obtain⟨hg,hd,lJ⟩:=hp;obtain⟨d,hd⟩:=Option.isSome_iff_exists.1 hd;rw[hd]at h;refine Ae.Yp (cOf (some d) S) (by unfold cOf;split<;>trivial) (fun S' hS=>?_) h;obtain⟨h1,h2,h3⟩:=QJ (P:=P) hd hS;refine⟨⟨lJ.1,?_⟩,?_,?_⟩
 ·have:=lJ.2;rw[hg]at this⊢;rw[h1];exact this
 ·unfold Cq;rw[hg];exact h2
 ·unfold oS;rw[hg];exact h3
def okB:List Bool→List (Nat×(Sg→Prop))→Sg→Sg→Prop
 |w::ws,p::ps,S,S'=>(w=false→p.2 S→p.2 S')∧okB ws ps S S'
 |_,_,_,_=>True
def AA1:List Bool→List (Nat×(Sg→Prop))→List (Nat×(Sg→Prop))
 |w::ws,p::ps=>match w with|true=>AA1 ws ps|false=>p::AA1 ws ps
 |_,_=>[]
theorem Eh{i:Nat}:∀{ws:List Bool} {B:List (Nat×(Sg→Prop))},B.map (fun p=>waits ops i p.1)=ws→(B.filter fun p=>!waits ops i p.1)=AA1 ws B
 |[],[],_=>rfl
 |w::ws,p::ps,h=>by
  simp only[List.map_cons,List.cons.injEq]at h;obtain⟨h1,h2⟩:=h;rw[List.filter_cons,h1,Eh h2];cases w<;>rfl
 |[],_::_,h=>by simp at h
 |_::_,[],h=>by simp at h
theorem D7{i:Nat}:∀{ws:List Bool} {B:List (Nat×(Sg→Prop))},B.map (fun p=>waits ops i p.1)=ws→okB ws B S S'→Ql ops B i S S'
 |[],[],_,_=>fun p hp=>by simp at hp
 |w::ws,p::ps,h,hk=>by
  simp only[List.map_cons,List.cons.injEq]at h;obtain⟨h1,h2⟩:=h;intro q hq;rcases List.mem_cons.1 hq with rfl|hq
  ·cases w with
   |true=>exact .inl h1
   |false=>exact .inr (hk.1 rfl)
  ·exact D7 h2 hk.2 q hq
 |[],_::_,h,_=>by simp at h
 |_::_,[],h,_=>by simp at h
theorem Ae.Z5{B:List (Nat×(Sg→Prop))}{i:Nat}{rest:List (Nat×Bool×Oper)}(ws:List Bool)(j5:B.map (fun p=>waits ops i p.1)=ws)(hC:ops[i]?=some o→A7 P n b ops i o tm S v S')(hB:okB ws B S S')
  (h:Ae P n b ops (AA1 ws B) rest (put tm o.dst v) S' K):Ae P n b ops B ((i,false,o)::rest) tm S K:=fun listed hl hp=>by
 have hi:ops[i]?=some o:=hl (i,false,o) (by simp);simp only[List.map_cons,AAy,Bool.and_eq_true,Bool.false_eq_true,if_false,beq_iff_eq]at hp;obtain⟨h1,h3⟩:=hp;refine⟨fun h0=>(by rw[h1]at h0;cases h0),fun j hj=>?_⟩;rw[h1]at hj;have:j=i:=by simpa using hj
 subst this;exact⟨o,v,S',hi,hC hi,D7 j5 hB,by rw[Eh j5];exact h _ (fun p hp=>hl p (by simp[hp])) h3⟩
theorem eU{B:List (Nat×(Sg→Prop))}{i:Nat}{rest:List (Nat×Bool×Oper)}(ws:List Bool)(j5:B.map (fun p=>waits ops i p.1)=ws)(h1:AAw P n ops o tm S∧okB ws B S (oS P o tm S))
  (h:Ae P n b ops (AA1 ws B) rest (put tm o.dst (Cq P ops o tm S)) (oS P o tm S) K):Ae P n b ops B ((i,false,o)::rest) tm S K:=
 Ae.Z5 ws j5 (fun hi=>A7.B5 hi h1.1) h1.2 h
theorem Ae.KF{B:List (Nat×(Sg→Prop))}{i:Nat}{rest:List (Nat×Bool×Oper)}{c:Call}{f:FuncId}{args:List V}(ws:List Bool)(T:Sg)(h:AE P f args S0 v S0')(j5:B.map (fun p=>waits ops i p.1)=ws)(hS:S=S0++T)(ho:o.op=.call c)
  (hp:o.guard=none∧A6 n o.dst∧A5 tm c∧AA2 tm c f args∧S0'.length=S0.length∧S0.all (AAG S0.length)=true∧S0'.all (AAG S0.length)=true∧args.all (AAB S0.length)=true∧AAB S0.length v=true∧okB ws B S (S0'++T))
  (h2:Ae P n b ops (AA1 ws B) rest (put tm o.dst v) (S0'++T) K):Ae P n b ops B ((i,false,o)::rest) tm S K:=by
 obtain⟨h3,h4,h5,h6,h7,h8,h9,kT,pI,wA⟩:=hp;subst hS;exact Ae.Z5 ws j5 (fun hi=>A7.call hi ho h3 h4 (D6 h6) h5 (h.Iz T h7 h8 h9 kT pI)) wA h2
theorem Ae.Ds{B:List (Nat×(Sg→Prop))}{i:Nat}{rest:List (Nat×Bool×Oper)}{c:Call}{f:FuncId}{args0:List V}(ws:List Bool)(h:AE P f args0 S0 v S0')(rs:List Nat)(j5:B.map (fun p=>waits ops i p.1)=ws)(ho:o.op=.call c)
  (hp:o.guard=none∧A6 n o.dst∧A5 tm c∧AAb tm c f args0 rs∧DZ S S0 rs∧rs.length≤S0'.length∧args0.all (AAB rs.length)=true∧okB ws B S (CF S S0' rs))
  (h2:Ae P n b ops (AA1 ws B) rest (put tm o.dst (AAO (CN (nameOf rs) rs.length S.length) v)) (CF S S0' rs) K):Ae P n b ops B ((i,false,o)::rest) tm S K:=by
 obtain⟨h3,h4,h5,h6,h7,h8,h9,kT⟩:=hp;unfold AAb at h6;split at h6
 ·rename_i f' args hc;obtain⟨rfl,rfl⟩:=h6;exact Ae.Z5 ws j5 (fun hi=>A7.call hi ho h3 h4 hc h5 (h.Bq rs h7 h8 h9)) kT h2
 ·exact h6.elim
theorem AE.pre{f:FuncId}{args:List V}{S1 S2:Sg}(g:∀n,AJ P n S.length (Dl args) S (Dl args) S1)(h:AE P f args S1 v S2):AE P f args S v S2:=by
 refine⟨h.1,fun G w cargs R hs ha=>?_⟩;have st:St P cargs.size G S w {tmps:=cargs,defers:=[]} (Dl args):=by
  refine⟨rfl,fun k=>?_,R⟩;unfold Dl;by_cases hk:k<args.length
  ·have e1:args.getD k .any=args[k]:=by simp[List.getD,hk]
   have e2:cargs.getD k undef=cargs[k]'(by omega):=by simp[Array.getD_eq_getD_getElem?,show k<cargs.size by omega]
   simp only[e1,e2];exact ha k hk (by omega)
  ·have e1:args.getD k .any=.any:=by simp[List.getD,List.getElem?_eq_none (show args.length≤k by omega)]
   rw[e1];exact .any _
 obtain⟨G',st',t,l⟩:=g cargs.size G w _ st (Nat.le_refl _);refine(h.2 G' w cargs st'.rel hs (fun i hi gj=>?_)).mono fun e w' ⟨cv,G2,h1,h2,h3,h4,h5⟩=>⟨cv,G2,h1,h2,h3,t.trans h4,(l.trans (h5.late l.len)).later R (t.trans h4)⟩;have:=st'.tm i;have e1:Dl args i=args[i]:=by simp[Dl,List.getD,hi]
 have e2:cargs.getD i undef=cargs[i]:=by simp[Array.getD_eq_getD_getElem?,gj]
 rw[e1]at this;simp only[e2]at this;exact this
end
attribute [simp] okB AA1 AEC U9 ACa cOf
section
variable {P:Program} {n b:Nat} {o:Oper} {tm tm':Tm} {S S0 S0' S':Sg} {v:V} {ops:Array Oper} {K:Tm→Sg→Prop} {Q:Exit→Tm→Sg→Prop}
theorem Ae.ar{B:List (Nat×(Sg→Prop))}{i:Nat}{rest:List (Nat×Bool×Oper)}{c:Call}{f:FuncId}{args:List V}(T:Sg)(h:AE P f args S0 v S0)(hS:S=S0++T)(ho:o.op=.call c)
  (hp:o.guard=none∧A6 n o.dst∧A5 tm c∧AA2 tm c f args∧S0.all (AAG S0.length)=true∧args.all (AAB S0.length)=true∧AAB S0.length v=true)
  (h2:Ae P n b ops ((i,fun S'=>S'=S)::B) rest (put tm o.dst v) S K):Ae P n b ops B ((i,true,o)::rest) tm S K:=by
 obtain⟨h3,h4,h5,h6,h8,kT,pI⟩:=hp;refine Ae.quiet (fun S'=>S'=S) rfl (fun hi S' hS'=>?_) h2;subst hS';subst hS;exact A7.call hi ho h3 h4 (D6 h6) h5 (h.Iz T rfl h8 h8 kT pI)
theorem Ae.Ul{B:List (Nat×(Sg→Prop))}{i:Nat}{rest:List (Nat×Bool×Oper)}{c:Call}{f:FuncId}{args0:List V}(h:AE P f args0 S0 v S0')(rs:List Nat)(ho:o.op=.call c)
  (hp:o.guard=none∧A6 n o.dst∧A5 tm c∧AAb tm c f args0 rs∧DZ S S0 rs∧rs.length≤S0'.length∧args0.all (AAB rs.length)=true∧CF S S0' rs=S)
  (h2:Ae P n b ops ((i,fun S'=>S'=S)::B) rest (put tm o.dst (AAO (CN (nameOf rs) rs.length S.length) v)) S K):Ae P n b ops B ((i,true,o)::rest) tm S K:=by
 obtain⟨h3,h4,h5,h6,h7,h8,h9,kT⟩:=hp;unfold AAb at h6;split at h6
 ·rename_i f' args hc;obtain⟨rfl,rfl⟩:=h6;refine Ae.quiet (fun S'=>S'=S) rfl (fun hi S' hS'=>?_) h2;subst hS';have:=h.Bq rs h7 h8 h9;rw[kT]at this;exact A7.call hi ho h3 h4 hc h5 this
 ·exact h6.elim
theorem AW.scope{c:Code}(h:AW P n b c (fun ex tm S=>(∀l,ex≠.goto l)∧Q ex tm S) tm S):AW P n b (.scope c) Q tm S:=fun G w a st hb=>by
 refine wp_scope_straight (wp_mono (h G w a st hb) fun ex a' w' hl=>?_);obtain⟨G',S',tm',hc,hq⟩:=hl;cases ex with
 |goto l=>exact absurd rfl (hq.1 l)
 |_=>exact⟨G',S',tm',hc,hq.2⟩
theorem AW.label{l:Nat}(h:Q .normal tm S):AW P n b (.label l) Q tm S:=fun _ _ _ st hb=>wp_label ⟨_,_,_,.refl st hb,h⟩
end
section
variable {P:Program} {n b:Nat} {o:Oper} {tm tm':Tm} {S S0 S0' S':Sg} {v:V} {ops:Array Oper} {K:Tm→Sg→Prop} {Q:Exit→Tm→Sg→Prop}
mutual
def inV(rs:List Nat):V→Bool
 |.row r _=>rs.contains r
 |.ptr r _ _ _=>rs.contains r
 |.map r=>rs.contains r
 |.fn _ as bs=>AC6 rs as&&AC6 rs bs
 |.agg cs=>AC6 rs cs
 |.Bd vs=>AC6 rs vs
 |.opt _ v=>inV rs v
 |_=>true
def AC6(rs:List Nat):List V→Bool
 |[]=>true
 |x::xs=>inV rs x&&AC6 rs xs
end
theorem Hq{rs:List Nat}{r:Nat}(h:rs.contains r=true):nameOf rs (rs.idxOf r)=r∧rs.idxOf r<rs.length:=by
 have hm:r∈rs:=by simpa using h
 have hl:=List.idxOf_lt_length_of_mem hm;exact⟨by simp[nameOf,List.getD,hl],hl⟩
mutual
theorem MI(rs:List Nat):∀x:V,inV rs x=true→AAO (nameOf rs) (AAO (fun r=>rs.idxOf r) x)=x∧AAB rs.length (AAO (fun r=>rs.idxOf r) x)=true
 |.row r _,h=>by simp only[inV]at h;have:=Hq h;simp only[AAO,this.1,AAB,this.2,decide_true,and_self]
 |.ptr r _ _ _,h=>by simp only[inV]at h;have:=Hq h;simp only[AAO,this.1,AAB,this.2,decide_true,and_self]
 |.map r,h=>by simp only[inV]at h;have:=Hq h;simp only[AAO,this.1,AAB,this.2,decide_true,and_self]
 |.fn _ as bs,h=>by
  simp only[inV,Bool.and_eq_true]at h;have h1:=Gz rs as h.1;have h2:=Gz rs bs h.2;simp only[AAO,h1.1,h2.1,AAB,h1.2,h2.2,Bool.and_self,and_self]
 |.agg cs,h=>by simp only[inV]at h;have h1:=Gz rs cs h;simp only[AAO,h1.1,AAB,h1.2,and_self]
 |.Bd cs,h=>by simp only[inV]at h;have h1:=Gz rs cs h;simp only[AAO,h1.1,AAB,h1.2,and_self]
 |.opt _ x,h=>by simp only[inV]at h;have h1:=MI rs x h;simp only[AAO,h1.1,AAB,h1.2,and_self]
 |.any,_|.d _,_|.full _,_|.Cc _,_=>by simp only[AAO,AAB,and_self]
theorem Gz(rs:List Nat):∀xs:List V,AC6 rs xs=true→AAa (nameOf rs) (AAa (fun r=>rs.idxOf r) xs)=xs∧AAI rs.length (AAa (fun r=>rs.idxOf r) xs)=true
 |[],_=>by simp only[AAa,AAI,and_self]
 |x::xs,h=>by
  simp only[AC6,Bool.and_eq_true]at h;have h1:=MI rs x h.1;have h2:=Gz rs xs h.2;simp only[AAa,h1.1,h2.1,AAI,h1.2,h2.2,Bool.and_self,and_self]
end
def pick(rs:List Nat)(tm:Tm):Tm:=fun t=>if inV rs (tm t)then AAO (fun r=>rs.idxOf r) (tm t)else .any
theorem AJ.pick(rs:List Nat)(hf:DZ S S0 rs)(hb:b≤rs.length)(pH:∀i,i<b→nameOf rs i=i):AJ P n b tm S (pick rs tm) S0:=fun G w a st _=>by
 have R:=st.rel;obtain⟨ju,ia,ow⟩:=hf;have hlen:rs.length=S0.length:=by have:=congrArg List.length ia;simpa using this
 have gz:∀i (h:i<rs.length) (h':i<S0.length),S[rs[i]]?=some (AAj (nameOf rs) S0[i]):=fun i h1 h2=>by
  have:=congrArg (·[i]?) ia;simpa[h1,h2]using this
 have hn:∀i (h:i<rs.length),nameOf rs i=rs[i]:=fun i h=>by simp[nameOf,List.getD,h]
 have F8:∀i,i<S0.length→∃o:O,S0[i]?=some o∧S[nameOf rs i]?=some (AAj (nameOf rs) o):=fun i hi=>⟨S0[i],List.getElem?_eq_getElem hi,by rw[hn i (by omega)];exact gz i (by omega) hi⟩;have inj:∀i j:Nat,i<S0.length→j<S0.length→nameOf rs i=nameOf rs j→i=j:=fun i j hi hj e=>by
  rw[hn i (by omega),hn j (by omega)]at e;exact F0 ju (by omega) (by omega) e
 let G0:Gh:={I:=G.I,BZ:=fun i=>G.BZ (nameOf rs i),cap:=fun i=>G.cap (nameOf rs i),BB:=fun i=>G.BB (nameOf rs i)};have facts:∀i,i<S0.length→lenOf S (nameOf rs i)=lenOf S0 i∧AAf S (nameOf rs i)=AAf S0 i∧AAN S (nameOf rs i)=AAN S0 i:=fun i hi=>by
  obtain⟨o,h1,h2⟩:=F8 i hi;exact FA (nameOf rs) o h1 h2
 have E:QO (nameOf rs) G0 S0 G S:=⟨fun _=>Iff.rfl,fun i hi=>by obtain⟨o,_,h2⟩:=F8 i hi;exact AZ h2,fun i hi=>(facts i hi).1,fun i hi=>(facts i hi).2.1,fun i hi=>(facts i hi).2.2,fun _ _=>rfl,fun _ _=>rfl,fun _ _=>rfl⟩;have own0:∀k,Eo G0 S0 k→Eo G S k:=by
  rintro k ⟨i,o,h1,h2,h3⟩;have hi:=AZ h1;obtain⟨o',g1,g2⟩:=F8 i hi;rw[h1]at g1;cases g1;exact⟨nameOf rs i,_,g2,by rw[Bx (ρ:=nameOf rs) (G0:=G0) (G:=G) (i:=i) (j:=nameOf rs i) o rfl];exact h2,h3⟩
 have R0:Rel P G0 S0 w:=by
  refine⟨R.Es,fun i o ho=>?_,fun i j x y hx hy ox oy he=>?_,fun k hk=>R.nI k (own0 k hk),R.G5,fun k hk=>R.FW k (own0 k hk)⟩
  ·have hi:=AZ ho;obtain⟨o',g1,g2⟩:=F8 i hi;rw[ho]at g1;cases g1;refine(R.CT _ _ g2).Ia E hi ?_;rw[←hlen];exact List.all_eq_true.1 ow o (List.mem_of_getElem? ho)
  ·obtain⟨x',g1,g2⟩:=F8 i (AZ hx);obtain⟨y',g3,g4⟩:=F8 j (AZ hy);rw[hx]at g1;cases g1;rw[hy]at g3;cases g3;exact inj i j (AZ hx) (AZ hy) (R.inj (nameOf rs i) (nameOf rs j) _ _ g2 g4 (by rw[Bx (ρ:=nameOf rs) (G0:=G0) (G:=G) (i:=i) (j:=nameOf rs i) x rfl];exact ox) (by rw[Bx (ρ:=nameOf rs) (G0:=G0) (G:=G) (i:=j) (j:=nameOf rs j) y rfl];exact oy) he)
 refine⟨G0,⟨st.size,fun k=>?_,R0⟩,⟨Nat.le_refl _,fun _ h=>h,fun _ _ _=>rfl,fun k hk=>.inl (own0 k hk),fun k hk=>.inl hk,rfl,rfl⟩,⟨by omega,fun r hr n' iz=>?_,fun r hr hm=>?_⟩⟩
 ·unfold Koi.pick;split
  ·next h=>
   have h2:=MI rs (tm k) h;exact(st.tm k).Ia E h2.1.symm (by rw[←hlen];exact h2.2)
  ·exact .any _
 ·have nh:r<S0.length:=by omega
  have e:=pH r hr;have f:=facts r nh;rw[e]at f;exact⟨n',by rw[f.1];exact iz,Nat.le_refl _,fun _=>⟨by simp only[G0,e],by simp only[G0,e],by simp only[G0,e],.inl f.2.1.symm⟩⟩
 ·have nh:r<S0.length:=by omega
  have e:=pH r hr;have f:=facts r nh;rw[e]at f;exact⟨by rw[f.2.2];exact hm,by simp only[G0,e]⟩
theorem AJ.Cy(rs:List Nat)(hf:DZ S S0 rs)(hb:b≤rs.length)(pH:rs.take b=List.range b):AJ P n b tm S (Koi.pick rs tm) S0:=
 AJ.pick rs hf hb fun i hi=>by
  have h:=congrArg (·[i]?) pH;simp only[List.getElem?_take,hi,if_true,List.getElem?_range]at h;simp[nameOf,List.getD,h]
theorem Dt.I4{b b':Nat}{G:Gh}{G':Gh}(h:Dt b' G S G' S')(hb:b≤b'):Dt b G S G' S':=
 ⟨Nat.le_trans hb h.len,fun r hr=>h.row r (Nat.lt_of_lt_of_le hr hb),fun r hr=>h.map r (Nat.lt_of_lt_of_le hr hb)⟩
end
attribute [simp] inV AC6
end Go.Koi
