/- Part 3 of the proof that the law ChangeValid returns true for every input. -/
import Derived.Test.YtlgjmkfbkhfakaaGreatDoorK01
set_option maxHeartbeats 64000000
set_option maxRecDepth 100000
namespace Go.Koi
section
variable {P:Program} {n:Nat} {o:Oper} {tm:Tm} {S S':Sg} {v:V}
theorem LU{G:Gh}{w:World}(R:Rel P G S w){T:TypeId}{e:V}{u:Value}(h:CV G S w e u)(he:(Ar e||AAW e)=true):
  ∃cv w' G',(newVar T u).run P w=.ok cv w'∧CV G' (S++[.row true (AAF e).length [e]]) w' (.ptr S.length 1 0 0) (.pointer (some cv))∧Rel P G' (S++[.row true (AAF e).length [e]]) w'∧Tr G S w G' (S++[.row true (AAF e).length [e]]) w'∧A9 G S w G' (S++[.row true (AAF e).length [e]]) w':=by
 have he:Ar e=true∨AAW e=true:=by simpa using he
 obtain⟨c1,c2,c3⟩:=h.cells he;obtain⟨r1,r2,r3⟩:=R.add 1 (.row true (AAF e).length [e]) (.cells u.cells T (0,0)) (fun L=>by
  have hv:(G.at S.length w.heap.size 1 none).BB S.length=none:=by simp[Gh.at]
  have hb:(G.at S.length w.heap.size 1 none).BZ S.length=w.heap.size:=by simp[Gh.at]
  have hc:(G.at S.length w.heap.size 1 none).cap S.length=(1,0):=by simp[Gh.at]
  simp only[OK,hv,hb,hc];refine⟨u.cells,T,C0,by omega,by simp,by simp[maxLen],fun i hi=>?_⟩;have:i=0:=by simp at hi;exact hi
  subst this;refine⟨u,by simpa using h.later L,c1,fun x hx=>?_,fun j hj=>by simp⟩;obtain⟨k,hk,rfl⟩:=Array.mem_iff_getElem.1 hx;exact c2 k hk)
 refine⟨⟨w.heap.size,0,none⟩,BS w (.cells u.cells T (0,0)),_,by simp[newVar,newRow,BS],?_,r1,r2,r3⟩;refine .ptr _ _ _ _ _ rfl (by simp) fun m hm=>?_;have:m=1:=by simpa[lenOf]using hm.symm
 subst this;refine⟨Nat.le_refl _,fun _ sz gp=>?_⟩;simp[Gh.addr,Gh.at]
def Tu(S:Sg)(e:V):Sg:=S++[.row true (AAF e).length [e]]
theorem bL{T:TypeId}{x:Operand}(ho:o.op=.box T x)(hx:need (ev tm x))(he:(Ar (strip (ev tm x))||AAW (strip (ev tm x)))=true):
  Bv P n o tm S (.ptr S.length 1 0 0) (Tu S (strip (ev tm x))):=.val fun G w a st=>by
 have h1:=(BH st x).strip hx;obtain⟨cv,w',G',g1,g2,g3,g4,g5⟩:=LU st.rel (T:=T) h1 he;exact⟨.pointer (some cv),G',w',by simp[execOp,ho,Instr.box,g1],g2,g3,g4,g5⟩
theorem WU{T:TypeId}{t:TI}{z:Value}(ho:o.op=.alloc T)(ht:ti P T=some t)(hz:t.zero=some z)(he:(Ar (cst z)||AAW (cst z))=true):
  Bv P n o tm S (.ptr S.length 1 0 0) (Tu S (cst z)):=.val fun G w a st=>by
 obtain⟨cv,w',G',g1,g2,g3,g4,g5⟩:=LU st.rel (T:=T) (Fo G S w z) he;refine⟨.pointer (some cv),G',w',?_,g2,g3,g4,g5⟩;simp[execOp,ho,Instr.alloc,DF ht w hz,g1]
def AB4(G:Gh)(S:Sg)(w:World)(cs:List V)(u:Array Value):Prop:=
 u.size=cs.length∧(∀i (h:i<u.size),one u[i]=true)∧∀i (h:i<cs.length),∃x,u[i]?=some x∧CV G S w cs[i] x
theorem CV.QP{G:Gh}{w:World}{e:V}{u:Value}(h:CV G S w e u)(he:Ar e=true∨AAW e=true):AB4 G S w (AAF e) u.cells:=h.cells he
theorem AB4.agg{G:Gh}{w:World}{cs:List V}{u:Array Value}(h:AB4 G S w cs u):CV G S w (.agg cs) (.agg u):=CV.Iv h.1 h.2.2 h.2.1
theorem AB4.put{G:Gh}{w:World}{cs ds:List V}{u y:Array Value}{k:Nat}(h:AB4 G S w cs u)(h':AB4 G S w ds y)(hk:k+ds.length≤cs.length):
  AB4 G S w (cs.take k++ds++cs.drop (k+ds.length)) (AAh u k y.toList):=by
 obtain⟨c1,c2,c3⟩:=h;obtain⟨d1,d2,d3⟩:=h';have hlen:(cs.take k++ds++cs.drop (k+ds.length)).length=cs.length:=by simp;omega
 have ia:∀i,(AAh u k y.toList)[i]?=if k≤i∧i<k+y.size then y[i - k]? else u[i]?:=fun i=>by
  rw[DH _ _ _ _ (by simp;omega)];simp
 refine⟨by rw[DO,hlen,c1],fun i hi=>?_,fun i hi=>?_⟩
 ·have h1:=ia i;rw[Array.getElem?_eq_getElem hi]at h1;rw[DO]at hi;by_cases h2:k≤i∧i<k+y.size
  ·rw[if_pos h2,Array.getElem?_eq_getElem (by omega)]at h1;simp only[Option.some.injEq]at h1;rw[h1];exact d2 _ _
  ·rw[if_neg h2,Array.getElem?_eq_getElem hi]at h1;simp only[Option.some.injEq]at h1;rw[h1];exact c2 _ _
 ·rw[hlen]at hi;rw[ia];by_cases h2:k≤i∧i<k+y.size
  ·rw[if_pos h2];obtain⟨q,q1,q2⟩:=d3 (i - k) (by omega);refine⟨q,q1,?_⟩;have:(cs.take k++ds++cs.drop (k+ds.length))[i]'(by rw[hlen];exact hi)=ds[i - k]'(by omega):=by
    rw[List.getElem_append_left (by simp;omega),List.getElem_append_right (by simp;omega)];congr 1;simp;omega
   rw[this];exact q2
  ·rw[if_neg h2];obtain⟨q,q1,q2⟩:=c3 i hi;refine⟨q,q1,?_⟩;have:(cs.take k++ds++cs.drop (k+ds.length))[i]'(by rw[hlen];exact hi)=cs[i]:=by
    by_cases h3:i<k
    ·rw[List.getElem_append_left (by simp;omega),List.getElem_append_left (by simp;omega)];simp
    ·rw[List.getElem_append_right (by simp;omega)];simp only[List.getElem_drop,List.length_append,List.length_take];congr 1;omega
   rw[this];exact q2
theorem L6(vs:List Value):∀(m k:Nat) (c:Array Value),((vs.zipIdx m).foldl (fun cs (p:Value×Nat)=>cs.setIfInBounds (k+p.2) p.1) c)=AAh c (k+m) vs:=by
 induction vs with
 |nil=>intro m k c;rfl
 |cons v vs ih=>intro m k c;simp only[List.zipIdx_cons,List.foldl_cons,AAh];rw[ih];rfl
def ACe(place:Nat→Option (Nat×Nat)):List V→List (Nat×V)→List V
 |cs,[]=>cs
 |cs,(i,x)::rest=>
  match place i with
  |some (off,size)=>ACe place (cs.take off++AAF x++cs.drop (off+size)) rest
  |none=>cs
def ABk(place:Nat→Option (Nat×Nat))(len:Nat):List (Nat×V)→Prop
 |[]=>True
 |(i,x)::rest=>
  match place i with
  |some (off,size)=>(AAF x).length=size∧off+size≤len∧(Ar x||AAW x)=true∧ABk place len rest
  |none=>False
theorem YS{G:Gh}{w:World}{place:Nat→Option (Nat×Nat)}(parts:List (Nat×V)):∀(vals:List (Nat×Value)) (cs:List V) (u:Array Value),AB4 G S w cs u→parts.length=vals.length→(∀i (h:i<parts.length) (h':i<vals.length),parts[i].1=vals[i].1∧CV G S w parts[i].2 vals[i].2)→ABk place cs.length parts→∃u',Instr.fill place u vals=some u'∧AB4 G S w (ACe place cs parts) u':=by
 induction parts with
 |nil=>
  intro vals cs u h hl _ _;cases vals with
  |nil=>exact⟨u,rfl,h⟩
  |cons=>simp at hl
 |cons p parts ih=>
  intro vals cs u h hl hv hp;cases vals with
  |nil=>simp at hl
  |cons q vals=>
   obtain⟨i,x⟩:=p;obtain⟨i',y⟩:=q;have h0:=hv 0 (by simp) (by simp);simp only[List.getElem_cons_zero]at h0;obtain⟨rfl,qZ⟩:=h0;simp only[ABk]at hp;simp only[Instr.fill,ACe];cases iY:place i with
   |none=>rw[iY]at hp;exact hp.elim
   |some os=>
    obtain⟨off,size⟩:=os;rw[iY]at hp;obtain⟨p1,p2,p3,p4⟩:=hp;have hc:=qZ.QP (by simpa using p3);have gp:y.cells.size=size:=by rw[hc.1,p1]
    have hu:u.size=cs.length:=h.1;simp only[];rw[if_neg (by simp;omega)];have hf:(y.cells.zipIdx.foldl (fun cs (p:Value×Nat)=>cs.setIfInBounds (off+p.2) p.1) u)=AAh u off y.cells.toList:=by
     rw[←Array.foldl_toList,Array.toList_zipIdx,L6];rfl
    have iT:=h.put hc (k:=off) (by omega);rw[p1]at iT;have:=ih vals _ _ iT (by simpa using hl) (fun k h1 h2=>by have:=hv (k+1) (by simp;omega) (by simp;omega);simpa using this)
     (by
      have e:(cs.take off++AAF x++cs.drop (off+size)).length=cs.length:=by simp;omega
      rw[e];exact p4)
    obtain⟨u',e1,e2⟩:=this;exact⟨u',by rw[←e1];exact congrArg (fun z=>Instr.fill place z vals) hf,e2⟩
def AD7(P:Program)(T:TypeId):Option Nat:=
 match ti P T with
 |some t=>match t.kind with
  |.array _ e=>(ti P e).map (·.size)
  |_=>none
 |none=>none
def placeOf(P:Program)(T:TypeId)(i:Nat):Option (Nat×Nat):=
 match AD7 P T with
 |some s=>some (i * s,s)
 |none=>match AAD P T i with
  |some (off,U)=>match ti P U with
   |some u=>some (off,u.size)
   |none=>none
  |none=>none
def AAM(P:Program)(T:TypeId):Bool:=
 match ti P T with
 |some t=>match t.kind with
  |.struct fs=>fs.all fun f=>(ti P f.2).isSome
  |.array _ e=>(ti P e).isSome
  |_=>false
 |none=>false
theorem NH{w:World}(fs:List Field)(h:∀f∈fs,∃u,ti P f.type=some u):
  (fs.mapM (m:=Sem) fun f=>do pure (f.offset,←sizeOf f.type)).run P w=.ok (fs.map fun f=>(f.offset,((ti P f.type).map (·.size)).getD 0)) w:=by
 induction fs with
 |nil=>simp
 |cons f fs ih=>
  obtain⟨u,hu⟩:=h f (by simp);have hf:=ih (fun g hg=>h g (by simp[hg]));simp only[List.mapM_cons,Sem.run_bind,BQ hu,Result.andThen_ok,Sem.run_pure,hf];simp[hu]
theorem WA{T:TypeId}{parts:Array (Nat×Operand)}{t:TI}{z:Value}(ho:o.op=.build T parts)(ht:ti P T=some t)(hz:t.zero=some z)(hk:AAM P T=true)
  (wg:Ar (cst z)=true) (hn:∀p∈parts.toList,need (ev tm p.2))
  (hp:ABk (placeOf P T) (AAF (cst z)).length (parts.toList.map fun p=>(p.1,strip (ev tm p.2)))):
  Bv P n o tm S (.agg (ACe (placeOf P T) (AAF (cst z)) (parts.toList.map fun p=>(p.1,strip (ev tm p.2))))) S:=.pure fun G w a st=>by
 have lX:=(Fo G S w z).QP (.inl wg);obtain⟨u',e1,e2⟩:=YS (S:=S) (G:=G) (w:=w) (place:=placeOf P T) (parts.toList.map fun p=>(p.1,strip (ev tm p.2))) (parts.toList.map fun p=>(p.1,a.eval p.2)) _ _ lX (by simp)
  (fun i h1 h2=>by
   simp only[List.getElem_map,true_and];exact(BH st _).strip (hn _ (by simp)))
  hp
 refine⟨.agg u',?_,e2.agg⟩;unfold AAM at hk;rw[ht]at hk;simp only[]at hk;obtain⟨d,hd,gv⟩:=Ai ht w;cases g9:t.kind with
 |struct fs=>
  rw[g9]at hk gv;cases d with
  |struct gs=>
   simp only[tk,TK.struct.injEq]at gv;subst gv;have gg:∀f∈gs.toList,∃u,ti P f.type=some u:=fun f hf=>by
    have:=List.all_eq_true.1 hk (f.offset,f.type) (by simp only[List.mem_map];exact⟨f,hf,rfl⟩);exact Option.isSome_iff_exists.1 this
   have pv:(gs.mapM (m:=Sem) fun f=>do pure (f.offset,←sizeOf f.type)).run P w=.ok (gs.map fun f=>(f.offset,((ti P f.type).map (·.size)).getD 0)) w:=by
    rw[Array.mapM_eq_mapM_toList];have:=NH (P:=P) (w:=w) gs.toList gg;simp only[Sem.run_map,this,Result.andThen_ok];congr 1;apply Array.ext';simp
   have lG:(fun i=>(gs.map fun f=>(f.offset,((ti P f.type).map (·.size)).getD 0))[i]?)=placeOf P T:=by
    funext i;simp only[placeOf,AD7,AAD,ht,g9];simp only[Array.getElem?_map,List.getElem?_map,Array.getElem?_toList];cases hg:gs[i]? with
    |none=>rfl
    |some f=>
     obtain⟨u,hu⟩:=gg f (by
      have:=Array.mem_of_getElem? hg;simpa using this)
     simp[hu]
   simp only[execOp,ho,Instr.build,Sem.run_bind,DF ht w hz,Result.andThen_ok,hd,pv];rw[lG];simp only[Array.toList_map,e1];simp
  |_=>simp[tk]at gv
 |array m e=>
  rw[g9]at hk gv;cases d with
  |array m' e'=>
   simp only[tk,TK.array.injEq]at gv;obtain⟨rfl,rfl⟩:=gv;obtain⟨u,hu⟩:=Option.isSome_iff_exists.1 hk;have lG:(fun i=>some (i * u.size,u.size))=placeOf P T:=by
    funext i;simp only[placeOf,AD7,ht,g9,hu,Option.map_some]
   simp only[execOp,ho,Instr.build,Sem.run_bind,DF ht w hz,Result.andThen_ok,hd,BQ hu];rw[lG];simp only[Array.toList_map,e1];simp
  |_=>simp[tk]at gv
 |_=>rw[g9]at hk;cases hk
end
section
variable {P:Program} {n:Nat} {o:Oper} {tm:Tm} {S S':Sg} {v:V}
def AAn(S:Sg):V→Option D
 |.d d=>some d
 |.full xs=>some (.sl xs)
 |.row r m=>match S[r]? with
  |some (.BJ xs)=>if xs.length=m then some (.sl xs)else none
  |_=>none
 |_=>none
def AA0(S:Sg):List V→Option (List D)
 |[]=>some []
 |x::xs=>match AAn S x,AA0 S xs with
  |some d,some ds=>some (d::ds)
  |_,_=>none
def AC5(S:Sg):V→Option D
 |.agg cs=>(AA0 S cs).map .agg
 |v=>AAn S v
def Lj(S:Sg):List V→Option (List D)
 |[]=>some []
 |x::xs=>match AC5 S x,Lj S xs with
  |some d,some ds=>some (d::ds)
  |_,_=>none
def asD(S:Sg):V→Option D
 |.agg cs=>(AA0 S cs).map .agg
 |.Bd cs=>(Lj S cs).map .Bd
 |v=>AAn S v
theorem Si{xs:List V}:∀{ds:List D},Lj S xs=some ds→ds.length=xs.length∧∀i (h:i<xs.length) (h':i<ds.length),AC5 S xs[i]=some ds[i]:=by
 induction xs with
 |nil=>intro ds h;simp[Lj]at h;subst h;exact⟨rfl,fun i h=>by simp at h⟩
 |cons x xs ih=>
  intro ds h;simp only[Lj]at h;split at h
  ·rename_i d ds' h1 h2;cases h;obtain⟨e1,e2⟩:=ih h2;refine⟨by simp[e1],fun i hi gj=>?_⟩;cases i with
   |zero=>simpa using h1
   |succ i=>simpa using e2 i (by simpa using hi) (by simpa using gj)
  ·cases h
theorem N0{xs:List V}:∀{ds:List D},AA0 S xs=some ds→ds.length=xs.length∧∀i (h:i<xs.length) (h':i<ds.length),AAn S xs[i]=some ds[i]:=by
 induction xs with
 |nil=>intro ds h;simp[AA0]at h;subst h;exact⟨rfl,fun i h=>by simp at h⟩
 |cons x xs ih=>
  intro ds h;simp only[AA0]at h;split at h
  ·rename_i d ds' h1 h2;cases h;obtain⟨e1,e2⟩:=ih h2;refine⟨by simp[e1],fun i hi gj=>?_⟩;cases i with
   |zero=>simpa using h1
   |succ i=>simpa using e2 i (by simpa using hi) (by simpa using gj)
  ·cases h
theorem CV.AAn{G:Gh}{w:World}(R:Rel P G S w){x:V}{d:D}{v:Value}(h:CV G S w x v)(hd:AAn S x=some d):CD G.I w d v:=by
 cases h with
 |d d' v h=>simp only[Koi.AAn,Option.some.injEq]at hd;subst hd;exact h
 |full xs a h=>simp only[Koi.AAn,Option.some.injEq]at hd;subst hd;exact h
 |row r m v ho hr h=>
  simp only[Koi.AAn]at hd;split at hd
  ·rename_i xs hs;split at hd
   ·rename_i hl;simp only[Option.some.injEq]at hd;subst hd;have:=R.CT r _ hs;simp only[OK]at this;rw[(h m (by simp[lenOf,hs,hl])).2 rfl,←hl];exact this
   ·cases hd
  ·cases hd
 |_=>simp[Koi.AAn]at hd
theorem CV.AC5{G:Gh}{w:World}(R:Rel P G S w){x:V}{d:D}{v:Value}(h:CV G S w x v)(hd:AC5 S x=some d):CD G.I w d v:=by
 cases h with
 |agg cs vs hs h ho=>
  simp only[Koi.AC5,Option.map_eq_some_iff]at hd;obtain⟨ds,h1,rfl⟩:=hd;obtain⟨e1,e2⟩:=N0 h1;exact .agg _ _ (by omega) (fun i hi=>(h i (by omega)).AAn R (e2 i (by omega) hi)) ho
 |d d' v h=>exact(CV.d d' v h).AAn R hd
 |full xs a h=>exact(CV.full xs a h).AAn R hd
 |row r m v ho hr h=>exact(CV.row r m v ho hr h).AAn R hd
 |_=>simp[Koi.AC5,Koi.AAn]at hd
theorem CV.asD{G:Gh}{w:World}(R:Rel P G S w){x:V}{d:D}{v:Value}(h:CV G S w x v)(hd:asD S x=some d):CD G.I w d v:=by
 cases h with
 |agg cs vs hs h ho=>
  simp only[Koi.asD,Option.map_eq_some_iff]at hd;obtain⟨ds,h1,rfl⟩:=hd;obtain⟨e1,e2⟩:=N0 h1;exact .agg _ _ (by omega) (fun i hi=>(h i (by omega)).AAn R (e2 i (by omega) hi)) ho
 |Bd cs vs hs h=>
  simp only[Koi.asD,Option.map_eq_some_iff]at hd;obtain⟨ds,h1,rfl⟩:=hd;obtain⟨e1,e2⟩:=Si h1;exact .Bd _ _ (by omega) (fun i hi=>(h i (by omega)).AC5 R (e2 i (by omega) hi))
 |d d' v h=>exact(CV.d d' v h).AAn R hd
 |full xs a h=>exact(CV.full xs a h).AAn R hd
 |row r m v ho hr h=>exact(CV.row r m v ho hr h).AAn R hd
 |_=>simp[Koi.asD,Koi.AAn]at hd
def ABh(S:Sg):Nat→List (Nat×V)→Option (List D)
 |_,[]=>some []
 |k,(i,x)::rest=>if i=k then match asD S x,ABh S (k+1) rest with
   |some d,some ds=>some (d::ds)
   |_,_=>none
  else none
theorem PA(ps:List (Nat×V)):∀(k:Nat) (ds:List D),ABh S k ps=some ds→ds.length=ps.length∧∀i (h:i<ps.length) (h':i<ds.length),ps[i].1=k+i∧asD S ps[i].2=some ds[i]:=by
 induction ps with
 |nil=>intro k ds h;simp[ABh]at h;subst h;exact⟨rfl,fun i h=>by simp at h⟩
 |cons p ps ih=>
  intro k ds h;obtain⟨i0,x⟩:=p;simp only[ABh]at h;split at h
  ·rename_i wh;split at h
   ·rename_i d ds' h1 h2;cases h;obtain⟨e1,e2⟩:=ih _ _ h2;refine⟨by simp[e1],fun i hi gj=>?_⟩;cases i with
    |zero=>exact⟨by simpa using wh,by simpa using h1⟩
    |succ i=>
     obtain⟨a,b⟩:=e2 i (by simpa using hi) (by simpa using gj);exact⟨by simp only[List.getElem_cons_succ];omega,by simpa using b⟩
   ·cases h
  ·cases h
def AA5(size:Nat):List (Nat×V)→Prop
 |[]=>True
 |(_,x)::rest=>(AAF x).length=size∧(Ar x||AAW x)=true∧AA5 size rest
theorem Gq{size:Nat}:∀(ps:List (Nat×V)),AA5 size ps→∀i (h:i<ps.length),(AAF ps[i].2).length=size∧(Ar ps[i].2||AAW ps[i].2)=true
 |(_,x)::rest,h,0,_=>⟨h.1,h.2.1⟩
 |(_,x)::rest,h,i+1,hi=>by simpa using Gq rest h.2.2 i (by simpa using hi)
theorem Lz{size len:Nat}(vals:List (Nat×Value)):∀(k:Nat) (u:Array Value),u.size=len * size→k+vals.length≤len→(∀i (h:i<vals.length),vals[i].1=k+i∧vals[i].2.cells.size=size)→∃u',Instr.fill (fun i=>some (i * size,size)) u vals=some u'∧u'.size=u.size∧(∀i (h:i<vals.length) j,j<size→u'[(k+i) * size+j]?=vals[i].2.cells[j]?)∧(∀m,m<k * size→u'[m]?=u[m]?):=by
 induction vals with
 |nil=>intro k u hu hk _;exact⟨u,rfl,rfl,fun i h=>by simp at h,fun m _=>rfl⟩
 |cons p vals ih=>
  intro k u hu hk hv;obtain⟨i0,y⟩:=p;have h0:=hv 0 (by simp);simp only[List.getElem_cons_zero,Nat.add_zero]at h0;obtain⟨rfl,gp⟩:=h0;simp only[List.length_cons]at hk;have iw:i0 * size+size≤u.size:=by
   have:(i0+1) * size≤len * size:=Nat.mul_le_mul_right _ (by omega);rw[Nat.add_mul]at this;omega
  simp only[Instr.fill];rw[if_neg (by simp;omega)];have hf:(y.cells.zipIdx.foldl (fun cs (p:Value×Nat)=>cs.setIfInBounds (i0 * size+p.2) p.1) u)=AAh u (i0 * size) y.cells.toList:=by
   rw[←Array.foldl_toList,Array.toList_zipIdx,L6];rfl
  obtain⟨u',e1,e2,e3,e4⟩:=ih (i0+1) (AAh u (i0 * size) y.cells.toList) (by rw[DO];exact hu) (by omega) (fun i hi=>by
   have:=hv (i+1) (by simp;omega);simp only[List.getElem_cons_succ]at this;exact⟨by omega,this.2⟩)
  refine⟨u',by rw[←e1];exact congrArg (fun z=>Instr.fill _ z vals) hf,by rw[e2,DO],fun i hi j hj=>?_,fun m hm=>?_⟩
  ·cases i with
   |zero=>
    simp only[List.getElem_cons_zero,Nat.add_zero];rw[e4 _ (by rw[Nat.add_mul];omega),DH _ _ _ _ (by simp;omega),if_pos (by simp;omega)];simp
   |succ i=>
    have:=e3 i (by simpa using hi) j hj;simp only[List.getElem_cons_succ];rw[←this,show i0+(i+1)=i0+1+i from by omega]
  ·rw[e4 m (by rw[Nat.add_mul];omega),DH _ _ _ _ (by simp;omega),if_neg (by omega)]
theorem LA{T E:TypeId}{len:Nat}{parts:Array (Nat×Operand)}{t e:TI}{z:Value}{ds:List D}(ho:o.op=.buildSlice T len parts)(ht:ti P T=some t)(hk:t.kind=.slice E)
  (he:ti P E=some e) (hz:e.zero=some z) (hn:∀p∈parts.toList,need (ev tm p.2)) (hlen:parts.size=len)
  (hp:ABh S 0 (parts.toList.map fun p=>(p.1,strip (ev tm p.2)))=some ds) (hs:AA5 e.size (parts.toList.map fun p=>(p.1,strip (ev tm p.2))))
  (hm:len * e.size≤2 ^ 24) (kI:len≤maxLen):Bv P n o tm S (.full ds) S:=.val fun G w a st=>by
 obtain⟨d,hd,gv⟩:=Ai ht w;have hdE:d=.slice E:=by rw[hk]at gv;cases d<;>simp[tk]at gv⊢;exact gv
 subst hdE;obtain⟨l1,l2⟩:=PA _ _ _ hp;simp only[List.length_map,Array.length_toList]at l1 l2;have kN:∀i (h:i<parts.size),CV G S w (strip (ev tm parts[i].2)) (a.eval parts[i].2):=fun i hi=>(BH st _).strip (hn _ (by simp));have gp:∀i (h:i<parts.size),(a.eval parts[i].2).cells.size=e.size∧∀x∈(a.eval parts[i].2).cells,one x=true:=fun i hi=>by
  have:=Gq _ hs i (by simpa using hi);simp only[List.getElem_map,Array.getElem_toList]at this;obtain⟨c1,c2,_⟩:=(kN i hi).cells (by simpa using this.2);refine⟨by omega,fun x hx=>?_⟩;obtain⟨k,hk,rfl⟩:=Array.mem_iff_getElem.1 hx;exact c2 k hk
 let z0:Array Value:=if len * e.size=0 then #[]else z.cells;let base:Array Value:=(Array.range (len * e.size)).map (z0[·% z0.size]!);obtain⟨u',e1,e2,e3,_⟩:=Lz (size:=e.size) (len:=len) (parts.toList.map fun p=>(p.1,a.eval p.2)) 0 base (by simp[base]) (by simp[hlen]) (fun i hi=>by
  have gj:i<parts.size:=by simpa using hi
  simp only[List.getElem_map,Array.getElem_toList];have:=(l2 i gj (by omega)).1;simp only[List.getElem_map,Array.getElem_toList]at this;exact⟨this,(gp i gj).1⟩)
 obtain⟨r1,r2,r3⟩:=st.rel.Zk (.cells u' E (0,0));refine⟨.slice (some ⟨w.heap.size,0,none⟩) len len,G.Sk w.heap.size,BS w (.cells u' E (0,0)),?_,?_,r1,r2,r3⟩
 ·simp only[execOp,ho,Instr.buildSlice,Sem.run_bind,hd,Result.andThen_ok,BQ he];rw[if_neg (by omega)];simp only[base]at e1;by_cases h0:len * e.size=0
  ·have lX:z0=#[]:=by simp[z0,h0]
   rw[lX]at e1;simp only[if_pos h0,Sem.run_bind,Sem.run_pure,Result.andThen_ok,Array.toList_map,e1];simp[newRow,BS]
  ·have lX:z0=z.cells:=by simp[z0,h0]
   rw[lX]at e1;simp only[if_neg h0,Sem.run_bind,DF he w hz,Sem.run_pure,Result.andThen_ok,Array.toList_map,e1];simp[newRow,BS]
 ·have jo:CD (G.Sk w.heap.size).I (BS w (.cells u' E (0,0))) (.sl ds) (.slice (some ⟨w.heap.size,0,none⟩) ds.length ds.length):=by
   refine .sl e.size ds w.heap.size 0 ds.length (fun i=>a.eval (parts.getD i (0,.const undef)).2) (.inr rfl) (by omega) (Nat.le_refl _) (fun i hi=>?_) (fun i hi=>?_)
   ·have gj:i<parts.size:=by omega
    have hg:parts.getD i (0,.const undef)=parts[i]:=by simp[Array.getD_eq_getD_getElem?,gj]
    rw[hg];have:=(l2 i gj hi).2;simp only[List.getElem_map,Array.getElem_toList]at this;exact((kN i gj).asD st.rel this).mono r3.I r3.DG
   ·have gj:i<parts.size:=by omega
    have hg:parts.getD i (0,.const undef)=parts[i]:=by simp[Array.getD_eq_getD_getElem?,gj]
    rw[hg];refine⟨(gp i gj).1,fun j hj=>?_⟩;rw[cell_of C0];have:=e3 i (by simpa using gj) j hj;simpa using this
  have py:len=ds.length:=by omega
  rw[py];exact .full _ _ jo
end
def AEb(c x y:V):V:=match c with|.d (.bool b)=>ADM b x y|_=>.any
def Tt(c x y:V):Prop:=match c with|.d (.bool b)=>Jr b x y|_=>False
def ACO(P:Program)(T:TypeId):Bool:=match ti P T with|some t=>(match t.kind with|.bool=>true|_=>false)|none=>false
def AB6(P:Program)(T:TypeId):Bool:=match ti P T with|some t=>(match t.kind with|.str=>true|_=>false)|none=>false
def AAH(P:Program)(T:TypeId):Option TypeId:=match ti P T with|some t=>(match t.kind with|.slice e=>some e|_=>none)|none=>none
def intKind(P:Program)(T:TypeId):Option IntKind:=match ti P T with|some t=>(match t.kind with|.int k=>some k|_=>none)|none=>none
def Aq(P:Program)(T:TypeId):Option Nat:=(ti P T).map (·.size)
def BF(P:Program)(T:TypeId):Bool:=match ti P T with|some t=>t.agg|none=>false
def Au(P:Program)(T:TypeId):Option V:=match ti P T with|some t=>t.zero.map cst|none=>none
def AE1(x y:V)(op:BinOp):V:=
 match x,y with
 |.d (.int k a),.d (.int _ b)=>arith op k a b
 |.d (.bool a),.d (.bool b)=>match op with|.eql=>.d (.bool ((a==b)!=false))|.neq=>.d (.bool ((a==b)!=true))|_=>.any
 |.d (.str a),.d (.str b)=>AES op (.d (.str a)) (.d (.str b))
 |_,_=>.any
def Zn(P:Program)(T:TypeId)(x y:V)(op:BinOp):Prop:=
 match x,y with
 |.d (.int k _),.d (.int k' b)=>AB2 op k k'∧ABg op b
 |.d (.bool _),.d (.bool _)=>ACO P T=true∧(match op with|.eql|.neq=>True|_=>False)
 |.d (.str a),.d (.str b)=>MM op (.d (.str a)) (.d (.str b))
 |_,_=>False
def cp(x:V):V:=match x with|.d (.bool b)=>.d (.bool !b)|_=>.any
def Zy(x:V):Prop:=match x with|.d (.bool _)=>True|_=>False
def ADq(P:Program)(U:TypeId)(x:V):V:=
 match x with
 |.d (.int _ i)=>match intKind P U with|some k=>.d (.int k (k.wrap i))|none=>.any
 |_=>.any
def Vl(P:Program)(T U:TypeId)(x:V):Prop:=
 match x with
 |.d (.int _ _)=>(Aq P T).isSome=true∧(intKind P U).isSome=true
 |_=>False
def ABn(agg:Bool)(size:Nat)(S:Sg)(p:V):V:=
 match p with
 |.ptr r m i j=>Km agg size (P5 S (.ptr r m i j)) j
 |.Cc cs=>OY agg size cs
 |_=>.any
def Gj(agg:Bool)(size:Nat)(S:Sg)(p:V):Prop:=
 (agg||size==1)=true∧match p with
 |.ptr r m i j=>ABZ S (.ptr r m i j) fun _ _ _ j sz _=>j+size≤sz
 |.Cc cs=>size≤cs.length
 |_=>False
def FM(x:V):Int:=match x with|.d (.int _ i)=>i|_=>0
def FF(x:V):Prop:=match x with|.d (.int _ _)=>True|_=>False
def AFG(x:V)(k:Nat):V:=match x with|.Bd vs=>vs.getD k .any|.d (.Bd vs)=>.d (vs.getD k (.bool false))|_=>.any
def ZS(x:V)(k:Nat):Prop:=match x with|.Bd vs=>k<vs.length|.d (.Bd vs)=>k<vs.length|_=>False
def Tf(S:Sg)(x:V):Prop:=match x with|.ptr r m i j=>ABD S (.ptr r m i j)|.Cc _=>True|_=>False
def AEp(x:V):V:=
 match x with
 |.d (.sl xs)=>.d (.int .i64 xs.length)
 |.full xs=>.d (.int .i64 xs.length)
 |.row _ m=>.d (.int .i64 m)
 |.d (.str s)=>.d (.int .i64 s.size)
 |_=>.any
def Z8(P:Program)(T:TypeId)(S:Sg)(x:V):Prop:=
 match x with
 |.d (.sl _)=>(AAH P T).isSome=true
 |.full _=>(AAH P T).isSome=true
 |.row r m=>lenOf S r=some m∧(AAH P T).isSome=true
 |.d (.str _)=>AB6 P T=true
 |_=>False
def AEc(x:Option (List D)):V:=match x with|some ds=>.full ds|none=>.any
def B3(tm:Tm)(ps:Array (Nat×Operand)):List (Nat×V):=ps.toList.map fun p=>(p.1,strip (ev tm p.2))
def ABX(tm:Tm):List (Nat×Operand)→Prop
 |[]=>True
 |p::ps=>need (ev tm p.2)∧ABX tm ps
theorem GI{tm:Tm}:∀{ps:List (Nat×Operand)},ABX tm ps→∀p∈ps,need (ev tm p.2)
 |p::ps,h,q,hq=>by
  cases hq with
  |head=>exact h.1
  |tail _ hq=>exact GI h.2 q hq
def DL(c:Call):Operand:=c.args.toList.headD (.const undef)
def Je(c:Call):TypeId:=c.argTypes.toList.headD 0
def ABL(P:Program)(op:Op)(tm:Tm)(S:Sg):V:=
 match op with
 |.move x=>ev tm x
 |.assign x=>ev tm x
 |.pick c x y=>AEb (strip (ev tm c)) (ev tm x) (ev tm y)
 |.binOp b _ x y _=>AE1 (strip (ev tm x)) (strip (ev tm y)) b
 |.unOp .not _ x=>cp (strip (ev tm x))
 |.convert _ U x=>ADq P U (strip (ev tm x))
 |.load T x=>ABn (BF P T) ((Aq P T).getD 0) S (strip (ev tm x))
 |.fieldAddr T x f=>faV (((AAD P T f).map (·.1)).getD 0) (strip (ev tm x))
 |.field T x f=>Km (((AAD P T f).map fun p=>BF P p.2).getD false) (((AAD P T f).map fun p=>(Aq P p.2).getD 0).getD 0) (strip (ev tm x)) (((AAD P T f).map (·.1)).getD 0)
 |.indexAddr _ x y=>iaV (strip (ev tm x)) (FM (strip (ev tm y))).toNat
 |.extract x k=>AFG (strip (ev tm x)) k
 |.nilCheck x=>strip (ev tm x)
 |.build T ps=>.agg (ACe (placeOf P T) (AAF ((Au P T).getD .any)) (B3 tm ps))
 |.buildSlice _ _ ps=>AEc (ABh S 0 (B3 tm ps))
 |.makeFunc f as bs=>.fn f (as.toList.map (ev tm)) (bs.toList.map (ev tm))
 |.call c=>match c.callee with
  |.builtin .len=>AEp (strip (ev tm (DL c)))
  |_=>.any
 |_=>.any
def ABK(P:Program)(op:Op)(tm:Tm)(S:Sg):Prop:=
 match op with
 |.move _=>True
 |.assign _=>True
 |.pick c x y=>need (ev tm c)∧Tt (strip (ev tm c)) (ev tm x) (ev tm y)
 |.binOp b T x y _=>need (ev tm x)∧need (ev tm y)∧Zn P T (strip (ev tm x)) (strip (ev tm y)) b
 |.unOp .not _ x=>need (ev tm x)∧Zy (strip (ev tm x))
 |.convert T U x=>need (ev tm x)∧Vl P T U (strip (ev tm x))
 |.load T x=>need (ev tm x)∧(Aq P T).isSome=true∧Gj (BF P T) ((Aq P T).getD 0) S (strip (ev tm x))
 |.fieldAddr T x f=>need (ev tm x)∧(match AAD P T f with|some p=>(match Aq P p.2 with|some s=>s≠0|none=>False)|none=>False)∧ABD S (strip (ev tm x))
 |.field T x f=>need (ev tm x)∧Ar (strip (ev tm x))=true∧(match AAD P T f with|some p=>(match Aq P p.2 with|some s=>p.1+s≤(AAF (strip (ev tm x))).length∧(BF P p.2||s==1)=true|none=>False)|none=>False)
 |.indexAddr T x y=>need (ev tm x)∧need (ev tm y)∧FF (strip (ev tm y))∧(match AAH P T with|some E=>(match Aq P E with|some s=>AAe S (strip (ev tm x)) (FM (strip (ev tm y))) s|none=>False)|none=>False)
 |.extract x k=>need (ev tm x)∧ZS (strip (ev tm x)) k
 |.nilCheck x=>need (ev tm x)∧Tf S (strip (ev tm x))
 |.build T ps=>ABX tm ps.toList∧AAM P T=true∧(match Au P T with|some z=>Ar z=true∧ABk (placeOf P T) (AAF z).length (B3 tm ps)|none=>False)
 |.buildSlice T len ps=>ABX tm ps.toList∧ps.size=len∧(ABh S 0 (B3 tm ps)).isSome=true∧(match AAH P T with|some E=>(match Aq P E with|some s=>(Au P E).isSome=true∧AA5 s (B3 tm ps)∧len * s≤2 ^ 24∧len≤maxLen|none=>False)|none=>False)
 |.makeFunc ..=>True
 |.call c=>match c.callee with
  |.builtin .len=>c.args=#[DL c]∧c.argTypes=#[Je c]∧need (ev tm (DL c))∧Z8 P (Je c) S (strip (ev tm (DL c)))
  |_=>False
 |_=>False
theorem Bn{P:Program}{T:TypeId}{s:Nat}(h:Aq P T=some s):∃t,ti P T=some t∧t.size=s∧BF P T=t.agg:=by
 simp only[Aq,Option.map_eq_some_iff]at h;obtain⟨t,h1,h2⟩:=h;exact⟨t,h1,h2,by simp[BF,h1]⟩
theorem BA{P:Program}{T E:TypeId}(h:AAH P T=some E):∃t,ti P T=some t∧t.kind=.slice E:=by
 unfold AAH at h;split at h
 ·rename_i t ht;split at h
  ·rename_i e hk;cases h;exact⟨t,ht,hk⟩
  ·cases h
 ·cases h
theorem GQ{P:Program}{T:TypeId}{k:IntKind}(h:intKind P T=some k):∃t,ti P T=some t∧t.kind=.int k:=by
 unfold intKind at h;split at h
 ·rename_i t ht;split at h
  ·rename_i e hk;cases h;exact⟨t,ht,hk⟩
  ·cases h
 ·cases h
theorem NA{P:Program}{T:TypeId}(h:ACO P T=true):∃t,ti P T=some t∧t.kind=.bool:=by
 unfold ACO at h;split at h
 ·rename_i t ht;split at h
  ·rename_i hk;exact⟨t,ht,hk⟩
  ·cases h
 ·cases h
theorem Gn{P:Program}{T:TypeId}(h:AB6 P T=true):∃t,ti P T=some t∧t.kind=.str:=by
 unfold AB6 at h;split at h
 ·rename_i t ht;split at h
  ·rename_i hk;exact⟨t,ht,hk⟩
  ·cases h
 ·cases h
theorem Dc{P:Program}{T:TypeId}{z:V}(h:Au P T=some z):∃t u,ti P T=some t∧t.zero=some u∧cst u=z:=by
 unfold Au at h;split at h
 ·rename_i t ht;simp only[Option.map_eq_some_iff]at h;obtain⟨u,h1,h2⟩:=h;exact⟨t,u,ht,h1,h2⟩
 ·cases h
section
variable {P:Program} {n:Nat} {o:Oper} {tm:Tm} {S S':Sg} {v:V}
theorem aA(h:ABK P o.op tm S):Bv P n o tm S (ABL P o.op tm S) S:=by
 generalize g7:o.op=op at h;cases op<;>simp only[ABK]at h<;>simp only[ABL];case move x=>exact YC g7
 case assign x=>exact Rv g7
 case pick c x y=>
  obtain⟨h1,h2⟩:=h;unfold Tt at h2;split at h2
  ·rename_i b hb;rw[hb];exact Xm g7 hb h1 h2
  ·exact h2.elim
 case build T ps=>
  obtain⟨h1,h2,h3⟩:=h;split at h3
  ·rename_i z hz;obtain⟨t,u,e1,e2,e3⟩:=Dc hz;subst e3;rw[hz];exact WA g7 e1 e2 h2 h3.1 (GI h1) h3.2
  ·exact h3.elim
 case buildSlice T len ps=>
  obtain⟨h1,h2,h3,h4⟩:=h;split at h4
  ·rename_i E hE;split at h4
   ·rename_i s hs;obtain⟨h4,h5,h6,h7⟩:=h4;obtain⟨ds,sA⟩:=Option.isSome_iff_exists.1 h3;obtain⟨t,e1,e2⟩:=BA hE;obtain⟨e,f1,f2,_⟩:=Bn hs;obtain⟨z,hz⟩:=Option.isSome_iff_exists.1 h4;obtain⟨t',u,g1,g2,g3⟩:=Dc hz;rw[f1]at g1;cases g1;rw[sA];subst f2;exact LA g7 e1 e2 f1 g2 (GI h1) h2 sA h5 h6 h7
   ·exact h4.elim
  ·exact h4.elim
 case load T x=>
  obtain⟨h1,h2,h3,h4⟩:=h;obtain⟨s,hs⟩:=Option.isSome_iff_exists.1 h2;obtain⟨t,e1,e2,e3⟩:=Bn hs;rw[hs]at h3 h4⊢;rw[e3]at h3⊢;simp only[Option.getD_some]at h3 h4⊢;subst e2;have ha:t.agg=true∨t.size=1:=by simpa using h3
  split at h4
  ·rename_i r m i j hx;rw[hx];have:=XD (P:=P) (n:=n) (S:=S) g7 h1 e1 ha (by rw[hx];exact h4);rw[hx]at this;exact this
  ·rename_i cs hx;rw[hx];exact UR g7 h1 hx e1 ha h4
  ·exact h4.elim
 case nilCheck x=>
  obtain⟨h1,h2⟩:=h;unfold Tf at h2;split at h2
  ·rename_i r m i j hx;rw[hx];exact Nq g7 h1 hx h2
  ·rename_i cs hx;rw[hx];exact ML g7 h1 hx
  ·exact h2.elim
 case binOp b T x y U=>
  obtain⟨h1,h2,h3⟩:=h;unfold Zn at h3;split at h3
  ·rename_i k i k' j hx hy;obtain⟨h4,h3⟩:=h3;rw[hx,hy];exact ZX g7 h1 h2 hx hy h4 h3
  ·rename_i p q hx hy;obtain⟨h3,h4⟩:=h3;obtain⟨t,e1,e2⟩:=NA h3;rw[hx,hy];split at h4
   ·exact Ly (neg:=false) g7 h1 h2 hx hy e1 e2
   ·exact Ly (neg:=true) g7 h1 h2 hx hy e1 e2
   ·exact h4.elim
  ·rename_i p q hx hy;rw[hx,hy];exact Z2 g7 h1 h2 hx hy h3
  ·exact h3.elim
 case unOp b T x=>
  cases b<;>simp only at h⊢;case not=>
   obtain⟨h1,h2⟩:=h;unfold Zy at h2;split at h2
   ·rename_i p hx;rw[hx];exact bB g7 h1 hx
   ·exact h2.elim
 case convert T U x=>
  obtain⟨h1,h2⟩:=h;unfold Vl at h2;split at h2
  ·rename_i k i hx;obtain⟨h2,h3⟩:=h2;obtain⟨s,hs⟩:=Option.isSome_iff_exists.1 h2;obtain⟨t,e1,_,_⟩:=Bn hs;obtain⟨j,hj⟩:=Option.isSome_iff_exists.1 h3;obtain⟨u,f1,f2⟩:=GQ hj;rw[hx];simp only[ADq,hj];exact PX g7 h1 hx e1 f1 f2
  ·exact h2.elim
 case makeFunc f as bs=>exact OW g7
 case fieldAddr T x f=>
  obtain⟨h1,h2,h3⟩:=h;split at h2
  ·rename_i p hp;split at h2
   ·rename_i s hs;obtain⟨t,e1,e2,_⟩:=Bn hs;rw[hp];exact MW g7 h1 hp e1 (by omega) h3
   ·exact h2.elim
  ·exact h2.elim
 case field T x f=>
  obtain⟨h1,h2,h3⟩:=h;split at h3
  ·rename_i p hp;split at h3
   ·rename_i s hs;obtain⟨t,e1,e2,e3⟩:=Bn hs;obtain⟨h3,h4⟩:=h3;rw[hp];simp only[Option.map_some,Option.getD_some,hs,e3];subst e2;rw[e3]at h4;exact Tg g7 h1 hp e1 h2 h3 (by simpa using h4)
   ·exact h3.elim
  ·exact h3.elim
 case indexAddr T x y=>
  obtain⟨h1,h2,h3,h4⟩:=h;split at h4
  ·rename_i E hE;split at h4
   ·rename_i s hs;obtain⟨t,e1,e2⟩:=BA hE;obtain⟨e,f1,f2,_⟩:=Bn hs;unfold FF at h3;split at h3
    ·rename_i k i hy;rw[hy]at h4⊢;simp only[FM]at h4⊢;subst f2;exact Mk g7 h1 h2 e1 e2 f1 hy h4
    ·exact h3.elim
   ·exact h4.elim
  ·exact h4.elim
 case extract x k=>
  obtain⟨h1,h2⟩:=h;unfold ZS at h2;split at h2
  ·rename_i vs hx;rw[hx];exact PJ g7 h1 hx h2
  ·rename_i vs hx;rw[hx];exact NT g7 h1 hx h2
  ·exact h2.elim
 case call c=>
  split at h
  ·rename_i hc;obtain⟨h1,h2,h3,h4⟩:=h;unfold Z8 at h4;split at h4
   ·rename_i xs hx;obtain⟨E,hE⟩:=Option.isSome_iff_exists.1 h4;obtain⟨t,e1,e2⟩:=BA hE;rw[hx];exact R7 g7 hc h1 h2 h3 hx e1 e2
   ·rename_i xs hx;obtain⟨E,hE⟩:=Option.isSome_iff_exists.1 h4;obtain⟨t,e1,e2⟩:=BA hE;rw[hx];exact Nr g7 hc h1 h2 h3 hx e1 e2
   ·rename_i r m hx;obtain⟨h4,h5⟩:=h4;obtain⟨E,hE⟩:=Option.isSome_iff_exists.1 h5;obtain⟨t,e1,e2⟩:=BA hE;rw[hx];exact O3 g7 hc h1 h2 h3 hx h4 e1 e2
   ·rename_i s hx;obtain⟨t,e1,e2⟩:=Gn h4;rw[hx];exact Pp g7 hc h1 h2 h3 hx e1 e2
   ·exact h4.elim
  ·exact h.elim
end
section
variable {P:Program} {n:Nat} {o:Oper} {tm:Tm} {S S':Sg} {v:V}
def ABS(S:Sg)(x:V):Option (List V):=
 match x with
 |.d (.sl ys)=>some (ys.map .d)
 |.full ys=>some (ys.map .d)
 |.row r m=>match S[r]? with
  |some (.row _ _ els)=>if els.length=m then some els else none
  |some (.BJ xs)=>if xs.length=m then some (xs.map .d)else none
  |_=>none
 |_=>none
def Af(sz:Nat)(ys:List V):Prop:=∀y∈ys,(AAF y).length=sz∧(Ar y||AAW y)=true
@[simp] theorem cC(sz:Nat):Af sz []:=fun y h=>by simp at h
@[simp] theorem ZT(sz:Nat)(y:V)(ys:List V):Af sz (y::ys)↔((AAF y).length=sz∧(Ar y||AAW y)=true)∧Af sz ys:=by
 simp[Af]
@[simp] theorem YN(sz:Nat)(xs ys:List V):Af sz (xs++ys)↔Af sz xs∧Af sz ys:=by
 simp only[Af,List.mem_append];exact⟨fun h=>⟨fun y hy=>h y (.inl hy),fun y hy=>h y (.inr hy)⟩,fun h y hy=>hy.elim (h.1 y) (h.2 y)⟩
@[simp] theorem bm{α:Type}(sz:Nat)(f:α→V)(ys:List α):Af sz (ys.map f)↔∀y∈ys,(AAF (f y)).length=sz∧(Ar (f y)||AAW (f y))=true:=by
 simp[Af]
structure TU(G:Gh)(S:Sg)(w:World)(sz:Nat)(ys:List V)(us:List Value)(c:Array Value)(k0:Nat):Prop where
 len:us.length=ys.length
 cv:∀i (h:i<ys.length) (h':i<us.length),CV G S w ys[i] us[i]∧us[i].cells.size=sz∧∀x∈us[i].cells,one x=true
 at_:∀i (h:i<us.length) j,j<sz→c[k0+i * sz+j]?=us[i].cells[j]?
theorem D0{i j sz m:Nat}(hi:i<m)(hj:j<sz):i * sz+j<m * sz:=by
 have:(i+1) * sz≤m * sz:=Nat.mul_le_mul_right _ hi;rw[Nat.add_mul]at this;omega
theorem N6{w:World}{b off sz m:Nat}{us:List Value}(hm:us.length=m)(hs:∀i (h:i<us.length),us[i].cells.size=sz)
  (h:∀i (h:i<us.length) j,j<sz→w.cell? ⟨b,off+i * sz+j,none⟩=us[i].cells[j]?):
  ∃c,(∀w',w'.heap=w.heap→(loadCells ⟨b,off,none⟩ (m * sz)).run P w'=.ok c w')∧c.size=m * sz∧∀i (h:i<us.length) j,j<sz→c[i * sz+j]?=us[i].cells[j]?:=by
 have key:∀k,k<m * sz→∃x,w.cell? ⟨b,off+k,none⟩=some x:=fun k hk=>by
  have gp:0<sz:=by
   rcases Nat.eq_zero_or_pos sz with h0|h0
   ·subst h0;simp at hk
   ·exact h0
  have hi:k / sz<us.length:=by rw[hm];exact Nat.div_lt_of_lt_mul (by rw[Nat.mul_comm];exact hk)
  have hj:k % sz<sz:=Nat.mod_lt _ gp;have e:k / sz * sz+k % sz=k:=by rw[Nat.mul_comm];exact Nat.div_add_mod k sz
  have:=h (k / sz) hi (k % sz) hj;rw[Nat.add_assoc,e]at this;have h2:=hs (k / sz) hi;refine⟨us[k / sz].cells[k % sz]'(by omega),?_⟩;rw[this,Array.getElem?_eq_getElem (by omega)]
 refine⟨Array.ofFn (n:=m * sz) fun k=>(w.cell? ⟨b,off+k.val,none⟩).getD undef,fun w' qF=>?_,by simp,fun i hi j hj=>?_⟩
 ·refine run_loadCells _ (by simp) fun j hj=>?_;rw[HP (w:=w) (by rw[qF])];obtain⟨x,hx⟩:=key j hj;simp[hx,hj]
 ·have cx:i * sz+j<m * sz:=D0 (by omega) hj;have:=h i hi j hj;rw[Nat.add_assoc]at this;obtain⟨x,hx⟩:=key _ cx;simp only[Array.getElem?_ofFn,cx,dif_pos];rw[←this,hx];rfl
theorem FC{G:Gh}{w:World}{ys:List D}{cv:Value}{sz:Nat}(h:CD G.I w (.sl ys) cv)(hs:Af sz (ys.map .d)):
  ∃us c,(∀w',(Builtin.lenOf cv).run P w'=.ok ys.length w')∧(∀w',w'.heap=w.heap→(Builtin.firstCells sz ys.length cv).run P w'=.ok c w')∧c.size=ys.length * sz∧TU G S w sz (ys.map .d) us c 0:=by
 cases h with
 |nil a cap=>
  refine⟨[],#[],fun _=>by simp[Builtin.lenOf],fun w' _=>?_,by simp,⟨rfl,fun i h=>by simp at h,fun i h=>by simp at h⟩⟩;cases a<;>simp[Builtin.firstCells,loadCells,loadCellsFrom]
 |sl sz' xs b off cap vs hI hl hc h1 h2=>
  have ia:∀i (h:i<ys.length),CV G S w (.d ys[i]) (vs i)∧(vs i).cells.size=sz∧(∀x∈(vs i).cells,one x=true)∧sz'=sz:=fun i hi=>by
   have iO:CV G S w (.d ys[i]) (vs i):=.d _ _ (h1 i hi);have gp:=hs (.d ys[i]) (by simp);obtain⟨c1,c2,_⟩:=iO.cells (by simpa using gp.2);refine⟨iO,by omega,fun x hx=>?_,?_⟩
   ·obtain⟨k,hk,rfl⟩:=Array.mem_iff_getElem.1 hx;exact c2 k hk
   ·have:=(h2 i hi).1;omega
  obtain⟨c,e1,e2,e3⟩:=N6 (P:=P) (w:=w) (b:=b) (off:=off) (sz:=sz) (m:=ys.length) (us:=(List.range ys.length).map vs) (by simp)
   (fun i hi=>by simp at hi;simpa using(ia i hi).2.1)
   (fun i hi j hj=>by
    simp at hi;have:=(h2 i hi).2 j (by have:=(ia i hi).2.2.2;omega);rw[(ia i hi).2.2.2]at this;simpa using this)
  refine⟨(List.range ys.length).map vs,c,fun _=>by simp[Builtin.lenOf],fun w' qF=>by simp[Builtin.firstCells,e1 w' qF],e2,⟨by simp,fun i hi gj=>?_,fun i hi j hj=>by rw[Nat.zero_add];exact e3 i hi j hj⟩⟩;have jR:i<ys.length:=by simpa using hi
  have:=ia i jR;simp only[List.getElem_map,List.getElem_range];exact⟨this.1,this.2.1,this.2.2.1⟩
theorem QE{G:Gh}{w:World}(R:Rel P G S w){r:Nat}{wr:Bool}{sz:Nat}{els:List V}(hr:S[r]?=some (.row wr sz els))(hs:Af sz els):
  ∃us c,(∀w',(Builtin.lenOf (G.AAP r els.length)).run P w'=.ok els.length w')∧(∀w',w'.heap=w.heap→(Builtin.firstCells sz els.length (G.AAP r els.length)).run P w'=.ok c w')∧c.size=els.length * sz∧TU G S w sz els us c 0:=by
 have gw:=R.CT r _ hr;simp only[OK]at gw;cases hv:G.BB r with
 |none=>
  simp only[hv]at gw;obtain⟨c,T,g1,g2,g3,g4,g5⟩:=gw;let us:List Value:=(List.range els.length).map fun i=>if h:i<els.length then(g5 i h).choose else undef;have oo:∀i (h:i<els.length),CV G S w els[i] (us[i]'(by simp[us];exact h))∧(us[i]'(by simp[us];exact h)).cells.size=sz∧(∀x∈(us[i]'(by simp[us];exact h)).cells,one x=true)∧∀j,j<sz→c[(G.cap r).2+(i * sz+j)]?=(us[i]'(by simp[us];exact h)).cells[j]?:=fun i hi=>by
   have:=(g5 i hi).choose_spec;simpa[us,hi]using this
  obtain⟨c',e1,e2,e3⟩:=N6 (P:=P) (w:=w) (b:=G.BZ r) (off:=(G.cap r).2) (sz:=sz) (m:=els.length) (us:=us) (by simp[us])
   (fun i hi=>(oo i (by simpa[us]using hi)).2.1)
   (fun i hi j hj=>by
    rw[cell_of g1,Nat.add_assoc];exact(oo i (by simpa[us]using hi)).2.2.2 j hj)
  refine⟨us,c',fun _=>by simp[Gh.AAP,hv,Builtin.lenOf],fun w' qF=>by simp[Gh.AAP,hv,Builtin.firstCells,e1 w' qF],e2,⟨by simp[us],fun i hi gj=>?_,fun i hi j hj=>by rw[Nat.zero_add];exact e3 i hi j hj⟩⟩;have:=oo i hi;exact⟨this.1,this.2.1,this.2.2.1⟩
 |some a=>
  simp only[hv]at gw;obtain⟨_,_,xs,rfl,hc⟩:=gw;have:=FC (P:=P) (S:=S) hc hs;simpa[Gh.AAP,hv]using this
theorem Zx{G:Gh}{w:World}(R:Rel P G S w){x:V}{cv:Value}{ys:List V}{sz:Nat}(h:CV G S w x cv)(he:ABS S x=some ys)(hs:Af sz ys):
  ∃us c,(∀w',(Builtin.lenOf cv).run P w'=.ok ys.length w')∧(∀w',w'.heap=w.heap→(Builtin.firstCells sz ys.length cv).run P w'=.ok c w')∧c.size=ys.length * sz∧TU G S w sz ys us c 0:=by
 cases h with
 |d d v h=>
  cases d<;>simp only[ABS,Option.some.injEq,reduceCtorEq]at he;subst he;simpa using FC (P:=P) (S:=S) h hs
 |full xs a h=>
  simp only[ABS,Option.some.injEq]at he;subst he;simpa using FC (P:=P) (S:=S) h hs
 |row r m v ho hr h=>
  simp only[ABS]at he;split at he
  ·rename_i wr sz' els hS;split at he
   ·rename_i hl;simp only[Option.some.injEq]at he;subst he;have hv:=(h m (by simp[lenOf,hS,hl])).2 rfl;subst hl;rw[hv];have gw:=R.CT r _ hS;by_cases hz:els=[]
    ·subst hz;refine⟨[],#[],fun w'=>?_,fun w' _=>?_,by simp,⟨rfl,fun i h=>by simp at h,fun i h=>by simp at h⟩⟩
     ·unfold Gh.AAP;split<;>simp[Builtin.lenOf]
     ·unfold Gh.AAP;split
      ·simp[Builtin.firstCells,loadCells,loadCellsFrom]
      ·rename_i a _;cases a<;>simp[Builtin.firstCells,loadCells,loadCellsFrom]
    ·have hlen:0<els.length:=List.length_pos_iff.2 hz;have lF:sz'=sz∨G.BB r≠none:=by
      cases ku:G.BB r with
      |some a=>exact .inr (by simp)
      |none=>
       left;simp only[OK,ku]at gw;obtain⟨c,T,g1,g2,g3,g4,g5⟩:=gw;obtain⟨u,u1,u2,u3,u4⟩:=g5 0 hlen;have:=hs els[0] (by simp);obtain⟨c1,_⟩:=u1.cells (by simpa using this.2);omega
     rcases lF with e|e
     ·subst e;exact QE R hS hs
     ·cases ku:G.BB r with
      |none=>exact absurd ku e
      |some a=>
       simp only[OK,ku]at gw;obtain⟨_,_,xs,rfl,hc⟩:=gw;have:=FC (P:=P) (S:=S) hc hs;simpa[Gh.AAP,ku]using this
   ·cases he
  ·rename_i xs hS;split at he
   ·rename_i hl;simp only[Option.some.injEq]at he;subst he;have hv:=(h m (by simp[lenOf,hS,hl])).2 rfl;subst hl;rw[hv];have gw:=R.CT r _ hS;simp only[OK]at gw;have:=FC (P:=P) (S:=S) gw hs;simpa using this
   ·cases he
  ·cases he
 |_=>simp[ABS]at he
end
end Go.Koi
