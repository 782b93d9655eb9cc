/-
  Part 3 of the proof that the law ChangeRenames of the package koinelaw31 returns true for every input.
-/
import Derived.Test.YtknmpedpidhhbaaGreatDoorK01
set_option maxHeartbeats 64000000
set_option maxRecDepth 100000
namespace Go.Koi
section
variable {P:Program} {n:Nat} {o:Oper} {tm:Tm} {S S':Sg} {v:V}
def MZ(e:V)(j:Nat)(x:V):V:=
 if Ar e then
  if j=0∧(AAD e).length=(AAD x).length∧Ar x=true then x
  else .agg ((AAD e).take j++AAD x++(AAD e).drop (j+(AAD x).length))
 else x
theorem CV.Iv{G:Gh}{w:World}{cs:List V}{u:Array Value}(hs:u.size=cs.length)(h:∀i (h:i<cs.length),∃x,u[i]?=some x∧CV G S w cs[i] x)
  (ho:∀i (h:i<u.size),Koi.one u[i]=true):CV G S w (.agg cs) (.agg u):=.agg _ _ hs (fun i hi=>by
   obtain⟨x,h1,h2⟩:=h i hi;have:u[i]'(by omega)=x:=by rw[Array.getElem?_eq_getElem (by omega)]at h1;simpa using h1
   rw[this];exact h2) ho
theorem Xa{G:Gh}{w:World}{e x:V}{u y:Value}{j:Nat}(h:CV G S w e u)(he:Ar e=true∨AAV e=true)(h':CV G S w x y)(hx:Ar x=true∨AAV x=true)
  (hj:j+(AAD x).length≤(AAD e).length) (hk:Ar e=true∨Ar x=false):
  ∃z,CV G S w (MZ e j x) z∧z.cells.size=u.cells.size∧(∀c∈z.cells,one c=true)∧(∀i,z.cells[i]?=if j≤i∧i<j+y.cells.size then y.cells[i - j]? else u.cells[i]?)∧(Ar (MZ e j x)=true∨AAV (MZ e j x)=true)∧(AAD (MZ e j x)).length=(AAD e).length:=by
 obtain⟨c1,c2,c3⟩:=h.cells he;obtain⟨d1,d2,d3⟩:=h'.cells hx;have allOne:∀{z:Value},(∀i (h:i<z.cells.size),one z.cells[i]=true)→∀c∈z.cells,one c=true:=fun hz c hc=>by
  obtain⟨i,hi,rfl⟩:=Array.mem_iff_getElem.1 hc;exact hz i hi
 have whole:j=0→(AAD e).length=(AAD x).length→∀i,y.cells[i]?=if j≤i∧i<j+y.cells.size then y.cells[i - j]? else u.cells[i]?:=fun h0 h1 i=>by
  subst h0;by_cases hi:i<y.cells.size
  ·rw[if_pos (by omega)];simp
  ·rw[if_neg (by omega),Array.getElem?_eq_none (by omega),Array.getElem?_eq_none (by omega)]
 unfold MZ;split
 ·rename_i hagg;split
  ·rename_i hc;obtain⟨h0,h1,_⟩:=hc;exact⟨y,h',by omega,allOne d2,whole h0 h1,hx,h1.symm⟩
  ·let z:Array Value:=Array.ofFn (n:=u.cells.size) fun i=>if j≤i.val∧i.val<j+y.cells.size then y.cells.getD (i.val - j) undef else u.cells.getD i.val undef;have hz:z.size=u.cells.size:=by simp[z]
   have hzi:∀i,z[i]?=if j≤i∧i<j+y.cells.size then y.cells[i - j]? else u.cells[i]?:=fun i=>by
    by_cases h3:i<u.cells.size
    ·simp only[z,Array.getElem?_ofFn,h3,dif_pos];by_cases h2:j≤i∧i<j+y.cells.size
     ·rw[if_pos h2,if_pos h2,Array.getElem?_eq_getElem (show i - j<y.cells.size by omega)];simp[Array.getD_eq_getD_getElem?,show i - j<y.cells.size by omega]
     ·rw[if_neg h2,if_neg h2,Array.getElem?_eq_getElem h3];simp
    ·rw[Array.getElem?_eq_none (by omega),if_neg (by omega),Array.getElem?_eq_none (by omega)]
   have hzo:∀i (h:i<z.size),one z[i]=true:=fun i hi=>by
    have h1:=hzi i;rw[Array.getElem?_eq_getElem hi]at h1;by_cases h2:j≤i∧i<j+y.cells.size
    ·rw[if_pos h2,Array.getElem?_eq_getElem (by omega)]at h1;simp only[Option.some.injEq]at h1;rw[h1];exact d2 _ _
    ·rw[if_neg h2,Array.getElem?_eq_getElem (by omega)]at h1;simp only[Option.some.injEq]at h1;rw[h1];exact c2 _ _
   have hlen:((AAD e).take j++AAD x++(AAD e).drop (j+(AAD x).length)).length=(AAD e).length:=by simp;omega
   refine⟨.agg z,CV.Iv (by rw[hz,hlen,c1]) (fun i hi=>?_) hzo,hz,?_,hzi,.inl rfl,hlen⟩
   ·rw[hlen]at hi;rw[hzi];by_cases h2:j≤i∧i<j+y.cells.size
    ·rw[if_pos h2];obtain⟨q,q1,q2⟩:=d3 (i - j) (by omega);refine⟨q,q1,?_⟩;have:((AAD e).take j++AAD x++(AAD e).drop (j+(AAD x).length))[i]'(by rw[hlen];exact hi)=(AAD x)[i - j]'(by omega):=by
      rw[List.getElem_append_left (by simp;omega),List.getElem_append_right (by simp;omega)];congr 1;simp;omega
     rw[this];exact q2
    ·rw[if_neg h2];obtain⟨q,q1,q2⟩:=c3 i hi;refine⟨q,q1,?_⟩;have:((AAD e).take j++AAD x++(AAD e).drop (j+(AAD x).length))[i]'(by rw[hlen];exact hi)=(AAD e)[i]:=by
      by_cases h3:i<j
      ·rw[List.getElem_append_left (by simp;omega),List.getElem_append_left (by simp;omega)];simp
      ·rw[List.getElem_append_right (by simp;omega)];simp only[List.getElem_drop,List.length_append,List.length_take];congr 1;omega
     rw[this];exact q2
   ·intro c hc;obtain⟨i,hi,rfl⟩:=Array.mem_iff_getElem.1 hc;exact hzo i hi
 ·rename_i hagg;have h1:AAV e=true:=he.resolve_left hagg;have he1:=HG (h.one h1);rw[he1]at c1;simp at c1;have hxo:AAV x=true:=hx.resolve_left (by simpa using hk.resolve_left hagg);have hx1:=HG (h'.one hxo);have d1':=d1;rw[hx1]at d1';simp at d1';have hj0:j=0:=by omega
  exact⟨y,h',by rw[he1,hx1];simp,allOne d2,whole hj0 (by omega),hx,by omega⟩
def ADm(S:Sg)(p:V)(x:V):Sg:=
 match p with
 |.ptr r _ i j=>
  match S[r]? with
  |some (.row wr sz els)=>S.set r (.row wr sz (els.set i (MZ (els.getD i .any) j x)))
  |_=>S
 |_=>S
theorem UF{T:TypeId}{x y:Operand}{t:TI}(ho:o.op=.store T x y)(hx:need (ev tm x))(hy:need (ev tm y))(ht:ti P T=some t)
  (hp:ABU S (strip (ev tm x)) fun wr _ i j sz els=>wr=true∧j+t.size≤sz∧(Ar (els.getD i .any)||!Ar (strip (ev tm y)))=true)
  (hv:(Ar (strip (ev tm y))||AAV (strip (ev tm y)))=true) (hs:(AAD (strip (ev tm y))).length=t.size):
  Bv P n o tm S .any (ADm S (strip (ev tm x)) (strip (ev tm y))):=.skip fun G w a st=>by
 have h1:=(BH st x).strip hx;have h2:=(BH st y).strip hy;generalize strip (ev tm x)=X at *;generalize strip (ev tm y)=Y at *;unfold ABU at hp;split at hp
 ·rename_i r m i j;split at hp
  ·rename_i wr sz els hr;obtain⟨hm,hi,he,hsz,hwr,hj,hk⟩:=hp;subst hwr;have hgd:els.getD i .any=els[i]:=by simp[List.getD,hi]
   simp only[ADm,hr];rw[hgd]at he hsz hk⊢;have he:Ar els[i]=true∨AAV els[i]=true:=by simpa using he
   have hv:Ar Y=true∨AAV Y=true:=by simpa using hv
   have hk:Ar els[i]=true∨Ar Y=false:=by simpa using hk
   have hpv:=h1.HI hr hm;have hob:=st.rel.CT r _ hr;simp only[OK]at hob;cases hvt:G.BB r with
   |some a0=>simp only[hvt]at hob;exact absurd hob.1 (by simp)
   |none=>
    simp only[hvt]at hob;obtain⟨c,T0,g1,g2,g3,g4,g5⟩:=hob;obtain⟨u,u1,u2,u3,u4⟩:=g5 i hi;obtain⟨d1,d2,_⟩:=h2.cells hv;obtain⟨z,z1,z2,z3,z4,z5,z6⟩:=Xa u1 he h2 hv (j:=j) (by omega) hk;have hpv':a.eval x=.pointer (some ⟨G.BZ r,(G.cap r).2+(i * sz+j),none⟩):=by rw[hpv];simp[Gh.addr,hvt]
    have hfit:(G.cap r).2+(i * sz+sz)≤c.size:=by
     have:(i+1) * sz≤(G.cap r).1 * sz:=Nat.mul_le_mul_right _ (by omega);rw[Nat.add_mul]at this;omega
    have hlen:(a.eval y).cells.size=t.size:=by omega
    have hrun:=Gf (P:=P) (b:=G.BZ r) (off:=(G.cap r).2+(i * sz+j)) (T:=T0) (a.eval y).cells.toList 0 w c g1 (by simp;omega) (fun v hv=>by
     obtain⟨k,hk,rfl⟩:=List.mem_iff_getElem.1 hv;simpa using d2 k (by simpa using hk))
    have own1:AAJ G r (.row true sz els)=true:=by simp[AAJ,hvt]
    have own2:AAJ G r (.row true sz (els.set i (MZ els[i] j Y)))=true:=by simp[AAJ,hvt]
    refine⟨G,C5 w (G.BZ r) (.cells (AAh c ((G.cap r).2+(i * sz+j)) (a.eval y).cells.toList) T0 (0,0)),?_,?_⟩
    ·simp only[execOp,ho,hpv',Instr.storeAt,Instr.sureAddr,Sem.run_bind,Sem.run_pure,Result.andThen_ok,storeVar,BQ ht];simp only[hlen,ne_eq,not_true_eq_false,if_false];simp only[Nat.add_zero]at hrun;simp[hrun]
    ·refine st.rel.update hr own1 own2 (fun n' hn'=>?_) (fun hm=>?_) (fun L=>?_)
     ·have hlt:=AZ hr;have e1:lenOf (S.set r (.row true sz (els.set i (MZ els[i] j Y)))) r=some els.length:=by simp[lenOf,hlt]
      rw[e1]at hn';cases hn';exact⟨els.length,by simp[lenOf,hr],Nat.le_refl _,fun _=>.inl (by simp only[AAf,hr];simp[hlt])⟩
     ·have hlt:=AZ hr;simp[AAM,hlt]at hm
     ·simp only[OK,hvt];have hb:=D3 g1;refine⟨_,T0,Ej hb,by rw[DO];exact g2,by simpa using g3,by simpa using g4,fun i' hi'=>?_⟩;have hi'':i'<els.length:=by simpa using hi'
      by_cases e:i'=i
      ·subst e;refine⟨z,by simpa using z1.later L,by omega,z3,fun k hk=>?_⟩;rw[DH _ _ _ _ (by simp;omega),z4 k,u4 k hk |>.symm];simp only[Array.length_toList];by_cases h3:j≤k∧k<j+(a.eval y).cells.size
       ·rw[if_pos (by omega),if_pos h3];simp only[Array.getElem?_toList];congr 1;omega
       ·rw[if_neg (by omega),if_neg h3]
      ·obtain⟨v',v1,v2,v3,v4⟩:=g5 i' hi'';refine⟨v',by simpa[List.getElem_set_ne (Ne.symm e)]using v1.later L,v2,v3,fun k hk=>?_⟩;rw[DH _ _ _ _ (by simp;omega),←v4 k hk,if_neg];simp only[Array.length_toList];intro⟨h3,h4⟩;rcases Nat.lt_or_ge i' i with h5|h5
       ·have:(i'+1) * sz≤i * sz:=Nat.mul_le_mul_right _ h5;rw[Nat.add_mul]at this;omega
       ·have:(i+1) * sz≤i' * sz:=Nat.mul_le_mul_right _ (by omega);rw[Nat.add_mul]at this;omega
  ·exact hp.elim
 ·exact hp.elim
end
section
variable {P:Program} {n:Nat} {o:Oper} {tm:Tm} {S S':Sg} {v:V}
theorem LU{G:Gh}{w:World}(R:Rel P G S w){T:TypeId}{e:V}{u:Value}(h:CV G S w e u)(he:(Ar e||AAV e)=true):
  ∃cv w' G',(newVar T u).run P w=.ok cv w'∧CV G' (S++[.row true (AAD e).length [e]]) w' (.ptr S.length 1 0 0) (.pointer (some cv))∧Rel P G' (S++[.row true (AAD e).length [e]]) w'∧Tr G S w G' (S++[.row true (AAD e).length [e]]) w'∧A9 G S w G' (S++[.row true (AAD e).length [e]]) w':=by
 have he:Ar e=true∨AAV e=true:=by simpa using he
 obtain⟨c1,c2,c3⟩:=h.cells he;obtain⟨r1,r2,r3⟩:=R.add 1 (.row true (AAD e).length [e]) (.cells u.cells T (0,0)) (fun L=>by
  have hv:(G.at S.length w.heap.size 1 none).BB S.length=none:=by simp[Gh.at]
  have hb:(G.at S.length w.heap.size 1 none).BZ S.length=w.heap.size:=by simp[Gh.at]
  have hc:(G.at S.length w.heap.size 1 none).cap S.length=(1,0):=by simp[Gh.at]
  simp only[OK,hv,hb,hc];refine⟨u.cells,T,C0,by omega,by simp,by simp[maxLen],fun i hi=>?_⟩;have:i=0:=by simp at hi;exact hi
  subst this;refine⟨u,by simpa using h.later L,c1,fun x hx=>?_,fun j hj=>by simp⟩;obtain⟨k,hk,rfl⟩:=Array.mem_iff_getElem.1 hx;exact c2 k hk)
 refine⟨⟨w.heap.size,0,none⟩,BS w (.cells u.cells T (0,0)),_,by simp[newVar,newRow,BS],?_,r1,r2,r3⟩;refine .ptr _ _ _ _ _ rfl (by simp) fun m hm=>?_;have:m=1:=by simpa[lenOf]using hm.symm
 subst this;refine⟨Nat.le_refl _,fun _ sz hsz=>?_⟩;simp[Gh.addr,Gh.at]
def Tu(S:Sg)(e:V):Sg:=S++[.row true (AAD e).length [e]]
theorem bL{T:TypeId}{x:Operand}(ho:o.op=.box T x)(hx:need (ev tm x))(he:(Ar (strip (ev tm x))||AAV (strip (ev tm x)))=true):
  Bv P n o tm S (.ptr S.length 1 0 0) (Tu S (strip (ev tm x))):=.val fun G w a st=>by
 have h1:=(BH st x).strip hx;obtain⟨cv,w',G',g1,g2,g3,g4,g5⟩:=LU st.rel (T:=T) h1 he;exact⟨.pointer (some cv),G',w',by simp[execOp,ho,Instr.box,g1],g2,g3,g4,g5⟩
theorem WU{T:TypeId}{t:TI}{z:Value}(ho:o.op=.alloc T)(ht:ti P T=some t)(hz:t.zero=some z)(he:(Ar (cst z)||AAV (cst z))=true):
  Bv P n o tm S (.ptr S.length 1 0 0) (Tu S (cst z)):=.val fun G w a st=>by
 obtain⟨cv,w',G',g1,g2,g3,g4,g5⟩:=LU st.rel (T:=T) (Fo G S w z) he;refine⟨.pointer (some cv),G',w',?_,g2,g3,g4,g5⟩;simp[execOp,ho,Instr.alloc,DF ht w hz,g1]
def ABl(G:Gh)(S:Sg)(w:World)(cs:List V)(u:Array Value):Prop:=
 u.size=cs.length∧(∀i (h:i<u.size),one u[i]=true)∧∀i (h:i<cs.length),∃x,u[i]?=some x∧CV G S w cs[i] x
theorem CV.QP{G:Gh}{w:World}{e:V}{u:Value}(h:CV G S w e u)(he:Ar e=true∨AAV e=true):ABl G S w (AAD e) u.cells:=h.cells he
theorem ABl.agg{G:Gh}{w:World}{cs:List V}{u:Array Value}(h:ABl G S w cs u):CV G S w (.agg cs) (.agg u):=CV.Iv h.1 h.2.2 h.2.1
theorem ABl.put{G:Gh}{w:World}{cs ds:List V}{u y:Array Value}{k:Nat}(h:ABl G S w cs u)(h':ABl G S w ds y)(hk:k+ds.length≤cs.length):
  ABl G S w (cs.take k++ds++cs.drop (k+ds.length)) (AAh u k y.toList):=by
 obtain⟨c1,c2,c3⟩:=h;obtain⟨d1,d2,d3⟩:=h';have hlen:(cs.take k++ds++cs.drop (k+ds.length)).length=cs.length:=by simp;omega
 have hget:∀i,(AAh u k y.toList)[i]?=if k≤i∧i<k+y.size then y[i - k]? else u[i]?:=fun i=>by
  rw[DH _ _ _ _ (by simp;omega)];simp
 refine⟨by rw[DO,hlen,c1],fun i hi=>?_,fun i hi=>?_⟩
 ·have h1:=hget i;rw[Array.getElem?_eq_getElem hi]at h1;rw[DO]at hi;by_cases h2:k≤i∧i<k+y.size
  ·rw[if_pos h2,Array.getElem?_eq_getElem (by omega)]at h1;simp only[Option.some.injEq]at h1;rw[h1];exact d2 _ _
  ·rw[if_neg h2,Array.getElem?_eq_getElem hi]at h1;simp only[Option.some.injEq]at h1;rw[h1];exact c2 _ _
 ·rw[hlen]at hi;rw[hget];by_cases h2:k≤i∧i<k+y.size
  ·rw[if_pos h2];obtain⟨q,q1,q2⟩:=d3 (i - k) (by omega);refine⟨q,q1,?_⟩;have:(cs.take k++ds++cs.drop (k+ds.length))[i]'(by rw[hlen];exact hi)=ds[i - k]'(by omega):=by
    rw[List.getElem_append_left (by simp;omega),List.getElem_append_right (by simp;omega)];congr 1;simp;omega
   rw[this];exact q2
  ·rw[if_neg h2];obtain⟨q,q1,q2⟩:=c3 i hi;refine⟨q,q1,?_⟩;have:(cs.take k++ds++cs.drop (k+ds.length))[i]'(by rw[hlen];exact hi)=cs[i]:=by
    by_cases h3:i<k
    ·rw[List.getElem_append_left (by simp;omega),List.getElem_append_left (by simp;omega)];simp
    ·rw[List.getElem_append_right (by simp;omega)];simp only[List.getElem_drop,List.length_append,List.length_take];congr 1;omega
   rw[this];exact q2
theorem L6(vs:List Value):∀(m k:Nat) (c:Array Value),((vs.zipIdx m).foldl (fun cs (p:Value×Nat)=>cs.setIfInBounds (k+p.2) p.1) c)=AAh c (k+m) vs:=by
 induction vs with
 |nil=>intro m k c;rfl
 |cons v vs ih=>intro m k c;simp only[List.zipIdx_cons,List.foldl_cons,AAh];rw[ih];rfl
def ACT(place:Nat→Option (Nat×Nat)):List V→List (Nat×V)→List V
 |cs,[]=>cs
 |cs,(i,x)::rest=>
  match place i with
  |some (off,size)=>ACT place (cs.take off++AAD x++cs.drop (off+size)) rest
  |none=>cs
def ABd(place:Nat→Option (Nat×Nat))(len:Nat):List (Nat×V)→Prop
 |[]=>True
 |(i,x)::rest=>
  match place i with
  |some (off,size)=>(AAD x).length=size∧off+size≤len∧(Ar x||AAV x)=true∧ABd place len rest
  |none=>False
theorem YS{G:Gh}{w:World}{place:Nat→Option (Nat×Nat)}(parts:List (Nat×V)):∀(vals:List (Nat×Value)) (cs:List V) (u:Array Value),ABl G S w cs u→parts.length=vals.length→(∀i (h:i<parts.length) (h':i<vals.length),parts[i].1=vals[i].1∧CV G S w parts[i].2 vals[i].2)→ABd place cs.length parts→∃u',Instr.fill place u vals=some u'∧ABl G S w (ACT place cs parts) u':=by
 induction parts with
 |nil=>
  intro vals cs u h hl _ _;cases vals with
  |nil=>exact⟨u,rfl,h⟩
  |cons=>simp at hl
 |cons p parts ih=>
  intro vals cs u h hl hv hp;cases vals with
  |nil=>simp at hl
  |cons q vals=>
   obtain⟨i,x⟩:=p;obtain⟨i',y⟩:=q;have h0:=hv 0 (by simp) (by simp);simp only[List.getElem_cons_zero]at h0;obtain⟨rfl,hxy⟩:=h0;simp only[ABd]at hp;simp only[Instr.fill,ACT];cases hpl:place i with
   |none=>rw[hpl]at hp;exact hp.elim
   |some os=>
    obtain⟨off,size⟩:=os;rw[hpl]at hp;obtain⟨p1,p2,p3,p4⟩:=hp;have hc:=hxy.QP (by simpa using p3);have hsz:y.cells.size=size:=by rw[hc.1,p1]
    have hu:u.size=cs.length:=h.1;simp only[];rw[if_neg (by simp;omega)];have hf:(y.cells.zipIdx.foldl (fun cs (p:Value×Nat)=>cs.setIfInBounds (off+p.2) p.1) u)=AAh u off y.cells.toList:=by
     rw[←Array.foldl_toList,Array.toList_zipIdx,L6];rfl
    have hput:=h.put hc (k:=off) (by omega);rw[p1]at hput;have:=ih vals _ _ hput (by simpa using hl) (fun k h1 h2=>by have:=hv (k+1) (by simp;omega) (by simp;omega);simpa using this)
     (by
      have e:(cs.take off++AAD x++cs.drop (off+size)).length=cs.length:=by simp;omega
      rw[e];exact p4)
    obtain⟨u',e1,e2⟩:=this;exact⟨u',by rw[←e1];exact congrArg (fun z=>Instr.fill place z vals) hf,e2⟩
def ADM(P:Program)(T:TypeId):Option Nat:=
 match ti P T with
 |some t=>match t.kind with
  |.array _ e=>(ti P e).map (·.size)
  |_=>none
 |none=>none
def placeOf(P:Program)(T:TypeId)(i:Nat):Option (Nat×Nat):=
 match ADM P T with
 |some s=>some (i * s,s)
 |none=>match AAA P T i with
  |some (off,U)=>match ti P U with
   |some u=>some (off,u.size)
   |none=>none
  |none=>none
def AAN(P:Program)(T:TypeId):Bool:=
 match ti P T with
 |some t=>match t.kind with
  |.struct fs=>fs.all fun f=>(ti P f.2).isSome
  |.array _ e=>(ti P e).isSome
  |_=>false
 |none=>false
theorem NH{w:World}(fs:List Field)(h:∀f∈fs,∃u,ti P f.type=some u):
  (fs.mapM (m:=Sem) fun f=>do pure (f.offset,←sizeOf f.type)).run P w=.ok (fs.map fun f=>(f.offset,((ti P f.type).map (·.size)).getD 0)) w:=by
 induction fs with
 |nil=>simp
 |cons f fs ih=>
  obtain⟨u,hu⟩:=h f (by simp);have hf:=ih (fun g hg=>h g (by simp[hg]));simp only[List.mapM_cons,Sem.run_bind,BQ hu,Result.andThen_ok,Sem.run_pure,hf];simp[hu]
theorem WA{T:TypeId}{parts:Array (Nat×Operand)}{t:TI}{z:Value}(ho:o.op=.build T parts)(ht:ti P T=some t)(hz:t.zero=some z)(hk:AAN P T=true)
  (hzc:Ar (cst z)=true) (hn:∀p∈parts.toList,need (ev tm p.2))
  (hp:ABd (placeOf P T) (AAD (cst z)).length (parts.toList.map fun p=>(p.1,strip (ev tm p.2)))):
  Bv P n o tm S (.agg (ACT (placeOf P T) (AAD (cst z)) (parts.toList.map fun p=>(p.1,strip (ev tm p.2))))) S:=.pure fun G w a st=>by
 have hz0:=(Fo G S w z).QP (.inl hzc);obtain⟨u',e1,e2⟩:=YS (S:=S) (G:=G) (w:=w) (place:=placeOf P T) (parts.toList.map fun p=>(p.1,strip (ev tm p.2))) (parts.toList.map fun p=>(p.1,a.eval p.2)) _ _ hz0 (by simp)
  (fun i h1 h2=>by
   simp only[List.getElem_map,true_and];exact(BH st _).strip (hn _ (by simp)))
  hp
 refine⟨.agg u',?_,e2.agg⟩;unfold AAN at hk;rw[ht]at hk;simp only[]at hk;obtain⟨d,hd,hd'⟩:=Ai ht w;cases htk:t.kind with
 |struct fs=>
  rw[htk]at hk hd';cases d with
  |struct gs=>
   simp only[tk,TK.struct.injEq]at hd';subst hd';have hall:∀f∈gs.toList,∃u,ti P f.type=some u:=fun f hf=>by
    have:=List.all_eq_true.1 hk (f.offset,f.type) (by simp only[List.mem_map];exact⟨f,hf,rfl⟩);exact Option.isSome_iff_exists.1 this
   have hmap:(gs.mapM (m:=Sem) fun f=>do pure (f.offset,←sizeOf f.type)).run P w=.ok (gs.map fun f=>(f.offset,((ti P f.type).map (·.size)).getD 0)) w:=by
    rw[Array.mapM_eq_mapM_toList];have:=NH (P:=P) (w:=w) gs.toList hall;simp only[Sem.run_map,this,Result.andThen_ok];congr 1;apply Array.ext';simp
   have hplace:(fun i=>(gs.map fun f=>(f.offset,((ti P f.type).map (·.size)).getD 0))[i]?)=placeOf P T:=by
    funext i;simp only[placeOf,ADM,AAA,ht,htk];simp only[Array.getElem?_map,List.getElem?_map,Array.getElem?_toList];cases hg:gs[i]? with
    |none=>rfl
    |some f=>
     obtain⟨u,hu⟩:=hall f (by
      have:=Array.mem_of_getElem? hg;simpa using this)
     simp[hu]
   simp only[execOp,ho,Instr.build,Sem.run_bind,DF ht w hz,Result.andThen_ok,hd,hmap];rw[hplace];simp only[Array.toList_map,e1];simp
  |_=>simp[tk]at hd'
 |array m e=>
  rw[htk]at hk hd';cases d with
  |array m' e'=>
   simp only[tk,TK.array.injEq]at hd';obtain⟨rfl,rfl⟩:=hd';obtain⟨u,hu⟩:=Option.isSome_iff_exists.1 hk;have hplace:(fun i=>some (i * u.size,u.size))=placeOf P T:=by
    funext i;simp only[placeOf,ADM,ht,htk,hu,Option.map_some]
   simp only[execOp,ho,Instr.build,Sem.run_bind,DF ht w hz,Result.andThen_ok,hd,BQ hu];rw[hplace];simp only[Array.toList_map,e1];simp
  |_=>simp[tk]at hd'
 |_=>rw[htk]at hk;cases hk
end
section
variable {P:Program} {n:Nat} {o:Oper} {tm:Tm} {S S':Sg} {v:V}
def AAl(S:Sg):V→Option D
 |.d d=>some d
 |.full xs=>some (.sl xs)
 |.row r m=>match S[r]? with
  |some (.BJ xs)=>if xs.length=m then some (.sl xs)else none
  |_=>none
 |_=>none
def AA0(S:Sg):List V→Option (List D)
 |[]=>some []
 |x::xs=>match AAl S x,AA0 S xs with
  |some d,some ds=>some (d::ds)
  |_,_=>none
def ACf(S:Sg):V→Option D
 |.agg cs=>(AA0 S cs).map .agg
 |v=>AAl S v
def Lj(S:Sg):List V→Option (List D)
 |[]=>some []
 |x::xs=>match ACf S x,Lj S xs with
  |some d,some ds=>some (d::ds)
  |_,_=>none
def asD(S:Sg):V→Option D
 |.agg cs=>(AA0 S cs).map .agg
 |.Bd cs=>(Lj S cs).map .Bd
 |v=>AAl S v
theorem Si{xs:List V}:∀{ds:List D},Lj S xs=some ds→ds.length=xs.length∧∀i (h:i<xs.length) (h':i<ds.length),ACf S xs[i]=some ds[i]:=by
 induction xs with
 |nil=>intro ds h;simp[Lj]at h;subst h;exact⟨rfl,fun i h=>by simp at h⟩
 |cons x xs ih=>
  intro ds h;simp only[Lj]at h;split at h
  ·rename_i d ds' h1 h2;cases h;obtain⟨e1,e2⟩:=ih h2;refine⟨by simp[e1],fun i hi hi'=>?_⟩;cases i with
   |zero=>simpa using h1
   |succ i=>simpa using e2 i (by simpa using hi) (by simpa using hi')
  ·cases h
theorem N0{xs:List V}:∀{ds:List D},AA0 S xs=some ds→ds.length=xs.length∧∀i (h:i<xs.length) (h':i<ds.length),AAl S xs[i]=some ds[i]:=by
 induction xs with
 |nil=>intro ds h;simp[AA0]at h;subst h;exact⟨rfl,fun i h=>by simp at h⟩
 |cons x xs ih=>
  intro ds h;simp only[AA0]at h;split at h
  ·rename_i d ds' h1 h2;cases h;obtain⟨e1,e2⟩:=ih h2;refine⟨by simp[e1],fun i hi hi'=>?_⟩;cases i with
   |zero=>simpa using h1
   |succ i=>simpa using e2 i (by simpa using hi) (by simpa using hi')
  ·cases h
theorem CV.AAl{G:Gh}{w:World}(R:Rel P G S w){x:V}{d:D}{v:Value}(h:CV G S w x v)(hd:AAl S x=some d):CD G.I w d v:=by
 cases h with
 |d d' v h=>simp only[Koi.AAl,Option.some.injEq]at hd;subst hd;exact h
 |full xs a h=>simp only[Koi.AAl,Option.some.injEq]at hd;subst hd;exact h
 |row r m v ho hr h=>
  simp only[Koi.AAl]at hd;split at hd
  ·rename_i xs hs;split at hd
   ·rename_i hl;simp only[Option.some.injEq]at hd;subst hd;have:=R.CT r _ hs;simp only[OK]at this;rw[(h m (by simp[lenOf,hs,hl])).2 rfl,←hl];exact this
   ·cases hd
  ·cases hd
 |_=>simp[Koi.AAl]at hd
theorem CV.ACf{G:Gh}{w:World}(R:Rel P G S w){x:V}{d:D}{v:Value}(h:CV G S w x v)(hd:ACf S x=some d):CD G.I w d v:=by
 cases h with
 |agg cs vs hs h ho=>
  simp only[Koi.ACf,Option.map_eq_some_iff]at hd;obtain⟨ds,h1,rfl⟩:=hd;obtain⟨e1,e2⟩:=N0 h1;exact .agg _ _ (by omega) (fun i hi=>(h i (by omega)).AAl R (e2 i (by omega) hi)) ho
 |d d' v h=>exact(CV.d d' v h).AAl R hd
 |full xs a h=>exact(CV.full xs a h).AAl R hd
 |row r m v ho hr h=>exact(CV.row r m v ho hr h).AAl R hd
 |_=>simp[Koi.ACf,Koi.AAl]at hd
theorem CV.asD{G:Gh}{w:World}(R:Rel P G S w){x:V}{d:D}{v:Value}(h:CV G S w x v)(hd:asD S x=some d):CD G.I w d v:=by
 cases h with
 |agg cs vs hs h ho=>
  simp only[Koi.asD,Option.map_eq_some_iff]at hd;obtain⟨ds,h1,rfl⟩:=hd;obtain⟨e1,e2⟩:=N0 h1;exact .agg _ _ (by omega) (fun i hi=>(h i (by omega)).AAl R (e2 i (by omega) hi)) ho
 |Bd cs vs hs h=>
  simp only[Koi.asD,Option.map_eq_some_iff]at hd;obtain⟨ds,h1,rfl⟩:=hd;obtain⟨e1,e2⟩:=Si h1;exact .Bd _ _ (by omega) (fun i hi=>(h i (by omega)).ACf R (e2 i (by omega) hi))
 |d d' v h=>exact(CV.d d' v h).AAl R hd
 |full xs a h=>exact(CV.full xs a h).AAl R hd
 |row r m v ho hr h=>exact(CV.row r m v ho hr h).AAl R hd
 |_=>simp[Koi.asD,Koi.AAl]at hd
def ABa(S:Sg):Nat→List (Nat×V)→Option (List D)
 |_,[]=>some []
 |k,(i,x)::rest=>if i=k then match asD S x,ABa S (k+1) rest with
   |some d,some ds=>some (d::ds)
   |_,_=>none
  else none
theorem PA(ps:List (Nat×V)):∀(k:Nat) (ds:List D),ABa S k ps=some ds→ds.length=ps.length∧∀i (h:i<ps.length) (h':i<ds.length),ps[i].1=k+i∧asD S ps[i].2=some ds[i]:=by
 induction ps with
 |nil=>intro k ds h;simp[ABa]at h;subst h;exact⟨rfl,fun i h=>by simp at h⟩
 |cons p ps ih=>
  intro k ds h;obtain⟨i0,x⟩:=p;simp only[ABa]at h;split at h
  ·rename_i hik;split at h
   ·rename_i d ds' h1 h2;cases h;obtain⟨e1,e2⟩:=ih _ _ h2;refine⟨by simp[e1],fun i hi hi'=>?_⟩;cases i with
    |zero=>exact⟨by simpa using hik,by simpa using h1⟩
    |succ i=>
     obtain⟨a,b⟩:=e2 i (by simpa using hi) (by simpa using hi');exact⟨by simp only[List.getElem_cons_succ];omega,by simpa using b⟩
   ·cases h
  ·cases h
def AA3(size:Nat):List (Nat×V)→Prop
 |[]=>True
 |(_,x)::rest=>(AAD x).length=size∧(Ar x||AAV x)=true∧AA3 size rest
theorem Gq{size:Nat}:∀(ps:List (Nat×V)),AA3 size ps→∀i (h:i<ps.length),(AAD ps[i].2).length=size∧(Ar ps[i].2||AAV ps[i].2)=true
 |(_,x)::rest,h,0,_=>⟨h.1,h.2.1⟩
 |(_,x)::rest,h,i+1,hi=>by simpa using Gq rest h.2.2 i (by simpa using hi)
theorem Lz{size len:Nat}(vals:List (Nat×Value)):∀(k:Nat) (u:Array Value),u.size=len * size→k+vals.length≤len→(∀i (h:i<vals.length),vals[i].1=k+i∧vals[i].2.cells.size=size)→∃u',Instr.fill (fun i=>some (i * size,size)) u vals=some u'∧u'.size=u.size∧(∀i (h:i<vals.length) j,j<size→u'[(k+i) * size+j]?=vals[i].2.cells[j]?)∧(∀m,m<k * size→u'[m]?=u[m]?):=by
 induction vals with
 |nil=>intro k u hu hk _;exact⟨u,rfl,rfl,fun i h=>by simp at h,fun m _=>rfl⟩
 |cons p vals ih=>
  intro k u hu hk hv;obtain⟨i0,y⟩:=p;have h0:=hv 0 (by simp);simp only[List.getElem_cons_zero,Nat.add_zero]at h0;obtain⟨rfl,hsz⟩:=h0;simp only[List.length_cons]at hk;have hfit:i0 * size+size≤u.size:=by
   have:(i0+1) * size≤len * size:=Nat.mul_le_mul_right _ (by omega);rw[Nat.add_mul]at this;omega
  simp only[Instr.fill];rw[if_neg (by simp;omega)];have hf:(y.cells.zipIdx.foldl (fun cs (p:Value×Nat)=>cs.setIfInBounds (i0 * size+p.2) p.1) u)=AAh u (i0 * size) y.cells.toList:=by
   rw[←Array.foldl_toList,Array.toList_zipIdx,L6];rfl
  obtain⟨u',e1,e2,e3,e4⟩:=ih (i0+1) (AAh u (i0 * size) y.cells.toList) (by rw[DO];exact hu) (by omega) (fun i hi=>by
   have:=hv (i+1) (by simp;omega);simp only[List.getElem_cons_succ]at this;exact⟨by omega,this.2⟩)
  refine⟨u',by rw[←e1];exact congrArg (fun z=>Instr.fill _ z vals) hf,by rw[e2,DO],fun i hi j hj=>?_,fun m hm=>?_⟩
  ·cases i with
   |zero=>
    simp only[List.getElem_cons_zero,Nat.add_zero];rw[e4 _ (by rw[Nat.add_mul];omega),DH _ _ _ _ (by simp;omega),if_pos (by simp;omega)];simp
   |succ i=>
    have:=e3 i (by simpa using hi) j hj;simp only[List.getElem_cons_succ];rw[←this,show i0+(i+1)=i0+1+i from by omega]
  ·rw[e4 m (by rw[Nat.add_mul];omega),DH _ _ _ _ (by simp;omega),if_neg (by omega)]
theorem LA{T E:TypeId}{len:Nat}{parts:Array (Nat×Operand)}{t e:TI}{z:Value}{ds:List D}(ho:o.op=.buildSlice T len parts)(ht:ti P T=some t)(hk:t.kind=.slice E)
  (he:ti P E=some e) (hz:e.zero=some z) (hn:∀p∈parts.toList,need (ev tm p.2)) (hlen:parts.size=len)
  (hp:ABa S 0 (parts.toList.map fun p=>(p.1,strip (ev tm p.2)))=some ds) (hs:AA3 e.size (parts.toList.map fun p=>(p.1,strip (ev tm p.2))))
  (hm:len * e.size≤2 ^ 24) (hml:len≤maxLen):Bv P n o tm S (.full ds) S:=.val fun G w a st=>by
 obtain⟨d,hd,hd'⟩:=Ai ht w;have hdE:d=.slice E:=by rw[hk]at hd';cases d<;>simp[tk]at hd'⊢;exact hd'
 subst hdE;obtain⟨l1,l2⟩:=PA _ _ _ hp;simp only[List.length_map,Array.length_toList]at l1 l2;have hvals:∀i (h:i<parts.size),CV G S w (strip (ev tm parts[i].2)) (a.eval parts[i].2):=fun i hi=>(BH st _).strip (hn _ (by simp));have hsz:∀i (h:i<parts.size),(a.eval parts[i].2).cells.size=e.size∧∀x∈(a.eval parts[i].2).cells,one x=true:=fun i hi=>by
  have:=Gq _ hs i (by simpa using hi);simp only[List.getElem_map,Array.getElem_toList]at this;obtain⟨c1,c2,_⟩:=(hvals i hi).cells (by simpa using this.2);refine⟨by omega,fun x hx=>?_⟩;obtain⟨k,hk,rfl⟩:=Array.mem_iff_getElem.1 hx;exact c2 k hk
 let z0:Array Value:=if len * e.size=0 then #[]else z.cells;let base:Array Value:=(Array.range (len * e.size)).map (z0[·% z0.size]!);obtain⟨u',e1,e2,e3,_⟩:=Lz (size:=e.size) (len:=len) (parts.toList.map fun p=>(p.1,a.eval p.2)) 0 base (by simp[base]) (by simp[hlen]) (fun i hi=>by
  have hi':i<parts.size:=by simpa using hi
  simp only[List.getElem_map,Array.getElem_toList];have:=(l2 i hi' (by omega)).1;simp only[List.getElem_map,Array.getElem_toList]at this;exact⟨this,(hsz i hi').1⟩)
 obtain⟨r1,r2,r3⟩:=st.rel.Zk (.cells u' E (0,0));refine⟨.slice (some ⟨w.heap.size,0,none⟩) len len,G.Sk w.heap.size,BS w (.cells u' E (0,0)),?_,?_,r1,r2,r3⟩
 ·simp only[execOp,ho,Instr.buildSlice,Sem.run_bind,hd,Result.andThen_ok,BQ he];rw[if_neg (by omega)];simp only[base]at e1;by_cases h0:len * e.size=0
  ·have hz0:z0=#[]:=by simp[z0,h0]
   rw[hz0]at e1;simp only[if_pos h0,Sem.run_bind,Sem.run_pure,Result.andThen_ok,Array.toList_map,e1];simp[newRow,BS]
  ·have hz0:z0=z.cells:=by simp[z0,h0]
   rw[hz0]at e1;simp only[if_neg h0,Sem.run_bind,DF he w hz,Sem.run_pure,Result.andThen_ok,Array.toList_map,e1];simp[newRow,BS]
 ·have hcd:CD (G.Sk w.heap.size).I (BS w (.cells u' E (0,0))) (.sl ds) (.slice (some ⟨w.heap.size,0,none⟩) ds.length ds.length):=by
   refine .sl e.size ds w.heap.size 0 ds.length (fun i=>a.eval (parts.getD i (0,.const undef)).2) (.inr rfl) (by omega) (Nat.le_refl _) (fun i hi=>?_) (fun i hi=>?_)
   ·have hi':i<parts.size:=by omega
    have hg:parts.getD i (0,.const undef)=parts[i]:=by simp[Array.getD_eq_getD_getElem?,hi']
    rw[hg];have:=(l2 i hi' hi).2;simp only[List.getElem_map,Array.getElem_toList]at this;exact((hvals i hi').asD st.rel this).mono r3.I r3.DG
   ·have hi':i<parts.size:=by omega
    have hg:parts.getD i (0,.const undef)=parts[i]:=by simp[Array.getD_eq_getD_getElem?,hi']
    rw[hg];refine⟨(hsz i hi').1,fun j hj=>?_⟩;rw[cell_of C0];have:=e3 i (by simpa using hi') j hj;simpa using this
  have hll:len=ds.length:=by omega
  rw[hll];exact .full _ _ hcd
end
def ADt(c x y:V):V:=match c with|.d (.bool b)=>AC0 b x y|_=>.any
def Tt(c x y:V):Prop:=match c with|.d (.bool b)=>Jr b x y|_=>False
def AB9(P:Program)(T:TypeId):Bool:=match ti P T with|some t=>(match t.kind with|.bool=>true|_=>false)|none=>false
def ABt(P:Program)(T:TypeId):Bool:=match ti P T with|some t=>(match t.kind with|.str=>true|_=>false)|none=>false
def AAF(P:Program)(T:TypeId):Option TypeId:=match ti P T with|some t=>(match t.kind with|.slice e=>some e|_=>none)|none=>none
def intKind(P:Program)(T:TypeId):Option IntKind:=match ti P T with|some t=>(match t.kind with|.int k=>some k|_=>none)|none=>none
def Aq(P:Program)(T:TypeId):Option Nat:=(ti P T).map (·.size)
def BF(P:Program)(T:TypeId):Bool:=match ti P T with|some t=>t.agg|none=>false
def Au(P:Program)(T:TypeId):Option V:=match ti P T with|some t=>t.zero.map cst|none=>none
def AEH(x y:V)(op:BinOp):V:=
 match x,y with
 |.d (.int k a),.d (.int _ b)=>arith op k a b
 |.d (.bool a),.d (.bool b)=>match op with|.eql=>.d (.bool ((a==b)!=false))|.neq=>.d (.bool ((a==b)!=true))|_=>.any
 |.d (.str a),.d (.str b)=>ADe op (.d (.str a)) (.d (.str b))
 |_,_=>.any
def Zn(P:Program)(T:TypeId)(x y:V)(op:BinOp):Prop:=
 match x,y with
 |.d (.int k _),.d (.int k' b)=>ABo op k k'∧ABY op b
 |.d (.bool _),.d (.bool _)=>AB9 P T=true∧(match op with|.eql|.neq=>True|_=>False)
 |.d (.str a),.d (.str b)=>MM op (.d (.str a)) (.d (.str b))
 |_,_=>False
def cp(x:V):V:=match x with|.d (.bool b)=>.d (.bool !b)|_=>.any
def Zy(x:V):Prop:=match x with|.d (.bool _)=>True|_=>False
def ADL(P:Program)(U:TypeId)(x:V):V:=
 match x with
 |.d (.int _ i)=>match intKind P U with|some k=>.d (.int k (k.wrap i))|none=>.any
 |_=>.any
def Vl(P:Program)(T U:TypeId)(x:V):Prop:=
 match x with
 |.d (.int _ _)=>(Aq P T).isSome=true∧(intKind P U).isSome=true
 |_=>False
def ABf(agg:Bool)(size:Nat)(S:Sg)(p:V):V:=
 match p with
 |.ptr r m i j=>Km agg size (P5 S (.ptr r m i j)) j
 |.Cc cs=>OY agg size cs
 |_=>.any
def Gj(agg:Bool)(size:Nat)(S:Sg)(p:V):Prop:=
 (agg||size==1)=true∧match p with
 |.ptr r m i j=>ABU S (.ptr r m i j) fun _ _ _ j sz _=>j+size≤sz
 |.Cc cs=>size≤cs.length
 |_=>False
def FM(x:V):Int:=match x with|.d (.int _ i)=>i|_=>0
def FF(x:V):Prop:=match x with|.d (.int _ _)=>True|_=>False
def AEC(x:V)(k:Nat):V:=match x with|.Bd vs=>vs.getD k .any|.d (.Bd vs)=>.d (vs.getD k (.bool false))|_=>.any
def ZS(x:V)(k:Nat):Prop:=match x with|.Bd vs=>k<vs.length|.d (.Bd vs)=>k<vs.length|_=>False
def Tf(S:Sg)(x:V):Prop:=match x with|.ptr r m i j=>AA9 S (.ptr r m i j)|.Cc _=>True|_=>False
def ADx(x:V):V:=
 match x with
 |.d (.sl xs)=>.d (.int .i64 xs.length)
 |.full xs=>.d (.int .i64 xs.length)
 |.row _ m=>.d (.int .i64 m)
 |.d (.str s)=>.d (.int .i64 s.size)
 |_=>.any
def Z8(P:Program)(T:TypeId)(S:Sg)(x:V):Prop:=
 match x with
 |.d (.sl _)=>(AAF P T).isSome=true
 |.full _=>(AAF P T).isSome=true
 |.row r m=>lenOf S r=some m∧(AAF P T).isSome=true
 |.d (.str _)=>ABt P T=true
 |_=>False
def ADq(x:Option (List D)):V:=match x with|some ds=>.full ds|none=>.any
def B3(tm:Tm)(ps:Array (Nat×Operand)):List (Nat×V):=ps.toList.map fun p=>(p.1,strip (ev tm p.2))
def ABT(tm:Tm):List (Nat×Operand)→Prop
 |[]=>True
 |p::ps=>need (ev tm p.2)∧ABT tm ps
theorem GI{tm:Tm}:∀{ps:List (Nat×Operand)},ABT tm ps→∀p∈ps,need (ev tm p.2)
 |p::ps,h,q,hq=>by
  cases hq with
  |head=>exact h.1
  |tail _ hq=>exact GI h.2 q hq
def DL(c:Call):Operand:=c.args.toList.headD (.const undef)
def Je(c:Call):TypeId:=c.argTypes.toList.headD 0
def ABF(P:Program)(op:Op)(tm:Tm)(S:Sg):V:=
 match op with
 |.move x=>ev tm x
 |.assign x=>ev tm x
 |.pick c x y=>ADt (strip (ev tm c)) (ev tm x) (ev tm y)
 |.binOp b _ x y _=>AEH (strip (ev tm x)) (strip (ev tm y)) b
 |.unOp .not _ x=>cp (strip (ev tm x))
 |.convert _ U x=>ADL P U (strip (ev tm x))
 |.load T x=>ABf (BF P T) ((Aq P T).getD 0) S (strip (ev tm x))
 |.fieldAddr T x f=>faV (((AAA P T f).map (·.1)).getD 0) (strip (ev tm x))
 |.field T x f=>Km (((AAA P T f).map fun p=>BF P p.2).getD false) (((AAA P T f).map fun p=>(Aq P p.2).getD 0).getD 0) (strip (ev tm x)) (((AAA P T f).map (·.1)).getD 0)
 |.indexAddr _ x y=>iaV (strip (ev tm x)) (FM (strip (ev tm y))).toNat
 |.extract x k=>AEC (strip (ev tm x)) k
 |.nilCheck x=>strip (ev tm x)
 |.build T ps=>.agg (ACT (placeOf P T) (AAD ((Au P T).getD .any)) (B3 tm ps))
 |.buildSlice _ _ ps=>ADq (ABa S 0 (B3 tm ps))
 |.makeFunc f as bs=>.fn f (as.toList.map (ev tm)) (bs.toList.map (ev tm))
 |.call c=>match c.callee with
  |.builtin .len=>ADx (strip (ev tm (DL c)))
  |_=>.any
 |_=>.any
def ABE(P:Program)(op:Op)(tm:Tm)(S:Sg):Prop:=
 match op with
 |.move _=>True
 |.assign _=>True
 |.pick c x y=>need (ev tm c)∧Tt (strip (ev tm c)) (ev tm x) (ev tm y)
 |.binOp b T x y _=>need (ev tm x)∧need (ev tm y)∧Zn P T (strip (ev tm x)) (strip (ev tm y)) b
 |.unOp .not _ x=>need (ev tm x)∧Zy (strip (ev tm x))
 |.convert T U x=>need (ev tm x)∧Vl P T U (strip (ev tm x))
 |.load T x=>need (ev tm x)∧(Aq P T).isSome=true∧Gj (BF P T) ((Aq P T).getD 0) S (strip (ev tm x))
 |.fieldAddr T x f=>need (ev tm x)∧(match AAA P T f with|some p=>(match Aq P p.2 with|some s=>s≠0|none=>False)|none=>False)∧AA9 S (strip (ev tm x))
 |.field T x f=>need (ev tm x)∧Ar (strip (ev tm x))=true∧(match AAA P T f with|some p=>(match Aq P p.2 with|some s=>p.1+s≤(AAD (strip (ev tm x))).length∧(BF P p.2||s==1)=true|none=>False)|none=>False)
 |.indexAddr T x y=>need (ev tm x)∧need (ev tm y)∧FF (strip (ev tm y))∧(match AAF P T with|some E=>(match Aq P E with|some s=>AAe S (strip (ev tm x)) (FM (strip (ev tm y))) s|none=>False)|none=>False)
 |.extract x k=>need (ev tm x)∧ZS (strip (ev tm x)) k
 |.nilCheck x=>need (ev tm x)∧Tf S (strip (ev tm x))
 |.build T ps=>ABT tm ps.toList∧AAN P T=true∧(match Au P T with|some z=>Ar z=true∧ABd (placeOf P T) (AAD z).length (B3 tm ps)|none=>False)
 |.buildSlice T len ps=>ABT tm ps.toList∧ps.size=len∧(ABa S 0 (B3 tm ps)).isSome=true∧(match AAF P T with|some E=>(match Aq P E with|some s=>(Au P E).isSome=true∧AA3 s (B3 tm ps)∧len * s≤2 ^ 24∧len≤maxLen|none=>False)|none=>False)
 |.makeFunc ..=>True
 |.call c=>match c.callee with
  |.builtin .len=>c.args=#[DL c]∧c.argTypes=#[Je c]∧need (ev tm (DL c))∧Z8 P (Je c) S (strip (ev tm (DL c)))
  |_=>False
 |_=>False
theorem Bn{P:Program}{T:TypeId}{s:Nat}(h:Aq P T=some s):∃t,ti P T=some t∧t.size=s∧BF P T=t.agg:=by
 simp only[Aq,Option.map_eq_some_iff]at h;obtain⟨t,h1,h2⟩:=h;exact⟨t,h1,h2,by simp[BF,h1]⟩
theorem BA{P:Program}{T E:TypeId}(h:AAF P T=some E):∃t,ti P T=some t∧t.kind=.slice E:=by
 unfold AAF at h;split at h
 ·rename_i t ht;split at h
  ·rename_i e hk;cases h;exact⟨t,ht,hk⟩
  ·cases h
 ·cases h
theorem GQ{P:Program}{T:TypeId}{k:IntKind}(h:intKind P T=some k):∃t,ti P T=some t∧t.kind=.int k:=by
 unfold intKind at h;split at h
 ·rename_i t ht;split at h
  ·rename_i e hk;cases h;exact⟨t,ht,hk⟩
  ·cases h
 ·cases h
theorem NA{P:Program}{T:TypeId}(h:AB9 P T=true):∃t,ti P T=some t∧t.kind=.bool:=by
 unfold AB9 at h;split at h
 ·rename_i t ht;split at h
  ·rename_i hk;exact⟨t,ht,hk⟩
  ·cases h
 ·cases h
theorem Gn{P:Program}{T:TypeId}(h:ABt P T=true):∃t,ti P T=some t∧t.kind=.str:=by
 unfold ABt at h;split at h
 ·rename_i t ht;split at h
  ·rename_i hk;exact⟨t,ht,hk⟩
  ·cases h
 ·cases h
theorem Dc{P:Program}{T:TypeId}{z:V}(h:Au P T=some z):∃t u,ti P T=some t∧t.zero=some u∧cst u=z:=by
 unfold Au at h;split at h
 ·rename_i t ht;simp only[Option.map_eq_some_iff]at h;obtain⟨u,h1,h2⟩:=h;exact⟨t,u,ht,h1,h2⟩
 ·cases h
section
variable {P:Program} {n:Nat} {o:Oper} {tm:Tm} {S S':Sg} {v:V}
theorem aA(h:ABE P o.op tm S):Bv P n o tm S (ABF P o.op tm S) S:=by
 generalize hop:o.op=op at h;cases op<;>simp only[ABE]at h<;>simp only[ABF];case move x=>exact YC hop
 case assign x=>exact Rv hop
 case pick c x y=>
  obtain⟨h1,h2⟩:=h;unfold Tt at h2;split at h2
  ·rename_i b hb;rw[hb];exact Xm hop hb h1 h2
  ·exact h2.elim
 case build T ps=>
  obtain⟨h1,h2,h3⟩:=h;split at h3
  ·rename_i z hz;obtain⟨t,u,e1,e2,e3⟩:=Dc hz;subst e3;rw[hz];exact WA hop e1 e2 h2 h3.1 (GI h1) h3.2
  ·exact h3.elim
 case buildSlice T len ps=>
  obtain⟨h1,h2,h3,h4⟩:=h;split at h4
  ·rename_i E hE;split at h4
   ·rename_i s hs;obtain⟨h4,h5,h6,h7⟩:=h4;obtain⟨ds,hds⟩:=Option.isSome_iff_exists.1 h3;obtain⟨t,e1,e2⟩:=BA hE;obtain⟨e,f1,f2,_⟩:=Bn hs;obtain⟨z,hz⟩:=Option.isSome_iff_exists.1 h4;obtain⟨t',u,g1,g2,g3⟩:=Dc hz;rw[f1]at g1;cases g1;rw[hds];subst f2;exact LA hop e1 e2 f1 g2 (GI h1) h2 hds h5 h6 h7
   ·exact h4.elim
  ·exact h4.elim
 case load T x=>
  obtain⟨h1,h2,h3,h4⟩:=h;obtain⟨s,hs⟩:=Option.isSome_iff_exists.1 h2;obtain⟨t,e1,e2,e3⟩:=Bn hs;rw[hs]at h3 h4⊢;rw[e3]at h3⊢;simp only[Option.getD_some]at h3 h4⊢;subst e2;have ha:t.agg=true∨t.size=1:=by simpa using h3
  split at h4
  ·rename_i r m i j hx;rw[hx];have:=XD (P:=P) (n:=n) (S:=S) hop h1 e1 ha (by rw[hx];exact h4);rw[hx]at this;exact this
  ·rename_i cs hx;rw[hx];exact UR hop h1 hx e1 ha h4
  ·exact h4.elim
 case nilCheck x=>
  obtain⟨h1,h2⟩:=h;unfold Tf at h2;split at h2
  ·rename_i r m i j hx;rw[hx];exact Nq hop h1 hx h2
  ·rename_i cs hx;rw[hx];exact ML hop h1 hx
  ·exact h2.elim
 case binOp b T x y U=>
  obtain⟨h1,h2,h3⟩:=h;unfold Zn at h3;split at h3
  ·rename_i k i k' j hx hy;obtain⟨h4,h3⟩:=h3;rw[hx,hy];exact ZX hop h1 h2 hx hy h4 h3
  ·rename_i p q hx hy;obtain⟨h3,h4⟩:=h3;obtain⟨t,e1,e2⟩:=NA h3;rw[hx,hy];split at h4
   ·exact Ly (neg:=false) hop h1 h2 hx hy e1 e2
   ·exact Ly (neg:=true) hop h1 h2 hx hy e1 e2
   ·exact h4.elim
  ·rename_i p q hx hy;rw[hx,hy];exact Z2 hop h1 h2 hx hy h3
  ·exact h3.elim
 case unOp b T x=>
  cases b<;>simp only at h⊢;case not=>
   obtain⟨h1,h2⟩:=h;unfold Zy at h2;split at h2
   ·rename_i p hx;rw[hx];exact bB hop h1 hx
   ·exact h2.elim
 case convert T U x=>
  obtain⟨h1,h2⟩:=h;unfold Vl at h2;split at h2
  ·rename_i k i hx;obtain⟨h2,h3⟩:=h2;obtain⟨s,hs⟩:=Option.isSome_iff_exists.1 h2;obtain⟨t,e1,_,_⟩:=Bn hs;obtain⟨j,hj⟩:=Option.isSome_iff_exists.1 h3;obtain⟨u,f1,f2⟩:=GQ hj;rw[hx];simp only[ADL,hj];exact PX hop h1 hx e1 f1 f2
  ·exact h2.elim
 case makeFunc f as bs=>exact OW hop
 case fieldAddr T x f=>
  obtain⟨h1,h2,h3⟩:=h;split at h2
  ·rename_i p hp;split at h2
   ·rename_i s hs;obtain⟨t,e1,e2,_⟩:=Bn hs;rw[hp];exact MW hop h1 hp e1 (by omega) h3
   ·exact h2.elim
  ·exact h2.elim
 case field T x f=>
  obtain⟨h1,h2,h3⟩:=h;split at h3
  ·rename_i p hp;split at h3
   ·rename_i s hs;obtain⟨t,e1,e2,e3⟩:=Bn hs;obtain⟨h3,h4⟩:=h3;rw[hp];simp only[Option.map_some,Option.getD_some,hs,e3];subst e2;rw[e3]at h4;exact Tg hop h1 hp e1 h2 h3 (by simpa using h4)
   ·exact h3.elim
  ·exact h3.elim
 case indexAddr T x y=>
  obtain⟨h1,h2,h3,h4⟩:=h;split at h4
  ·rename_i E hE;split at h4
   ·rename_i s hs;obtain⟨t,e1,e2⟩:=BA hE;obtain⟨e,f1,f2,_⟩:=Bn hs;unfold FF at h3;split at h3
    ·rename_i k i hy;rw[hy]at h4⊢;simp only[FM]at h4⊢;subst f2;exact Mk hop h1 h2 e1 e2 f1 hy h4
    ·exact h3.elim
   ·exact h4.elim
  ·exact h4.elim
 case extract x k=>
  obtain⟨h1,h2⟩:=h;unfold ZS at h2;split at h2
  ·rename_i vs hx;rw[hx];exact PJ hop h1 hx h2
  ·rename_i vs hx;rw[hx];exact NT hop h1 hx h2
  ·exact h2.elim
 case call c=>
  split at h
  ·rename_i hc;obtain⟨h1,h2,h3,h4⟩:=h;unfold Z8 at h4;split at h4
   ·rename_i xs hx;obtain⟨E,hE⟩:=Option.isSome_iff_exists.1 h4;obtain⟨t,e1,e2⟩:=BA hE;rw[hx];exact R7 hop hc h1 h2 h3 hx e1 e2
   ·rename_i xs hx;obtain⟨E,hE⟩:=Option.isSome_iff_exists.1 h4;obtain⟨t,e1,e2⟩:=BA hE;rw[hx];exact Nr hop hc h1 h2 h3 hx e1 e2
   ·rename_i r m hx;obtain⟨h4,h5⟩:=h4;obtain⟨E,hE⟩:=Option.isSome_iff_exists.1 h5;obtain⟨t,e1,e2⟩:=BA hE;rw[hx];exact O3 hop hc h1 h2 h3 hx h4 e1 e2
   ·rename_i s hx;obtain⟨t,e1,e2⟩:=Gn h4;rw[hx];exact Pp hop hc h1 h2 h3 hx e1 e2
   ·exact h4.elim
  ·exact h.elim
end
end Go.Koi
