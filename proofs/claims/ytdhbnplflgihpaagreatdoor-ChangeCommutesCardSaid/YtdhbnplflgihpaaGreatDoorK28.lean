/-
  Part 29 of the proof that the law ChangeCommutes of the package koinelaw31 returns true for every input.
-/
import Derived.Test.YtdhbnplflgihpaaGreatDoorK27
set_option maxHeartbeats 64000000
set_option maxRecDepth 100000
namespace Go.Koi
open Go.Proofs DT
section
variable {P:Program} {n:Nat} {o:Oper} {tm:Tm} {S S':Sg} {v:V}
theorem Np{w:World}{sT xT E ty:TypeId}{e:TI}{z:Value}{base:Option Addr}{m:Nat}(h0:0<m)(hm:m≤2 ^ 30)
  (hs:sliceElem P sT=some E) (he:ti P E=some e) (hz:e.zero=some z) (_:z.cells.size=e.size) (hx:P.underlying xT=some (.int .i64)) (hbytes:e.bytes≤65536):
  ∃nc w0,m≤nc∧nc≤maxLen∧w0.heap=w.heap∧w0.os=w.os∧w0.output=w.output∧(Builtin.append_ #[sT,xT] ty #[.slice base 0 0,.int .i64 m]).run P w=
    .ok (.slice (some ⟨w.heap.size,0,none⟩) m nc) (BS w0 (.cells (#[]++(if m * e.size=0 then #[]else Builtin.zeroCells z.cells m)++Builtin.zeroCells z.cells (nc - m)) E (0,0))):=by
 obtain⟨t,t1,t2⟩:=BA hs;obtain⟨d,hd,hd'⟩:=Ai t1 w;have hdE:d=.slice E:=by rw[t2]at hd';cases d<;>simp[tk]at hd'⊢;exact hd'
 subst hdE;have hux:∀w,(underlying xT).run P w=.ok (.int .i64) w:=fun w=>by simp[underlying,hx]
 have hsz:=BQ he;obtain⟨inf,i1,i2,i3,i4⟩:=Cv he w;obtain⟨inf',i1',i2',i3',i4'⟩:=Cv he {w with drawn:=w.drawn+1};have hwr:IntKind.i64.wrap (m:Int)=m:=by rw[IntKind.wrap_i64];omega
 have hforced:(Question.appendCap (0+m) 0 E).forced=false:=rfl;refine⟨(Question.appendCap (0+m) 0 E).cut (w.tape w.drawn (.appendCap (0+m) 0 E)),{w with drawn:=w.drawn+1},?_,?_,rfl,rfl,rfl,?_⟩
 ·simp[Question.cut]
 ·simp only[Question.cut,maxLen];have:w.tape w.drawn (Question.appendCap (0+m) 0 E) % (2 ^ 63 - (0+m))<2 ^ 63 - (0+m):=Nat.mod_lt _ (by omega);omega
 ·have hb1:¬((m:Int) * inf.bytes>2 ^ 48):=by
   have:(inf.bytes:Int) * m≤281474976710656:=by
    have h:inf.bytes * m≤65536 * 2 ^ 30:=Nat.mul_le_mul (by omega) hm;have:((inf.bytes * m:Nat):Int)≤281474976710656:=by omega
    rwa [Int.natCast_mul]at this
   rw[Int.mul_comm];omega
  have hb2:¬(Builtin.nextslicecap (0+m) 0 * inf.bytes>2 ^ 48):=by
   have h3:=K2 (need:=0+m) (cap:=0) (by omega);have h4:Builtin.nextslicecap (0+m) 0 * inf.bytes≤(2 * (0+m)+768) * 65536:=Nat.mul_le_mul h3 (by omega);omega
  have hb3:¬(((0+m:Nat):Int)>IntKind.i64.max∧(True∨inf.bytes=0)):=by
   have:IntKind.i64.max=9223372036854775807:=by decide
   omega
  have hn0:¬((m:Int)<0):=by omega
  have hfit:¬(0+m≤0):=by omega
  unfold Builtin.append_;simp only[List.getElem?_toArray,List.getElem?_cons_zero,List.getElem?_cons_succ,Sem.run_bind,hd,Result.andThen_ok,hsz,hux,Sem.run_pure,asInt,asIntOf,hwr,Sem.run_ite,if_neg hn0,i1,if_neg hb1,if_neg hfit,if_pos,if_neg hb2,Int.toNat_natCast];have hf:∀w:World,(Builtin.firstCells e.size 0 (.slice base 0 0)).run P w=.ok #[] w:=fun w=>by
   cases base<;>simp[Builtin.firstCells,loadCells,loadCellsFrom]
  simp only[if_neg hb3,run_choose,hforced,Bool.false_eq_true,if_false,Result.andThen_ok,i1',run_askRoom,hf,Bool.not_true,DF he _ hz];split
  ·simp[newRow,BS];rfl
  ·simp[newRow,BS];rfl
theorem PE{c:Call}{sT xT E:TypeId}{x y:Operand}{e:TI}{z:Value}{m:Nat}(ho:o.op=.call c)(hc:c.callee=.builtin .append)(hargs:c.args=#[x,y])(hT:c.argTypes=#[sT,xT])
  (hx:need (ev tm x)) (hy:need (ev tm y)) (hs:sliceElem P sT=some E) (hxT:P.underlying xT=some (.int .i64)) (he:ti P E=some e) (hz:e.zero=some z) (hzs:z.cells.size=e.size) (hzo:(Ar (cst z)||oneV (cst z))=true) (hbytes:e.bytes≤65536)
  (ex:strip (ev tm x)=.full []) (ey:strip (ev tm y)=.d (.int .i64 m)) (h0:0<m) (hm:m≤2 ^ 30):
  Bv P n o tm S (.row S.length m) (S++[.row true e.size (List.replicate m (cst z))]):=.val fun G w a st=>by
 have h1:=(BH st x).strip hx;have h2:=Bg st hy ey;rw[ex]at h1;generalize hbx:a.eval x=B at h1;cases h1 with
 |full _ base hcd=>
  obtain⟨nc,w0,hnc,hncm,e1,e2,e3,hrun⟩:=Np (P:=P) (w:=w) (ty:=o.type) (base:=base) h0 hm hs he hz hzs hxT hbytes;have hexec:(execOp a.eval o).run P w=((Builtin.append_ #[sT,xT] o.type #[a.eval x,a.eval y]).run P w).andThen fun v w'=>.ok (.value v) w':=by
   simp[execOp,ho,resolve,hc,hargs,hT,invoke,builtin]
  rw[hbx,h2]at hexec;obtain⟨q1,q2,q3⟩:=st.rel.drawn e1 e2 e3;obtain⟨r1,r2,r3⟩:=q1.add nc (.row true e.size (List.replicate m (cst z))) (.cells (#[]++(if m * e.size=0 then #[]else Builtin.zeroCells z.cells m)++Builtin.zeroCells z.cells (nc - m)) E (0,0)) (fun L=>by
   have hv:(G.at S.length w0.heap.size nc none).BB S.length=none:=by simp[Gh.at]
   have hbk:(G.at S.length w0.heap.size nc none).BZ S.length=w0.heap.size:=by simp[Gh.at]
   have hcp:(G.at S.length w0.heap.size nc none).cap S.length=(nc,0):=by simp[Gh.at]
   simp only[OK,hv,hbk,hcp];refine⟨_,E,C0,?_,by simpa using hnc,by simp[maxLen];omega,fun i hi=>?_⟩
   ·refine Nat.le_of_eq (Eq.symm ?_);have:(if m * e.size=0 then(#[]:Array Value)else Builtin.zeroCells z.cells m).size=m * e.size:=by
     split<;>simp[Da, *]
    simp only[Array.size_append,Da,hzs,Nat.zero_add,this,List.size_toArray,List.length_nil];rw[←Nat.add_mul];congr 1;omega
   ·have hi:i<m:=by simpa using hi
    have hcv:=Fo (G.at S.length w0.heap.size nc none) (S++[.row true e.size (List.replicate m (cst z))]) (BS w0 (.cells (#[]++(if m * e.size=0 then #[]else Builtin.zeroCells z.cells m)++Builtin.zeroCells z.cells (nc - m)) E (0,0))) z;obtain⟨c1,c2,_⟩:=hcv.cells (by simpa using hzo);refine⟨z,by simpa using hcv,hzs,fun x hx=>?_,fun j hj=>?_⟩
    ·obtain⟨k,hk,rfl⟩:=Array.mem_iff_getElem.1 hx;exact c2 k hk
    ·have hlt:=D0 hi hj;have hmod:(i * e.size+j) % z.cells.size=j:=by rw[hzs,Nat.mul_comm,Nat.mul_add_mod];exact Nat.mod_eq_of_lt hj
     have hj':j<z.cells.size:=by omega
     have hne:m * e.size≠0:=by omega
     have hlt':i * e.size+j<m * z.cells.size:=by rw[hzs];exact hlt
     rw[if_neg hne,Nat.zero_add,Array.empty_append,Array.getElem?_append_left (by rw[Da];exact hlt')];simp[Builtin.zeroCells,hlt',hmod,hj'])
  rw[e1]at r1 r2 r3;refine⟨_,_,_,by rw[hexec];simp only[List.length_nil];rw[hrun];rfl,?_,r1,q2.trans r2,q3.trans r3⟩;refine .row _ _ _ rfl (by simp) fun m' hm'=>?_;have:m'=m:=by simpa[lenOf]using hm'.symm
  subst this;exact⟨Nat.le_refl _,fun _=>by simp[Gh.rowVal,Gh.at]⟩
theorem AS.Xt{ops:Array Oper}{b:Nat}{K:Tm→Sg→Prop}{rest:List Oper}{c:Call}{sT xT E:TypeId}{x y:Operand}{bt:Nat}(m:Nat)(z:V)(sz:Nat)(ho:o.op=.call c)(hc:c.callee=.builtin .append)(hargs:c.args=#[x,y])(hT:c.argTypes=#[sT,xT])
  (hp:o.guard=none∧A6 n o.dst∧need (ev tm x)∧need (ev tm y)∧strip (ev tm x)=.full []∧strip (ev tm y)=.d (.int .i64 m)) (hxT:P.underlying xT=some (.int .i64))
  (hE:sliceElem P sT=some E) (hz:Au P E=some z) (hs:Aq P E=some sz) (hB:Ao P E=some bt) (hB':bt≤65536) (hzz:(cellsV z).length=sz∧(Ar z||oneV z)=true) (h0:0<m) (hm:m≤2 ^ 30)
  (h2:AS P n b ops rest (put tm o.dst (.row S.length m)) (S++[.row true sz (List.replicate m z)]) K):AS P n b ops (o::rest) tm S K:=by
 obtain⟨h3,h4,h5,h6,h7,h8⟩:=hp;obtain⟨t,e1,e2⟩:=BA hE;obtain⟨e,f1,f2,_⟩:=Bn hs;obtain⟨t',u,k1,k2,k3⟩:=Dc hz;rw[f1]at k1;cases k1;obtain⟨t',l1,l2⟩:=Gx hB;rw[f1]at l1;cases l1;subst k3;obtain⟨g1,g2⟩:=hzz;obtain⟨c1,_⟩:=(Fo {I:=fun _=>False,BZ:=fun _=>0,cap:=fun _=>(0,0),BB:=fun _=>none} ([]:Sg) (default:World) u).cells (by simpa using g2);subst f2;exact AS.Rm ⟨h3,h4⟩ (PE ho hc hargs hT h5 h6 hE hxT f1 k2 (by omega) g2 (by omega) h7 h8 h0 hm) h2
theorem RM{T E:TypeId}{x y:Operand}{e:TI}{t:TI}{k:IntKind}(ho:o.op=.slice T x none (some y) none)(hx:need (ev tm x))
  (ex:strip (ev tm x)=.full []) (hT:ti P T=some t) (hk:t.kind=.slice E) (he:ti P E=some e) (hy:need (ev tm y)) (ey:strip (ev tm y)=.d (.int k 0)):
  Bv P n o tm S (.full []) S:=.pure fun G w a st=>by
 have hv:=(BH st x).strip hx;obtain⟨d,hd,hd'⟩:=Ai hT w;have hdE:d=.slice E:=by rw[hk]at hd';cases d<;>simp[tk]at hd'⊢;exact hd'
 subst hdE;rw[ex]at hv;generalize hB:a.eval x=B at hv;cases hv with
 |full _ b hc=>
  have hr:=Bg st hy ey;have hb:(Instr.sliceBounds true 0 0 none (some (a.eval y)) none).run P w=.ok (0,0,0) w:=by
   unfold Instr.sliceBounds;simp[hr,By (Int.le_refl 0) (show(0:Int)≤((0:Nat):Int)from Int.le_refl 0)]
  refine⟨.slice b 0 0,?_,?_⟩
  ·simp[execOp,ho,Instr.sliceAt,hB,hd,Instr.slice,hb,BQ he]
  ·exact .full [] b (.nil b 0)
theorem AS.aG{ops:Array Oper}{b:Nat}{K:Tm→Sg→Prop}{rest:List Oper}{T E:TypeId}{x y:Operand}{sz:Nat}(ho:o.op=.slice T x none (some y) none)
  (hp:o.guard=none∧A6 n o.dst∧need (ev tm x)∧strip (ev tm x)=.full []∧need (ev tm y)∧∃k,strip (ev tm y)=.d (.int k 0)) (hE:sliceElem P T=some E) (hs:Aq P E=some sz)
  (h2:AS P n b ops rest (put tm o.dst (.full [])) S K):AS P n b ops (o::rest) tm S K:=by
 obtain⟨h3,h4,h5,h6,h7,k,h8⟩:=hp;obtain⟨t,e1,e2⟩:=BA hE;obtain⟨e,f1,f2,_⟩:=Bn hs;exact AS.Rm ⟨h3,h4⟩ (RM ho h5 h6 e1 e2 f1 h7 h8) h2
end
open Go.Proofs Tryz DT
theorem YX(n:Nat)(hn:n≤2 ^ 30):AE prog 185 [.full [],.d (AG n)] [] (.row 0 0) [.row (decide (0<n)) 2 []]:=by
 refine AE.AI func185 (by kernel_rfl) rfl (by simp) fun wf _=>?_;rw[ntmps185];refine xW fun K hK=>?_;simp;apply hK;refine xS (xW fun K hK=>?_);simp;apply hK;refine AU ?_;simp;refine⟨fun h=>absurd h (by omega),?_⟩;refine CC ?_;have hw:IntKind.i64.wrap (n:Int)=n:=by rw[IntKind.wrap_i64];omega
 have hw0:IntKind.i64.wrap 0=0:=by decide
 refine xS (xW fun K hK=>?_);simp[hw,hw0];apply hK;refine xW fun K hK=>?_;simp;apply hK;refine AU ?_;simp;refine⟨fun h=>?_,fun h=>?_⟩
 ·have h0:0<n:=by omega
  have h64:prog.underlying 3=some (.int .i64):=by kernel_rfl
  refine BX fun K hK=>?_;(iterate 3 (refine B7 (by simp) ?_;simp));refine AS.aG (E:=68) (sz:=2) rfl (by simp) (by simp) (by simp) ?_;simp;(iterate 1 (refine B7 (by simp) ?_;simp));refine AS.Xt (E:=68) (bt:=16) n (.agg [.d (.bool false),.d (.int .i64 0)]) 2 rfl rfl rfl rfl (by simp) h64 (by simp) (by simp) (by simp) (by simp) (by simp) (by simp) h0 hn ?_;simp;(iterate 2 (refine B7 (by simp) ?_;simp));(refine AS.OL 0 n 2 (List.replicate n (.agg [.d (.bool false),.d (.int .i64 0)])) 0 0 rfl ?_ ?_)
  ·simp[srQ]
  ·simp;refine xJ ?_;simp;refine Aj (hK _ _ ?_);refine xW fun K hK=>?_;simp;apply hK;refine Ag ?_;(try simp only[xQ,reduceIte]);refine⟨_,AJ.Cy [1] (S0:=[.row (decide (0<n)) 2 []]) (by simp[h0]) (by simp) (by simp),?_⟩;simp[Am,pick];try decide
 ·have h0:n=0:=by omega
  subst h0;refine xK ?_;refine xW fun K hK=>?_;simp;apply hK;refine Ag ?_;(try simp only[xQ,reduceIte]);refine⟨_,AJ.BB 4 2 (xs:=[]) (by simp),?_⟩;simp[Am]
def Ex(xss:List (List Symbol))(i:Nat):List Symbol:=(xss.take i).flatten
theorem Ka(xss:List (List Symbol)){i:Nat}(h:i<xss.length):Ex xss (i+1)=Ex xss i++xss[i]:=by
 unfold Ex;rw[List.take_succ_eq_append_getElem h,List.flatten_append];simp only[List.flatten_cons,List.flatten_nil,List.append_nil]
theorem LR(xss:List (List Symbol)):Ex xss xss.length=xss.flatten:=by unfold Ex;rw[List.take_length]
theorem VA(xss:List (List Symbol))(i:Nat):(Ex xss i).length≤xss.flatten.length:=by
 unfold Ex;conv=>rhs;rw[←List.take_append_drop i xss,List.flatten_append,List.length_append]
 omega
theorem JF(xss:List (List Symbol))(hn:xss.flatten.length≤2 ^ 30):Pure prog 149 [.sl (xss.map fun xs=>As xs)] (As xss.flatten):=by
 have a1:∀i,(Ex xss i).length≤2 ^ 30:=fun i=>Nat.le_trans (VA xss i) hn;have h00:Ex xss 0=[]:=rfl;refine Pure.AI func149 (by kernel_rfl) rfl (by simp) fun wf=>?_;have a2:xss.length≤maxLen:=by have:=wf.1;simp[WFD]at this;simpa using this.1
 rw[ntmps149];refine xW fun K hK=>?_;simp;apply hK;refine xW fun K hK=>?_;simp;apply hK;refine xS (xW fun K hK=>?_);simp;apply hK;refine Bw ?_;refine DC xss.length (fun i tm S=>tm 0=.d (.sl (xss.map fun xs=>As xs))∧tm 9=.d (.sl (xss.map fun xs=>As xs))∧tm 11=.d (.int .i64 i)∧tm 10=.d (.int .i64 xss.length)∧tm 3=.d (AG (Ex xss i).length)∧S=[]) (Nat.zero_le _) (by simp[h00]) ?_;rintro i tm S hi ⟨t0,t9,t11,t10,t3,rfl⟩;refine xW fun K hK=>?_;simp[t10,t11];apply hK;refine xC ?_;simp;refine⟨fun hlt=>?_,fun hge=>?_⟩
 ·refine xK ?_;refine xB ?_;have hsm:(Ex xss (i+1)).length=(Ex xss i).length+xss[i].length:=by rw[Ka xss hlt,List.length_append]
  have hb1:=a1 (i+1);have hb2:=a1 i;rw[hsm]at hb1;have hw:IntKind.i64.wrap ((Ex xss i).length+xss[i].length:Int)=((Ex xss (i+1)).length:Int):=by rw[IntKind.wrap_i64,hsm];omega
  refine xW fun K hK=>?_;simp[t9,t11,hlt];apply hK;refine xW fun K hK=>?_;simp[t3,hw];apply hK;refine xW fun K hK=>?_;simp;apply hK;refine AU ?_;simp;refine⟨fun h=>?_,?_⟩
  ·exact absurd h (by omega)
  ·refine CC ?_;refine xV fun K hK=>?_;simp[t11];apply hK;refine⟨hlt,_,_,AJ.refl,?_⟩;simp[t0,t9,t10,AQ hlt a2]
 ·have e:i=xss.length:=by omega
  subst e;rw[LR]at t3;refine Cu ?_;refine Az fun K hK=>?_;refine xJ ?_;simp[t3];refine xF (YX xss.flatten.length hn) [] rfl ?_;simp;refine xJ ?_;simp;refine Aj (hK _ _ ?_);refine xS (xW fun K hK=>?_);simp[t0];apply hK;refine Bw ?_;generalize hF:xss.flatten.length=F at *;refine DC xss.length (fun i tm S=>tm 25=.d (.sl (xss.map fun xs=>As xs))∧tm 27=.d (.int .i64 i)∧tm 26=.d (.int .i64 xss.length)∧tm 6=.row 0 (Ex xss i).length∧S=[.row (decide (0<F)) 2 ((Ex xss i).map fun x=>.d (AL x))]) (Nat.zero_le _) (by simp[h00,←hF]) ?_;rintro i tm S hi ⟨t25,t27,t26,t6,rfl⟩;refine xW fun K hK=>?_;simp[t26,t27];apply hK;refine xC ?_;simp;refine⟨fun hlt=>?_,fun hge=>?_⟩
  ·have hsm:=Ka xss hlt;have hb1:=a1 (i+1);rw[hsm,List.length_append]at hb1;have hW:(decide (0<F)||!xss[i].isEmpty)=decide (0<F):=by
    cases h:xss[i]with
    |nil=>simp
    |cons y ys=>
     have:y∈xss.flatten:=List.mem_flatten.2 ⟨_,List.getElem_mem hlt,by rw[h];simp⟩;have:0<F:=by rw[←hF];exact List.length_pos_of_mem this
     simp[this]
   refine xK ?_;refine xB ?_;refine xW fun K hK=>?_;simp[t25,t27,hlt];apply hK;refine BX fun K hK=>?_;refine xJ ?_;simp[t6,hb1,Af];refine Aj (hK _ _ ?_);refine xV fun K hK=>?_;simp[t27];apply hK;refine⟨hlt,_,_,AJ.refl,?_⟩;simp[t25,t26,AQ hlt a2,hsm,hW]
  ·have e:i=xss.length:=by omega
   subst e;rw[LR]at t6⊢;generalize hL:xss.flatten=L at *;refine Cu ?_;refine xW fun K hK=>?_;simp[t6];apply hK;refine Ag ?_;(try simp only[xQ,reduceIte]);refine⟨_,_,AJ.B6 0 (xs:=L.map AL) rfl (by simp),?_⟩;simp[hF,asD];rw[←hL];simp
open Go.Proofs Tryz DT
def Bh(p:Int):Cw:=⟨-1,p,-1,ByteArray.empty⟩
def Dk(i:Int):Cw:=⟨i,-1,-1,ByteArray.empty⟩
theorem H6(p:Int):Pure prog 152 [AG p] (A1 (Bh p)):=by
 refine Pure.AI func152 (by kernel_rfl) rfl (by simp) fun wf=>?_;rw[ntmps152];refine xW fun K hK=>?_;simp;apply hK;refine xW fun K hK=>?_;simp;apply hK;refine Ag ?_;(try simp only[xQ,reduceIte]);refine⟨_,_,AJ.refl,?_⟩;simp[Bh,A1]
def Cg(a:Nat):Nat→List Cw
 |0=>[]
 |k+1=>Cg a k++[Dk ((a+k:Nat):Int)]
theorem C2(a k:Nat):(Cg a k).length=k:=by
 induction k with
 |zero=>rfl
 |succ k ih=>simp[Cg,ih]
theorem Gv(xs:List Cw)(w:Bool)(a k:Nat)(h:xs.length+k≤2 ^ 30)(ha:a+k≤2 ^ 31):
  AE prog 151 [.row 0 xs.length,.d (AG a),.d (AG (a+k:Nat))] [.row w 4 (xs.map fun t=>.d (A1 t))] (.row 0 (xs.length+k)) [.row (w||decide (0<k)) 4 ((xs++Cg a k).map fun t=>.d (A1 t))]:=by
 refine AE.AI func151 (by kernel_rfl) rfl (by simp) fun wf _=>?_;rw[ntmps151];refine xW fun K hK=>?_;simp;apply hK;refine xS (xW fun K hK=>?_);simp;apply hK;refine Bw ?_;refine DC k (fun i tm S=>tm 0=.row 0 (xs.length+i)∧tm 2=.d (AG (a+k:Nat))∧tm 7=.d (AG (a+i:Nat))∧S=[.row (w||decide (0<i)) 4 ((xs++Cg a i).map fun t=>.d (A1 t))]) (Nat.zero_le _) (by simp[Cg]) ?_;rintro i tm S hi ⟨t0,t2,t7,rfl⟩;refine xS (xW fun K hK=>?_);simp[t2,t7];apply hK;refine AU ?_;simp;refine⟨fun hlt=>?_,fun hge=>?_⟩
 ·have hlt:i<k:=by omega
  have hw:IntKind.i64.wrap ((a:Int)+i+1)=(a:Int)+(i+1):=by rw[IntKind.wrap_i64];omega
  have hl1:xs.length+i+1≤1073741824:=by omega
  have h1m:1≤maxLen:=by unfold maxLen;omega
  have hhl:=C2 a i;refine xK ?_;refine xB ?_;refine BX fun K hK=>?_;refine xJ ?_;simp[t0,t7,h1m,hl1,Af,hhl,or_imp,forall_and];refine Aj (hK _ _ ?_);refine xV fun K hK=>?_;simp[t7,hw];apply hK;refine⟨hlt,_,_,AJ.refl,?_⟩;simp[t2,Cg,Nat.add_assoc,A1,Dk]
 ·have e:i=k:=by omega
  subst e;refine Cu ?_;refine xW fun K hK=>?_;simp[t0];apply hK;refine Ag ?_;(try simp only[xQ,reduceIte]);refine⟨_,AJ.refl,?_⟩;simp[Am]
theorem MQ{S:Sg}{r q k:Nat}{g:AF}{x:Change}{h0 h1 h2 h3 h4 h6 h7 h8 m:V}{lg w:Bool}{els:List V}(hb:S[r]?=some (.row true 51 [bV g x h0 h1 h2 h3 h4 (.row q k) h6 h7 h8 m lg]))(hq:S[q]?=some (.row w 13 els))(hl:els.length=k)(hk:k+1≤2 ^ 30)(hz:Af 13 els)(p:AT)
  (hs:((S.set q (.row true 13 (els++[.d (AH p)]))).set r (.row true 51 [bV g x h0 h1 h2 h3 h4 (.row q (k+1)) h6 h7 h8 m lg])).all (belowO S.length)=true):
  AE prog 150 [.ptr r 1 0 0,.d (AH p)] S (.d (AG k)) ((S.set q (.row true 13 (els++[.d (AH p)]))).set r (.row true 51 [bV g x h0 h1 h2 h3 h4 (.row q (k+1)) h6 h7 h8 m lg])):=by
 unfold bV at hb hs⊢;have hr:=AZ hb;have hql:=AZ hq;have hqr:q≠r:=fun e=>by subst e;rw[hb]at hq;cases hq
 have hb':∀T,(S++T)[r]?=_:=fun T=>(List.getElem?_append_left hr).trans hb;have hq':∀T,(S++T)[q]?=_:=fun T=>(List.getElem?_append_left hql).trans hq;have hst:∀T o,(S++T).set r o=S.set r o++T:=fun T o=>List.set_append_left _ _ hr;have hsq:∀T o,(S++T).set q o=S.set q o++T:=fun T o=>List.set_append_left _ _ hql;have hlen:∀o,(S.set q o).length=S.length:=fun o=>List.length_set;have hst2:∀T o o',(S.set q o++T).set r o'=(S.set q o).set r o'++T:=fun T o o'=>List.set_append_left _ _ (by rw[hlen];exact hr);have hb2:∀T o,(S.set q o++T)[r]?=_:=fun T o=>((List.getElem?_append_left (by rw[hlen];exact hr)).trans (List.getElem?_set_ne hqr)).trans hb;have hb3:∀T o o',((S.set q o).set r o'++T)[r]?=some o':=fun T o o'=>(List.getElem?_append_left (by rw[List.length_set,hlen];exact hr)).trans (List.getElem?_set_self (by rw[hlen];exact hr));have hq3:∀T o o',((S.set q o).set r o'++T)[q]?=some o:=fun T o o'=>(List.getElem?_append_left (by rw[List.length_set,hlen];exact hql)).trans ((List.getElem?_set_ne (Ne.symm hqr)).trans (List.getElem?_set_self hql));have henc:=AH.eq_1 p;have h1m:1≤maxLen:=by unfold maxLen;omega
 have hk':k+1≤1073741824:=by omega
 have hw:IntKind.i64.wrap (k:Int)=k:=by rw[IntKind.wrap_i64];omega
 have hz':(∀y,y∈els→(cellsV y).length=13∧(Ar y=true∨oneV y=true))↔True:=iff_true_intro (by simpa[Af]using hz);subst hl;refine AE.B9 func150 (by kernel_rfl) rfl (by simp) fun wf _=>?_;rw[ntmps150];refine xW fun K hK=>?_;simp[henc];apply hK;refine xD [0,2,4,6,8,10,12,14,17,18,20,22,25] (by kernel_rfl) fun K hK=>?_;simp;refine xA 1 ?_;simp[hb',h1m];refine xX 5 (by kernel_rfl) ?_;simp[hb',hq',hb2,AR,hsq,hk',hz',Af,h1m];refine xA 1 ?_;simp[hb2];refine xX 505 (by kernel_rfl) ?_;simp[hb2,hb3,AR,hst2];refine xM (hK _ _ ?_);(repeat refine xS ?_);refine BX fun K hK=>?_;refine xJ ?_;simp[hb3,hq3,hw];refine Aj (hK _ _ ?_);(try simp only[]);refine Ag ?_;(try simp only[xQ,reduceIte]);refine⟨_,_,_,AJ.refl,?_,?_,AJ.AY S.length (by simp[hlen,henc]) (Nat.le_refl _) (by simp[hlen]) (by simpa[hlen,henc]using hs)⟩
 ·simp
 ·simp
theorem NI{S:Sg}{r q k:Nat}{g:AF}{x:Change}{h0 h1 h2 h3 h5 h6 h7 h8 m:V}{lg w:Bool}{els:List V}(hb:S[r]?=some (.row true 51 [bV g x h0 h1 h2 h3 (.row q k) h5 h6 h7 h8 m lg]))(hq:S[q]?=some (.row w 1 els))(hl:els.length=k)(hk:k+1≤2 ^ 30)(hz:Af 1 els)
  (hs:((S.set q (.row true 1 (els++[.d (Ba x.name)]))).set r (.row true 51 [bV g x h0 h1 h2 h3 (.row q (k+1)) h5 h6 h7 h8 m lg])).all (belowO S.length)=true):
  AE prog 153 [.ptr r 1 0 0] S (.d (AL ⟨false,k⟩)) ((S.set q (.row true 1 (els++[.d (Ba x.name)]))).set r (.row true 51 [bV g x h0 h1 h2 h3 (.row q (k+1)) h5 h6 h7 h8 m lg])):=by
 unfold bV at hb hs⊢;have hr:=AZ hb;have hql:=AZ hq;have hqr:q≠r:=fun e=>by subst e;rw[hb]at hq;cases hq
 have hb':∀T,(S++T)[r]?=_:=fun T=>(List.getElem?_append_left hr).trans hb;have hq':∀T,(S++T)[q]?=_:=fun T=>(List.getElem?_append_left hql).trans hq;have hst:∀T o,(S++T).set r o=S.set r o++T:=fun T o=>List.set_append_left _ _ hr;have hsq:∀T o,(S++T).set q o=S.set q o++T:=fun T o=>List.set_append_left _ _ hql;have hlen:∀o,(S.set q o).length=S.length:=fun o=>List.length_set;have hst2:∀T o o',(S.set q o++T).set r o'=(S.set q o).set r o'++T:=fun T o o'=>List.set_append_left _ _ (by rw[hlen];exact hr);have hb2:∀T o,(S.set q o++T)[r]?=_:=fun T o=>((List.getElem?_append_left (by rw[hlen];exact hr)).trans (List.getElem?_set_ne hqr)).trans hb;have hb3:∀T o o',((S.set q o).set r o'++T)[r]?=some o':=fun T o o'=>(List.getElem?_append_left (by rw[List.length_set,hlen];exact hr)).trans (List.getElem?_set_self (by rw[hlen];exact hr));have hq3:∀T o o',((S.set q o).set r o'++T)[q]?=some o:=fun T o o'=>(List.getElem?_append_left (by rw[List.length_set,hlen];exact hql)).trans ((List.getElem?_set_ne (Ne.symm hqr)).trans (List.getElem?_set_self hql));have h1m:1≤maxLen:=by unfold maxLen;omega
 have hk':k+1≤1073741824:=by omega
 have hw:IntKind.i64.wrap (k:Int)=k:=by rw[IntKind.wrap_i64];omega
 have hz':(∀y,y∈els→(cellsV y).length=1∧(Ar y=true∨oneV y=true))↔True:=iff_true_intro (by simpa[Af]using hz);subst hl;refine AE.B9 func153 (by kernel_rfl) rfl (by simp) fun wf _=>?_;rw[ntmps153];refine xW fun K hK=>?_;simp;apply hK;refine xD [0,2,4,6,8,10,12,14,16,18,20,22,25,26,28,30,33] (by kernel_rfl) fun K hK=>?_;simp;refine xA 1 ?_;simp[hb',h1m];refine xX 65 (by kernel_rfl) ?_;simp[hb',hq',hb2,AR,hsq,hk',hz',Af,h1m];refine xA 1 ?_;simp[hb2];refine xX 8185 (by kernel_rfl) ?_;simp[hb2,hb3,AR,hst2];refine xM (hK _ _ ?_);(repeat refine xS ?_);refine BX fun K hK=>?_;refine xJ ?_;simp[hb3,hq3,hw];refine Aj (hK _ _ ?_);(try simp only[]);refine Ag ?_;(try simp only[xQ,reduceIte]);refine⟨_,_,_,AJ.refl,?_,?_,AJ.AY S.length (by simp[hlen]) (Nat.le_refl _) (by simp[hlen]) (by simpa[hlen]using hs)⟩
 ·simp
 ·simp[AL]
open Go.Proofs Tryz DT
section
variable {P:Program} {n b:Nat} {ops:Array Oper} {o:Oper} {tm:Tm} {S S':Sg} {K:Tm→Sg→Prop} {v:V}
theorem Ae.Yq{B:List (Nat×(Sg→Prop))}{i:Nat}{rest:List (Nat×Bool×Oper)}{c:Call}{f:FuncId}{args:List V}(ws:List Bool)(h:AE P f args S v S')(hws:B.map (fun p=>waits ops i p.1)=ws)(ho:o.op=.call c)
  (hp:o.guard=none∧A6 n o.dst∧A5 tm c∧callee tm c=some (f,args)∧okB ws B S S') (h2:Ae P n b ops (dropB ws B) rest (put tm o.dst v) S' K):Ae P n b ops B ((i,false,o)::rest) tm S K:=by
 obtain⟨h3,h4,h5,h6,h7⟩:=hp;exact Ae.Z5 ws hws (fun hi=>A7.call hi ho h3 h4 h6 h5 h) h7 h2
end
def Yo(g:AF)(x:Change):AT:={F1 with name:=x.name,left:=g.BC.length,right:=((CL g x).right.take x.to.toNat).drop x.at_.toNat,cond:=(CL g x).cond}
def Yz(g:AF)(x:Change):List Symbol:=(CL g x).right.take x.at_.toNat++[⟨false,g.BC.length⟩]++(CL g x).right.drop x.to.toNat
def Yt(g:AF)(x:Change):List Cw:=([Bh x.number]++Cg 0 x.at_.toNat)++[Bh g.AD.length]++Cg x.at_.toNat ((CL g x).right.length - x.at_.toNat)
def Vu(g:AF)(x:Change):AF:={g with BC:=g.BC++[x.name],AD:=(g.AD++[Yo g x]).set x.number.toNat {CL g x with right:=Yz g x}}
def foldM(g:AF)(x:Change):List Rewrite:=[⟨x.number,-1,-1,Yt g x⟩]
theorem LZ{g:AF}{x:Change}(h:FE g x=true):Ck g x=true∧∃j a t:Nat,x.number=j∧x.at_=a∧x.to=t∧j<g.AD.length∧a<t∧t≤(CL g x).right.length:=by
 simp only[FE,Bool.and_eq_true,decide_eq_true_eq]at h;obtain⟨⟨⟨h1,h2⟩,h3⟩,h4⟩:=h;have h5:=h1;simp only[Ck,Bool.and_eq_true,decide_eq_true_eq]at h5;exact⟨h1,x.number.toNat,x.at_.toNat,x.to.toNat,by omega,by omega,by omega,by omega,by omega,by omega⟩
theorem eK(g:AF)(x:Change):Oj (bS g x) 4 g x:=⟨_,_,_,_,_,_,_,_,_,_,_,rfl⟩
theorem eA(g:AF)(x:Change)(hf:FE g x=true)(hb:GO g x.number=true):AE prog 90 [.ptr 4 1 0 0] (bS g x) (.d (AG 311)) (bS g x):=by
 obtain⟨hp,j,a,t,hj,ha,ht,hj1,h1,h2⟩:=LZ hf;have hbd:=Gd (eK g x) (by simp[bS,CG,bV]) (i:=x.number) (by omega);rw[hb]at hbd;refine AE.AI func90 (by kernel_rfl) rfl (by simp) fun wf _=>?_;rw[ntmps90];unfold bS CG bV at *;refine xW fun K hK=>?_;simp;apply hK;refine xS (Az fun K hK=>?_);refine xJ ?_;simp;refine AS.call rfl rfl (by simp) (f:=146) (args:=[.ptr 4 1 0 0,.d (AG x.number)]) (by simp[callee];try rfl) (by simp) hbd ?_;simp;refine xJ ?_;simp;refine Aj (hK _ _ ?_);(try simp only[]);refine AU ?_;simp;refine xW fun K hK=>?_;simp;apply hK;refine Ag ?_;(try simp only[xQ,reduceIte]);refine⟨_,AJ.refl,?_⟩;simp[Am]
theorem YI(g:AF)(x:Change)(hf:FE g x=true)(hb:GO g x.number=false)(hl:g.AD.length≤2 ^ 20)(hn:g.BC.length≤2 ^ 20)(hr:(CL g x).right.length≤2 ^ 20):
  AE prog 90 [.ptr 4 1 0 0] (bS g x) (.d (AG 0)) (D5 g x (Vu g x) (foldM g x) false):=by
 obtain⟨hp,j,a,t,hj,ha,ht,hj1,h1,h2⟩:=LZ hf;have hbd:=Gd (eK g x) (by simp[bS,CG,bV]) (i:=x.number) (by omega);rw[hb]at hbd;have hold:=Hv (eK g x) (by simp[bS,CG,bV]) hp;unfold Vu foldM Yo Yt Yz;generalize hop:CL g x=o at *;have henc:=AH.eq_1 o;have hfr:=NI (S:=bS g x++[O.row true 13 [.d (AH o)]]) (r:=4) (q:=2) (k:=g.BC.length) (g:=g) (x:=x) rfl rfl (by simp) (by omega) (by simp[Af]) (by simp[bS,CG,bV]);have hcl:=(GG ((o.right.take t).drop a) (by simp;omega)).Hi;have had0:=MQ (S:=CG g x {g with BC:=g.BC++[x.name]} (.full []) false (!g.conds.isEmpty) (!g.Ak.isEmpty) true (!g.AD.isEmpty)++[O.row true 13 [.d (AH o)],O.row true 2 [.d (AL ⟨false,g.BC.length⟩)]]) (r:=4) (q:=3) (k:=g.AD.length) (g:=g) (x:=x) rfl rfl (by simp) (by omega) (by simp[Af]) {F1 with name:=x.name,left:=g.BC.length,right:=(o.right.take t).drop a,cond:=o.cond} (by simp[CG,bV]);have hadd:=had0.Ei (args':=[.ptr 4 1 0 0,.agg [.d (.str x.name),.d (.int .i64 g.BC.length),.d (.sl (((o.right.map AL).take t).drop a)),.d (.sl (o.cond.nodes.map AX)),.d (.int .i64 o.cond.root),.d (.bool false),.d (.int .i64 0),.full [],.d (.bool false),.d (.int .i64 0),.d (.int .i64 0),.d (.int .i64 0),.d (.int .i64 0)]]) rfl fun i h h'=>by
  match i,h with
  |0,_=>exact .inl rfl
  |1,_=>exact .inr ⟨_,by simp[asD,AH,F1,List.map_take,List.map_drop],rfl⟩
 clear had0;refine AE.AI func90 (by kernel_rfl) rfl (by simp) fun wf _=>?_;rw[ntmps90];unfold bS CG bV at hbd hold hfr⊢;unfold CG bV at hadd;simp[henc,hj,ha,ht]at hadd;simp[henc]at hfr;refine xW fun K hK=>?_;simp;apply hK;refine xS (Az fun K hK=>?_);refine xJ ?_;simp;refine AS.call rfl rfl (by simp) (f:=146) (args:=[.ptr 4 1 0 0,.d (AG x.number)]) (by simp[callee];try rfl) (by simp) hbd ?_;simp;refine xJ ?_;simp;refine Aj (hK _ _ ?_);(try simp only[]);refine AU ?_;simp;refine xK ?_;refine Az fun K hK=>?_;refine xJ ?_;simp;refine AS.call rfl rfl (by simp) (f:=89) (args:=[.ptr 4 1 0 0]) (by simp[callee];try rfl) (by simp) hold ?_;simp;refine xJ ?_;simp[henc];refine Aj (hK _ _ ?_);refine xD [0,2,4,6,8,10,12,14,16,18,20,22] (by kernel_rfl) fun K hK=>?_;simp;refine xA 0 ?_;simp;refine xM (hK _ _ ?_);(repeat refine xS ?_);refine BX fun K hK=>?_;refine xJ ?_;simp;refine AS.call rfl rfl (by simp) (f:=153) (args:=[.ptr 4 1 0 0]) (by simp[callee];try rfl) (by simp) hfr ?_;simp;refine xJ ?_;simp;refine Aj (hK _ _ ?_);(try simp only[xQ,reduceIte]);have hX:∃X5 X6,X5=O.row true 13 [.d (AH o)]∧X6=O.row true 2 [.d (AL ⟨false,g.BC.length⟩)]:=⟨_,_,rfl,rfl⟩;have d1:a≤t:=by omega
 have d3:a<o.right.length:=by omega
 (repeat refine xS ?_);refine xE [0,2,4,6,8,10,12,14,16,18,20,22,24,26,28,30,32,35,36] (by kernel_rfl) fun K hK=>?_;simp;refine xA 1 ?_;simp[hj,ha,ht,d1,h2,d3];refine Ae.CA (hcl) rfl (by simp[xN]) ?_;simp;refine xA 1 ?_;simp;refine Ae.Yq (xT [1,0,0,1,0,0,0,0,0,0,0,0,0,0,0,0,1]) (hadd) (by kernel_rfl) rfl (by simp[AR,d1,h2,d3];try rfl) ?_;simp;refine xA 1 ?_;simp;refine xM (hK _ _ ?_);(try simp only[xQ,reduceIte]);clear hadd hfr hbd hold;obtain⟨P2,hP2⟩:∃P2,P2=g.AD++[{F1 with name:=x.name,left:=g.BC.length,right:=(o.right.take t).drop a,cond:=o.cond}]:=⟨_,rfl⟩;have hm2:List.map (fun x=>V.d (AH x)) g.AD++[V.d (AH {F1 with name:=x.name,left:=g.BC.length,right:=(o.right.take t).drop a,cond:=o.cond})]=List.map (fun x=>V.d (AH x)) P2:=by rw[hP2];simp
 rw[hm2];have hl2:P2.length=g.AD.length+1:=by rw[hP2];simp
 have hj2:j<P2.length:=by omega
 have hj3:j<g.AD.length+1:=by omega
 have hop2:P2[j]=o:=by
  have:CL g x=g.AD[j]:=by simp[CL,hj,hj1]
  rw[hop]at this;simp[hP2,hj1,this]
 rw[ht,ha,hj];simp only[Int.toNat_natCast];rw[←hP2];clear hP2 hm2;have hcc:=JF [o.right.take a,[⟨false,(g.BC.length:Nat)⟩],o.right.drop t] (by simp;omega);obtain⟨R,hR⟩:∃R,R=o.right.take a++⟨false,(g.BC.length:Nat)⟩::o.right.drop t:=⟨_,rfl⟩;have hfl:[o.right.take a,[(⟨false,(g.BC.length:Nat)⟩:Symbol)],o.right.drop t].flatten=R:=by rw[hR];simp
 rw[hfl]at hcc;have d4:a≤o.right.length:=by omega
 have hj4:(j:Int)<g.AD.length+1:=by omega
 have htk:List.take o.right.length (List.map AL o.right)=List.map AL o.right:=List.take_of_length_le (by simp);refine AW.Ew (R:=fun tm S=>tm 0=.ptr 4 1 0 0∧tm 3=.ptr 5 1 0 0∧tm 4=.d (.int .i64 a)∧tm 5=.d (.int .i64 t)∧tm 7=.d (.int .i64 g.AD.length)∧S=CG g x {g with BC:=g.BC++[x.name],AD:=P2.set j {o with right:=R}} (.full []) false (!g.conds.isEmpty) (!g.Ak.isEmpty) true true++[O.row true 13 [.d (AH o)],O.row true 2 [.d (AL ⟨false,g.BC.length⟩)]]) ?_ ?_
 ·by_cases d5:t<o.right.length
  ·skip;refine xE [0,2,4,6,8,10,12,14,16,18,20,22,24,26,28,30,32,34,36,38,40,42,44,46,49] (by kernel_rfl) fun K hK=>?_;simp;refine xA 1 ?_;simp[d4,h2,maxLen,d5];refine Ae.CA (hcc) rfl (by simp[List.map_take,List.map_drop,htk,xN]) ?_;simp[htk];refine xA 1 ?_;simp[hj3,hj4,hl2];refine xX 16777213 (by kernel_rfl) ?_;simp[AR,henc,d4,h2,hj3,hj4,hl2,hop2,maxLen,d5];refine xM (hK _ _ ?_);refine⟨_,_,(AJ.A2 3 (xs:=(P2.set j {o with right:=R}).map AH) rfl ?_).trans (AJ.JK (S':=CG g x {g with BC:=g.BC++[x.name],AD:=P2.set j {o with right:=R}} (.full []) false (!g.conds.isEmpty) (!g.Ak.isEmpty) true true++[O.row true 13 [.d (AH o)],O.row true 2 [.d (AL ⟨false,g.BC.length⟩)]]) ?_),?_⟩
   ·rw[Bc,List.map_set,List.map_map,List.map_set,List.map_set,List.map_map];congr 1
   ·simp[CG,bV,hj,ha,ht,hl2,List.map_set,Function.comp_def,henc]
   ·simp
  ·have d6:t=o.right.length:=by omega
   have d7:o.right.length≤t:=by omega
   refine xE [0,2,4,6,8,10,12,14,16,18,20,22,24,26,28,30,32,34,36,38,40,42,44,46,49] (by kernel_rfl) fun K hK=>?_;simp;refine xA 1 ?_;simp[d4,maxLen,d6];refine Ae.CA (hcc) rfl (by simp[List.map_take,List.map_drop,htk,d7,xN]) ?_;simp[htk];refine xA 1 ?_;simp[hj3,hj4,hl2];refine xX 16777213 (by kernel_rfl) ?_;simp[AR,henc,d4,hj3,hj4,hl2,hop2,maxLen];refine xM (hK _ _ ?_);refine⟨_,_,(AJ.A2 3 (xs:=(P2.set j {o with right:=R}).map AH) rfl ?_).trans (AJ.JK (S':=CG g x {g with BC:=g.BC++[x.name],AD:=P2.set j {o with right:=R}} (.full []) false (!g.conds.isEmpty) (!g.Ak.isEmpty) true true++[O.row true 13 [.d (AH o)],O.row true 2 [.d (AL ⟨false,g.BC.length⟩)]]) ?_),?_⟩
   ·rw[Bc,List.map_set,List.map_map,List.map_set,List.map_set,List.map_map];congr 1
   ·simp[CG,bV,hj,ha,ht,hl2,List.map_set,Function.comp_def,henc];omega
   ·simp;omega
 rintro tm S ⟨t0,t3,t4,t5,t7,rfl⟩;clear hcc hfl;have hl3:(P2.set j {o with right:=R}).length=g.AD.length+1:=by simp[hl2]
 generalize hP3:P2.set j {o with right:=R}=P3 at *;have hno1:=H6 (j:Int);have hno2:=H6 (g.AD.length:Int);have hh1:=Gv [Bh j] false 0 a (by simp;omega) (by omega);have hh2:=Gv (([Bh j]++Cg 0 a)++[Bh g.AD.length]) true a (o.right.length - a) (by simp[C2];omega) (by omega);have hrl:a+(o.right.length - a)=o.right.length:=by omega
 rw[hrl]at hh2;unfold CG bV;(repeat refine xS ?_);refine BX fun K hK=>?_;refine xJ ?_;simp[t0,hj];refine Bp (hno1) rfl (by simp[xN]) ?_;simp;refine xJ ?_;simp[maxLen,t4];refine AS.ghost (AJ.BB 78 4 (xs:=[A1 (Bh j)]) (by simp)) ?_;refine xF (hh1) [7] rfl ?_;simp;refine xJ ?_;simp;refine Aj (hK _ _ ?_);(try simp only[xQ,reduceIte]);have e5:a+1=1+a:=by omega
 have e6:1+a≤1073741823:=by omega
 simp[C2,e5]at hh2;(repeat refine xS ?_);refine xE [0,2,4,6,10,12,14,16,9,19,20] (by kernel_rfl) fun K hK=>?_;simp;refine xA 1 ?_;simp[t7];refine Bj (hno2) rfl (by simp[xN]) ?_;simp;refine xA 1 ?_;simp[t3,t4,henc,maxLen];refine xX 176 (by kernel_rfl) ?_;simp[AR,Al,C2,Af,or_imp,forall_and,t3,t4,t7,maxLen,e5,e6];refine Ae.Ds (xT [1,0,0,1,0]) (hh2) [7] (by kernel_rfl) rfl (by simp[AR,t3,t4,t7,maxLen];try rfl) ?_;simp;refine xA 1 ?_;simp;refine xM (hK _ _ ?_);(try simp only[xQ,reduceIte]);obtain⟨TT,hTT⟩:∃TT,TT=Bh j::(Cg 0 a++Bh (g.AD.length:Int)::Cg a (o.right.length - a)):=⟨_,rfl⟩;have hTl:TT.length=1+a+1+(o.right.length - a):=by rw[hTT];simp[C2];omega
 rw[←hTl];refine AW.ghost (AJ.B6 7 (wr:=true) (sz:=4) (els:=(TT.map A1).map V.d) (xs:=TT.map A1) (by rw[hTT];simp[Function.comp_def]) (BT _ _)) ?_;simp;refine xW fun K hK=>?_;simp[t0,maxLen];apply hK;refine xW fun K hK=>?_;simp;apply hK;refine Ag ?_;(try simp only[xQ,reduceIte]);rw[←hTT,←hR,hP3];refine⟨_,(AJ.AY 5 (S':=CG g x {g with BC:=g.BC++[x.name],AD:=P3} (.full [Ab ⟨j,-1,-1,TT⟩]) false (!g.conds.isEmpty) (!g.Ak.isEmpty) true true) ?_ (by simp) (by simp) ?_).trans (Jo g x _ _ [⟨j,-1,-1,TT⟩] false _ _ _ _ rfl),?_⟩
 ·simp[CG,bV,hj,Ab]
 ·simp
 ·simp[Am,clean,EJ,belowV]
section
variable {P:Program} {n b:Nat} {tm:Tm} {S:Sg}
theorem St.setRow{G:Gh}{w:World}{a:Act}(st:St P n G S w a tm){r sz:Nat}{els els':List V}(hr:S[r]?=some (.row true sz els))(hl:els'.length=els.length)
  (hrow:∀c T,w.heap[G.BZ r]?=some (.cells c T (0,0))→KO G S w sz els c (G.cap r).2→KO G S w sz els' c (G.cap r).2):
  St P n G (S.set r (.row true sz els')) w a tm∧Tr G S w G (S.set r (.row true sz els')) w∧A9 G S w G (S.set r (.row true sz els')) w:=by
 have R:=st.rel;have hrl:=AZ hr;have hat:(S.set r (.row true sz els'))[r]?=some (.row true sz els'):=by simp[hrl]
 have hne:∀r',r'≠r→(S.set r (.row true sz els'))[r']?=S[r']?:=fun r' h=>by simp[List.getElem?_set_ne (Ne.symm h)]
 have el:∀r',lenOf (S.set r (.row true sz els')) r'=lenOf S r':=fun r'=>by
  by_cases e:r'=r
  ·subst e;simp[lenOf,hat,hr,hl]
  ·simp only[lenOf,hne r' e]
 have es:∀r',szOf (S.set r (.row true sz els')) r'=szOf S r':=fun r'=>by
  by_cases e:r'=r
  ·subst e;simp[szOf,hat,hr]
  ·simp only[szOf,hne r' e]
 have em:∀r',isMap (S.set r (.row true sz els')) r'=isMap S r':=fun r'=>by
  by_cases e:r'=r
  ·subst e;simp[isMap,hat,hr]
  ·simp only[isMap,hne r' e]
 have L:A9 G S w G (S.set r (.row true sz els')) w:=
  ⟨fun _ h=>h,fun _ _=>rfl,by simp,fun r' _ n' hn'=>⟨n',by rw[←el];exact hn',Nat.le_refl _,fun _=>⟨rfl,rfl,rfl,.inl (es r')⟩⟩,fun r' _ hm=>⟨by rw[←em];exact hm,rfl⟩⟩
 have own:∀r' x,(S.set r (.row true sz els'))[r']?=some x→∃x',S[r']?=some x'∧ownsB G r' x'=ownsB G r' x:=fun r' x hx=>by
  by_cases e:r'=r
  ·subst e;rw[hat]at hx;cases hx;exact⟨_,hr,rfl⟩
  ·rw[hne r' e]at hx;exact⟨x,hx,rfl⟩
 have ownS:∀k,Eo G (S.set r (.row true sz els')) k→Eo G S k:=by
  rintro k ⟨r',x,h1,h2,h3⟩;obtain⟨x',g1,g2⟩:=own r' x h1;exact⟨r',x',g1,by rw[g2];exact h2,h3⟩
 refine⟨⟨st.size,st.tm.Aw L,⟨R.Es.Aw L,fun r' x hx'=>?_,fun r1 r2 x1 x2 h1 h2 o1 o2 he=>?_,fun k hk=>R.nI k (ownS k hk),R.G5,fun k hk=>R.FW k (ownS k hk)⟩⟩,⟨Nat.le_refl _,fun _ h=>h,fun _ _ _=>rfl,fun k hk=>.inl (ownS k hk),fun k hk=>.inl hk,rfl,rfl⟩,L⟩
 ·by_cases e:r'=r
  ·subst e;rw[hat]at hx';cases hx';have hob:=R.CT r' _ hr;simp only[OK]at hob⊢;cases hv:G.BB r' with
   |none=>
    simp only[hv]at hob⊢;obtain⟨c,T,g1,g2,g3,g4,g5⟩:=hob;exact⟨c,T,g1,g2,by omega,by omega,(hrow c T g1 g5).Aw L⟩
   |some q=>simp only[hv]at hob;exact absurd hob.1 (by simp)
  ·rw[hne r' e]at hx';exact(R.CT r' x hx').Aw L (fun _=>rfl) rfl rfl rfl
 ·obtain⟨y1,g1,p1⟩:=own r1 x1 h1;obtain⟨y2,g2,p2⟩:=own r2 x2 h2;exact R.inj r1 r2 y1 y2 g1 g2 (by rw[p1];exact o1) (by rw[p2];exact o2) he
theorem AJ.Lb(r i c sz':Nat){sz:Nat}{els cs:List V}{xs:List D}(hr:S[r]?=some (.row true sz els))(hi:els[i]?=some (.agg cs))(hc:cs[c]?=some (.full xs)):
  AJ P n b tm S tm ((S++[O.row false sz' (xs.map .d)]).set r (.row true sz (els.set i (.agg (cs.set c (V.row S.length xs.length)))))):=fun G w a st hb=>by
 have hrl:=AZ hr;have hob:=st.rel.CT r _ hr;simp only[OK]at hob;cases hv:G.BB r with
 |some q=>simp only[hv]at hob;exact absurd hob.1 (by simp)
 |none=>
  simp only[hv]at hob;obtain⟨d,T,g1,g2,g3,g4,g5⟩:=hob;obtain⟨hil,hie⟩:=List.getElem?_eq_some_iff.1 hi;obtain⟨hcl,hce⟩:=List.getElem?_eq_some_iff.1 hc;obtain⟨v,f1,f2,f3,f4⟩:=g5 i hil;rw[hie]at f1;cases f1 with
  |agg _ vs hs hh ho=>
   have h2:=hh c hcl;rw[hce]at h2;generalize hY:vs[c]'(by omega)=Y at h2;cases h2 with
   |full _ base hcd=>
    obtain⟨r1,r2,r3⟩:=st.rel.Js sz' xs base hcd.len hcd;have st1:St P n (G.at S.length 0 0 (some base)) (S++[.row false sz' (xs.map .d)]) w a tm:=⟨st.size,st.tm.Aw r3,r1⟩;have hne:r≠S.length:=by omega
    have eb:(G.at S.length 0 0 (some base)).BZ r=G.BZ r:=by simp[Gh.at,hne]
    have ec:(G.at S.length 0 0 (some base)).cap r=G.cap r:=by simp[Gh.at,hne]
    obtain⟨s1,s2,s3⟩:=st1.setRow (r:=r) (els':=els.set i (.agg (cs.set c (V.row S.length xs.length)))) (by rw[List.getElem?_append_left hrl];exact hr) (by simp) fun c2 T2 hh2 hr2=>by
     rw[eb,g1]at hh2;cases hh2;rw[ec]at hr2⊢;intro j hj;have hj':j<els.length:=by simpa using hj
     by_cases e:j=i
     ·subst e;refine⟨.agg vs,?_,f2,f3,f4⟩;simp only[List.getElem_set_self];refine .agg _ _ (by simp[hs]) (fun k hk=>?_) ho;by_cases ek:k=c
      ·subst ek;simp only[List.getElem_set_self,hY];refine .row _ _ _ rfl (by simp) fun m' hm'=>?_;have:m'=xs.length:=by simpa[lenOf]using hm'.symm
       subst this;exact⟨Nat.le_refl _,fun _=>by simp[Gh.rowVal,Gh.at]⟩
      ·rw[List.getElem_set_ne (fun h=>ek h.symm)];exact(hh k (by simpa using hk)).Aw r3
     ·rw[List.getElem_set_ne (fun h=>e h.symm)];exact hr2 j hj'
    exact⟨_,s1,r2.trans s2,(r3.trans s3).late hb⟩
end
end Go.Koi
