/-
  Part 30 of the proof that the law ChangeCommutes of the package koinelaw31 returns true for every input.
-/
import Derived.Test.YtdhbnplflgihpaaGreatDoorK28
set_option maxHeartbeats 64000000
set_option maxRecDepth 100000
namespace Go.Koi
open Go.Proofs Tryz
def LW:Ah:=⟨0,0,0⟩
def V5(d:AN)(n:Int):Ah:=d.nodes.getD (n - 2).toNat LW
def EE(d:AN)(n v:Int):Int×Int:=if d.level n=v then((V5 d n).low,(V5 d n).high)else(n,n)
def Iw(d:AN)(n v:Int):Bool:=decide (0≤n)&&decide (n<2+d.nodes.length)&&(decide (2≤n)||decide (d.level n≠v))
def Fc(l:List Ah)(b:Ah):List Ah×Int:=
 if b.low=b.high then(l,b.low)else if B4 (fun x=>decide (x=b)) l<0 then(l++[b],(l.length:Int)+2)else(l,B4 (fun x=>decide (x=b)) l+2)
def KU(op x y:Int):Int:=if op=0 then x * y else if op=1 then max x y else(x+y).tmod 2
structure Seen where
 x:Int
 y:Int
 r:Int
 deriving DecidableEq
def Ff(x:Seen):D:=.agg [AG x.x,AG x.y,AG x.r]
@[simp] theorem U6(x:Seen):cellsV (.d (Ff x))=[.d (AG x.x),.d (AG x.y),.d (AG x.r)]:=rfl
@[simp] theorem UZ(x:Seen):Ar (.d (Ff x))=true:=rfl
@[simp] theorem XM(x:Seen):oneV (.d (Ff x))=false:=rfl
@[simp] theorem Ve(x:Seen):dcells (Ff x)=[AG x.x,AG x.y,AG x.r]:=rfl
@[simp] theorem W8(x:Seen):iaPre.oneD (Ff x)=true:=rfl
@[simp] theorem ae(x:Seen):WFD (Ff x)=WFDs [AG x.x,AG x.y,AG x.r]:=rfl
@[simp] theorem XT(x y:Seen):deqs [D.int .i64 x.x,D.int .i64 x.y,D.int .i64 x.r] [D.int .i64 y.x,D.int .i64 y.y,D.int .i64 y.r]=decide (x=y):=by
 cases x;cases y;rw[Bool.eq_iff_iff];simp[deqs,deq]
@[simp] theorem Wk(S:Sg)(x:Seen):aggOf S (.d (Ff x))=some [AG x.x,AG x.y,AG x.r]:=rfl
def seenAt(sn:List Seen)(x y:Int):Int:=B4 (fun t=>decide (t.x=x)&&decide (t.y=y)) sn
def W7(a b:AN)(op:Int):Nat→List Ah→List Seen→Int→Int→Option (List Ah×List Seen×Int)
 |0,_,_,_,_=>none
 |f+1,ns,sn,x,y=>
  if x<2∧y<2 then(if 0≤x∧0≤y then some (ns,sn,KU op x y)else none)else
  if 0≤seenAt sn x y then some (ns,sn,(sn.getD (seenAt sn x y).toNat ⟨0,0,0⟩).r)else
   if Iw a x (min (a.level x) (b.level y))&&Iw b y (min (a.level x) (b.level y))then
    match W7 a b op f ns sn (EE a x (min (a.level x) (b.level y))).1 (EE b y (min (a.level x) (b.level y))).1 with
    |none=>none
    |some (ns1,sn1,low)=>
     match W7 a b op f ns1 sn1 (EE a x (min (a.level x) (b.level y))).2 (EE b y (min (a.level x) (b.level y))).2 with
     |none=>none
     |some (ns2,sn2,high)=>
      if 1048576≤ns2.length∨1048576≤sn2.length then none else
      some ((Fc ns2 ⟨min (a.level x) (b.level y),low,high⟩).1,sn2++[⟨x,y,(Fc ns2 ⟨min (a.level x) (b.level y),low,high⟩).2⟩],(Fc ns2 ⟨min (a.level x) (b.level y),low,high⟩).2)
   else none
def Mu(nodes:List Ah):Nat→List Int→List Ah→Int→Option (List Int×List Ah×Int)
 |0,_,_,_=>none
 |f+1,nu,out,n=>
  if n<2 then some (nu,out,n)else
  match nu[(n - 2).toNat]? with
  |none=>none
  |some k=>
   if 0<k then some (nu,out,k)else
   match Mu nodes f nu out (nodes.getD (n - 2).toNat LW).low with
   |none=>none
   |some (nu1,out1,low)=>
    match Mu nodes f nu1 out1 (nodes.getD (n - 2).toNat LW).high with
    |none=>none
    |some (nu2,out2,high)=>
     if 1048576≤out2.length then none else
     some (nu2.set (n - 2).toNat ((out2.length:Int)+2),out2++[⟨(nodes.getD (n - 2).toNat LW).var,low,high⟩],(out2.length:Int)+2)
def QD(nodes:List Ah)(root:Int):Option AN:=
 if 1048576<nodes.length then none else
 match Mu nodes 64 (List.replicate nodes.length 0) [] root with
 |none=>none
 |some (_,out,r)=>some ⟨out,r⟩
def IE(a b:AN)(op:Int):Option AN:=
 match W7 a b op 64 [] [] a.root b.root with
 |none=>none
 |some (ns,_,r)=>QD ns r
def J1(a:AN):Option AN:=IE a ⟨[],1⟩ 2
def M4(a b:AN):Option AN:=match J1 b with|none=>none|some c=>IE a c 0
def P6(l:List Int)(k:Nat):Bool:=decide (k / 8<l.length)&&(IntKind.u8.wrap (max ((l.getD (k / 8) 0).fdiv (2 ^ (k % 8)) % 256) 0 % 2)==1)
def Hy(l:List Int)(n:Nat):Nat→Nat→Nat→Option AN
 |0,_,_=>none
 |f+1,v,k=>
  if 1048576≤k∨7≤v then none else
  if v=n then some ⟨[],if P6 l k then 1 else 0⟩else
  match Hy l n f (v+1) (k+2 ^ v)with
  |none=>none
  |some d1=>
   match Hy l n f (v+1) k with
   |none=>none
   |some d0=>
    match IE (Ap v) d1 0 with
    |none=>none
    |some e1=>
     match M4 d0 (Ap v)with
     |none=>none
     |some e0=>IE e1 e0 1
theorem MB(d:AN)(n v:Int)(h:Iw d n v=true):Pure prog 191 [AA d,AG n,AG v] (.Bd [AG (EE d n v).1,AG (EE d n v).2]):=by
 simp only[Iw,Bool.and_eq_true,Bool.or_eq_true,decide_eq_true_eq]at h;obtain⟨⟨h1,h2⟩,h3⟩:=h;refine Pure.AI func191 (by kernel_rfl) rfl (by simp) fun wf=>?_;simp[WFDs,DM,WFD]at wf;rw[ntmps191];refine xW fun K hK=>?_;simp;apply hK;refine xS (Az fun K hK=>?_);refine xJ ?_;simp;refine Bp (F5 d n h2) rfl (by simp[xN]) ?_;simp;refine xJ ?_;simp;refine Aj (hK _ _ ?_);(try simp only[xQ,reduceIte]);refine AU ?_;simp;refine⟨fun hx=>?_,fun hx=>?_⟩
 ·refine xW fun K hK=>?_;simp;apply hK;refine Ag ⟨_,_,AJ.refl,?_⟩;(try simp);simp[EE,hx]
 ·have h4:2≤n:=by rcases h3 with h3|h3;exact h3;exact absurd hx h3
  have h5:IntKind.i64.wrap (n - 2)=n - 2:=wrap_i64 (by omega) (by omega);have h6:(n - 2).toNat<d.nodes.length:=by omega
  have h7:n - 2<(d.nodes.length:Int):=by omega
  refine xK ?_;(repeat refine xS ?_);refine xE [0,2,4,6,8,10,12,14,16,18,20,22,24,26,28,30] (by kernel_rfl) fun K hK=>?_;simp;refine xA 0 ?_;simp[h5,h6,h7,h4];refine xM (hK _ _ ?_);(try simp only[xQ,reduceIte]);refine Ag ⟨_,_,AJ.refl,?_⟩;(try simp);simp[EE,hx,V5,h6]
theorem Uk(l:List Ah)(b:Ah)(w:Bool)(hl:l.length≤2 ^ 20):AE prog 192 [.row 0 l.length,.d (AX b)] [.row w 3 (l.map fun x=>.d (AX x))] (.Bd [.row 0 (Fc l b).1.length,.d (AG (Fc l b).2)]) [.row (w||decide (l.length<(Fc l b).1.length)) 3 ((Fc l b).1.map fun x=>.d (AX x))]:=by
 have a1:l.length≤maxLen:=by unfold maxLen;omega
 refine AE.AI func192 (by kernel_rfl) rfl (by simp) fun wf _=>?_;rw[ntmps192];refine xW fun K hK=>?_;simp;apply hK;refine xS (xW fun K hK=>?_);simp;apply hK;refine AU ?_;simp;refine⟨fun hx=>?_,fun hx=>?_⟩
 ·have hu:Fc l b=(l,b.low):=by simp[Fc,hx]
  rw[hu];simp only[Nat.lt_irrefl,decide_false,Bool.or_false];(repeat refine xS ?_);refine xE [0,2,4,6,8] (by kernel_rfl) fun K hK=>?_;simp;refine xA 0 ?_;simp;refine xM (hK _ _ ?_);(try simp only[xQ,reduceIte]);refine Ag ?_;(try simp only[xQ,reduceIte]);refine⟨_,AJ.Cy [0] (S0:=[.row w 3 (l.map fun x=>.d (AX x))]) (by simp) (by simp) (by simp),?_⟩;simp[Am,pick]
 ·have hx0:¬b.low=b.high:=hx;refine xK ?_;refine xS (xW fun K hK=>?_);simp;apply hK;refine Bw ?_;refine DC l.length (fun i tm S=>tm 0=.row 0 l.length∧tm 3=.ptr 1 1 0 0∧tm 6=.d (.int .i64 i)∧S=[.row w 3 (l.map fun x=>.d (AX x)),.row true 3 [.d (AX b)]]∧∀j (_:j<i) (h:j<l.length),l[j]≠b) (Nat.zero_le _) (by simp) ?_;rintro i tm S hi ⟨t0,t3,t6,rfl,hq⟩;refine xS (xW fun K hK=>?_);simp[t0,t6];apply hK;refine AU ?_;simp;refine⟨fun hlt=>?_,fun hge=>?_⟩
  ·refine xK ?_;refine xB ?_;refine xD [0,2,4,6,8,10] (by kernel_rfl) fun K hK=>?_;simp;refine xA 0 ?_;simp[t0,t6,t3,hlt,-aggOf];refine xM (hK _ _ ?_);refine AU ?_;simp;refine⟨fun hx=>?_,fun hx=>?_⟩
   ·have hfi:B4 (fun x=>decide (x=b)) l=i:=B8 hlt (by simpa using hx) fun j hj=>by simpa using hq j hj (by omega)
    have hw:IntKind.i64.wrap ((i:Int)+2)=i+2:=by rw[IntKind.wrap_i64];omega
    have h0:¬((i:Int)<0):=by omega
    have hu:Fc l b=(l,(i:Int)+2):=by simp[Fc,hx0,hfi,h0]
    rw[hu];simp only[Nat.lt_irrefl,decide_false,Bool.or_false];refine xW fun K hK=>?_;simp[t0,t6,hw];apply hK;refine Ag ?_;(try simp only[xQ,reduceIte]);refine⟨_,AJ.Cy [0] (S0:=[.row w 3 (l.map fun x=>.d (AX x))]) (by simp) (by simp) (by simp),?_⟩;simp[Am,pick]
   ·refine CC ?_;refine xV fun K hK=>?_;simp[t6];apply hK;refine⟨hlt,_,_,AJ.refl,?_⟩;simp[t0,t3,AQ hlt a1];intro j hj hjl;by_cases e:j=i
    ·subst e;simpa using hx
    ·exact hq j (by omega) hjl
  ·have e:i=l.length:=by omega
   subst e;have hfi:B4 (fun x=>decide (x=b)) l= -1:=B0 fun j hj=>by simpa using hq j hj hj
   have h1m:1≤maxLen:=by unfold maxLen;omega
   have hl1:l.length+1≤1073741824:=by omega
   have hw:IntKind.i64.wrap ((l.length:Int)+1+1)=l.length+2:=by rw[IntKind.wrap_i64];omega
   have hu:Fc l b=(l++[b],(l.length:Int)+2):=by simp[Fc,hx0,hfi]
   rw[hu];simp only[List.length_append,List.length_cons,List.length_nil,Nat.zero_add,Nat.lt_add_one,decide_true,Bool.or_true];refine Cu ?_;refine Az fun K hK=>?_;refine xJ ?_;simp[t0,t3,h1m,hl1,Af,forall_and];refine Aj (hK _ _ ?_);refine xW fun K hK=>?_;simp[hw];apply hK;refine Ag ?_;(try simp only[xQ,reduceIte]);refine⟨_,AJ.Cy [0] (S0:=[.row true 3 ((l++[b]).map fun x=>.d (AX x))]) (by simp) (by simp) (by simp),?_⟩;simp[Am,pick]
def Ri(a b:AN)(op:Int)(ns:List Ah)(sn:List Seen)(w1 w2:Bool):Sg:=
 [.row true 7 [.agg [.d (AV a.nodes),.d (AG a.root),.d (AV b.nodes),.d (AG b.root),.d (AG op),.row 1 ns.length,.row 2 sn.length]],.row w1 3 (ns.map fun x=>.d (AX x)),.row w2 3 (sn.map fun x=>.d (Ff x))]
theorem Ry(a b:AN)(op:Int)(ns:List Ah)(sn:List Seen)(w1 w2:Bool)(x y:Int)(hx:0≤x∧x<2)(hy:0≤y∧y<2):AE prog 189 [.ptr 0 1 0 0,.d (AG x),.d (AG y)] (Ri a b op ns sn w1 w2) (.d (AG (KU op x y))) (Ri a b op ns sn w1 w2):=by
 have h1:IntKind.i64.wrap (x * y)=x * y:=by
  have:x=0∨x=1:=by omega
  rcases this with rfl|rfl<;>simp[IntKind.wrap_i64]<;>omega
 have h2:IntKind.i64.wrap (x+y)=x+y:=by rw[IntKind.wrap_i64];omega
 have h3:IntKind.i64.wrap ((x+y).tmod 2)=(x+y).tmod 2:=by
  have:x=0∨x=1:=by omega
  have:y=0∨y=1:=by omega
  rcases ‹x=0∨x=1› with e|e<;>rcases this with e'|e'<;>rw[e,e']<;>decide
 refine AE.AI func189 (by kernel_rfl) rfl (by simp) fun wf _=>?_;rw[ntmps189];unfold Ri;refine xW fun K hK=>?_;simp;apply hK;refine xS (xW fun K hK=>?_);simp;apply hK;refine Bw ?_;refine xW fun K hK=>?_;simp;apply hK;refine AU ?_;simp;refine⟨fun hx=>?_,fun hx=>?_⟩
 ·refine xW fun K hK=>?_;simp[h1];apply hK;refine Ag ?_;(try simp only[xQ,reduceIte]);refine⟨_,AJ.refl,?_⟩;simp[Am,KU,hx]
 ·refine xW fun K hK=>?_;simp;apply hK;refine AU ?_;simp;refine⟨fun hx1=>?_,fun hx1=>?_⟩
  ·refine xW fun K hK=>?_;simp;apply hK;refine Ag ?_;(try simp only[xQ,reduceIte]);refine⟨_,AJ.refl,?_⟩;simp[Am,KU,hx1];split<;>omega
  ·refine CC ?_;refine xW fun K hK=>?_;simp[h2];apply hK;refine Ag ?_;(try simp only[xQ,reduceIte]);refine⟨_,AJ.refl,?_⟩;simp[Am,KU,hx,hx1]
open Go.Proofs Tryz
theorem ag(a b:AN)(op:Int):∀(f:Nat) (ns:List Ah) (sn:List Seen) (x y:Int) (w1 w2:Bool) (res:List Ah×List Seen×Int),W7 a b op f ns sn x y=some res→∃w1' w2',AE prog 162 [.ptr 0 1 0 0,.d (AG x),.d (AG y)] (Ri a b op ns sn w1 w2) (.d (AG res.2.2)) (Ri a b op res.1 res.2.1 w1' w2'):=by
 intro f;induction f with
 |zero=>intro ns sn x y w1 w2 res h;simp[W7]at h
 |succ f ih=>
  intro ns sn x y w1 w2 res h;unfold W7 at h;by_cases hc:x<2∧y<2
  ·rw[if_pos hc]at h;split at h
   ·rename_i h0;cases h;refine⟨w1,w2,?_⟩;have hk:=Ry a b op ns sn w1 w2 x y ⟨h0.1,hc.1⟩ ⟨h0.2,hc.2⟩;refine AE.AI func162 (by kernel_rfl) rfl (by simp) fun wf _=>?_;rw[ntmps162];refine xW fun K hK=>?_;simp;apply hK;refine xS (xW fun K hK=>?_);simp[hc];apply hK;refine AU ?_;simp;(repeat refine xS ?_);refine BX fun K hK=>?_;refine xJ ?_;simp;refine AS.call rfl rfl (by simp) (f:=189) (args:=[.ptr 0 1 0 0,.d (AG x),.d (AG y)]) (by simp[callee];try rfl) (by simp) hk ?_;simp;refine xJ ?_;simp;refine Aj (hK _ _ ?_);(try simp only[xQ,reduceIte]);refine Ag ?_;(try simp only[xQ,reduceIte]);refine⟨_,AJ.refl,?_⟩;simp[Am]
   ·cases h
  ·rw[if_neg hc]at h;have hcb:(decide (x<2)&&decide (y<2))=false:=by simpa using hc
   by_cases hs:0≤seenAt sn x y
   ·rw[if_pos hs]at h;cases h;refine⟨w1,w2,?_⟩;refine AE.AI func162 (by kernel_rfl) rfl (by simp) fun wf wb=>?_;have a1:sn.length≤maxLen:=by have:=wb.2.2.1.1;simpa using this
    rw[ntmps162];refine xW fun K hK=>?_;simp;apply hK;refine xS (xW fun K hK=>?_);simp;apply hK;(repeat refine xS ?_);refine AW.BD (t:=decide (x<2)&&decide (y<2)) ?_ (fun hb=>?_) (fun hb=>?_)
    ·simp
    ·rw[hcb]at hb;cases hb
    refine xK ?_;refine xS (xW fun K hK=>?_);simp;apply hK;refine Bw ?_;refine DC sn.length (fun i tm S=>tm 0=.ptr 0 1 0 0∧tm 1=.d (AG x)∧tm 2=.d (AG y)∧tm 7=.d (.int .i64 i)∧S=Ri a b op ns sn w1 w2∧∀j (_:j<i) (h:j<sn.length),¬(sn[j].x=x∧sn[j].y=y)) (Nat.zero_le _) (by simp) ?_;rintro i tm S hi ⟨t0,t1,t2,t7,rfl,hq⟩;unfold Ri;refine xS (xW fun K hK=>?_);simp[t0,t7];apply hK;refine AU ?_;simp;refine⟨fun hlt=>?_,fun hge=>?_⟩
    ·refine xK ?_;refine xB ?_;refine xW fun K hK=>?_;simp[t0,t1,t2,t7,hlt];apply hK;(repeat refine xS ?_);refine AW.BD (t:=decide (sn[i].x=x)&&decide (sn[i].y=y)) ?_ (fun hb=>?_) (fun hb=>?_)
     ·simp;rw[Bool.eq_iff_iff];simp
     ·(repeat refine xS ?_);refine xV fun K hK=>?_;simp[t0,t7,hlt];refine hK _ _ ?_;(try simp only[xQ,reduceIte]);have hfi:seenAt sn x y=i:=B8 hlt hb fun j hj=>by simpa using hq j hj (by omega)
      refine Ag ?_;(try simp only[xQ,reduceIte]);refine⟨_,AJ.refl,?_⟩;simp[Am,hfi,hlt]
     ·refine CC ?_;refine xV fun K hK=>?_;simp[t7];apply hK;refine⟨hlt,_,_,AJ.refl,?_⟩;simp[t0,t1,t2,AQ hlt a1];intro j hj hjl;by_cases e:j=i
      ·subst e;simpa using hb
      ·simpa using hq j (by omega) hjl
    ·have hfi:seenAt sn x y= -1:=B0 fun j hj=>by simpa using hq j (by omega) hj
     omega
   ·rw[if_neg hs]at h;split at h
    ·rename_i hso;simp only[Bool.and_eq_true]at hso;obtain⟨ho1,ho2⟩:=hso;have hv':(if b.level y<a.level x then b.level y else a.level x)=min (a.level x) (b.level y):=by split<;>omega
     generalize hv:min (a.level x) (b.level y)=v at *;cases e1:W7 a b op f ns sn (EE a x v).1 (EE b y v).1 with
     |none=>simp[e1]at h
     |some r1=>
      obtain⟨ns1,sn1,low⟩:=r1;simp only[e1]at h;cases e2:W7 a b op f ns1 sn1 (EE a x v).2 (EE b y v).2 with
      |none=>simp[e2]at h
      |some r2=>
       obtain⟨ns2,sn2,high⟩:=r2;simp only[e2]at h;split at h
       ·cases h
       ·rename_i hsz;cases h;obtain⟨u1,u2,k1⟩:=ih _ _ _ _ w1 w2 _ e1;obtain⟨v1,v2,k2⟩:=ih _ _ _ _ u1 u2 _ e2;have hx2:x<2+a.nodes.length:=by simp only[Iw,Bool.and_eq_true,decide_eq_true_eq]at ho1;exact ho1.1.2
        have hy2:y<2+b.nodes.length:=by simp only[Iw,Bool.and_eq_true,decide_eq_true_eq]at ho2;exact ho2.1.2
        have l1:=F5 a x hx2;have l2:=F5 b y hy2;have s1:=MB a x v ho1;have s2:=MB b y v ho2;have q1:=Uk ns2 ⟨v,low,high⟩ v1 (by omega);have n2:sn2.length+1≤1073741824:=by omega
        have h1m:1≤maxLen:=by unfold maxLen;omega
        generalize hU:Fc ns2 ⟨v,low,high⟩=U at *;obtain⟨ns3,r⟩:=U;simp only[]at q1⊢;generalize EE a x v=sa at *;generalize EE b y v=sb at *;obtain⟨sa1,sa2⟩:=sa;obtain⟨sb1,sb2⟩:=sb;have q2:=q1.Ei (args':=[.row 0 ns2.length,.agg [.d (AG v),.d (AG low),.d (AG high)]]) rfl fun i h h'=>by
         match i,h with
         |0,_=>exact .inl rfl
         |1,_=>exact .inr ⟨AX ⟨v,low,high⟩,by simp[asD,AX],rfl⟩
        refine⟨v1||decide (ns2.length<ns3.length),true,?_⟩;refine AE.AI func162 (by kernel_rfl) rfl (by simp) fun wf wb=>?_;have a1:sn.length≤maxLen:=by have:=wb.2.2.1.1;simpa using this
        rw[ntmps162];refine xW fun K hK=>?_;simp;apply hK;refine xS (xW fun K hK=>?_);simp;apply hK;(repeat refine xS ?_);refine AW.BD (t:=decide (x<2)&&decide (y<2)) ?_ (fun hb=>?_) (fun hb=>?_)
        ·simp
        ·rw[hcb]at hb;cases hb
        refine xK ?_;refine xS (xW fun K hK=>?_);simp;apply hK;refine Bw ?_;refine DC sn.length (fun i tm S=>tm 0=.ptr 0 1 0 0∧tm 1=.d (AG x)∧tm 2=.d (AG y)∧tm 7=.d (.int .i64 i)∧S=Ri a b op ns sn w1 w2) (Nat.zero_le _) (by simp) ?_;rintro i tm S hi ⟨t0,t1,t2,t7,rfl⟩;unfold Ri;refine xS (xW fun K hK=>?_);simp[t0,t7];apply hK;refine AU ?_;simp;refine⟨fun hlt=>?_,fun hge=>?_⟩
        ·refine xK ?_;refine xB ?_;refine xW fun K hK=>?_;simp[t0,t1,t2,t7,hlt];apply hK;(repeat refine xS ?_);refine AW.BD (t:=decide (sn[i].x=x)&&decide (sn[i].y=y)) ?_ (fun hb=>?_) (fun hb=>?_)
         ·simp;rw[Bool.eq_iff_iff];simp
         ·have:sn.any (fun t=>decide (t.x=x)&&decide (t.y=y))=true:=List.any_eq_true.2 ⟨_,List.getElem_mem hlt,hb⟩;rw[←CR]at this;exact absurd (show 0≤seenAt sn x y from of_decide_eq_true this) hs
         ·refine CC ?_;refine xV fun K hK=>?_;simp[t7];apply hK;refine⟨hlt,_,_,AJ.refl,?_⟩;simp[t0,t1,t2,AQ hlt a1]
        ·refine Cu ?_;refine xD [0,2,4,6,8,10,12,14,16,18,20,22,24,26] (by kernel_rfl) fun K hK=>?_;simp;refine xA 0 ?_;simp[t0,t1];refine Ae.CA (l1) rfl (by simp[xN]) ?_;simp;refine xA 0 ?_;simp[t0,t2];refine Ae.CA (l2) rfl (by simp[xN]) ?_;simp;refine xA 0 ?_;simp[hv'];refine xM (hK _ _ ?_);refine Az fun K hK=>?_;refine xJ ?_;simp[t0,t1];refine Bp (s1) rfl (by simp[xN]) ?_;simp;refine xJ ?_;simp;refine Aj (hK _ _ ?_);(repeat refine xS ?_);refine BX fun K hK=>?_;refine xJ ?_;simp[t0,t2];refine Bp (s2) rfl (by simp[xN]) ?_;simp;refine xJ ?_;simp;refine Aj (hK _ _ ?_);(try simp only[xQ,reduceIte]);unfold Ri at k1 k2;refine Az fun K hK=>?_;refine xJ ?_;simp[t0];refine AS.call rfl rfl (by simp) (f:=162) (args:=[.ptr 0 1 0 0,.d (AG sa1),.d (AG sb1)]) (by simp[callee];try rfl) (by simp) k1 ?_;simp;refine xJ ?_;simp;refine Aj (hK _ _ ?_);refine Az fun K hK=>?_;refine xJ ?_;simp[t0];refine AS.call rfl rfl (by simp) (f:=162) (args:=[.ptr 0 1 0 0,.d (AG sa2),.d (AG sb2)]) (by simp[callee];try rfl) (by simp) k2 ?_;simp;refine xJ ?_;simp;refine Aj (hK _ _ ?_);refine Az fun K hK=>?_;refine xJ ?_;simp[t0];refine xF (q2) [1] rfl ?_;simp;refine xJ ?_;simp;refine Aj (hK _ _ ?_);refine xW fun K hK=>?_;simp[t0];apply hK;refine Az fun K hK=>?_;refine xJ ?_;simp[t0,t1,t2,h1m,n2,Af,forall_and];refine Aj (hK _ _ ?_);refine xW fun K hK=>?_;simp;apply hK;refine Ag ?_;(try simp only[xQ,reduceIte]);refine⟨_,AJ.refl,?_⟩;simp[Am]
    ·cases h
open Go.Proofs Tryz
def Q4(nodes:List Ah)(nu:List Int)(out:List Ah)(w:Bool):Sg:=
 [.row true 3 [.agg [.d (AV nodes),.row 1 nu.length,.row 2 out.length]],.row true 1 (nu.map fun x=>.d (AG x)),.row w 3 (out.map fun x=>.d (AX x))]
theorem Yh(nodes:List Ah):∀(f:Nat) (nu:List Int) (out:List Ah) (n:Int) (w:Bool) (res:List Int×List Ah×Int),Mu nodes f nu out n=some res→nu.length=nodes.length→(∃w',AE prog 193 [.ptr 0 1 0 0,.d (AG n)] (Q4 nodes nu out w) (.d (AG res.2.2)) (Q4 nodes res.1 res.2.1 w'))∧res.1.length=nodes.length:=by
 intro f;induction f with
 |zero=>intro nu out n w res h;simp[Mu]at h
 |succ f ih=>
  intro nu out n w res h hnl;unfold Mu at h;by_cases hc:n<2
  ·rw[if_pos hc]at h;cases h;refine⟨⟨w,?_⟩,hnl⟩;refine AE.AI func193 (by kernel_rfl) rfl (by simp) fun wf _=>?_;rw[ntmps193];refine xW fun K hK=>?_;simp;apply hK;refine xS (xW fun K hK=>?_);simp[hc];apply hK;refine AU ?_;simp;refine xW fun K hK=>?_;simp;apply hK;refine Ag ?_;(try simp only[xQ,reduceIte]);refine⟨_,AJ.refl,?_⟩;simp[Am]
  ·rw[if_neg hc]at h;have hn2:2≤n:=by omega
   cases hk:nu[(n - 2).toNat]? with
   |none=>simp[hk]at h
   |some k=>
    simp only[hk]at h;obtain⟨hkl,hke⟩:=List.getElem?_eq_some_iff.1 hk;obtain⟨m,rfl⟩:∃m:Nat,n=m+2:=⟨(n - 2).toNat,by omega⟩;have e2:((m:Int)+2 - 2).toNat=m:=by omega
    have e3:(m:Int)+2 - 2=m:=by omega
    rw[e2]at hkl;simp only[e2]at h hke;have hml:m<nodes.length:=by omega
    have hcb:¬(m:Int)+2<2:=by omega
    by_cases hs:0<k
    ·rw[if_pos hs]at h;cases h;refine⟨⟨w,?_⟩,hnl⟩;refine AE.AI func193 (by kernel_rfl) rfl (by simp) fun wf _=>?_;have hw:IntKind.i64.wrap (m:Int)=m:=by
      have:=wf.2.1;simp[WFV,WFD,rng]at this;rw[IntKind.wrap_i64];omega
     rw[ntmps193];unfold Q4;refine xW fun K hK=>?_;simp;apply hK;refine xS (xW fun K hK=>?_);simp;apply hK;refine AU ?_;simp[hcb];refine xK ?_;refine xS (xW fun K hK=>?_);simp[hw,hkl,hke];apply hK;refine AU ?_;simp[hs];refine xW fun K hK=>?_;simp[hw,hkl,hke];apply hK;refine Ag ?_;(try simp only[xQ,reduceIte]);refine⟨_,AJ.refl,?_⟩;simp[Am]
    ·rw[if_neg hs]at h;have hgd:nodes.getD m LW=nodes[m]:=by simp[hml]
     rw[hgd]at h;cases e1:Mu nodes f nu out nodes[m].low with
     |none=>simp[e1]at h
     |some r1=>
      obtain⟨nu1,out1,low⟩:=r1;simp only[e1]at h;cases e4:Mu nodes f nu1 out1 nodes[m].high with
      |none=>simp[e4]at h
      |some r2=>
       obtain⟨nu2,out2,high⟩:=r2;simp only[e4]at h;split at h
       ·cases h
       ·rename_i hsz;cases h;obtain⟨⟨u1,k1⟩,hl1⟩:=ih _ _ _ w _ e1 hnl;obtain⟨⟨u2,k2⟩,hl2⟩:=ih _ _ _ u1 _ e4 hl1;simp only[]at hl1 hl2 k1 k2;refine⟨⟨true,?_⟩,by simpa using hl2⟩;have n2:out2.length+1≤1073741824:=by omega
        have h1m:1≤maxLen:=by unfold maxLen;omega
        have hm2:m<nu2.length:=by omega
        have hw2:IntKind.i64.wrap ((out2.length:Int)+1+1)=out2.length+2:=by rw[IntKind.wrap_i64];omega
        generalize hb:nodes[m]=b at *;unfold Q4 at k1 k2;refine AE.AI func193 (by kernel_rfl) rfl (by simp) fun wf _=>?_;have hw:IntKind.i64.wrap (m:Int)=m:=by
         have:=wf.2.1;simp[WFV,WFD,rng]at this;rw[IntKind.wrap_i64];omega
        rw[ntmps193];unfold Q4;refine xW fun K hK=>?_;simp;apply hK;refine xS (xW fun K hK=>?_);simp;apply hK;refine AU ?_;simp[hcb];refine xK ?_;refine xS (xW fun K hK=>?_);simp[hw,hkl,hke];apply hK;refine AU ?_;simp[hs];refine xK ?_;refine xW fun K hK=>?_;simp[hw,hml,hb];apply hK;refine Az fun K hK=>?_;refine xJ ?_;simp;refine xF (k1) [0,1,2] rfl ?_;simp;refine xJ ?_;simp;refine Aj (hK _ _ ?_);refine Az fun K hK=>?_;refine xJ ?_;simp;refine xF (k2) [0,1,2] rfl ?_;simp;refine xJ ?_;simp;refine Aj (hK _ _ ?_);refine xD [0,2,4,6,8,10,12,14,16,18,20,23,24,26,29] (by kernel_rfl) fun K hK=>?_;simp;refine xA 1 ?_;simp[h1m];refine xX 65 (by kernel_rfl) ?_;simp[AR,n2,h1m,Af,forall_and];refine xA 1 ?_;simp;refine xX 2045 (by kernel_rfl) ?_;simp[AR];refine xM (hK _ _ ?_);refine xD [0,2,4,6,8,10,12,14,16,18,20,22,24,27] (by kernel_rfl) fun K hK=>?_;simp;refine xA 1 ?_;simp[hw,hm2,hw2];refine xX 8191 (by kernel_rfl) ?_;simp[AR,hw,hm2,hw2];refine xM (hK _ _ ?_);refine xW fun K hK=>?_;simp[hw2];apply hK;refine Ag ?_;(try simp only[xQ,reduceIte]);have hms:(List.map (fun x=>V.d (D.int .i64 x)) nu2).set m (V.d (D.int .i64 ((out2.length:Int)+2)))=List.map (fun x=>V.d (D.int .i64 x)) (nu2.set m ((out2.length:Int)+2)):=by simp[List.map_set]
        rw[hms];generalize nu2.set m _=nu3;refine⟨_,AJ.Cy [0,1,2] (by simp[AX]) (by simp) rfl,?_⟩;simp[Am,pick]
open Go.Proofs Tryz
@[simp] theorem bh(f:Nat→Nat)(n:Nat)(d:D):renVs f (List.replicate n (V.d d))=List.replicate n (V.d d):=by
 induction n with
 |zero=>rfl
 |succ n ih=>simp[List.replicate_succ,renVs,renV,ih]
@[simp] theorem Yl(k n:Nat)(d:D):belowVs k (List.replicate n (V.d d))=true:=by
 induction n with
 |zero=>rfl
 |succ n ih=>simp[List.replicate_succ,belowVs,belowV,ih]
theorem Nz(nodes:List Ah)(root:Int)(d:AN)(h:QD nodes root=some d):Pure prog 163 [AV nodes,AG root] (AA d):=by
 unfold QD at h;split at h
 ·cases h
 rename_i hnl;have hn2:(nodes.length:Int)≤1073741824:=by omega
 cases e1:Mu nodes 64 (List.replicate nodes.length 0) [] root with
 |none=>simp[e1]at h
 |some r1=>
  obtain⟨nu1,out1,r⟩:=r1;simp only[e1]at h;cases h;obtain⟨⟨w',k1⟩,_⟩:=Yh nodes 64 (List.replicate nodes.length 0) [] root false _ e1 (by simp);simp only[]at k1;unfold Q4 at k1;simp at k1;refine Pure.AI func163 (by kernel_rfl) rfl (by simp) fun wf=>?_;rw[ntmps163];refine xW fun K hK=>?_;simp;apply hK;refine xW fun K hK=>?_;simp[hn2];apply hK;refine AW.ghost (AJ.Lb 2 0 2 3 (xs:=[]) rfl rfl rfl) ?_;simp;refine Az fun K hK=>?_;refine xJ ?_;simp;refine xF (k1) [2,1,3] rfl ?_;simp;refine xJ ?_;simp;refine Aj (hK _ _ ?_);refine xW fun K hK=>?_;simp;apply hK;refine Ag ?_;(try simp only[xQ,reduceIte]);refine⟨_,_,AJ.B6 3 (xs:=out1.map AX) rfl (by simp),?_⟩;simp[asD,AA]
theorem Kv(a b:AN)(op:Int)(d:AN)(h:IE a b op=some d):Pure prog 127 [AA a,AA b,AG op] (AA d):=by
 unfold IE at h;cases e1:W7 a b op 64 [] [] a.root b.root with
 |none=>simp[e1]at h
 |some r1=>
  obtain⟨ns,sn,r⟩:=r1;simp only[e1]at h;obtain⟨w1,w2,k1⟩:=ag a b op 64 [] [] a.root b.root false false _ e1;simp only[]at k1;unfold Ri at k1;simp at k1;have hnb:=Nz ns r d h;refine Pure.AI func127 (by kernel_rfl) rfl (by simp) fun wf=>?_;rw[ntmps127];refine xW fun K hK=>?_;simp;apply hK;refine xW fun K hK=>?_;simp[AA];apply hK;refine AW.ghost (AJ.Lb 3 0 5 3 (xs:=[]) rfl rfl rfl) ?_;simp;refine AW.ghost (AJ.Lb 3 0 6 3 (xs:=[]) rfl rfl rfl) ?_;simp;refine Az fun K hK=>?_;refine xJ ?_;simp;refine xF (k1) [3,4,5] rfl ?_;simp;refine xJ ?_;simp;refine Aj (hK _ _ ?_);refine AW.ghost (AJ.B6 4 (xs:=ns.map AX) rfl (by simp)) ?_;simp;(repeat refine xS ?_);refine BX fun K hK=>?_;refine xJ ?_;simp;refine Bp (hnb) rfl (by simp) ?_;simp;refine xJ ?_;simp;refine Aj (hK _ _ ?_);(try simp only[xQ,reduceIte]);refine Ag ⟨_,_,AJ.refl,?_⟩;try simp
open Go.Proofs Tryz
theorem CX(a d:AN)(h:J1 a=some d):Pure prog 57 [AA a] (AA d):=by
 have hc:=Kv a ⟨[],1⟩ 2 d h;have h1:=Bi true;simp at h1;refine Pure.AI func57 (by kernel_rfl) rfl (by simp) fun wf=>?_;rw[ntmps57];refine xW fun K hK=>?_;simp;apply hK;(repeat refine xS ?_);refine xE [0,2,4,7] (by kernel_rfl) fun K hK=>?_;simp;refine xA 0 ?_;simp;refine Ae.CA (h1) rfl (by simp[xN]) ?_;simp;refine xA 0 ?_;simp;refine Ae.CA (hc) rfl (by simp[xN]) ?_;simp;refine xA 0 ?_;simp;refine xX 7 (by kernel_rfl) ?_;simp;refine xM (hK _ _ ?_);(try simp only[xQ,reduceIte]);refine Ag ⟨_,_,AJ.refl,?_⟩;try simp
theorem L5(a b d:AN)(h:IE a b 0=some d):Pure prog 121 [AA a,AA b] (AA d):=by
 have hc:=Kv a b 0 d h;refine Pure.AI func121 (by kernel_rfl) rfl (by simp) fun wf=>?_;rw[ntmps121];refine xW fun K hK=>?_;simp;apply hK;(repeat refine xS ?_);refine BX fun K hK=>?_;refine xJ ?_;simp;refine Bp (hc) rfl (by simp[xN]) ?_;simp;refine xJ ?_;simp;refine Aj (hK _ _ ?_);(try simp only[xQ,reduceIte]);refine Ag ⟨_,_,AJ.refl,?_⟩;try simp
theorem Sb(a b d:AN)(h:IE a b 1=some d):Pure prog 120 [AA a,AA b] (AA d):=by
 have hc:=Kv a b 1 d h;refine Pure.AI func120 (by kernel_rfl) rfl (by simp) fun wf=>?_;rw[ntmps120];refine xW fun K hK=>?_;simp;apply hK;(repeat refine xS ?_);refine BX fun K hK=>?_;refine xJ ?_;simp;refine Bp (hc) rfl (by simp[xN]) ?_;simp;refine xJ ?_;simp;refine Aj (hK _ _ ?_);(try simp only[xQ,reduceIte]);refine Ag ⟨_,_,AJ.refl,?_⟩;try simp
theorem Rq(a b d:AN)(h:M4 a b=some d):Pure prog 122 [AA a,AA b] (AA d):=by
 unfold M4 at h;cases e:J1 b with
 |none=>simp[e]at h
 |some c=>
  simp only[e]at h;have hc:=CX b c e;have hi:=L5 a c d h;refine Pure.AI func122 (by kernel_rfl) rfl (by simp) fun wf=>?_;rw[ntmps122];refine xW fun K hK=>?_;simp;apply hK;(repeat refine xS ?_);refine xE [0,2,4,6,9] (by kernel_rfl) fun K hK=>?_;simp;refine xA 0 ?_;simp;refine Ae.CA (hc) rfl (by simp[xN]) ?_;simp;refine xA 0 ?_;simp;refine Ae.CA (hi) rfl (by simp[xN]) ?_;simp;refine xA 0 ?_;simp;refine xX 15 (by kernel_rfl) ?_;simp;refine xM (hK _ _ ?_);(try simp only[xQ,reduceIte]);refine Ag ⟨_,_,AJ.refl,?_⟩;try simp
open Go.Proofs Tryz
def Hj(l:List Int):D:=.sl (l.map (D.int .u8))
theorem Ro(l:List Int)(n:Nat):∀(f v k:Nat) (d:AN),Hy l n f v k=some d→Pure prog 52 [Hj l,AG n,AG v,AG k] (AA d):=by
 intro f;induction f with
 |zero=>intro v k d h;simp[Hy]at h
 |succ f ih=>
  intro v k d h;unfold Hy at h;split at h
  ·cases h
  rename_i hb;have hk:k<1048576:=by omega
  have hv7:v<7:=by omega
  by_cases hvn:v=n
  ·rw[if_pos hvn]at h;cases h;have hcn:=Bi (P6 l k);have hbr:P6 l k=(decide (k / 8<l.length)&&(IntKind.u8.wrap (max ((l.getD (k / 8) 0).fdiv (2 ^ (k % 8)) % 256) 0 % 2)==1)):=rfl;generalize P6 l k=bb at *;obtain⟨j,hj⟩:∃j,k / 8=j:=⟨_,rfl⟩;obtain⟨m,hm⟩:∃m,k % 8=m:=⟨_,rfl⟩;rw[hj,hm]at hbr;have q1:((k:Int).tdiv 8)=j:=by rw[←hj];simp
   have q2:((k:Int).tmod 8)=m:=by rw[Int.tmod_eq_emod_of_nonneg (by omega),←hm];simp
   have q3:(k:Int) / 8=j:=by omega
   have q4:(k:Int) % 8=m:=by omega
   have w1:IntKind.i64.wrap (j:Int)=j:=by rw[IntKind.wrap_i64];omega
   have w2:IntKind.u64.wrap (m:Int)=m:=by simp[IntKind.wrap,IntKind.signed,IntKind.bits];omega
   have w3:min m 8=m:=by omega
   have hbits:IntKind.u8.bits=8:=rfl;refine Pure.AI func52 (by kernel_rfl) rfl (by simp) fun wf=>?_;rw[ntmps52];unfold Hj;refine xW fun K hK=>?_;simp;apply hK;refine xS (xW fun K hK=>?_);simp;apply hK;refine AU ?_;simp[hvn];(repeat refine xS ?_);refine BX fun K hK=>?_;(iterate 6 (refine B7 (by simp) ?_;simp[q1,w1]));cases hlt:decide (j<l.length)with
   |true=>
    have hl:j<l.length:=by simpa using hlt
    have hg:l.getD j 0=l[j]:=by simp[hl]
    rw[hlt,hg,Bool.true_and]at hbr;(iterate 11 ((refine Jf rfl (by simp[hl];try rfl) ?_);simp[q1,q2,w1,w2,w3,hl,hbits]));(iterate 1 (refine B7 (by simp) ?_;simp));rw[←hbr];refine Bp (hcn) rfl (by simp) ?_;simp;refine xJ ?_;simp;refine Aj (hK _ _ ?_);(try simp only[xQ,reduceIte]);refine Ag ⟨_,_,AJ.refl,?_⟩;try simp
   |false=>
    have hl:¬j<l.length:=by simpa using hlt
    rw[hlt,Bool.false_and]at hbr;subst hbr;(repeat(refine Dp rfl ?_ ?_;(·simp);simp));(iterate 1 (refine B7 (by simp) ?_;simp));refine Bp (hcn) rfl (by simp) ?_;simp;refine xJ ?_;simp;refine Aj (hK _ _ ?_);refine Ag ⟨_,_,AJ.refl,?_⟩;try simp
  ·rw[if_neg hvn]at h;cases e1:Hy l n f (v+1) (k+2 ^ v)with
   |none=>simp[e1]at h
   |some d1=>
    simp only[e1]at h;cases e0:Hy l n f (v+1) k with
    |none=>simp[e0]at h
    |some d0=>
     simp only[e0]at h;cases f1:IE (Ap v) d1 0 with
     |none=>simp[f1]at h
     |some g1=>
      simp only[f1]at h;cases f0:M4 d0 (Ap v)with
      |none=>simp[f0]at h
      |some g0=>
       simp only[f0]at h;have k1:=ih _ _ _ e1;have k0:=ih _ _ _ e0;have hvr:=Qo (v:Int);have ha:=L5 _ _ _ f1;have hb':=Rq _ _ _ f0;have hc':=Sb _ _ _ h;have hvn':¬(v:Int)=n:=by omega
       have p2:2 ^ v≤64:=Nat.pow_le_pow_right (by omega) (show v≤6 by omega);obtain⟨pw,hpw⟩:∃pw,2 ^ v=pw:=⟨_,rfl⟩;have p3:(2:Int) ^ v=pw:=by rw[←hpw];simp
       rw[hpw]at k1 p2;have w0:IntKind.i64.wrap ((v:Int)+1)=(v+1:Nat):=by rw[IntKind.wrap_i64];omega
       have w1:IntKind.u64.wrap (v:Int)=v:=by simp[IntKind.wrap,IntKind.signed,IntKind.bits];omega
       have w2:min v 64=v:=by omega
       have w3:IntKind.i64.wrap (pw:Int)=pw:=by rw[IntKind.wrap_i64];omega
       have w4:IntKind.i64.wrap ((k:Int)+pw)=(k+pw:Nat):=by rw[IntKind.wrap_i64];omega
       have hbits:IntKind.i64.bits=64:=rfl;generalize hvv:Ap v=vd at *;refine Pure.AI func52 (by kernel_rfl) rfl (by simp) fun wf=>?_;rw[ntmps52];unfold Hj at k1 k0⊢;refine xW fun K hK=>?_;simp;apply hK;refine xS (xW fun K hK=>?_);simp;apply hK;refine AU ?_;simp[hvn'];refine xK ?_;refine Az fun K hK=>?_;refine xJ ?_;simp;refine Bp (hvr) rfl (by simp) ?_;simp;refine xJ ?_;simp;refine Aj (hK _ _ ?_);(repeat refine xS ?_);refine xE [0,2,4,6,8,10,12,14,16,18,20,22,24,26,28,30,32,34,36,38,40,43] (by kernel_rfl) fun K hK=>?_;simp;refine xA 0 ?_;simp[w0,w1,w2,w3,w4,hbits,p3];refine Ae.CA (k1) rfl (by simp[xN]) ?_;simp;refine xA 0 ?_;simp;refine Ae.CA (ha) rfl (by simp[xN]) ?_;simp;refine xA 0 ?_;simp[w0];refine Ae.CA (k0) rfl (by simp[xN]) ?_;simp;refine xA 0 ?_;simp;refine Ae.CA (hb') rfl (by simp[xN]) ?_;simp;refine xA 0 ?_;simp;refine Ae.CA (hc') rfl (by simp[xN]) ?_;simp;refine xA 0 ?_;simp;refine xX 2097151 (by kernel_rfl) ?_;simp;refine xM (hK _ _ ?_);(try simp only[xQ,reduceIte]);refine Ag ⟨_,_,AJ.refl,?_⟩;try simp
theorem NN(l:List Int)(n:Nat)(hn:n≤6)(d:AN)(h:Hy l n 8 0 0=some d):Pure prog 14 [Hj l,AG n] (AA d):=by
 have ht:=Ro l n 8 0 0 d h;have h6:(if(6:Int)<(n:Int)then(6:Int)else n)=n:=by split<;>omega
 have h0:(if(0:Int)<(n:Int)then(n:Int)else 0)=n:=by split<;>omega
 have hx:(n=0→(0:Int)=n)↔True:=iff_true_intro (by omega);refine Pure.AI func14 (by kernel_rfl) rfl (by simp) fun wf=>?_;rw[ntmps14];unfold Hj at ht⊢;refine xW fun K hK=>?_;simp;apply hK;refine xW fun K hK=>?_;simp[h6];apply hK;(repeat refine xS ?_);refine BX fun K hK=>?_;refine xJ ?_;simp;refine Bp (ht) rfl (by simp[hx]) ?_;simp;refine xJ ?_;simp;refine Aj (hK _ _ ?_);(try simp only[xQ,reduceIte]);refine Ag ⟨_,_,AJ.refl,?_⟩;try simp
open Go.Proofs Tryz
def aC(d:AN)(i:Nat):Bool:=
 decide (0≤(d.nodes.getD i LW).var∧(d.nodes.getD i LW).var≤63∧0≤(d.nodes.getD i LW).low∧0≤(d.nodes.getD i LW).high∧(d.nodes.getD i LW).low<i+2∧(d.nodes.getD i LW).high<i+2∧(d.nodes.getD i LW).low≠(d.nodes.getD i LW).high∧(d.nodes.getD i LW).var<d.level (d.nodes.getD i LW).low∧(d.nodes.getD i LW).var<d.level (d.nodes.getD i LW).high)&&(List.range i).all fun j=>decide (d.nodes.getD j LW≠d.nodes.getD i LW)
def Nb(d:AN):Bool:=decide (0≤d.root∧d.root<d.nodes.length+2∧d.nodes.length≤4096)&&(List.range d.nodes.length).all (aC d)&&decide (QD d.nodes d.root=some d)
def GF(d:AN)(n:Nat):Bool:=Nb d&&d.nodes.all fun b=>decide (b.var<n)
theorem To(d:AN):Pure prog 220 [AA d,AA d] (.bool true):=by
 refine Pure.AI func220 (by kernel_rfl) rfl (by simp) fun wf=>?_;have a1:d.nodes.length≤maxLen:=by have:=wf.1;simp[WFD,WFDs]at this;exact this.1.1
 rw[ntmps220];refine xW fun K hK=>?_;simp;apply hK;refine xS (xW fun K hK=>?_);simp;apply hK;refine AU ?_;simp;refine xK ?_;refine xS (xW fun K hK=>?_);simp;apply hK;refine Bw ?_;refine DC d.nodes.length (fun i tm S=>tm 2=.ptr 0 1 0 0∧tm 3=.ptr 1 1 0 0∧tm 5=.d (.int .i64 i)∧S=[.row true 2 [.d (AA d)],.row true 2 [.d (AA d)]]) (Nat.zero_le _) (by simp) ?_;rintro i tm S hi ⟨t2,t3,t5,rfl⟩;refine xS (xW fun K hK=>?_);simp[t2,t5];apply hK;refine AU ?_;simp;refine⟨fun hlt=>?_,fun hge=>?_⟩
 ·refine xK ?_;refine xB ?_;refine xD [0,2,4,6,8,10,12,14,16,18,20] (by kernel_rfl) fun K hK=>?_;simp;refine xA 0 ?_;simp[t2,t3,t5,hlt];refine xM (hK _ _ ?_);refine AU ?_;simp;refine CC ?_;refine xV fun K hK=>?_;simp[t5];apply hK;refine⟨hlt,_,_,AJ.refl,?_⟩;simp[t2,t3,AQ hlt a1]
 ·refine Cu ?_;refine xW fun K hK=>?_;simp;apply hK;refine Ag ⟨_,_,AJ.refl,?_⟩;try simp
theorem PI(d:AN)(i:Nat)(hi:i<d.nodes.length)(hn:d.nodes.length≤4096)(h:aC d i=true):Pure prog 219 [AA d,AG i] (.bool true):=by
 have hg:d.nodes.getD i LW=d.nodes[i]:=by simp[hi]
 simp only[aC,hg,Bool.and_eq_true,decide_eq_true_eq,List.all_eq_true,List.mem_range]at h;obtain⟨⟨b1,b2,b3,b4,b5,b6,b7,b8,b9⟩,hu⟩:=h;have hu':∀j (_:j<i) (hj:j<d.nodes.length),¬d.nodes[j]=d.nodes[i]:=fun j hji hj=>by have:=hu j hji;simpa[hj]using this
 refine Pure.AI func219 (by kernel_rfl) rfl (by simp) fun wf=>?_;have a1:d.nodes.length≤maxLen:=by have:=wf.1;simp[WFD,WFDs]at this;exact this.1.1
 have hw:IntKind.i64.wrap ((i:Int)+2)=i+2:=by rw[IntKind.wrap_i64];omega
 generalize hb:d.nodes[i]=b at *;have l1:=F5 d b.low (by omega);have l2:=F5 d b.high (by omega);rw[ntmps219];refine xW fun K hK=>?_;simp;apply hK;(repeat refine xS ?_);refine xV fun K hK=>?_;simp[hi,hb];refine hK _ _ ?_;(try simp only[xQ,reduceIte]);have c1:¬b.var<0:=by omega
 have c2:¬63<b.var:=by omega
 have c3:¬b.low<0:=by omega
 have c4:¬b.high<0:=by omega
 have c5:¬(i:Int)+2≤b.low:=by omega
 have c6:¬(i:Int)+2≤b.high:=by omega
 have c8:¬d.level b.low≤b.var:=by omega
 have c9:¬d.level b.high≤b.var:=by omega
 refine xS (xW fun K hK=>?_);simp[hw,c1,c2,c3,c4,c5,c6];apply hK;refine AU ?_;simp[b7];refine xK ?_;refine xS ?_;refine xD [0,2,4,6,8,10,12,14,16,18,20,22,24,26,28,30] (by kernel_rfl) fun K hK=>?_;simp;refine xA 0 ?_;simp;refine Ae.CA (l1) rfl (by simp[xN]) ?_;simp;refine xA 0 ?_;simp[c8];refine Ae.CE (ds:=[AA d,AG b.high]) rfl rfl (by simp;rfl) (fun _=>l2) (by simp[xN]) ?_;simp;refine xA 0 ?_;simp[c9];refine xM (hK _ _ ?_);(try simp only[xQ,reduceIte]);refine AU ?_;simp;refine xK ?_;refine xS (xW fun K hK=>?_);simp;apply hK;refine Bw ?_;refine DC i (fun k tm S=>tm 1=.d (AG i)∧tm 2=.ptr 0 1 0 0∧tm 5=.ptr 1 1 0 0∧tm 6=.d (.int .i64 k)∧S=[.row true 2 [.d (AA d)],.row true 3 [.d (AX b)]]) (Nat.zero_le _) (by simp[AX]) ?_;rintro k tm S hk ⟨t1,t2,t5,t6,rfl⟩;refine xS (xW fun K hK=>?_);simp[t1,t6];apply hK;refine AU ?_;simp;refine⟨fun hlt=>?_,fun hge=>?_⟩
 ·have hkl:k<d.nodes.length:=by omega
  have hne:=hu' k hlt hkl;refine xK ?_;refine xB ?_;(repeat refine xS ?_);refine xE [0,2,4,6,8,10,12] (by kernel_rfl) fun K hK=>?_;simp;(repeat(refine Ga ?_ ?_;(·simp[t2,t5,hkl]);simp[t2,t5,t6,hkl]));(repeat((refine Ga ?_ ?_);(focus(simp[AX];done));simp[AX,hne]));refine xM (hK _ _ ?_);(try simp only[QSeq]);refine AU ?_;simp;refine CC ?_;refine xV fun K hK=>?_;simp[t6];apply hK;refine⟨hlt,_,_,AJ.refl,?_⟩;have a2:i≤maxLen:=by omega
  simp[t1,t2,t5,AQ hlt a2,AX]
 ·refine Cu ?_;refine xW fun K hK=>?_;simp;apply hK;refine Ag ⟨_,_,AJ.refl,?_⟩;try simp
theorem SA(d:AN)(h:Nb d=true):Pure prog 188 [AA d] (.bool true):=by
 simp only[Nb,Bool.and_eq_true,decide_eq_true_eq,List.all_eq_true,List.mem_range]at h;obtain⟨⟨⟨h1,h2,h3⟩,h4⟩,h5⟩:=h;have hnb:=Nz d.nodes d.root d h5;have hsm:=To d;have a1:d.nodes.length≤maxLen:=by unfold maxLen;omega
 have hw:IntKind.i64.wrap ((d.nodes.length:Int)+2)=d.nodes.length+2:=by rw[IntKind.wrap_i64];omega
 have c1:¬d.root<0:=by omega
 have c2:¬(d.nodes.length:Int)+2≤d.root:=by omega
 refine Pure.AI func188 (by kernel_rfl) rfl (by simp) fun wf=>?_;rw[ntmps188];refine xW fun K hK=>?_;simp;apply hK;refine xS (xW fun K hK=>?_);simp[hw,c1,c2];apply hK;refine AU ?_;simp;refine xK ?_;refine xS (xW fun K hK=>?_);simp;apply hK;refine Bw ?_;refine DC d.nodes.length (fun i tm S=>tm 1=.ptr 0 1 0 0∧tm 3=.d (.int .i64 i)∧S=[.row true 2 [.d (AA d)]]) (Nat.zero_le _) (by simp) ?_;rintro i tm S hi ⟨t1,t3,rfl⟩;refine xS (xW fun K hK=>?_);simp[t1,t3];apply hK;refine AU ?_;simp;refine⟨fun hlt=>?_,fun hge=>?_⟩
 ·have hbr:=PI d i hlt h3 (h4 i hlt);refine xK ?_;refine xB ?_;refine Az fun K hK=>?_;refine xJ ?_;simp[t1,t3];refine Bp (hbr) rfl (by simp[xN]) ?_;simp;refine xJ ?_;simp;refine Aj (hK _ _ ?_);refine AU ?_;simp;refine CC ?_;refine xV fun K hK=>?_;simp[t3];apply hK;refine⟨hlt,_,_,AJ.refl,?_⟩;simp[t1,AQ hlt a1]
 ·refine Cu ?_;(repeat refine xS ?_);refine xE [0,2,4,6,8,10,12,14] (by kernel_rfl) fun K hK=>?_;simp;refine xA 0 ?_;simp[t1];refine Ae.CA (hnb) rfl (by simp[xN]) ?_;simp;refine xA 0 ?_;simp;refine Ae.CA (hsm) rfl (by simp[xN]) ?_;simp;refine xA 0 ?_;simp;refine xM (hK _ _ ?_);(try simp only[xQ,reduceIte]);refine Ag ⟨_,_,AJ.refl,?_⟩;try simp
theorem R6(d:AN)(h:Nb d=true):Pure prog 161 [AA d] (AG 0):=by
 have hv:=SA d h;simp only[Nb,Bool.and_eq_true,decide_eq_true_eq]at h;have h3:¬4096<(d.nodes.length:Int):=by omega
 have h3':¬4096<d.nodes.length:=by omega
 refine Pure.AI func161 (by kernel_rfl) rfl (by simp) fun wf=>?_;rw[ntmps161];refine xW fun K hK=>?_;simp;apply hK;refine xS (xW fun K hK=>?_);simp[h3];apply hK;refine AU ?_;simp;refine xK ?_;refine xS (Az fun K hK=>?_);refine xJ ?_;simp;refine Bp (hv) rfl (by simp[xN]) ?_;simp;refine xJ ?_;simp;refine Aj (hK _ _ ?_);(try simp only[xQ,reduceIte]);refine AU ?_;simp;refine xK ?_;refine xW fun K hK=>?_;simp;apply hK;refine Ag ⟨_,_,AJ.refl,?_⟩;try simp
theorem HB(d:AN)(n:Nat)(h:GF d n=true):Pure prog 124 [AA d,AG n] (.bool true):=by
 simp only[GF,Bool.and_eq_true,List.all_eq_true,decide_eq_true_eq]at h;have hc:=R6 d h.1;have h2:=h.2;refine Pure.AI func124 (by kernel_rfl) rfl (by simp) fun wf=>?_;have a1:d.nodes.length≤maxLen:=by have:=wf.1;simp[WFD,WFDs]at this;exact this.1.1
 rw[ntmps124];refine xW fun K hK=>?_;simp;apply hK;refine xS (Az fun K hK=>?_);refine xJ ?_;simp;refine Bp (hc) rfl (by simp[xN]) ?_;simp;refine xJ ?_;simp;refine Aj (hK _ _ ?_);(try simp only[xQ,reduceIte]);refine AU ?_;simp;refine xK ?_;refine xS (xW fun K hK=>?_);simp;apply hK;refine Bw ?_;refine DC d.nodes.length (fun i tm S=>tm 1=.d (AG n)∧tm 2=.ptr 0 1 0 0∧tm 5=.d (.int .i64 i)∧S=[.row true 2 [.d (AA d)]]) (Nat.zero_le _) (by simp) ?_;rintro i tm S hi ⟨t1,t2,t5,rfl⟩;refine xS (xW fun K hK=>?_);simp[t2,t5];apply hK;refine AU ?_;simp;refine⟨fun hlt=>?_,fun hge=>?_⟩
 ·have hv:¬(n:Int)≤d.nodes[i].var:=by have:=h2 _ (List.getElem_mem hlt);omega
  refine xK ?_;refine xB ?_;refine xW fun K hK=>?_;simp[t1,t2,t5,hlt,hv];apply hK;refine AU ?_;simp;refine CC ?_;refine xV fun K hK=>?_;simp[t5];apply hK;refine⟨hlt,_,_,AJ.refl,?_⟩;simp[t1,t2,AQ hlt a1]
 ·refine Cu ?_;refine xW fun K hK=>?_;simp;apply hK;refine Ag ⟨_,_,AJ.refl,?_⟩;try simp
end Go.Koi
