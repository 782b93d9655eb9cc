/-
  Part 5 of the proof that the law ChangeLeaves returns true for every input.
-/
import Derived.Test.YtflldgdbdipagaaGreatDoorG03
import Derived.Test.YtflldgdbdipagaaGreatDoorProg
import Derived.Still
set_option maxHeartbeats 64000000
set_option maxRecDepth 100000
open List renaming length->Z
open Array renaming replicate->QQ
open ByteArray renaming empty->gs
open Go.Op renaming operands->un
open Bool renaming true->J,false->am
open Option renaming some->al,none->br
open Go.Proofs.Tryz renaming prog->a8
open Go renaming Oper->ej,FuncId->go
namespace Go.Koi
open Go.Proofs Tryz
abbrev CJ(t i o c s:Nat):Prop:=E0 a8 t i=al (o,c)/\placeOf a8 t i=al (o,s)
abbrev I9(t:Nat)(z:V)(b:Nat):Prop:=DH a8 t=al 1/\Nn a8 t=am/\Gg a8 t=al z/\Jr a8 t=al b
abbrev Nl(t e:Nat):Prop:=I9 t (.full []) 24/\Of a8 t=br/\BB a8 t=al e
abbrev Jn(t s:Nat)(z:V)(b:Nat):Prop:=DH a8 t=al s/\Nn a8 t=J/\Gg a8 t=al z/\Jr a8 t=al b/\MU a8 t=J
@[simp] theorem yu:I9 3 (.d (.int .i64 0)) 8/\I9 4 (.d (.bool am)) 1/\I9 5 (.d (.int .u8 0)) 1/\I9 9 (.d (.str gs)) 16/\I9 20 (.d (.raw .nilIface)) 16/\Nl 22 5/\Nl 23 143/\Nl 24 146/\Jn 26 5 (.agg [.d (.int .u8 0),.d (.int .u8 0),.full [],.full [],.full []]) 80/\CJ 26 0 0 5 1/\CJ 26 1 1 5 1/\CJ 26 2 2 22 1/\CJ 26 3 3 23 1/\CJ 26 4 4 24 1/\Jn 28 8 (.agg [.d (.int .u8 0),.d (.int .u8 0),.full [],.full [],.full [],.d (.int .u8 0),.full [],.full []]) 136/\CJ 28 0 0 26 5/\CJ 28 1 5 5 1/\CJ 28 2 6 22 1/\CJ 28 3 7 22 1/\Jn 30 5 (.agg [.d (.int .u8 0),.d (.int .u8 0),.d (.int .u8 0),.d (.int .u8 0),.full []]) 32/\CJ 30 0 0 5 1/\CJ 30 1 1 5 1/\CJ 30 2 2 5 1/\CJ 30 3 3 5 1/\CJ 30 4 4 22 1/\Nl 32 9/\Nl 33 206/\Jn 35 2 (.agg [.full [],.d (.int .i64 0)]) 32/\CJ 35 0 0 33 1/\CJ 35 1 1 3 1/\Nl 36 52/\Nl 37 58/\Nl 38 91/\Nl 39 94/\Jn 41 9 (.agg [.full [],.full [],.d (.int .i64 0),.full [],.full [],.full [],.d (.int .i64 0),.full [],.full []]) 184/\CJ 41 0 0 32 1/\CJ 41 1 1 35 2/\CJ 41 2 3 36 1/\CJ 41 3 4 32 1/\CJ 41 4 5 37 1:=by and_intros<;>kernel_rfl
@[simp] theorem yw:CJ 41 5 6 3 1/\CJ 41 6 7 38 1/\CJ 41 7 8 39 1/\I9 42 (.d (.int .u64 0)) 8/\I9 43 (.d (.int .u64 0)) 8/\Nl 44 116/\Jn 46 2 (.agg [.full [],.full []]) 48/\CJ 46 0 0 44 1/\CJ 46 1 1 32 1/\Nl 50 182/\Jn 52 7 (.agg [.d (.str gs),.d (.int .i64 0),.d (.str gs),.full [],.d (.str gs),.full [],.d (.int .i64 0)]) 112/\CJ 52 0 0 9 1/\CJ 52 1 1 3 1/\CJ 52 2 2 9 1/\CJ 52 3 3 50 1/\CJ 52 4 4 9 1/\CJ 52 5 5 35 2/\Nl 53 80/\Nl 54 186/\Jn 56 5 (.agg [.d (.bool am),.d (.int .i64 0),.d (.int .i64 0),.d (.int .i64 0),.d (.int .i64 0)]) 40/\CJ 56 0 0 4 1/\CJ 56 1 1 3 1/\CJ 56 2 2 3 1/\CJ 56 3 3 3 1/\CJ 56 4 4 3 1/\Jn 58 13 (.agg [.d (.str gs),.d (.int .i64 0),.full [],.full [],.d (.int .i64 0),.d (.bool am),.d (.int .i64 0),.full [],.d (.bool am),.d (.int .i64 0),.d (.int .i64 0),.d (.int .i64 0),.d (.int .i64 0)]) 160/\CJ 58 0 0 9 1/\CJ 58 1 1 3 1/\CJ 58 2 2 53 1/\CJ 58 3 3 35 2/\CJ 58 4 5 4 1/\CJ 58 5 6 3 1/\CJ 58 6 7 54 1/\CJ 58 7 8 56 5/\Nl 59 78/\Jn 61 31 (.agg [.d (.int .i64 0),.d (.int .i64 0),.d (.int .i64 0),.d (.int .i64 0),.d (.str gs),.d (.bool am),.full [],.d (.int .i64 0),.full [],.full [],.d (.str gs),.d (.int .i64 0),.d (.str gs),.full [],.d (.str gs),.full [],.d (.int .i64 0),.d (.str gs),.d (.int .i64 0),.full [],.full [],.d (.int .i64 0),.d (.bool am),.d (.int .i64 0),.full [],.d (.bool am),.d (.int .i64 0),.d (.int .i64 0),.d (.int .i64 0),.d (.int .i64 0),.full []]) 432/\CJ 61 0 0 3 1/\CJ 61 1 1 3 1/\CJ 61 2 2 3 1/\CJ 61 3 3 3 1:=by and_intros<;>kernel_rfl
@[simp] theorem yf:CJ 61 4 4 9 1/\CJ 61 5 5 4 1/\CJ 61 6 6 35 2/\CJ 61 7 8 38 1/\CJ 61 8 9 39 1/\CJ 61 9 10 52 7/\CJ 61 10 17 58 13/\CJ 61 11 30 59 1/\Nl 64 76/\I9 65 (.d (.int .i64 0)) 8/\Jn 76 4 (.agg [.d (.int .i64 0),.d (.int .i64 0),.d (.int .i64 0),.full []]) 48/\CJ 76 0 0 3 1/\CJ 76 1 1 3 1/\CJ 76 2 2 3 1/\CJ 76 3 3 59 1/\Jn 78 4 (.agg [.d (.int .i64 0),.d (.int .i64 0),.d (.int .i64 0),.d (.str gs)]) 40/\CJ 78 0 0 3 1/\CJ 78 1 1 3 1/\CJ 78 2 2 3 1/\CJ 78 3 3 9 1/\Jn 80 2 (.agg [.d (.bool am),.d (.int .i64 0)]) 16/\CJ 80 0 0 4 1/\CJ 80 1 1 3 1/\Nl 89 3/\Jn 91 4 (.agg [.full [],.d (.int .i64 0),.full [],.d (.int .i64 0)]) 64/\CJ 91 0 0 89 1/\CJ 91 1 1 3 1/\CJ 91 2 2 35 2/\Jn 94 9 (.agg [.d (.int .i64 0),.d (.int .i64 0),.d (.int .i64 0),.d (.int .i64 0),.d (.int .i64 0),.d (.int .i64 0),.full [],.full [],.d (.int .i64 0)]) 104/\CJ 94 0 0 3 1/\CJ 94 1 1 3 1/\CJ 94 2 2 3 1/\CJ 94 3 3 3 1/\CJ 94 4 4 3 1/\CJ 94 5 5 3 1/\CJ 94 6 6 89 1/\CJ 94 7 7 35 2/\I9 97 (.d (.raw .nilFunc)) 8/\I9 98 (.d (.raw .nilFunc)) 8/\I9 99 (.d (.raw .nilFunc)) 8:=by and_intros<;>kernel_rfl
@[simp] theorem yx:I9 100 (.d (.raw .nilFunc)) 8/\Jn 102 4 (.agg [.d (.raw .nilFunc),.d (.raw .nilFunc),.d (.bool am),.d (.raw .nilFunc)]) 32/\CJ 102 0 0 98 1/\CJ 102 1 1 99 1/\CJ 102 2 2 4 1/\CJ 102 3 3 100 1/\I9 104 (.d (.raw (.map br))) 8/\I9 106 (.d (.raw (.pointer br))) 8/\Jn 109 51 (.agg [.full [],.full [],.d (.int .i64 0),.full [],.full [],.full [],.d (.int .i64 0),.full [],.full [],.d (.int .i64 0),.d (.int .i64 0),.d (.int .i64 0),.d (.int .i64 0),.d (.str gs),.d (.bool am),.full [],.d (.int .i64 0),.full [],.full [],.d (.str gs),.d (.int .i64 0),.d (.str gs),.full [],.d (.str gs),.full [],.d (.int .i64 0),.d (.str gs),.d (.int .i64 0),.full [],.full [],.d (.int .i64 0),.d (.bool am),.d (.int .i64 0),.full [],.d (.bool am),.d (.int .i64 0),.d (.int .i64 0),.d (.int .i64 0),.d (.int .i64 0),.full [],.full [],.full [],.d (.int .i64 0),.full [],.full [],.full [],.d (.int .i64 0),.full [],.full [],.full [],.d (.bool am)]) 832/\CJ 109 0 0 41 9/\CJ 109 1 9 61 31/\CJ 109 2 40 41 9/\CJ 109 3 49 64 1/\CJ 109 4 50 4 1/\Jn 116 4 (.agg [.d (.int .i64 0),.d (.int .i64 0),.d (.str gs),.full []]) 56/\CJ 116 0 0 3 1/\CJ 116 1 1 3 1/\CJ 116 2 2 9 1/\CJ 116 3 3 32 1/\I9 117 (.d (.raw .nilFunc)) 8/\I9 118 (.d (.raw .nilFunc)) 8/\Jn 143 4 (.agg [.d (.int .u8 0),.full [],.d (.int .u8 0),.d (.int .u8 0)]) 40/\CJ 143 0 0 5 1/\CJ 143 1 1 22 1/\CJ 143 2 2 5 1/\CJ 143 3 3 5 1/\Jn 146 5 (.agg [.d (.int .u8 0),.d (.int .u8 0),.d (.int .u8 0),.d (.int .u8 0),.d (.int .u8 0)]) 5/\CJ 146 0 0 5 1/\CJ 146 1 1 5 1/\CJ 146 2 2 5 1/\CJ 146 3 3 5 1/\CJ 146 4 4 5 1/\Nl 147 43/\Jn 152 14 (.agg [.full [],.full [],.d (.int .i64 0),.full [],.full [],.full [],.d (.int .i64 0),.full [],.full [],.d (.int .u64 0),.full [],.d (.int .i64 0),.full [],.full []]) 272/\CJ 152 0 0 41 9/\CJ 152 1 9 43 1/\CJ 152 2 10 22 1/\CJ 152 3 11 3 1/\CJ 152 4 12 89 1/\CJ 152 5 13 44 1:=by and_intros<;>kernel_rfl
@[simp] theorem yp:I9 161 (.d (.raw (.pointer br))) 8/\I9 162 (.d (.raw (.map br))) 8/\I9 165 (.d (.raw .nilFunc)) 8/\I9 168 (.d (.raw .nilFunc)) 8/\Jn 182 5 (.agg [.d (.int .i64 0),.d (.int .i64 0),.d (.int .i64 0),.d (.int .i64 0),.d (.int .i64 0)]) 40/\CJ 182 0 0 3 1/\CJ 182 1 1 3 1/\CJ 182 2 2 3 1/\CJ 182 3 3 3 1/\CJ 182 4 4 3 1/\Jn 186 3 (.agg [.d (.int .i64 0),.d (.int .i64 0),.d (.int .i64 0)]) 24/\CJ 186 0 0 3 1/\CJ 186 1 1 3 1/\CJ 186 2 2 3 1/\Nl 191 41/\I9 195 (.d (.raw .nilFunc)) 8/\Jn 197 11 (.agg [.full [],.full [],.d (.int .i64 0),.full [],.full [],.full [],.d (.int .i64 0),.full [],.full [],.d (.int .i64 0),.d (.raw .nilFunc)]) 200/\CJ 197 0 0 41 9/\CJ 197 1 9 3 1/\CJ 197 2 10 195 1/\Nl 200 89/\Nl 202 32/\Jn 206 3 (.agg [.d (.int .i64 0),.d (.int .i64 0),.d (.int .i64 0)]) 24/\CJ 206 0 0 3 1/\CJ 206 1 1 3 1/\CJ 206 2 2 3 1/\I9 216 (.d (.int .u64 0)) 8/\I9 218 (.d (.raw .nilFunc)) 8/\Jn 224 1 (.agg [.d (.int .i64 0)]) 8/\CJ 224 0 0 65 1/\Nl 226 35/\Jn 228 10 (.agg [.full [],.full [],.d (.int .i64 0),.full [],.full [],.full [],.d (.int .i64 0),.full [],.full [],.full []]) 208/\CJ 228 0 0 41 9/\CJ 228 1 9 226 1/\I9 232 (.d (.raw (.map br))) 8/\Jn 234 2 (.agg [.d (.int .i64 0),.d (.int .i64 0)]) 16/\I9 236 (.d (.raw (.map br))) 8/\I9 241 (.d (.raw (.map br))) 8/\I9 243 (.d (.raw (.pointer br))) 8/\I9 244 (.d (.raw (.map br))) 8:=by and_intros<;>kernel_rfl
@[simp] theorem yy:Jn 246 2 (.agg [.full [],.d (.raw (.map br))]) 32/\CJ 246 0 0 33 1/\CJ 246 1 1 244 1/\Nl 255 4/\I9 256 (.d (.raw .nilFunc)) 8/\Nl 259 263/\Jn 263 2 (.agg [.d (.int .i64 0),.full []]) 32/\CJ 263 0 0 3 1/\CJ 263 1 1 53 1/\I9 265 (.d (.raw (.pointer br))) 8/\Jn 268 8 (.agg [.d (.int .u64 0),.d (.int .u64 0),.d (.int .u64 0),.d (.int .u64 0),.d (.int .u64 0),.d (.int .u64 0),.d (.int .u64 0),.d (.int .u64 0)]) 64/\Nl 269 268/\Jn 271 19 (.agg [.full [],.d (.int .u64 0),.d (.int .u64 0),.d (.int .u64 0),.d (.int .u64 0),.d (.int .u64 0),.d (.int .u64 0),.d (.int .u64 0),.d (.int .u64 0),.d (.int .u64 0),.d (.int .u64 0),.d (.int .u64 0),.d (.int .u64 0),.d (.int .u64 0),.d (.int .u64 0),.d (.int .u64 0),.d (.int .u64 0),.full [],.d (.bool am)]) 184/\CJ 271 0 0 50 1/\CJ 271 1 1 268 8/\CJ 271 2 9 268 8/\CJ 271 3 17 269 1/\CJ 271 4 18 4 1/\Nl 282 311/\Jn 284 7 (.agg [.full [],.d (.int .i64 0),.full [],.d (.int .i64 0),.d (.int .i64 0),.full [],.full []]) 120/\CJ 284 0 0 35 2/\CJ 284 1 2 35 2/\CJ 284 2 4 3 1/\CJ 284 3 5 33 1/\CJ 284 4 6 282 1/\Nl 288 97/\I9 290 (.d (.raw .nilFunc)) 8/\I9 295 (.d (.raw (.map br))) 8/\Nl 302 53/\I9 304 (.d (.raw .nilFunc)) 8/\I9 307 (.d (.raw .nilFunc)) 8/\Jn 311 3 (.agg [.d (.int .i64 0),.d (.int .i64 0),.d (.int .i64 0)]) 24/\Jn 317 3 (.agg [.full [],.full [],.full []]) 72/\CJ 317 0 0 33 1/\CJ 317 1 1 89 1/\CJ 317 2 2 33 1/\I9 322 (.d (.raw (.map br))) 8/\Jn 326 6 (.agg [.full [],.d (.int .i64 0),.full [],.d (.int .i64 0),.full [],.d (.int .i64 0)]) 96/\I9 327 (.d (.raw .nilFunc)) 8/\I9 337 (.d (.raw (.map br))) 8:=by and_intros<;>kernel_rfl
@[simp] theorem yg:I9 343 (.d (.raw (.map br))) 8/\I9 344 (.d (.raw .nilFunc)) 8/\Qq a8 3=al (.one (.int .i64))/\intKind a8 3=al .i64/\O0 a8 4=J/\Qq a8 5=al (.one (.int .u8))/\intKind a8 5=al .u8/\Qq a8 9=al (.one (.str))/\Nu a8 9=J/\Qq a8 42=al (.one (.int .u64))/\intKind a8 42=al .u64/\Qq a8 43=al (.one (.int .u64))/\intKind a8 43=al .u64/\Ty a8 56=al [.bool,.int .i64,.int .i64,.int .i64,.int .i64]/\Qq a8 56=al (.cells [.bool,.int .i64,.int .i64,.int .i64,.int .i64])/\Qq a8 65=al (.one (.int .i64))/\intKind a8 65=al .i64/\Ty a8 78=al [.int .i64,.int .i64,.int .i64,.str]/\Qq a8 78=al (.cells [.int .i64,.int .i64,.int .i64,.str])/\Ty a8 80=al [.bool,.int .i64]/\Qq a8 80=al (.cells [.bool,.int .i64])/\LA a8 104=al (3,102)/\Ty a8 146=al [.int .u8,.int .u8,.int .u8,.int .u8,.int .u8]/\Qq a8 146=al (.cells [.int .u8,.int .u8,.int .u8,.int .u8,.int .u8])/\LA a8 162=al (3,35)/\Ty a8 182=al [.int .i64,.int .i64,.int .i64,.int .i64,.int .i64]/\Qq a8 182=al (.cells [.int .i64,.int .i64,.int .i64,.int .i64,.int .i64])/\Ty a8 186=al [.int .i64,.int .i64,.int .i64]/\Qq a8 186=al (.cells [.int .i64,.int .i64,.int .i64])/\Ty a8 206=al [.int .i64,.int .i64,.int .i64]/\Qq a8 206=al (.cells [.int .i64,.int .i64,.int .i64])/\Qq a8 216=al (.one (.int .u64))/\intKind a8 216=al .u64/\Ty a8 224=al [.int .i64]/\Qq a8 224=al (.cells [.int .i64])/\LA a8 232=al (234,35)/\Ty a8 234=al [.int .i64,.int .i64]/\Qq a8 234=al (.cells [.int .i64,.int .i64])/\LA a8 236=al (3,89)/\LA a8 241=al (206,4):=by and_intros<;>kernel_rfl
@[simp] theorem yn:LA a8 244=al (206,3)/\Ty a8 268=al [.int .u64,.int .u64,.int .u64,.int .u64,.int .u64,.int .u64,.int .u64,.int .u64]/\Qq a8 268=al (.cells [.int .u64,.int .u64,.int .u64,.int .u64,.int .u64,.int .u64,.int .u64,.int .u64])/\LA a8 295=al (3,3)/\Ty a8 311=al [.int .i64,.int .i64,.int .i64]/\Qq a8 311=al (.cells [.int .i64,.int .i64,.int .i64])/\LA a8 322=al (3,4)/\LA a8 337=al (9,4)/\LA a8 343=al (311,3)/\Of a8 234=al (2,3)/\placeOf a8 234 0=al (0,1)/\placeOf a8 234 1=al (1,1)/\Of a8 268=al (8,42)/\placeOf a8 268 0=al (0,1)/\placeOf a8 268 1=al (1,1)/\placeOf a8 268 2=al (2,1)/\placeOf a8 268 3=al (3,1)/\placeOf a8 268 4=al (4,1)/\placeOf a8 268 5=al (5,1)/\placeOf a8 268 6=al (6,1)/\placeOf a8 268 7=al (7,1)/\Of a8 311=al (3,3)/\placeOf a8 311 0=al (0,1)/\placeOf a8 311 1=al (1,1)/\placeOf a8 311 2=al (2,1)/\Of a8 326=al (3,35)/\placeOf a8 326 0=al (0,2)/\placeOf a8 326 1=al (2,2)/\placeOf a8 326 2=al (4,2)/\DH a8 346=al 64/\Nn a8 346=J/\Gg a8 346=al (.agg [.d (.int .u8 0),.d (.int .u8 0),.d (.int .u8 0),.d (.int .u8 0),.d (.int .u8 0),.d (.int .u8 0),.d (.int .u8 0),.d (.int .u8 0),.d (.int .u8 0),.d (.int .u8 0),.d (.int .u8 0),.d (.int .u8 0),.d (.int .u8 0),.d (.int .u8 0),.d (.int .u8 0),.d (.int .u8 0),.d (.int .u8 0),.d (.int .u8 0),.d (.int .u8 0),.d (.int .u8 0),.d (.int .u8 0),.d (.int .u8 0),.d (.int .u8 0),.d (.int .u8 0),.d (.int .u8 0),.d (.int .u8 0),.d (.int .u8 0),.d (.int .u8 0),.d (.int .u8 0),.d (.int .u8 0),.d (.int .u8 0),.d (.int .u8 0),.d (.int .u8 0),.d (.int .u8 0),.d (.int .u8 0),.d (.int .u8 0),.d (.int .u8 0),.d (.int .u8 0),.d (.int .u8 0),.d (.int .u8 0),.d (.int .u8 0),.d (.int .u8 0),.d (.int .u8 0),.d (.int .u8 0),.d (.int .u8 0),.d (.int .u8 0),.d (.int .u8 0),.d (.int .u8 0),.d (.int .u8 0),.d (.int .u8 0),.d (.int .u8 0),.d (.int .u8 0),.d (.int .u8 0),.d (.int .u8 0),.d (.int .u8 0),.d (.int .u8 0),.d (.int .u8 0),.d (.int .u8 0),.d (.int .u8 0),.d (.int .u8 0),.d (.int .u8 0),.d (.int .u8 0),.d (.int .u8 0),.d (.int .u8 0)])/\Jr a8 346=al 64/\Of a8 346=al (64,5):=by and_intros<;>kernel_rfl
abbrev acn:=@List.mem_append_left
abbrev ab7:=@List.mem_of_mem_drop
abbrev lw:=@and_self
abbrev acG:=@beq_iff_eq
abbrev tg:=@List.mem_filter
abbrev adW:=@ready_mono
abbrev abT:=@List.mem_cons_of_mem
abbrev ado:=@List.filter_eq_nil_iff
section
variable {P:Program} {n b:Nat} {o:ej} {tm tm':Tm} {S S':Sg} {v:V} {ops:Array ej} {K:Tm->Sg->Prop}
theorem Hr(h:∀t∈o.looksAt ops,tm' t=tm t):∀x∈o.op.operands,ev tm' x=ev tm x:=λx g=>by
 cases x with
 |tmp t=>
  refine h t ?_;unfold Oper.looksAt;exact acn _ (List.mem_filterMap.2 ⟨.tmp t,by simpa using g,rfl⟩)
 |_=>rfl
theorem JA{g:List (Nat×Operand)}(h:∀p∈g,ev tm' p.2=ev tm p.2):JM tm' g=JM tm g:=by
 induction g with
 |nil=>rfl
 |cons p g i=>simp only[JM,h p (by simp),i λq j=>h q (by simp[j])]
theorem Uy{xs:List Operand}(h:∀x∈xs,ev tm' x=ev tm x):QF tm' xs=QF tm xs:=by
 induction xs with
 |nil=>rfl
 |cons p j g=>simp only[QF,h p (by simp),g λq i=>h q (by simp[i])]
theorem Ro{xs:List Operand}(h:∀x∈xs,ev tm' x=ev tm x):xs.map (ev tm')=xs.map (ev tm):=y4 h
theorem Lo{xs:List Operand}(h:∀x∈xs,ev tm' x=ev tm x):ev tm' (xs.headD (.const undef))=ev tm (xs.headD (.const undef)):=by
 cases xs with
 |nil=>rfl
 |cons x xs=>exact h x (by simp)
theorem LW{op:Op}(h:∀x∈op.operands,ev tm' x=ev tm x):BV P op tm' S=BV P op tm S/\BX P op tm' S=BX P op tm S/\C5 P op tm' S=C5 P op tm S:=by
 cases op;case call c=>
  have ha:∀x∈c.args.toList,ev tm' x=ev tm x:=λx g=>h x (by simp[un,Call.operands];exact .inr (by simpa using g));have h0:ev tm' (EL c)=ev tm (EL c):=Lo ha;have h1:ev tm' (Fv c)=ev tm (Fv c):=Lo λx g=>ha x (ab7 g);have E:ev tm' (PS c)=ev tm (PS c):=Lo λx g=>ha x (ab7 g);simp only[BV,BX,C5,GS,GJ,Hm,Hz,h0,h1,E,lw]
 case build T q=>
  have i:∀p∈q.toList,ev tm' p.2=ev tm p.2:=λp i=>h p.2 (by simp only[un];exact List.mem_toArray.2 (fd.2 ⟨p,i,rfl⟩));have m:=JA i;have j:Cj tm' q=Cj tm q:=y4 λp A=>by rw[i p A]
  simp only[BV,BX,C5,GS,GJ,Hm,Hz,m,j,lw]
 case buildSlice T k q=>
  have i:∀p∈q.toList,ev tm' p.2=ev tm p.2:=λp i=>h p.2 (by simp only[un];exact List.mem_toArray.2 (fd.2 ⟨p,i,rfl⟩));have m:=JA i;have j:Cj tm' q=Cj tm q:=y4 λp A=>by rw[i p A]
  simp only[BV,BX,C5,GS,GJ,Hm,Hz,m,j,lw]
 case makeFunc f s B=>
  have m:s.toList.map (ev tm')=s.toList.map (ev tm):=Ro λx g=>h x (by simp[un];exact .inl (by simpa using g));have j:B.toList.map (ev tm')=B.toList.map (ev tm):=Ro λx g=>h x (by simp[un];exact .inr (by simpa using g));simp only[BV,BX,C5,GS,GJ,Hm,Hz,m,j,lw]
 case slice T x lo hi t=>
  have g:=h x (by simp[un]);have m:EO tm' lo=EO tm lo/\Fp tm' lo=Fp tm lo:=by
   cases lo with
   |none=>exact⟨rfl,rfl⟩
   |some y=>have:=h y (by simp[un]);simp only[EO,Fp,this,lw]
  have j:EO tm' hi=EO tm hi/\Fp tm' hi=Fp tm hi/\∀X,q8 tm' X hi=q8 tm X hi:=by
   cases hi with
   |none=>exact⟨rfl,rfl,λ_=>rfl⟩
   |some y=>have:=h y (by simp[un]);simp only[EO,Fp,q8,this,lw,implies_true]
  have C:EO tm' t=EO tm t/\Fp tm' t=Fp tm t:=by
   cases t with
   |none=>exact⟨rfl,rfl⟩
   |some y=>have:=h y (by simp[un]);simp only[EO,Fp,this,lw]
  simp only[BV,BX,C5,GS,GJ,g,m.1,m.2,j.1,j.2.1,j.2.2,C.1,C.2,lw]
 case unOp u T x=>
  have g:=h x (by simp[un]);cases u<;>simp only[BV,BX,C5,GS,GJ,Hm,Hz,g,lw]
 all_goals first
  |(simp only[BV,BX,C5,GS,GJ,Hm,Hz,lw];done)
  |(rename_i x
    have g:=h x (by simp[un])
    simp only[BV,BX,C5,GS,GJ,Hm,Hz,g,lw];done)
  |(rename_i x y
    have g:=h x (by simp[un])
    simp only[BV,BX,C5,GS,GJ,Hm,Hz,g,lw];done)
  |(rename_i x y
    have g:=h x (by simp[un])
    have w:=h y (by simp[un])
    simp only[BV,BX,C5,GS,GJ,Hm,Hz,g,w,lw];done)
  |(rename_i x y z
    have g:=h x (by simp[un])
    have w:=h y (by simp[un])
    simp only[BV,BX,C5,GS,GJ,Hm,Hz,g,w,lw];done)
  |(rename_i x y z
    have g:=h x (by simp[un])
    have w:=h y (by simp[un])
    have F:=h z (by simp[un])
    simp only[BV,BX,C5,GS,GJ,Hm,Hz,g,w,F,lw];done)
  |skip
theorem guard_congr{j:Nat}{g:Bool}(i:o.guard=al (j,g))(h:∀t∈o.looksAt ops,tm' t=tm t):CN ops tm' j g=CN ops tm j g:=by
 unfold CN;cases k:(ops[j]?).bind (·.dst)with
 |none=>rfl
 |some d=>
  have:tm' d=tm d:=h d (by simp[Oper.looksAt,i,k]);simp[this]
theorem ow(h:∀t∈o.looksAt ops,tm' t=tm t):EX P n ops o tm' S=EX P n ops o tm S/\Dm P ops o tm' S=Dm P ops o tm S/\oS P o tm' S=oS P o tm S:=by
 obtain⟨h1,i,m⟩:=LW (P:=P) (S:=S) (op:=o.op) (Hr h);cases g:o.guard with
 |none=>simp only[EX,Dm,oS,g,h1,i,m,lw]
 |some q=>
  obtain⟨j,k⟩:=q;have:=guard_congr g h;simp only[EX,Dm,oS,g,h1,i,this,lw]
def Bw(P:Program)(n b:Nat)(ops:Array ej)(i:Nat)(o:ej)(tm:Tm)(S:Sg)(v:V)(S':Sg):Prop:=
 ∀tm',(∀t∈o.looksAt ops,tm' t=tm t)->Step P n b ops i tm' S (put tm' o.dst v) S'
theorem Bw.congr{i:Nat}(h:Bw P n b ops i o tm S v S')(k:∀t∈o.looksAt ops,tm' t=tm t):Bw P n b ops i o tm' S v S':=λg m=>
 h g λt j=>(m t j).trans (k t j)
theorem Bw.Eh{i:Nat}(hi:ops[i]?=al o)(h:EX P n ops o tm S):Bw P n b ops i o tm S (Dm P ops o tm S) (oS P o tm S):=λtm' g=>by
 obtain⟨h1,j,k⟩:=ow (P:=P) (n:=n) (S:=S) g;rw[<-j,<-k];exact Step.Eh hi (by rw[h1];exact h)
theorem HT{c:Call}(j:o.op=.call c)(h:∀t∈o.looksAt ops,tm' t=tm t):callee tm' c=callee tm c/\A9 tm' c=A9 tm c:=by
 have g:=Hr h;rw[j]at g;have ha:∀x∈c.args.toList,ev tm' x=ev tm x:=λx i=>g x (by simp[un,Call.operands];exact .inr (by simpa using i));have hn:=Uy ha;have k:c.args.toList.map (λx=>strip (ev tm' x))=c.args.toList.map (λx=>strip (ev tm x)):=y4 λx i=>by rw[ha x i]
 unfold callee A9;cases m:c.callee with
 |value f=>
  have q:=g f (by simp[un,Call.operands,m]);simp only[q,hn,k,lw]
 |_=>exact⟨rfl,by simp only[hn]⟩
theorem Bw.call{i:Nat}{c:Call}{f:FuncId}{args:List V}(hi:ops[i]?=al o)(g:o.op=.call c)(j:o.guard=br)(k:A6 n o.dst)(m:callee tm c=al (f,args))(hn:A9 tm c)
  (h:AH P f args S v S'):Bw P n b ops i o tm S v S':=λtm' q=>by
 obtain⟨h1,s⟩:=HT g q;exact aeq hi k j (IQ g (by rw[h1];exact m) (by rw[s];exact hn) h)
abbrev Pi:=@Bw.call
theorem Bw.Mo{i:Nat}{c:Call}{f:FuncId}{args:List V}{j:Nat}{k g:Bool}(hi:ops[i]?=al o)(m:o.op=.call c)(q:o.guard=al (j,k))(t:A6 n o.dst)
  (u:CN ops tm j k=al g) (h:g=J->callee tm c=al (f,args)/\A9 tm c/\AH P f args S v S):Bw P n b ops i o tm S (H0 g v) S:=λtm' s=>by
 obtain⟨h1,w⟩:=HT m s;refine Step.GV hi t q (by rw[guard_congr q s];exact u) λe=>?_;obtain⟨z,A,B⟩:=h e;exact IQ m (by rw[h1];exact z) (by rw[w];exact A) B
def waits(ops:Array ej)(j i:Nat):Bool:=
 match ops[j]? with
 |some g=>g.after.any λe=>Region.binds .any e&&e.on==i
 |none=>J
def ft(ops:Array ej)(B:List (Nat×(Sg->Prop)))(j:Nat)(S S':Sg):Prop:=∀p∈B,waits ops j p.1=J\/(p.2 S->p.2 S')
def Bf(P:Program)(n b:Nat)(ops:Array ej)(K:Tm->Sg->Prop)(B:List (Nat×(Sg->Prop))):Nat->Array Bool->Tm->Sg->Prop
 |0,g,tm,S=>Region.ready .any ops g=[]/\K tm S
 |h+1,g,tm,S=>(Region.ready .any ops g=[]->K tm S)/\∀i∈Region.ready .any ops g,∃o v S',ops[i]?=al o/\Bw P n b ops i o tm S v S'/\ft ops B i S S'/\Bf P n b ops K (B.filter λp=>!waits ops i p.1) h (g.setIfInBounds i J) (put tm o.dst v) S'
theorem put_comm{tm:Tm}{x y:Option Tmp}(v u:V)(h:∀d,x=al d->y≠al d):put (put tm x v) y u=put (put tm y u) x v:=by
 cases x with
 |none=>rfl
 |some d=>
  cases y with
  |none=>rfl
  |some e=>
   have g:d≠e:=λi=>h d rfl (i▸rfl);funext k;simp[put,ER];by_cases h1:k=d
   .subst h1;simp[g]
   .simp[h1]
theorem Kp{o o':ej}{tm:Tm}{u:V}(h:∀d,o'.dst=al d->d∉o.looksAt ops):∀t∈o.looksAt ops,(put tm o'.dst u) t=tm t:=λt g=>by
 cases i:o'.dst with
 |none=>rfl
 |some d=>
  have:t≠d:=λe=>h d i (e▸g);simp[put,ER,this]
theorem L8{j i:Nat}{g:ej}(hj:ops[j]?=al g)(h:waits ops j i=J):∃e∈g.after,Region.binds .any e=J/\e.on=i:=by
 unfold waits at h;rw[hj]at h;obtain⟨e,k,hb⟩:=Array.any_eq_true'.1 h;simp at hb;exact⟨e,k,hb.1,hb.2⟩
theorem OX:∀(g:Nat) (B m:List (Nat×(Sg->Prop))) (i:Array Bool) (tm:Tm) (S:Sg),(∀p∈m,p∈B)->Bf P n b ops K B g i tm S->Bf P n b ops K m g i tm S
 |0,_,_,_,_,_,_,h=>h
 |g+1,B,m,_,_,_,q,h=>⟨h.1,λk s=>by
  obtain⟨o,v,S',t,u,w,z⟩:=h.2 k s;refine⟨o,v,S',t,u,λp j=>w p (q p j),OX g _ _ _ _ _ (λp j=>?_) z⟩;rw[tg]at j⊢;exact⟨q p j.1,j.2⟩⟩
theorem PZ{i:Nat}{Q:ej}{C:Sg->Prop}(hi:ops[i]?=al Q):
  ∀(m:Nat) (B:List (Nat×(Sg->Prop))) (g:Array Bool) (tm:Tm) (S:Sg),(∀j L,ops[j]?=al L->j≠i->g.getD j J=am->(∀e∈L.after,Region.binds .any e=J->e.on≠i)->Q.apart ops L=J)->i∈Region.ready .any ops g->C S->(∀S',C S'->Bw P n b ops i Q tm S' v S')->Bf P n b ops K ((i,C)::B) m (g.setIfInBounds i J) (put tm Q.dst v) S->Bf P n b ops K B (m+1) g tm S:=by
 intro m;induction m with
 |zero=>
  intro B g tm S _ R hS X H;refine⟨λh=>(by rw[h]at R;cases R),λj hj=>?_⟩;by_cases q:j=i
  .subst q;refine⟨Q,v,S,hi,X S hS,λp _=>.inr id,H⟩
  .have:=adW hj q;rw[H.1]at this;cases this
 |succ m ih=>
  intro B g tm S w R hS X H;refine⟨λh=>(by rw[h]at R;cases R),λj hj=>?_⟩;by_cases q:j=i
  .subst q;refine⟨Q,v,S,hi,X S hS,λp _=>.inr id,OX _ _ _ _ _ _ (λp Y=>?_) H⟩;exact abT _ (tg.1 Y).1
  .obtain⟨L,u,S',z,zn,s,A⟩:=H.2 j (adW hj q);obtain⟨M,oj',N,za⟩:=mem_ready.1 hj;rw[z]at N;cases N;have E:∀e∈L.after,Region.binds .any e=J->e.on≠i:=λe T hb F=>by
    have h1:=za e T hb;have h0:=(mem_ready.1 R).1;rw[F]at h1;rcases x3 i g.size with h'|h'
    .simp[h']at h0 h1;rw[h0]at h1;cases h1
    .simp[WF h']at h1
   obtain⟨a1,a2,a3⟩:=Oper.apart_spec (w j L z q M E);have hw:waits ops j i=false:=by
    cases hx:waits ops j i with
    |false=>rfl
    |true=>
     obtain⟨e,T,hb,F⟩:=L8 z hx;exact absurd F (E e T hb)
   have hC:C S':=by
    rcases s (i,C) (by simp)with h|h
    .obtain⟨e,T,hb,F⟩:=L8 z h;exact absurd F (E e T hb)
    .exact h hS
   have G:∀k ok,ops[k]?=al ok->k≠i->(g.setIfInBounds j J).getD k J=am->(∀e∈ok.after,Region.binds .any e=J->e.on≠i)->Q.apart ops ok=true:=λk ok hk hki U zm=>by
    refine w k ok hk hki ?_ zm;by_cases W:j=k
    .subst W;exact M
    .rw[getD_set_ne J W]at U;exact U
   refine⟨L,u,S',z,zn.congr λt ht=>(Kp a1 t ht).symm,λp Y=>s p (by simp[Y]),?_⟩;refine ih (B.filter λp=>!waits ops j p.1) (g.setIfInBounds j J) (put tm L.dst u) S' G (adW R (ru q)) hC (λS2 h2=>(X S2 h2).congr (Kp a3)) ?_;rw[Array.setIfInBounds_comm _ _ q,put_comm u v λd hd h=>a2 d h hd];rw[List.filter_cons_of_pos (by simp[hw])]at A;exact A
theorem Ld{Q:Exit->Act->World->Prop}:∀(j:Nat) (g:Array Bool) (tm:Tm) (S:Sg),Bf P n b ops K [] j g tm S->∀G w a,St P n G S w a tm->b<=Z S->(∀q s,(∃z S' tm',Iy P n b G S w a.defers q s z S' tm'/\K tm' S')->Q .normal q s)->wpAny P .any ops Q j g a w
 |0,g,tm,S,h,G,w,a,st,hb,t=>⟨h.1,t a w ⟨G,S,tm,.refl st hb,h.2⟩⟩
 |j+1,g,tm,S,h,G,w,a,st,hb,t=>by
  refine⟨λh0=>t a w ⟨G,S,tm,.refl st hb,h.1 h0⟩,λi hi=>?_⟩;obtain⟨o,v,S',N,B,_,k⟩:=h.2 i hi;refine B tm (λ_ _=>rfl) G w a _ Q st hb λq s z m=>?_;refine Ld j _ _ _ k z s q m.st m.late.len λC E F=>?_;obtain⟨H,L,A,u,M⟩:=F;exact t C E ⟨H,L,A,⟨u.st,u.ds.trans m.ds,m.tr.trans u.tr,m.late.trans u.late⟩,M⟩
def En(ops:Array ej):List (Nat×Bool)->Array Bool->Bool
 |[],g=>Region.ready .any ops g==[]
 |(i,q)::rest,g=>(if q then(Region.ready .any ops g).contains i&&Region.free .any ops g i else Region.ready .any ops g==[i])&&En ops rest (g.setIfInBounds i J)
def GA(ops:Array ej)(l:List (Nat×Bool)):List (Nat×Bool×ej):=l.map λp=>(p.1,p.2,ops.getD p.1 {dst:=none,op:=.move (.const undef),type:=0,pos:= "",after:=#[],guard:=none})
def Ad(P:Program)(n b:Nat)(ops:Array ej)(B:List (Nat×(Sg->Prop)))(l:List (Nat×Bool×ej))(tm:Tm)(S:Sg)(K:Tm->Sg->Prop):Prop:=
 ∀g,(∀p∈l,ops[p.1]?=al p.2.2)->En ops (l.map λp=>(p.1,p.2.1)) g=J->Bf P n b ops K B (Z l) g tm S
theorem xM{B:List (Nat×(Sg->Prop))}(h:K tm S):Ad P n b ops B [] tm S K:=λg _ i=>⟨by simpa[En]using i,h⟩
theorem Ad.quiet{B:List (Nat×(Sg->Prop))}{i:Nat}{rest:List (Nat×Bool×ej)}(C:Sg->Prop)(hS:C S)(m:ops[i]?=al o->∀S',C S'->Bw P n b ops i o tm S' v S')
  (h:Ad P n b ops ((i,C)::B) rest (put tm o.dst v) S K):Ad P n b ops B ((i,J,o)::rest) tm S K:=λg k j=>by
 have hi:ops[i]?=al o:=k (i,J,o) (by simp);simp[En]at j;obtain⟨⟨h1,q⟩,s⟩:=j;exact PZ hi _ B g tm S (Region.free_spec hi q) (by simpa using h1) hS (m hi) (h _ (λp j=>k p (by simp[j])) s)
abbrev vb:=@Ad.quiet
theorem Ad.last{B:List (Nat×(Sg->Prop))}{i:Nat}{rest:List (Nat×Bool×ej)}(s:(B.map (·.1)).all (waits ops i)=J)(t:ops[i]?=al o->Bw P n b ops i o tm S v S')
  (h:Ad P n b ops [] rest (put tm o.dst v) S' K):Ad P n b ops B ((i,am,o)::rest) tm S K:=λk m g=>by
 have hi:ops[i]?=al o:=m (i,am,o) (by simp);simp[En]at g;obtain⟨h1,u⟩:=g;have q:∀p∈B,waits ops i p.1=true:=λp g=>de.1 s p.1 (fd.2 ⟨p,g,rfl⟩);refine⟨λh0=>(by rw[h1]at h0;cases h0),λj hj=>?_⟩;rw[h1]at hj;have:j=i:=by simpa using hj
 subst this;have w:(B.filter λp=>!waits ops j p.1)=[]:=ado.2 λp g=>by simp[q p g]
 exact⟨o,v,S',hi,t hi,λp g=>.inl (q p g),by rw[w];exact h _ (λp g=>m p (by simp[g])) u⟩
theorem H3{B:List (Nat×(Sg->Prop))}{i:Nat}{rest:List (Nat×Bool×ej)}(h1:EX P n ops o tm S/\oS P o tm S=S)(h:Ad P n b ops ((i,λS'=>S'=S)::B) rest (put tm o.dst (Dm P ops o tm S)) S K):
  Ad P n b ops B ((i,J,o)::rest) tm S K:=
 vb (λS'=>S'=S) rfl (λhi S' hS=>by
  subst hS;have:=Bw.Eh (b:=b) hi h1.1;rwa [h1.2]at this) h
theorem Ad.uW{B:List (Nat×(Sg->Prop))}{i:Nat}{rest:List (Nat×Bool×ej)}(C:Sg->Prop)(hS:C S)(h1:∀S',C S'->EX P n ops o tm S'/\Dm P ops o tm S'=v/\oS P o tm S'=S')(h:Ad P n b ops ((i,C)::B) rest (put tm o.dst v) S K):
  Ad P n b ops B ((i,J,o)::rest) tm S K:=
 vb C hS (λhi S' hS=>by
  obtain⟨g,j,k⟩:=h1 S' hS;have:=Bw.Eh (b:=b) hi g;rwa [j,k]at this) h
def F1(S:Sg)(tm:Tm)(c:Call)(f:FuncId)(ds:List D):Prop:=
 match callee tm c with
 |some (g,args)=>g=f/\args.map (BC S)=ds.map al
 |none=>False
theorem GG{c:Call}{f:FuncId}{ds:List D}(h:F1 S tm c f ds):∃args,callee tm c=al (f,args)/\args.map (BC S)=ds.map some:=by
 unfold F1 at h;split at h
 .rename_i i args g;obtain⟨rfl,h⟩:=h;exact⟨args,g,h⟩
 .exact h.elim
theorem Bz{rest:List ej}{c:Call}{f:FuncId}{ds:List D}{d:D}(h:Pure P f ds d)(g:o.op=.call c)(i:o.guard=br/\A6 n o.dst/\A9 tm c/\F1 S tm c f ds)
  (j:AY P n b ops rest (put tm o.dst (.d d)) S K):AY P n b ops (o::rest) tm S K:=by
 obtain⟨k,m,q,s⟩:=i;obtain⟨args,t,u⟩:=GG s;exact ms g k m t q (h.call u) j
theorem AY.Dr{rest:List ej}{c:Call}{f:FuncId}{ds:List D}{d:D}{j:Nat}{i g:Bool}(k:o.op=.call c)(m:o.guard=al (j,i))(q:CN ops tm j i=al g)
  (h:g=J->Pure P f ds d) (w:A6 n o.dst/\(g=J->A9 tm c/\F1 S tm c f ds))
  (s:AY P n b ops rest (put tm o.dst (H0 g (.d d))) S K):AY P n b ops (o::rest) tm S K:=by
 obtain⟨t,u⟩:=w;by_cases e:g=J
 .obtain⟨args,z,A⟩:=GG (u e).2;exact AY.Mo k m t q (λe=>⟨z,(u e).1,(h e).call A⟩) s
 .exact AY.Mo (f:=f) (args:=[]) k m t q (λB=>absurd B e) s
abbrev Fr:=@AY.Dr
theorem Ad.CH{B:List (Nat×(Sg->Prop))}{i:Nat}{rest:List (Nat×Bool×ej)}{c:Call}{f:FuncId}{ds:List D}{d:D}(h:Pure P f ds d)(g:o.op=.call c)
  (j:o.guard=br/\A6 n o.dst/\A9 tm c/\F1 S tm c f ds) (k:Ad P n b ops ((i,λS'=>S'=S)::B) rest (put tm o.dst (.d d)) S K):Ad P n b ops B ((i,J,o)::rest) tm S K:=by
 obtain⟨m,q,s,t⟩:=j;obtain⟨args,u,w⟩:=GG t;exact vb (λS'=>S'=S) rfl (λhi S' hS=>by subst hS;exact Pi hi g m q u s (h.call w)) k
abbrev kt:=@Ad.CH
theorem Ad.Dr{B:List (Nat×(Sg->Prop))}{i:Nat}{rest:List (Nat×Bool×ej)}{c:Call}{f:FuncId}{ds:List D}{d:D}{j:Nat}{k g:Bool}(m:o.op=.call c)(q:o.guard=al (j,k))
  (s:CN ops tm j k=al g) (h:g=J->Pure P f ds d) (z:A6 n o.dst/\(g=J->A9 tm c/\F1 S tm c f ds))
  (t:Ad P n b ops ((i,λS'=>S'=S)::B) rest (put tm o.dst (H0 g (.d d))) S K):Ad P n b ops B ((i,J,o)::rest) tm S K:=by
 obtain⟨u,w⟩:=z;by_cases e:g=J
 .obtain⟨args,A,C⟩:=GG (w e).2;exact vb (λS'=>S'=S) rfl (λhi S' hS=>by subst hS;exact Bw.Mo hi m q u s λe=>⟨A,(w e).1,(h e).call C⟩) t
 .exact vb (λS'=>S'=S) rfl (λhi S' hS=>by subst hS;exact Bw.Mo (f:=f) (args:=[]) hi m q u s λE=>absurd E e) t
theorem AW.Xn{id:Nat}{Q:Exit->Tm->Sg->Prop}(l:List (Nat×Bool))(m:P.follows .mixedOrders=J)(g:Z l=ops.size)(i:En ops l (QQ ops.size am)=J)
  (s:l.all (λp=>decide (p.1<ops.size))=J) (h:Ad P n b ops [] (GA ops l) tm S (Q .normal)):AW P n b (.region id ops J) Q tm S:=λG w a st hb=>by
 refine wp_region_any m ?_;obtain⟨r1,r2,k⟩:=st.rel.drawn (w':={w with drawn:=w.drawn+1}) rfl rfl rfl;have h1:=h (QQ ops.size am) (λp i=>by
  simp only[GA,fd]at i;obtain⟨q,t,rfl⟩:=i;have u:q.1<ops.size:=by simpa using de.1 s q t
  simp[u]) (by
   have e:(GA ops l).map (λp=>(p.1,p.2.1))=l:=by simp[GA,lm]
   rw[e];exact i)
 have z:Z (GA ops l)=ops.size:=by simp[GA,g]
 rw[z]at h1;refine Ld _ _ _ _ h1 G {w with drawn:=w.drawn+1} a ⟨st.size,st.tm.later k,r1⟩ hb λE w' A=>?_;obtain⟨B,S',tm',j,C⟩:=A;exact⟨B,S',tm',⟨j.st,j.ds,r2.trans j.tr,(k.late hb).trans j.late⟩,C⟩
theorem AW.ia{id:Nat}{Q:Exit->Tm->Sg->Prop}(l:List (Nat×Bool))(i:P.follows .mixedOrders=J)(g:Z l=ops.size)(j:En ops l (QQ ops.size am)=J)
  (k:l.all (λp=>decide (p.1<ops.size))=J) (h:∀K:Tm->Sg->Prop,(∀tm S,Q .normal tm S->K tm S)->Ad P n b ops [] (GA ops l) tm S K):AW P n b (.region id ops J) Q tm S:=
 AW.Xn l i g j k (h _ λ_ _ h=>h)
theorem H9{id:Nat}{Q:Exit->Tm->Sg->Prop}(h:∀K:Tm->Sg->Prop,(∀tm S,Q .normal tm S->K tm S)->AY P n b ops ops.toList tm S K):AW P n b (.region id ops am) Q tm S:=
 AW.region (h _ λ_ _ h=>h)
end
attribute [simp] F1 GA
section
variable {P:Program} {n b:Nat} {tm:Tm} {S:Sg} {ops:Array ej} {K:Tm->Sg->Prop} {Q:Exit->Tm->Sg->Prop}
def xR(P:Program)(n:Nat)(ops:Array ej)(K:Tm->Sg->Prop):List ej->Tm->Sg->Prop
 |[],tm,S=>K tm S
 |o::l,tm,S=>EX P n ops o tm S/\xR P n ops K l (put tm o.dst (Dm P ops o tm S)) (oS P o tm S)
theorem US:∀{l:List ej} {tm:Tm} {S:Sg},xR P n ops K l tm S->AY P n b ops l tm S K
 |[],_,_,h=>CO h
 |_::_,_,_,h=>Cg h.1 (US h.2)
theorem xV{id:Nat}(h:∀K:Tm->Sg->Prop,(∀tm S,Q .normal tm S->K tm S)->xR P n ops K ops.toList tm S):AW P n b (.region id ops am) Q tm S:=
 H9 λK g=>US (h K g)
theorem xW{id:Nat}{y:Code}(h:∀K:Tm->Sg->Prop,(∀tm S,AW P n b y Q tm S->K tm S)->xR P n ops K ops.toList tm S):AW P n b (.seq (.region id ops am) y) Q tm S:=
 Gb λK g=>US (h K g)
theorem xC{c:Operand}{x y z:Code}(h:match ev tm c with|.d (.bool t)=>(t=J->AW P n b x (C8 (AW P n b z Q) Q) tm S)/\(t=am->AW P n b y (C8 (AW P n b z Q) Q) tm S)|_=>False):AW P n b (.seq (.cond c x y) z) Q tm S:=
 xS (AQ h)
theorem xK{y:Code}(h:AW P n b y Q tm S):AW P n b .skip (C8 (AW P n b y Q) Q) tm S:=B8 h
theorem xB{id:Nat}{c y:Code}(h:AW P n b c (Bh id (C8 (AW P n b y Q) Q)) tm S):AW P n b (.seq (.block id c) y) Q tm S:=xS (Bp h)
theorem xQ{next:Tm->Sg->Prop}{i j:Nat}:C8 next Q .normal tm S=next tm S/\C8 next Q .ret tm S=Q .ret tm S/\C8 next Q (.exit i) tm S=Q (.exit i) tm S/\Bh i Q .normal tm S=Q .normal tm S/\Bh i Q .ret tm S=Q .ret tm S/\Bh i Q (.exit j) tm S=if j=i then Q .normal tm S else Q (.exit j) tm S:=⟨rfl,rfl,rfl,rfl,rfl,rfl⟩
def xT:List Nat->List Bool
 |[]=>[]
 |k::l=>(k !=0)::xT l
def xP:List Nat->List (Nat×Bool)
 |[]=>[]
 |k::l=>(k / 2,k % 2==0)::xP l
theorem xE{id:Nat}(l:List Nat)(g:(P.follows .mixedOrders&&(Z (xP l)==ops.size&&(En ops (xP l) (QQ ops.size am)&&(xP l).all λp=>decide (p.1<ops.size))))=J)
  (h:∀K:Tm->Sg->Prop,(∀tm S,Q .normal tm S->K tm S)->Ad P n b ops [] (GA ops (xP l)) tm S K):AW P n b (.region id ops J) Q tm S:=by
 simp only[b9,acG]at g;exact AW.ia (xP l) g.1 g.2.1 g.2.2.1 g.2.2.2 h
theorem xD{id:Nat}{y:Code}(l:List Nat)(g:(P.follows .mixedOrders&&(Z (xP l)==ops.size&&(En ops (xP l) (QQ ops.size am)&&(xP l).all λp=>decide (p.1<ops.size))))=J)
  (h:∀K:Tm->Sg->Prop,(∀tm S,AW P n b y Q tm S->K tm S)->Ad P n b ops [] (GA ops (xP l)) tm S K):AW P n b (.seq (.region id ops J) y) Q tm S:=
 xS (xE l g h)
end
def xI:Nat->Nat->List Nat->List Nat
 |_,0,l=>l
 |i,k+1,l=>i::xI (i+2) k l
def A3(k:Nat)(l:List Nat):List Nat:=xI 0 k l
attribute [simp] xR xT xP xI A3
abbrev wa:=@Option.some.inj
section
variable {P:Program} {n b:Nat} {o:ej} {tm tm':Tm} {S S':Sg} {v:V} {ops:Array ej} {K:Tm->Sg->Prop} {Q:Exit->Tm->Sg->Prop}
theorem AY.ph{rest:List ej}{neg:Bool}{T U:TypeId}{x:Operand}{xs:List D}(u:o.op=.binOp (if neg then .neq else .eql) T x (.const (.slice br 0 0)) U)
  (z:o.guard=br/\A6 n o.dst/\(BB P T).isSome=J/\need (ev tm x)/\(strip (ev tm x)=.d (.sl xs)\/strip (ev tm x)=.full xs))
  (h:∀t:Bool,(xs≠[]->t=am)->AY P n b ops rest (put tm o.dst (.d (.bool (t !=neg)))) S K):AY P n b ops (o::rest) tm S K:=λk s G w a Q st hb A=>by
 obtain⟨B,C,F,H,L⟩:=z;obtain⟨E,M⟩:=ol.1 F;obtain⟨t,N,R⟩:=A8 M;have h0:ops[k]?=al o:=by simpa using(s 0).symm
 obtain⟨i,W,X⟩:=nil_eq u N R H L st;simp[abW];rw[ac0];unfold wpOp;simp[h0,Region.wanted,B];left;unfold Oper.wp;rw[X];simp[Oper.upon];have m:St P n G S w (a.put o.dst (.bool (i !=neg))) (put tm o.dst (.d (.bool (i !=neg)))):=st.put C (.d _ _ (.bool _)) st.rel (aev _ _ _);refine h i W (k+1) (λj=>by have:=s (j+1);simp at this;rw[this];congr 1;omega) G w _ Q m hb λY w2 hh=>?_;obtain⟨G2,S2,q,g,hK⟩:=hh;exact A Y w2 ⟨G2,S2,q,⟨g.st,g.ds.trans Cv,g.tr,g.late⟩,hK⟩
theorem AY.ghost{l:List ej}(g:AJ P n b tm S tm' S')(h:AY P n b ops l tm' S' K):AY P n b ops l tm S K:=λk q G w a Q st hb s=>by
 obtain⟨u,j,t,l⟩:=g G w a st hb;refine h k q u w a Q j l.len λz A B=>?_;obtain⟨C,E,m,i,F⟩:=B;exact s z A ⟨C,E,m,⟨i.st,i.ds,t.trans i.tr,l.trans i.late⟩,F⟩
abbrev z0:=@AY.ghost
def DR(S:Sg):List V->Option (List D)
 |[]=>al []
 |x::g=>match BC S x,DR S g with
  |some d,al ds=>al (d::ds)
  |_,_=>br
theorem QW:∀{g:List V} {ds:List D},DR S g=al ds->Z ds=Z g/\∀i (h:i<Z g) (t:i<Z ds),BC S g[i]=al ds[i]
 |[],ds,h=>by simp[DR]at h;subst h;exact⟨rfl,λi h=>by simp at h⟩
 |x::g,ds,h=>by
  simp[DR]at h;split at h
  .rename_i d j h1 k;cases h;obtain⟨m,q⟩:=QW k;refine⟨by simp[m],λi hi s=>?_⟩;cases i with
   |zero=>exact h1
   |succ i=>simpa using q i (by simpa using hi) (by simpa using s)
  .cases h
@[simp] theorem Cr(S:Sg)(xs:List D):DR S (xs.map .d)=al xs:=by
 induction xs with
 |nil=>rfl
 |cons x xs g=>simp[DR,BC,CZ,g]
@[simp] theorem Ck{α:Type}(S:Sg)(f:α->D)(xs:List α):DR S (xs.map λx=>V.d (f x))=al (xs.map f):=by
 induction xs with
 |nil=>rfl
 |cons x xs g=>simp[DR,BC,CZ,g]
theorem AJ.B7(r:Nat){wr:Bool}{sz:Nat}{els:List V}{xs:List D}(E:S[r]?=al (.row wr sz els))(U:DR S els=al xs):AJ P n b tm S tm (S.set r (.BQ xs)):=λG w a st hb=>by
 have R:=st.rel;have zV:=Ai E;obtain⟨hl,zy⟩:=QW U;have F:=R.DX r _ E;let H:Gh:={G with I:=λk=>G.I k\/(k=G.Cf r/\G.BJ r=br)};have Dj:(S.set r (.BQ xs))[r]?=al (.BQ xs):=by simp[zV]
 have C:∀m,m≠r->(S.set r (.BQ xs))[m]?=S[m]?:=λm h=>by simp[sn (ru h)]
 have L:BH G S w H (S.set r (.BQ xs)) w:=by
  refine⟨λk s=>.inl s,λ_ _=>rfl,by simp,λm W n' zK=>?_,λm W X=>?_⟩
  .by_cases e:m=r
   .subst e;have:n'=Z xs:=by simpa[lenOf,Dj]using zK.symm
    exact⟨Z els,by simp[lenOf,E],by omega,λ_=>⟨rfl,rfl,rfl,.inr (by simp[C0,Dj])⟩⟩
   .have:lenOf (S.set r (.BQ xs)) m=lenOf S m:=by simp[lenOf,C m e]
    exact⟨n',by rw[<-this];exact zK,ci _,λ_=>⟨rfl,rfl,rfl,.inl (by simp[C0,C m e])⟩⟩
  .by_cases e:m=r
   .subst e;simp[Bn,Dj]at X
   .exact⟨by simp[Bn,C m e]at X;exact X,rfl⟩
 have own:∀k,HG H (S.set r (.BQ xs)) k->HG G S k/\¬(k=G.Cf r/\G.BJ r=br):=by
  rintro k ⟨m,x,h1,u,h3⟩;by_cases e:m=r
  .subst e;rw[Dj]at h1;cases h1;simp[Bb]at u
  .rw[C m e]at h1;have M:Bb G m x=true:=u;refine⟨⟨m,x,h1,M,h3⟩,λ⟨s,z⟩=>?_⟩;have:G.Cf m=G.Cf r:=by rw[<-s,h3]
   exact e (R.inj m r x _ h1 E M (by simp[Bb,z]) this)
 have A:G.BJ r=br->HG G S (G.Cf r):=λz=>⟨r,_,E,by simp[Bb,z],rfl⟩;refine⟨H,⟨st.size,st.tm.later L,⟨R.HU.later L,λm x t=>?_,λr1 r2 x1 x2 h1 u o1 o2 he=>?_,λk s=>?_,λk s=>?_,λk s=>R.Ik k (own k s).1⟩⟩,⟨ci _,λk s=>.inl s,λ_ _ _=>rfl,λk s=>.inl (own k s).1,λk s=>?_,rfl,rfl⟩,L.late hb⟩
 .by_cases e:m=r
  .subst e;rw[Dj]at t;cases t;simp[OK];have Y:H.BP m (Z xs)=G.BP m (Z xs):=rfl;rw[Y];simp only[OK]at F;cases z:G.BJ m with
   |none=>
    simp only[z]at F;obtain⟨c,T,g1,g2,g3,g4,g5⟩:=F;unfold Gh.BP;simp[z];let N:Nat->Value:=λi=>if h:i<Z els then(g5 i h).choose else undef;have B:∀i (h:i<Z els),CV G S w els[i] (N i)/\(N i).cells.size=sz/\∀j,j<sz->c[(G.cap m).2+(i * sz+j)]?=(N i).cells[j]?:=λi hi=>by
     have:=(g5 i hi).choose_spec;simp[N,hi,adV];exact⟨this.1,this.2.1,this.2.2.2⟩
    refine .sl sz xs _ (G.cap m).2 _ N (.inr ⟨rfl,z⟩) (by omega) (by omega) (λi hi=>?_) (λi hi=>⟨(B i (by omega)).2.1,λj hj=>?_⟩)
    .have ze:i<Z els:=by omega
     exact(((B i ze).1.BC R (zy i ze hi))).mono (λk s=>.inl s) (λ_ _=>rfl)
    .rw[cell_of g1,q7];exact(B i (by omega)).2.2 j hj
   |some q=>
    simp[z]at F;obtain⟨_,_,ys,rfl,hc⟩:=F;have hxy:xs=ys:=by
     rw[Cr]at U;exact(wa U).symm
    subst hxy;unfold Gh.BP;simp[z];exact hc.mono (λk s=>.inl s) (λ_ _=>rfl)
  .rw[C m e]at t;exact(R.DX m x t).later L (λ_=>rfl) rfl rfl rfl
 .have g:∀m x,(S.set r (.BQ xs))[m]?=al x->Bb H m x=J->∃x',S[m]?=al x'/\Bb G m x'=true:=λm x t hw=>by
   by_cases e:m=r
   .subst e;rw[Dj]at t;cases t;simp[Bb]at hw
   .rw[C m e]at t;exact⟨x,t,hw⟩
  obtain⟨y1,g1,p1⟩:=g r1 x1 h1 o1;obtain⟨y2,g2,p2⟩:=g r2 x2 u o2;exact R.inj r1 r2 y1 y2 g1 g2 p1 p2 he
 .rintro(h|⟨h1,u⟩)
  .exact R.nI k (own k s).1 h
  .exact(own k s).2 ⟨h1,u⟩
 .rcases s with h|⟨h1,u⟩
  .exact R.Kf k h
  .rw[h1];exact R.Ik _ (A u)
 .rcases s with h|⟨h1,u⟩
  .exact .inl h
  .rw[h1];exact .inr (.inl (A u))
abbrev fc:=@AJ.B7
end
mutual
def BU(ρ:Nat->Nat):V->V
 |.row r n=>.row (ρ r) n
 |.ptr r n i j=>.ptr (ρ r) n i j
 |.map r=>.map (ρ r)
 |.fn f k m=>.fn f (CE ρ k) (CE ρ m)
 |.agg h=>.agg (CE ρ h)
 |.CA h=>.CA (CE ρ h)
 |.opt g v=>.opt g (BU ρ v)
 |.any=>.any
 |.d d=>.d d
 |.full o=>.full o
 |.DW h=>.DW h
def CE(ρ:Nat->Nat):List V->List V
 |[]=>[]
 |x::g=>BU ρ x::CE ρ g
end
def DM(ρ:Nat->Nat):O->O
 |.row h sz g=>.row h sz (CE ρ g)
 |.map i=>.map (i.map λp=>(p.1,BU ρ p.2))
 |.BQ j=>.BQ j
 |.dead=>.dead
theorem ET(ρ:Nat->Nat)(xs:List V):CE ρ xs=xs.map (BU ρ):=by
 induction xs with
 |nil=>rfl
 |cons x xs g=>simp[CE,g]
structure cZ(ρ:Nat->Nat)(G0:Gh)(S0:Sg)(G:Gh)(S:Sg):Prop where
 I:∀b,G0.I b↔G.I b
 lt:∀i,i<Z S0->ρ i<Z S
 len:∀i,i<Z S0->lenOf S (ρ i)=lenOf S0 i
 sz:∀i,i<Z S0->C0 S (ρ i)=C0 S0 i
 map:∀i,i<Z S0->Bn S (ρ i)=Bn S0 i
 Cf:∀i,i<Z S0->G0.Cf i=G.Cf (ρ i)
 cap:∀i,i<Z S0->G0.cap i=G.cap (ρ i)
 BJ:∀i,i<Z S0->G0.BJ i=G.BJ (ρ i)
theorem cZ.BP{ρ:Nat->Nat}{G0:Gh}{S0:Sg}{G:Gh}{S:Sg}(E:cZ ρ G0 S0 G S){i:Nat}(hi:i<Z S0)(n:Nat):G0.BP i n=G.BP (ρ i) n:=by
 simp[Gh.BP,E.Cf i hi,E.cap i hi,E.BJ i hi]
theorem cZ.addr{ρ:Nat->Nat}{G0:Gh}{S0:Sg}{G:Gh}{S:Sg}(E:cZ ρ G0 S0 G S){i:Nat}(hi:i<Z S0)(n:Nat):G0.addr i n=G.addr (ρ i) n:=by
 simp[Gh.addr,E.Cf i hi,E.cap i hi,E.BJ i hi]
theorem CV.tB{ρ:Nat->Nat}{G0:Gh}{S0:Sg}{G:Gh}{S:Sg}(E:cZ ρ G0 S0 G S){w:World}{x:V}{v:Value}(h:CV G0 S0 w x v):CV G S w (BU ρ x) v:=by
 have u:∀b,G0.I b->G.I b:=λb=>(E.I b).1;induction h with
 |any v=>exact .any v
 |d d v h=>exact .d d v (h.mono u λ_ _=>rfl)
 |full F a h=>exact .full F a (h.mono u λ_ _=>rfl)
 |row r n v o k h=>
  refine .row _ _ _ o (E.lt r k) λm q=>?_;obtain⟨h1,s⟩:=h m (by rw[<-E.len r k];exact q);exact⟨h1,λe=>by rw[s e,E.BP k]⟩
 |ptr r n i j v o k h=>
  refine .ptr _ _ _ _ _ o (E.lt r k) λm q=>?_;obtain⟨h1,s⟩:=h m (by rw[<-E.len r k];exact q);exact⟨h1,λe sz H=>by rw[s e sz (by rw[<-E.sz r k];exact H),E.addr k]⟩
 |DW z b off A B h=>exact .DW z b off A (u _ B) λj hj=>⟨(h j hj).1,(h j hj).2.1.mono u λ_ _=>rfl,(h j hj).2.2⟩
 |map r v o k h=>exact .map _ _ o (E.lt r k) λq=>by rw[h (by rw[<-E.map r k];exact q),E.Cf r k]
 |fn f K P F Q h1 s R T L M=>
  simp[BU,ET];exact .fn _ _ _ _ _ (by simp[h1]) (by simp[s]) (λi hi=>by simpa using L i (by simpa using hi)) (λi hi=>by simpa using M i (by simpa using hi))
 |agg z A C h o t=>
  simp[BU,ET];exact .agg _ _ (by simp[C]) (λi hi=>by simpa using t i (by simpa using hi)) o
 |CA z A C h t=>
  simp[BU,ET];exact .CA _ _ (by simp[C]) (λi hi=>by simpa using t i (by simpa using hi))
 |opt g x v h N t=>exact .opt _ _ _ t N
theorem CV.P6{ρ:Nat->Nat}{G0:Gh}{S0:Sg}{G:Gh}{S:Sg}(E:cZ ρ G0 S0 G S){w:World}{y:V}{v:Value}(h:CV G S w y v):∀{x:V},y=BU ρ x->AP (Z S0) x=J->CV G0 S0 w x v:=by
 have z:∀b,G.I b->G0.I b:=λb=>(E.I b).2;induction h with
 |any v=>
  intro x e hb;cases x<;>simp[BU]at e;exact .any v
 |d d v h=>
  intro x e hb;cases x<;>simp[BU]at e;subst e;exact .d _ v (h.mono z λ_ _=>rfl)
 |full L a h=>
  intro x e hb;cases x<;>simp[BU]at e;subst e;exact .full _ a (h.mono z λ_ _=>rfl)
 |row r n v q F h=>
  intro x e hb;cases x<;>simp[BU]at e;rename_i o M;obtain⟨rfl,rfl⟩:=e;have k:o<Z S0:=by simpa[AP]using hb
  refine .row _ _ _ q k λm s=>?_;obtain⟨h1,t⟩:=h m (by rw[E.len o k];exact s);exact⟨h1,λe=>by rw[t e,E.BP k]⟩
 |ptr r n i j v q F h=>
  intro x e hb;cases x<;>simp[BU]at e;rename_i o M X Y;obtain⟨rfl,rfl,rfl,rfl⟩:=e;have k:o<Z S0:=by simpa[AP]using hb
  refine .ptr _ _ _ _ _ q k λm s=>?_;obtain⟨h1,t⟩:=h m (by rw[E.len o k];exact s);exact⟨h1,λe sz N=>by rw[t e sz (by rw[E.sz o k];exact N),E.addr k]⟩
 |DW H b off A B h=>
  intro x e hb;cases x<;>simp[BU]at e;subst e;exact .DW _ b off A (z _ B) λj hj=>⟨(h j hj).1,(h j hj).2.1.mono z λ_ _=>rfl,(h j hj).2.2⟩
 |map r v q F h=>
  intro x e hb;cases x<;>simp[BU]at e;rename_i o;subst e;have k:o<Z S0:=by simpa[AP]using hb
  exact .map _ _ q k λs=>by rw[h (by rw[E.map o k];exact s),E.Cf o k]
 |fn f P bs L ys h1 t h3 h4 Q R=>
  intro x e hb;cases x<;>simp[BU,ET]at e;rename_i f' K T;obtain⟨rfl,rfl,rfl⟩:=e;simp[AP]at hb;refine .fn _ _ _ _ _ (by simpa using h1) (by simpa using t) (λi hi=>Q i (by simpa using hi) (by simp) (DZ hb.1 i hi)) (λi hi=>R i (by simpa using hi) (by simp) (DZ hb.2 i hi))
 |agg H A C h q u=>
  intro x e hb;cases x<;>simp[BU,ET]at e;subst e;exact .agg _ _ (by simpa using C) (λi hi=>u i (by simpa using hi) (by simp) (DZ hb i hi)) q
 |CA H A C h u=>
  intro x e hb;cases x<;>simp[BU,ET]at e;subst e;exact .CA _ _ (by simpa using C) (λi hi=>u i (by simpa using hi) (by simp) (DZ hb i hi))
 |opt g x v h U u=>
  intro x e hb;cases x<;>simp[BU]at e;obtain⟨rfl,rfl⟩:=e;exact .opt _ _ _ (λW=>u W rfl (by simpa[AP]using hb)) U
theorem Ky(ρ:Nat->Nat)(o:O){S S0:Sg}{i j:Nat}(h:S0[i]?=al o)(g:S[j]?=al (DM ρ o)):lenOf S j=lenOf S0 i/\C0 S j=C0 S0 i/\Bn S j=Bn S0 i:=by
 cases o<;>simp[lenOf,C0,Bn,h,g,DM,ET]
theorem Du{ρ:Nat->Nat}{G0 G:Gh}{i j:Nat}(o:O)(h:G0.BJ i=G.BJ j):Bb G j (DM ρ o)=Bb G0 i o:=by
 cases o<;>simp[Bb,DM,h]
section
variable {P:Program} {n b:Nat} {o:Oper} {tm tm':Tm} {S S0 S0' S':Sg} {v:V}
theorem OK.P6{ρ:Nat->Nat}{G0 G:Gh}{w:World}(E:cZ ρ G0 S0 G S){i:Nat}(hi:i<Z S0){o:O}(h:OK G S w (ρ i) (DM ρ o))(hb:Ao (Z S0) o=J):OK G0 S0 w i o:=by
 have t:∀b,G.I b->G0.I b:=λb=>(E.I b).2;cases o with
 |row wr sz j=>
  simp only[OK,DM,ET]at h⊢;rw[E.BJ i hi,E.Cf i hi,E.cap i hi];cases F:G.BJ (ρ i)with
  |none=>
   simp only[F]at h⊢;obtain⟨c,T,z,A,B,L,M⟩:=h;refine⟨c,T,z,A,by simpa using B,by simpa using L,λk q=>?_⟩;obtain⟨u,N,Q,R,U⟩:=M k (by simpa using q);exact⟨u,N.P6 E (by simp) (DZ hb k q),Q,R,U⟩
  |some a=>
   simp[F]at h⊢;obtain⟨h1,W,s,H,X⟩:=h;refine⟨h1,by simpa using W,s,?_,X.mono t λ_ _=>rfl⟩;apply abG
   .have:=mn Z H;simpa using this
   .intro k k1 k2;have e:=mn (·[k]?) H;have k3:k<Z s:=by simpa using k2
    simp[dl k1,dl k3]at e;have:j[k]=.d s[k]:=by
     generalize j[k]=y at e;cases y<;>simp[BU]at e;subst e;rfl
    simpa using this
 |BQ s=>
  simp[OK,DM]at h⊢;rw[E.BP hi];exact h.mono t λ_ _=>rfl
 |map K=>
  simp[OK,DM]at h⊢;rw[E.Cf i hi];obtain⟨m,g,z,A,Y,B⟩:=h;refine⟨m,g,z,by simpa using A,by simpa using Y,λk q=>?_⟩;obtain⟨e,e1,e2,e3,e4,e5⟩:=B k (by simpa using q);have C:AP (Z S0) K[k].2=true:=de.1 hb K[k] (by simp);exact⟨e,e1,by simpa using e2.mono t λ_ _=>rfl,e3.P6 E (by simp) C,e4,e5⟩
 |dead=>trivial
theorem OK.tB{ρ:Nat->Nat}{G0 G:Gh}{w:World}(E:cZ ρ G0 S0 G S){i:Nat}(hi:i<Z S0){o:O}(h:OK G0 S0 w i o):OK G S w (ρ i) (DM ρ o):=by
 have m:∀b,G0.I b->G.I b:=λb=>(E.I b).1;cases o with
 |row wr sz C=>
  simp only[OK,DM,ET]at h⊢;rw[E.BJ i hi,E.Cf i hi,E.cap i hi]at h;cases A:G.BJ (ρ i)with
  |none=>
   simp only[A]at h⊢;obtain⟨c,T,q,s,t,F,H⟩:=h;refine⟨c,T,q,s,by simpa using t,by simpa using F,λk z=>?_⟩;obtain⟨u,K,L,M,N⟩:=H k (by simpa using z);exact⟨u,by simpa using K.tB E,L,M,N⟩
  |some a=>
   simp[A]at h⊢;obtain⟨h1,Q,B,rfl,R⟩:=h;exact⟨h1,by simpa using Q,B,by simp[BU,lm],R.mono m λ_ _=>rfl⟩
 |BQ B=>
  simp[OK,DM]at h⊢;rw[E.BP hi]at h;exact h.mono m λ_ _=>rfl
 |map es=>
  simp[OK,DM]at h⊢;rw[E.Cf i hi]at h;obtain⟨j,g,q,s,U,t⟩:=h;refine⟨j,g,q,by simpa using s,by simpa using U,λk z=>?_⟩;obtain⟨e,W,X,Y,e4,e5⟩:=t k (by simpa using z);exact⟨e,W,by simpa using X.mono m λ_ _=>rfl,by simpa using Y.tB E,e4,e5⟩
 |dead=>trivial
def FP(ρ:Nat->Nat)(k m:Nat):Nat->Nat:=λi=>if i<k then ρ i else m+(i - k)
structure T8(ρ:Nat->Nat)(S S0 S0' S':Sg):Prop where
 inj:∀i j:Nat,i<Z S0->j<Z S0->ρ i=ρ j->i=j
 KS:∀i:Nat,i<Z S0->∃o:O,S0[i]?=al o/\S[ρ i]?=al (DM ρ o)
 below:∀(i:Nat) (o:O),S0[i]?=al o->Ao (Z S0) o=J
 new:∀(i:Nat) (o:O),S0'[i]?=al o->S'[FP ρ (Z S0) (Z S) i]?=al (DM (FP ρ (Z S0) (Z S)) o)
 rest:∀r:Nat,r<Z S->(∀i:Nat,i<Z S0->ρ i≠r)->S'[r]?=S[r]?
 len:Z S'=Z S+(Z S0' - Z S0)
open Classical in
theorem BL.frame{f:go}{args:List V}{RR:V->Sg->Prop}(h:BL P f args S0 RR)(ρ:Nat->Nat)(F:Sg->Sg){S1 S2:Sg}(M0:T8 ρ S S0 S1 S2)(hM:∀v S0',RR v S0'->T8 ρ S S0 S0' (F S0')/\Z S0<=Z S0')(hb:∀x∈args,AP (Z S0) x=J):
  BL P f (args.map (BU ρ)) S (λv' S'=>∃v S0',RR v S0'/\v'=BU (FP ρ (Z S0) (Z S)) v/\S'=F S0'):=by
 refine⟨h.1,λG w cargs R zg zd=>?_⟩;let G0:Gh:={I:=G.I,Cf:=λi=>G.Cf (ρ i),cap:=λi=>G.cap (ρ i),BJ:=λi=>G.BJ (ρ i)};have t:∀i,i<Z S0->lenOf S (ρ i)=lenOf S0 i/\C0 S (ρ i)=C0 S0 i/\Bn S (ρ i)=Bn S0 i:=λi hi=>by
  obtain⟨o,h1,q⟩:=M0.KS i hi;exact Ky ρ o h1 q
 have E:cZ ρ G0 S0 G S:=⟨λ_=>Iff.rfl,λi hi=>by obtain⟨o,_,q⟩:=M0.KS i hi;exact Ai q,λi hi=>(t i hi).1,λi hi=>(t i hi).2.1,λi hi=>(t i hi).2.2,λ_ _=>rfl,λ_ _=>rfl,λ_ _=>rfl⟩;have Q:∀k,HG G0 S0 k->HG G S k:=by
  rintro k ⟨i,o,h1,q,h3⟩;have hi:=Ai h1;obtain⟨o',z,U⟩:=M0.KS i hi;rw[h1]at z;cases z;exact⟨ρ i,_,U,by rw[Du (ρ:=ρ) (G0:=G0) (G:=G) (i:=i) (j:=ρ i) o rfl];exact q,h3⟩
 have R0:Rel P G0 S0 w:=by
  refine⟨R.HU,λi o ho=>?_,λi j x y hx hy ox oy he=>?_,λk B=>R.nI k (Q k B),R.Kf,λk B=>R.Ik k (Q k B)⟩
  .have hi:=Ai ho;obtain⟨o',z,U⟩:=M0.KS i hi;rw[ho]at z;cases z;exact(R.DX _ _ U).P6 E hi (M0.below i o ho)
  .obtain⟨x',z,U⟩:=M0.KS i (Ai hx);obtain⟨y',g3,g4⟩:=M0.KS j (Ai hy);rw[hx]at z;cases z;rw[hy]at g3;cases g3;exact M0.inj i j (Ai hx) (Ai hy) (R.inj (ρ i) (ρ j) _ _ U g4 (by rw[Du (ρ:=ρ) (G0:=G0) (G:=G) (i:=i) (j:=ρ i) x rfl];exact ox) (by rw[Du (ρ:=ρ) (G0:=G0) (G:=G) (i:=j) (j:=ρ j) y rfl];exact oy) he)
 refine(h.2 G0 w cargs R0 (by simpa using zg) (λi hi ze=>(zd i (by simpa using hi) ze).P6 E (by simp) (hb _ (cF hi)))).mono ?_;rintro e w' ⟨cv,s,v,S0',hRR,he,hcv,R0',T0,L0⟩;obtain⟨M,hle⟩:=hM _ _ hRR;generalize hS':F S0'=S' at M;let g:=FP ρ (Z S0) (Z S);have hρ:∀i,i<Z S0->g i=ρ i:=λi hi=>by simp[g,FP,hi]
 have X:∀i,Z S0<=i->g i=Z S+(i - Z S0):=λi hi=>by simp[g,FP,Nat.not_lt.2 hi]
 have hinj:∀i j,i<Z S0'->j<Z S0'->g i=g j->i=j:=λi j hi hj hij=>by
  by_cases a1:i<Z S0<;>by_cases a2:j<Z S0
  .rw[hρ i a1,hρ j a2]at hij;exact M.inj i j a1 a2 hij
  .rw[hρ i a1,X j (by omega)]at hij;have:=E.lt i a1;omega
  .rw[X i (by omega),hρ j a2]at hij;have:=E.lt j a2;omega
  .rw[X i (by omega),X j (by omega)]at hij;omega
 let A (r:Nat):Option Nat:=if h:∃i,i<Z S0'/\g i=r then al h.choose else none;have hback:∀i,i<Z S0'->A (g i)=al i:=λi hi=>by
  have u:∃j,j<Z S0'/\g j=g i:=⟨i,hi,rfl⟩;have:=u.choose_spec;simp[A,u,adV];rw[hinj _ _ this.1 hi this.2]
 have hnone:∀r,(∀i,i<Z S0'->g i≠r)->A r=none:=λr hr=>by
  have:¬∃i,i<Z S0'/\g i=r:=λ⟨i,h1,q⟩=>hr i h1 q;simp[A,this,dif_neg,not_false_eq_true]
 let W:Gh:={I:=s.I,Cf:=λr=>match A r with|some i=>s.Cf i|none=>G.Cf r,cap:=λr=>match A r with|some i=>s.cap i|none=>G.cap r,BJ:=λr=>match A r with|some i=>s.BJ i|none=>G.BJ r};have gB:∀i,i<Z S0'->W.Cf (g i)=s.Cf i/\W.cap (g i)=s.cap i/\W.BJ (g i)=s.BJ i:=λi hi=>by simp[W,hback i hi]
 have gN:∀r,(∀i,i<Z S0'->g i≠r)->W.Cf r=G.Cf r/\W.cap r=G.cap r/\W.BJ r=G.BJ r:=λr hr=>by simp[W,hnone r hr]
 have get':∀i,i<Z S0'->∃o,S0'[i]?=al o/\S'[g i]?=al (DM g o):=λi hi=>⟨S0'[i],dl hi,M.new i _ (dl hi)⟩;have m:∀i,i<Z S0'->lenOf S' (g i)=lenOf S0' i/\C0 S' (g i)=C0 S0' i/\Bn S' (g i)=Bn S0' i:=λi hi=>by
  obtain⟨o,h1,q⟩:=get' i hi;exact Ky g o h1 q
 have E':cZ g s S0' W S':=⟨λ_=>Iff.rfl,λi hi=>by obtain⟨o,_,q⟩:=get' i hi;exact Ai q,λi hi=>(m i hi).1,λi hi=>(m i hi).2.1,λi hi=>(m i hi).2.2,λi hi=>(gB i hi).1.symm,λi hi=>(gB i hi).2.1.symm,λi hi=>(gB i hi).2.2.symm⟩;have H:∀r x,S'[r]?=al x->(∃i,∃_:i<Z S0',g i=r/\∃o,S0'[i]?=al o/\x=DM g o)\/(r<Z S/\(∀i,i<Z S0'->g i≠r)/\S[r]?=al x):=λr x hx=>by
  by_cases u:∃i,i<Z S0'/\g i=r
  .obtain⟨i,hi,rfl⟩:=u;obtain⟨o,z,U⟩:=get' i hi;rw[U]at hx;cases hx;exact .inl ⟨i,hi,rfl,o,z,rfl⟩
  .have N:∀i,i<Z S0'->g i≠r:=λi hi e=>u ⟨i,hi,e⟩;have zV:r<Z S:=by
    have h1:=Ai hx;rw[M.len]at h1;rcases x3 r (Z S) with q|q
    .exact q
    .exact absurd (X (Z S0+(r - Z S)) (by omega)) (by have:=N (Z S0+(r - Z S)) (by omega);intro e;apply this;rw[e];omega)
   exact .inr ⟨zV,N,by rw[<-M.rest r zV (λi hi e=>N i (by omega) (by rw[hρ i hi];exact e))];exact hx⟩
 have ownC:∀k,HG W S' k->HG s S0' k\/∃r x,(∀i,i<Z S0'->g i≠r)/\S[r]?=al x/\Bb G r x=J/\k=G.Cf r:=by
  rintro k ⟨r,x,h1,q,h3⟩;rcases H r x h1 with⟨i,hi,rfl,o,z,rfl⟩|⟨zV,N,hS⟩
  .left;exact⟨i,o,z,by rw[Du o (G0:=s) (i:=i) (gB i hi).2.2.symm]at q;exact q,by rw[h3,(gB i hi).1]⟩
  .right;have hv:=gN r N;refine⟨r,x,N,hS,?_,by rw[h3,hv.1]⟩;cases x<;>simp[Bb]at q⊢;rw[hv.2.2]at q;exact q
 have Y:∀r x,(∀i,i<Z S0'->g i≠r)->S[r]?=al x->Bb G r x=J->¬HG G0 S0 (G.Cf r):=by
  rintro r x N hx ho ⟨i,o,h1,q,h3⟩;have hi:=Ai h1;obtain⟨o',z,U⟩:=M.KS i hi;rw[h1]at z;cases z;have:=R.inj r (ρ i) _ _ hx U ho (by rw[Du (ρ:=ρ) (G0:=G0) (G:=G) (i:=i) (j:=ρ i) o rfl];exact q) h3;exact N i (by omega) (by rw[hρ i hi];exact this.symm)
 have L:BH G S w W S' w':=by
  refine⟨λk B=>L0.I k B,λk B=>L0.EV k B,by rw[M.len];omega,λr hr n' zK=>?_,λr hr hm=>?_⟩
  .by_cases u:∃i,i<Z S0/\ρ i=r
   .obtain⟨i,hi,rfl⟩:=u;have ze:i<Z S0':=by omega
    rw[<-hρ i hi]at zK⊢;rw[(m i ze).1]at zK;obtain⟨n0,a1,a2,a3⟩:=L0.row i hi n' zK;refine⟨n0,by rw[hρ i hi,(t i hi).1];exact a1,a2,λe=>?_⟩;obtain⟨b1,b2,b3,b4⟩:=a3 e;obtain⟨c1,c2,c3⟩:=gB i ze;rw[c1,c2,c3,(m i ze).2.1,hρ i hi,(t i hi).2.1];exact⟨b1,b2,b3,b4⟩
   .have N:∀i,i<Z S0'->g i≠r:=λi hi e=>by
     by_cases a:i<Z S0
     .exact u ⟨i,a,by rw[<-hρ i a];exact e⟩
     .rw[X i (by omega)]at e;omega
    have K:=M.rest r hr λi hi e=>u ⟨i,hi,e⟩;obtain⟨c1,c2,c3⟩:=gN r N;refine⟨n',by simpa only[lenOf,K]using zK,ci _,λ_=>⟨c1,c2,c3,.inl (by simp[C0,K])⟩⟩
  .by_cases u:∃i,i<Z S0/\ρ i=r
   .obtain⟨i,hi,rfl⟩:=u;have ze:i<Z S0':=by omega
    rw[<-hρ i hi]at hm⊢;rw[(m i ze).2.2]at hm;obtain⟨a1,a2⟩:=L0.map i hi hm;exact⟨by rw[hρ i hi,(t i hi).2.2];exact a1,by rw[(gB i ze).1,a2,hρ i hi]⟩
   .have N:∀i,i<Z S0'->g i≠r:=λi hi e=>by
     by_cases a:i<Z S0
     .exact u ⟨i,a,by rw[<-hρ i a];exact e⟩
     .rw[X i (by omega)]at e;omega
    have K:=M.rest r hr λi hi e=>u ⟨i,hi,e⟩;exact⟨by simpa only[Bn,K]using hm,(gN r N).1⟩
 have T:Tr G S w W S' w':=by
  refine⟨T0.size,λk B=>T0.I k B,λk B hn=>T0.EV k B λho=>hn (Q k ho),λk B=>?_,λk B=>?_,T0.os,T0.out⟩
  .rcases ownC k B with h1|⟨r,x,_,q,h3,h4⟩
   .exact(T0.own k h1).imp (Q k) id
   .exact .inl ⟨r,x,q,h3,h4⟩
  .rcases T0.im k B with h1|h1|h1
   .exact .inl h1
   .exact .inr (.inl (Q k h1))
   .exact .inr (.inr h1)
 refine⟨cv,W,_,S',⟨v,S0',hRR,rfl,hS'.symm⟩,he,hcv.tB E',⟨R.HU.later L,λr x hx=>?_,λr1 r2 x1 x2 h1 q o1 o2 C=>?_,λk B=>?_,λk B=>R0'.Kf k B,λk B=>?_⟩,T,L⟩
 .rcases H r x hx with⟨i,hi,rfl,o,z,rfl⟩|⟨zV,N,hS⟩
  .exact(R0'.DX i o z).tB E' hi
  .obtain⟨c1,c2,c3⟩:=gN r N;exact(R.DX r x hS).later L (λhw=>T0.EV _ (R.Ik _ ⟨r,x,hS,hw,rfl⟩) (Y r x N hS hw)) c1 c2 c3
 .have side:∀r x,S'[r]?=al x->Bb W r x=J->(∃i,∃_:i<Z S0',g i=r/\∃o,S0'[i]?=al o/\Bb s i o=J/\W.Cf r=s.Cf i)\/((∀i,i<Z S0'->g i≠r)/\S[r]?=al x/\Bb G r x=J/\W.Cf r=G.Cf r):=λr x hx ho=>by
   rcases H r x hx with⟨i,hi,rfl,o,z,rfl⟩|⟨zV,N,hS⟩
   .exact .inl ⟨i,hi,rfl,o,z,by rw[Du o (G0:=s) (i:=i) (gB i hi).2.2.symm]at ho;exact ho,(gB i hi).1⟩
   .have hv:=gN r N;refine .inr ⟨N,hS,?_,hv.1⟩;cases x<;>simp[Bb]at ho⊢;rw[hv.2.2]at ho;exact ho
  have clash:∀i o r x,S0'[i]?=al o->Bb s i o=J->(∀i,i<Z S0'->g i≠r)->S[r]?=al x->Bb G r x=J->s.Cf i≠G.Cf r:=λi o r x z U g3 g4 g5 C=>by
   rcases T0.own _ ⟨i,o,z,U,rfl⟩with h|h
   .exact Y r x g3 g4 g5 (by rw[<-C];exact h)
   .have:=R.Ik _ ⟨r,x,g4,g5,rfl⟩;omega
  rcases side r1 x1 h1 o1 with⟨i,hi,rfl,o,z,U,g3⟩|⟨z,U,g3,g4⟩
  .rcases side r2 x2 q o2 with⟨j,hj,rfl,o',k1,k2,k3⟩|⟨k1,k2,k3,k4⟩
   .rw[g3,k3]at C;rw[R0'.inj i j o o' z k1 U k2 C]
   .rw[g3,k4]at C;exact absurd C (clash i o r2 x2 z U k1 k2 k3)
  .rcases side r2 x2 q o2 with⟨j,hj,rfl,o',k1,k2,k3⟩|⟨k1,k2,k3,k4⟩
   .rw[g4,k3]at C;exact absurd C.symm (clash j o' r1 x1 k1 k2 z U g3)
   .rw[g4,k4]at C;exact R.inj r1 r2 x1 x2 U k2 g3 k3 C
 .rcases ownC k B with h1|⟨r,x,h1,q,h3,h4⟩
  .exact R0'.nI k h1
  .intro hI;rcases T0.im k hI with a|a|a
   .exact R.nI k ⟨r,x,q,h3,h4⟩ a
   .exact Y r x h1 q h3 (by rw[<-h4];exact a)
   .have:=R.Ik k ⟨r,x,q,h3,h4⟩;omega
 .rcases ownC k B with h1|⟨r,x,h1,q,h3,h4⟩
  .exact R0'.Ik k h1
  .have:=R.Ik k ⟨r,x,q,h3,h4⟩;have:=T0.size;omega
theorem AH.frame{f:go}{args:List V}{v:V}(h:AH P f args S0 v S0')(ρ:Nat->Nat)(M:T8 ρ S S0 S0' S')(g:Z S0<=Z S0')(hb:∀x∈args,AP (Z S0) x=J):
  AH P f (args.map (BU ρ)) S (BU (FP ρ (Z S0) (Z S)) v) S':=
 BL.Yz ((h.pz.frame ρ (λ_=>S') M (λ_ _ e=>e.2▸⟨M,g⟩) hb).mono λ_ _ ⟨_,_,⟨i,_⟩,j,k⟩=>⟨i▸j,k⟩)
end
abbrev ge:=@List.mem_cons
abbrev In:=@not_or
abbrev abf:=@List.getElem?_set_self
abbrev acv:=@List.nodup_cons
abbrev i5:=@List.getElem?_append_left
abbrev vp:=@List.getElem?_append_right
abbrev acP:=@List.getElem?_drop
abbrev acJ:=@List.length_drop
section
variable {P:Program} {n b:Nat} {o:Oper} {tm tm':Tm} {S S0 S0' S':Sg} {v:V} {ops:Array Oper} {K:Tm->Sg->Prop}
def Hx(S:Sg):List Nat->List O->Sg
 |r::g,o::os=>(Hx S g os).set r o
 |_,_=>S
theorem D2(S:Sg):∀(g:List Nat) (os:List O),Z (Hx S g os)=Z S
 |[],_=>rfl
 |_::_,[]=>rfl
 |r::g,o::os=>by simp[Hx,D2 S g os]
theorem MP(S:Sg){r:Nat}:∀(g:List Nat) (os:List O),r∉g->(Hx S g os)[r]?=S[r]?
 |[],_,_=>rfl
 |_::_,[],_=>rfl
 |q::g,o::os,h=>by
  simp at h;simp[Hx];rw[sn (ru h.1),MP S g os h.2]
theorem Rk(S:Sg):∀(g:List Nat) (os:List O) (i:Nat) (h:i<Z g) (k:i<Z os),g.Nodup->(∀r∈g,r<Z S)->(Hx S g os)[g[i]]?=al os[i]
 |q::g,o::os,0,_,_,_,j=>by
  simp[Hx];rw[abf (by rw[D2];exact j q (by simp))]
 |q::g,o::os,i+1,h,k,m,j=>by
  simp[Hx];have s:q∉g:=(acv.1 m).1;have hi:i<Z g:=by simpa using h
  have t:q≠g[i]:=λe=>s (e▸cF hi);rw[sn t];exact Rk S g os i hi (by simpa using k) (acv.1 m).2 λr u=>j r (by simp[u])
theorem Ku{g:List Nat}(h:g.Nodup){i j:Nat}(hi:i<Z g)(hj:j<Z g)(e:g[i]=g[j]):i=j:=by
 have k:=List.pairwise_iff_getElem.1 h;rcases Nat.lt_trichotomy i j with h1|h1|h1
 .exact absurd e (k i j hi hj h1)
 .exact h1
 .exact absurd e.symm (k j i hj hi h1)
def nameOf(g:List Nat):Nat->Nat:=λi=>g.getD i 0
def Dd(S S0':Sg)(g:List Nat):Sg:=
 Hx S g ((S0'.take (Z g)).map (DM (FP (nameOf g) (Z g) (Z S))))++(S0'.drop (Z g)).map (DM (FP (nameOf g) (Z g) (Z S)))
def FB(S S0:Sg)(g:List Nat):Prop:=g.Nodup/\g.map (λr=>S[r]?)=S0.map (λo=>al (DM (nameOf g) o))/\S0.all (Ao (Z g))=J
theorem BL.Ee{f:go}{args:List V}{u:V->Sg->Prop}(h:BL P f args S0 u)(g:List Nat)(F:FB S S0 g)(m:∀v S0',u v S0'->Z g<=Z S0')(hb:args.all (AP (Z g))=J):
  BL P f (args.map (BU (nameOf g))) S (λG S'=>∃v S0',u v S0'/\G=BU (FP (nameOf g) (Z g) (Z S)) v/\S'=Dd S S0' g):=by
 obtain⟨B,C,w⟩:=F;have k:Z g=Z S0:=by have:=mn Z C;simpa using this
 have Dj:∀i (h:i<Z g) (R:i<Z S0),S[g[i]]?=al (DM (nameOf g) S0[i]):=λi h1 H=>by
  have:=mn (·[i]?) C;simpa[h1,H]using this
 have hn:∀i (h:i<Z g),nameOf g i=g[i]:=λi h=>by simp[nameOf,List.getD,h]
 have E:∀r∈g,r<Z S:=λr q=>by
  obtain⟨i,hi,rfl⟩:=oi.1 q;exact Ai (Dj i hi (by omega))
 have M:∀S0':Sg,Z g<=Z S0'->T8 (nameOf g) S S0 S0' (Dd S S0' g):=λS0' m=>by
  refine⟨λi j hi hj e=>?_,λi hi=>⟨S0[i],dl hi,?_⟩,λi o s=>?_,λi o s=>?_,λr q L=>?_,?_⟩
  .rw[hn i (by omega),hn j (by omega)]at e;exact Ku B (by omega) (by omega) e
  .rw[hn i (by omega)];exact Dj i (by omega) hi
  .rw[<-k];exact de.1 w o (pu s)
  .rw[<-k];have hi:=Ai s;have z:S0'[i]=o:=by rw[dl hi]at s;simpa using s
   unfold Dd;by_cases t:i<Z g
   .have A:FP (nameOf g) (Z g) (Z S) i=g[i]:=by simp[FP,t,hn i t]
    rw[A,i5 (by rw[D2];exact E _ (cF t))];rw[Rk S g _ i t (by simp;omega) B E];simp[z]
   .have A:FP (nameOf g) (Z g) (Z S) i=Z S+(i - Z g):=by simp[FP,t]
    rw[A,vp (by rw[D2];omega),D2];have:Z S+(i - Z g) - Z S=i - Z g:=by omega
    rw[this];simp only[L1,acP];have:Z g+(i - Z g)=i:=by omega
    rw[this,s];rfl
  .unfold Dd;rw[i5 (by rw[D2];exact q)];refine MP S g _ λN=>?_;obtain⟨i,hi,rfl⟩:=oi.1 N;exact L i (by omega) (hn i hi)
  .unfold Dd;rw[i6,D2,oj,acJ,k]
 have:=h.frame (nameOf g) (λT=>Dd S T g) (M S0 (by omega)) (λv S0' q=>⟨M S0' (m v S0' q),by rw[<-k];exact m v S0' q⟩) (λx Q=>by rw[<-k];exact de.1 hb x Q);rwa [<-k]at this
theorem AH.Ee{f:go}{args:List V}(h:AH P f args S0 v S0')(g:List Nat)(j:FB S S0 g)(i:Z g<=Z S0')(hb:args.all (AP (Z g))=J):
  AH P f (args.map (BU (nameOf g))) S (BU (FP (nameOf g) (Z g) (Z S)) v) (Dd S S0' g):=
 BL.Yz ((h.pz.Ee g j (λ_ _ e=>e.2▸i) hb).mono λ_ _ ⟨_,_,⟨k,m⟩,q,s⟩=>⟨k▸q,m▸s⟩)
def Cm(tm:Tm)(c:Call)(f:go)(g:List V)(h:List Nat):Prop:=
 match callee tm c with
 |some (i,args)=>i=f/\args=g.map (BU (nameOf h))
 |none=>False
theorem AY.Ei{rest:List Oper}{c:Call}{f:go}{g:List V}(h:AH P f g S0 v S0')(i:List Nat)(k:o.op=.call c)
  (m:o.guard=none/\A6 n o.dst/\A9 tm c/\Cm tm c f g i/\FB S S0 i/\Z i<=Z S0'/\g.all (AP (Z i))=J)
  (q:AY P n b ops rest (put tm o.dst (BU (FP (nameOf i) (Z i) (Z S)) v)) (Dd S S0' i) K):AY P n b ops (o::rest) tm S K:=by
 obtain⟨s,t,u,j,w,z,A⟩:=m;unfold Cm at j;split at j
 .rename_i C args B;obtain⟨rfl,rfl⟩:=j;exact ms k s t B u (h.Ee i w z A) q
 .exact j.elim
end
attribute [simp] Cm FB nameOf BU CE DM FP Dd Hx
mutual
def K0:V->Prop
 |.d d=>Da d
 |.full h=>Da (.sl h)
 |.agg g=>HC g
 |.CA g=>HC g
 |_=>True
def HC:List V->Prop
 |[]=>True
 |x::g=>K0 x/\HC g
end
theorem ID:∀{g:List V},(∀i (h:i<Z g),K0 g[i])->HC g
 |[],_=>trivial
 |x::g,h=>⟨h 0 (by simp),ID λi hi=>h (i+1) (by simpa using hi)⟩
theorem gQ(xs:List D):HC (xs.map .d)↔Bq xs:=by
 induction xs with
 |nil=>simp[HC,Bq]
 |cons x xs g=>simp[HC,Bq,K0,g]
theorem CV.wf{G:Gh}{S:Sg}{w:World}{x:V}{v:Value}(h:CV G S w x v):K0 x:=by
 induction h with
 |d d v h=>exact h.wf
 |full m a h=>exact h.wf
 |agg i j k h o g=>exact ID g
 |CA i j k h g=>exact ID g
 |_=>trivial
def vz:O->Prop
 |.row _ _ g=>Z g<=maxLen/\HC g
 |.BQ i=>Da (.sl i)
 |.map h=>Bq (h.map (·.1))/\HC (h.map (·.2))
 |.dead=>True
def Ln:List O->Prop
 |[]=>True
 |o::os=>vz o/\Ln os
theorem Xh:∀{g:List O},(∀i (h:i<Z g),vz g[i])->Ln g
 |[],_=>trivial
 |x::g,h=>⟨h 0 (by simp),Xh λi hi=>h (i+1) (by simpa using hi)⟩
section
variable {P:Program} {n b:Nat} {tm tm':Tm} {S S':Sg} {v:V} {Q:Exit->Tm->Sg->Prop}
theorem Rel.wZ{G:Gh}{w:World}(R:Rel P G S w):Ln S:=Xh λr m=>by
 have g:=R.DX r _ (dl m);generalize S[r]=o at g;cases o with
 |row L sz q=>
  simp only[OK]at g;split at g
  .obtain⟨c,T,s,t,h,z,A⟩:=g;refine⟨z,ID λi hi=>?_⟩;obtain⟨u,B,_⟩:=A i hi;exact B.wf
  .obtain⟨_,C,E,rfl,F⟩:=g;refine⟨C,?_⟩;rw[gQ];have:=F.wf;simp[Da]at this;exact this.2
 |BQ E=>exact CD.wf g
 |map M=>
  simp[OK]at g;obtain⟨k,j,s,t,_,h⟩:=g;refine⟨MS λi hi=>?_,ID λi hi=>?_⟩
  .obtain⟨e,_,H,_⟩:=h i (by simpa using hi);simpa using H.wf
  .obtain⟨e,_,_,K,_⟩:=h i (by simpa using hi);simpa using K.wf
 |dead=>trivial
def At(S:Sg)(x v:V):Prop:=x=v\/∃d,BC S x=al d/\v=.d d
def sr(P:Program)(n b:Nat)(h:List ResultVar)(v:V)(S':Sg):Exit->Tm->Sg->Prop
 |.normal,tm,S|.ret,tm,S=>∃g,AJ P n b tm S g S'/\J0 P g S' h/\At S' (Mg P g S' h) v
 |_,_,_=>False
theorem AH.Ae{f:go}{fn:Func}{c:Code}{args:List V}(B:P.funcs[f]?=al fn)(C:(fn.name== "runtime.NumGoroutine")=false)(hb:fn.body=al c)(hn:Z args<=fn.ntmps)
  (h:HC args->Ln S->AW P fn.ntmps (Z S) c (sr P fn.ntmps (Z S) fn.results.toList v S') (Er args) S):AH P f args S v S':=by
 refine AH.intro B C hb hn (AW.assume (p:=HC args/\Ln S) (λG w a st=>⟨ID λi hi=>?_,st.rel.wZ⟩) λu=>(h u.1 u.2).mono λE tm z o=>?_)
 .have:=st.tm i;have e:Er args i=args[i]:=by simp[Er,List.getD,hi]
  rw[e]at this;exact this.wf
 .have key:(∃j,AJ P fn.ntmps (Z S) tm z j S'/\J0 P j S' fn.results.toList/\At S' (Mg P j S' fn.results.toList) v)->∃j m,AJ P fn.ntmps (Z S) tm z j m/\J0 P j m fn.results.toList/\∀G w a,St P fn.ntmps G m w a j->Z S<=Z m->∃t A k,(∀cv,CV G m w (Mg P j m fn.results.toList) cv->CV t k w A cv)/\Rel P t k w/\Tr G m w t k w/\Fb (Z S) G m t k/\A=v/\k=S':=by
   rintro⟨j,g,h1,q⟩;refine⟨j,S',g,h1,λG w a st F=>⟨G,v,S',λcv s=>?_,st.rel,aep _ _ _,aeu F,rfl,rfl⟩⟩;rcases q with q|⟨d,q,H⟩
   .rw[<-q];exact s
   .rw[H];exact .pq (s.BC st.rel q)
  cases E with
  |normal=>exact key o
  |ret=>exact key o
  |exit=>exact o.elim
  |goto=>exact o.elim
  |panic=>exact o.elim
  |outgrown=>exact o.elim
abbrev j0:=@AH.Ae
end
attribute [simp] TW oO
mutual
theorem JC(ρ:Nat->Nat):∀(x:V),AP 0 x=J->BU ρ x=x
 |.row r n,h=>by simp[AP]at h
 |.ptr r n i j,h=>by simp[AP]at h
 |.map r,h=>by simp[AP]at h
 |.fn f k o,h=>by
  simp only[AP,b9]at h;simp only[BU];rw[Gq ρ k h.1,Gq ρ o h.2]
 |.agg m,h=>by simp only[AP]at h;simp only[BU];rw[Gq ρ m h]
 |.CA m,h=>by simp only[AP]at h;simp only[BU];rw[Gq ρ m h]
 |.opt g v,h=>by simp only[AP]at h;simp only[BU];rw[JC ρ v h]
 |.any,_=>by simp[BU]
 |.d _,_=>by simp[BU]
 |.full _,_=>by simp[BU]
 |.DW _,_=>by simp[BU]
theorem Gq(ρ:Nat->Nat):∀(g:List V),Au 0 g=J->CE ρ g=g
 |[],_=>by simp[CE]
 |x::g,h=>by
  simp only[Au,b9]at h;simp only[CE];rw[JC ρ x h.1,Gq ρ g h.2]
end
abbrev ac4:=@List.nodup_nil
section
variable {P:Program} {n b:Nat} {o:Oper} {tm tm':Tm} {S S':Sg} {v:V} {ops:Array Oper} {K:Tm->Sg->Prop}
theorem AH.Tw{f:go}{args:List V}(h:AH P f args [] v [])(g:AP 0 v=J)(hb:args.all (AP 0)=J):AH P f args S v S:=by
 have h1:=h.Ee (S:=S) [] ⟨ac4,rfl,rfl⟩ (by simp) hb;have i:args.map (BU (nameOf []))=args:=by
  have:∀x∈args,BU (nameOf []) x=x:=λx j=>JC _ x (de.1 hb x j);conv=>rhs;rw[<-List.map_id args]
  exact y4 this
 have k:Dd S [] []=S:=by simp[Dd,Hx]
 rw[i,k,JC _ v g]at h1;exact h1
def FT(tm:Tm)(c:Call)(f:go)(args:List V):Prop:=
 match callee tm c with
 |some (h,g)=>h=f/\g=args
 |none=>False
theorem FX{c:Call}{f:go}{args:List V}(h:FT tm c f args):callee tm c=al (f,args):=by
 unfold FT at h;split at h
 .rename_i j g i;obtain⟨rfl,rfl⟩:=h;exact i
 .exact h.elim
theorem AY.Uw{rest:List Oper}{c:Call}{f:go}{args:List V}(h:AH P f args [] v [])(g:o.op=.call c)
  (i:o.guard=none/\A6 n o.dst/\A9 tm c/\FT tm c f args/\args.all (AP 0)=J/\AP 0 v=J) (j:AY P n b ops rest (put tm o.dst v) S K):AY P n b ops (o::rest) tm S K:=by
 obtain⟨k,m,q,s,t,u⟩:=i;exact ms g k m (FX s) q (h.Tw u t) j
theorem AY.XQ{rest:List Oper}{c:Call}{f:go}{args:List V}{j:Nat}{i g:Bool}(k:o.op=.call c)(m:o.guard=al (j,i))(q:CN ops tm j i=al g)
  (h:g=J->AH P f args [] v []) (s:A6 n o.dst/\(g=J->A9 tm c/\FT tm c f args/\args.all (AP 0)=J/\AP 0 v=J))
  (t:AY P n b ops rest (put tm o.dst (H0 g v)) S K):AY P n b ops (o::rest) tm S K:=by
 obtain⟨u,w⟩:=s;exact AY.Mo k m u q (λe=>by obtain⟨z,A,B,C⟩:=w e;exact⟨FX A,z,(h e).Tw C B⟩) t
theorem Ad.Uw{B:List (Nat×(Sg->Prop))}{i:Nat}{rest:List (Nat×Bool×Oper)}{c:Call}{f:go}{args:List V}(h:AH P f args [] v [])(g:o.op=.call c)
  (j:o.guard=none/\A6 n o.dst/\A9 tm c/\FT tm c f args/\args.all (AP 0)=J/\AP 0 v=J) (k:Ad P n b ops ((i,λS'=>S'=S)::B) rest (put tm o.dst v) S K):Ad P n b ops B ((i,J,o)::rest) tm S K:=by
 obtain⟨m,q,s,t,u,w⟩:=j;exact vb (λS'=>S'=S) rfl (λhi S' hS=>by subst hS;exact Pi hi g m q (FX t) s (h.Tw w u)) k
theorem AJ.BJ(t sz:Nat){xs:List D}(j:tm t=.full xs):AJ P n b tm S (ER tm t (.row (Z S) (Z xs))) (S++[.row false sz (xs.map .d)]):=λG w a st hb=>by
 have h1:=st.tm t;rw[j]at h1;generalize m:a.tmps.getD t undef=X at h1;cases h1 with
 |full _ base h=>
  obtain⟨r1,r2,i⟩:=st.rel.NB sz xs base h.len h;refine⟨_,⟨st.size,λk=>?_,r1⟩,r2,i.late hb⟩;unfold ER;by_cases e:k=t
  .subst e;rw[b8 rfl,m];refine .row _ _ _ rfl (by simp) λq g=>?_;have:q=Z xs:=by simpa[lenOf]using g.symm
   subst this;exact⟨ci _,λ_=>by simp[Gh.BP,Gh.at]⟩
  .rw[a9 e];exact(st.tm k).later i
abbrev tv:=@AJ.BJ
end
attribute [simp] FT
section
variable {P:Program} {n b:Nat} {o:Oper} {tm tm':Tm} {S S':Sg} {v:V} {ops:Array Oper} {K:Tm->Sg->Prop}
def M9:Nat->List (Nat×V)->Prop
 |_,[]=>True
 |k,p::g=>p.1=k/\M9 (k+1) g
theorem N5:∀{g:List (Nat×V)} {k:Nat},M9 k g->∀i (h:i<Z g),g[i].1=k+i
 |p::g,k,h,0,_=>h.1
 |p::g,k,h,i+1,hi=>by
  have:=N5 h.2 i (by simpa using hi);simp;omega
theorem U5{T E:TypeId}{len:Nat}{parts:Array (Nat×Operand)}{t e:TI}{z:Value}(W:o.op=.buildSlice T len parts)(X:ti P T=al t)(B:t.kind=.slice E)
  (U:ti P E=al e) (Y:e.zero=al z) (hn:∀p∈parts.toList,need (ev tm p.2)) (g:parts.size=len)
  (hp:M9 0 (Cj tm parts)) (hs:FR e.size (Cj tm parts))
  (hm:len * e.size<=2 ^ 24) (C:len<=maxLen):CP P n o tm S (.row (Z S) len) (S++[.row J e.size ((Cj tm parts).map (·.2))]):=.val λG w a st=>by
 obtain⟨d,hd,F⟩:=An X w;have H:d=.slice E:=by rw[B]at F;cases d<;>simp[tk]at F⊢;exact F
 subst H;have m:∀i (h:i<parts.size),CV G S w (strip (ev tm parts[i].2)) (a.eval parts[i].2):=λi hi=>(BY st _).strip (hn _ (by simp));have M:∀i (h:i<parts.size),(a.eval parts[i].2).cells.size=e.size/\∀x∈(a.eval parts[i].2).cells,one x=true:=λi hi=>by
  have:=J7 _ hs i (by simpa[Cj]using hi);simp only[Cj,rg,abp]at this;obtain⟨c1,c2,_⟩:=(m i hi).cells (by simpa using this.2);refine⟨by omega,λx hx=>?_⟩;obtain⟨k,B,rfl⟩:=abF.1 hx;exact c2 k B
 let u:Array Value:=if len * e.size=0 then #[]else z.cells;let base:Array Value:=(Array.range (len * e.size)).map (u[·% u.size]!);obtain⟨u',A,e2,e3,_⟩:=RQ (size:=e.size) (len:=len) (parts.toList.map λp=>(p.1,a.eval p.2)) 0 base (by simp[base]) (by simp[g]) (λi hi=>by
  have q:i<parts.size:=by simpa using hi
  simp only[rg,abp];have:=N5 hp i (by simpa[Cj]using q);simp only[Cj,rg,abp]at this;exact⟨this,(M i q).1⟩)
 obtain⟨r1,r2,r3⟩:=st.rel.add len (.row J e.size ((Cj tm parts).map (·.2))) (.cells u' E (0,0)) (λL=>by
  have hv:(G.at (Z S) w.heap.size len none).BJ (Z S)=none:=by simp[Gh.at]
  have N:(G.at (Z S) w.heap.size len none).Cf (Z S)=w.heap.size:=by simp[Gh.at]
  have Q:(G.at (Z S) w.heap.size len none).cap (Z S)=(len,0):=by simp[Gh.at]
  simp only[OK,hv,N,Q];refine⟨_,E,EK,by rw[e2];simp[base],by simp[Cj,g],by simp[Cj,g];exact C,λi hi=>?_⟩;have q:i<parts.size:=by simpa[Cj]using hi
  refine⟨a.eval parts[i].2,by simpa[Cj]using(m i q).later L,(M i q).1,(M i q).2,λj hj=>?_⟩;have:=e3 i (by simpa using q) j hj;simpa using this)
 refine⟨.slice (al ⟨w.heap.size,0,none⟩) len len,_,_,?_,?_,r1,r2,r3⟩
 .simp only[execOp,W,Instr.buildSlice,l6,hd,lh,Ba U];rw[a9 (by omega)];simp only[base]at A;by_cases h0:len * e.size=0
  .have s:u=#[]:=by simp[u,h0]
   rw[s]at A;simp only[b8 h0,l6,tp,lh,acI,A];simp[newRow,Bj]
  .have s:u=z.cells:=by simp[u,h0]
   rw[s]at A;simp only[a9 h0,l6,ED U w Y,tp,lh,acI,A];simp[newRow,Bj]
 .refine .row _ _ _ rfl (by simp) λm' R=>?_;have:m'=len:=by simpa[lenOf,Cj,g]using R.symm
  subst this;exact⟨ci _,λ_=>by simp[Gh.BP,Gh.at]⟩
theorem AY.Zb{rest:List Oper}(g:o.guard=none/\A6 n o.dst)(h:CP P n o tm S v S')(i:AY P n b ops rest (put tm o.dst v) S' K):AY P n b ops (o::rest) tm S K:=
 aer (λ_ hi=>aeq hi g.2 g.1 h) i
def NR(P:Program)(T:TypeId)(len:Nat)(parts:Array (Nat×Operand))(tm:Tm):Prop:=
 JM tm parts.toList/\parts.size=len/\M9 0 (Cj tm parts)/\len<=maxLen/\(match BB P T with|some E=>(match DH P E with|some s=>(Gg P E).isSome=J/\FR s (Cj tm parts)/\len * s<=2 ^ 24|none=>False)|none=>False)
theorem Mk{T:TypeId}{len:Nat}{parts:Array (Nat×Operand)}(m:o.op=.buildSlice T len parts)(h:NR P T len parts tm):
  CP P n o tm S (.row (Z S) len) (S++[.row J (LN P T) ((Cj tm parts).map (·.2))]):=by
 obtain⟨h1,q,w,A,g⟩:=h;split at g
 .rename_i E i;split at g
  .rename_i s j;obtain⟨g,B,C⟩:=g;obtain⟨t,F,G⟩:=A8 i;obtain⟨e,f1,f2,_⟩:=CB j;obtain⟨z,H⟩:=ol.1 g;obtain⟨M,u,k,L,N⟩:=Em H;rw[f1]at k;cases k;simp only[LN,i,adA,j,K2];subst f2;exact U5 m F G f1 L (JO h1) q w B C A
  .exact g.elim
 .exact g.elim
theorem AY.I3{rest:List Oper}{T:TypeId}{len:Nat}{parts:Array (Nat×Operand)}(h:o.op=.buildSlice T len parts)(g:o.guard=none/\A6 n o.dst/\NR P T len parts tm)
  (i:AY P n b ops rest (put tm o.dst (.row (Z S) len)) (S++[.row J (LN P T) ((Cj tm parts).map (·.2))]) K):AY P n b ops (o::rest) tm S K:=
 AY.Zb ⟨g.1,g.2.1⟩ (Mk h g.2.2) i
end
attribute [simp] NR M9
end Go.Koi
