/- Lemmas. No condition. -/
import Derived.Test.YtlkijhibifmamaaGreatDoorA
import Derived.Test.YtlkijhibifmamaaGreatDoorProg
import Derived.WalkKit
import Derived.LaidEql
import Derived.Stop.Asserts
import Derived.RowKitTokens
import Derived.KernelRfl
set_option linter.all false
set_option autoImplicit true
set_option relaxedAutoImplicit true
set_option maxHeartbeats 0
set_option maxRecDepth 100000
noncomputable section
open Option renaming some→Y,none→J
open Bool renaming true→dT,false→dU
open List renaming length→O
namespace Go.Proofs.YtlkijhibifmamaaGreatDoor
open Go.RowKit Go.Extern.Stop Go.Stop Go.Extern
def ae7(t:Addr)(w:World):(ReflectliteValue.unpack (.iface 108 (.pointer (Y t)))).run Tryz.prog w
  =.ok (.agg #[.pointer (Y ⟨11,108,J⟩),.pointer (Y ⟨w.heap.size,0,J⟩),.int .u64 150]) (w.alloc (.cells #[.pointer (Y t)] 108)):=by kernel_rfl
def ae8(a:Addr)(w:World):(ReflectliteValue.methodAny (ReflectliteValue.valueError "reflectlite.Value.Type" 0) (λt _ _ _=>ReflectliteType.toType t) #[.agg #[.pointer (Y ⟨11,108,J⟩),.pointer (Y a),.int .u64 150]]).run Tryz.prog w
  =.ok (.iface 257 (.agg #[.pointer (Y ⟨11,108,J⟩)])) w:=by kernel_rfl
def methodKind(h:Value)(w:World):(Go.method 559 257 (.agg #[h]) "Kind").run Tryz.prog w=.ok (337,h) w:=by kernel_rfl
def ae9(w:World):((ReflectliteType.abiMethod λt=>(λa:Nat=>Value.int IntKind.u8 (a:Int))<$>Rtype.kind t) #[.pointer (Y ⟨11,108,J⟩)]).run Tryz.prog w=.ok (.int .u8 22) w:=by kernel_rfl
def afa(w:World):((ReflectliteType.abiMethod λt=>(λa:Nat=>Value.int IntKind.u8 (a:Int))<$>Rtype.kind t) #[.pointer (Y ⟨11,106,J⟩)]).run Tryz.prog w=.ok (.int .u8 22) w:=by kernel_rfl
def rlm(z:Sem Value)(f:TypeId->Addr->Nat->Nat->Sem Value)(v:Value):
  ReflectliteValue.method z f #[v]=(do match<-ReflectliteValue.parts v with|none=>z|some (t,a,b)=>f t a b (b%32)):=Z
def RS(a:Addr)(w:World):(ReflectliteValue.parts (.agg #[.pointer (Y ⟨11,108,J⟩),.pointer (Y a),.int .u64 150])).run Tryz.prog w=.ok (Y (108,a,150)) w:=by kernel_rfl
def afb(a p:Addr)(W:World)(b:W.cell? a=Y (.pointer (Y p))):
  (ReflectliteValue.method (ReflectliteValue.valueError "reflectlite.Value.IsNil" 0) ReflectliteValue.isNil #[.agg #[.pointer (Y ⟨11,108,J⟩),.pointer (Y a),.int .u64 150]]).run Tryz.prog W=.ok (.bool dU) W:=by
 rw[rlm];simp only[gb,RS,Result.andThen];simp[ReflectliteValue.isNil,loadVar,isAgg,underlying,Tryz.underlying108,b,Result.andThen]
def methodElem(h:Value)(w:World):(Go.method 559 257 (.agg #[h]) "Elem").run Tryz.prog w=.ok (350,.agg #[h]) w:=by kernel_rfl
def methodImplements(h:Value)(w:World):(Go.method 559 257 (.agg #[h]) "Implements").run Tryz.prog w=.ok (351,.agg #[h]) w:=by kernel_rfl
def methodAssignableTo(h:Value)(w:World):(Go.method 559 257 (.agg #[h]) "AssignableTo").run Tryz.prog w=.ok (348,.agg #[h]) w:=by kernel_rfl
def afc(w:World):(ReflectliteType.method ReflectliteType.elem #[.agg #[.pointer (Y ⟨11,108,J⟩)]]).run Tryz.prog w=.ok (.iface 257 (.agg #[.pointer (Y ⟨11,106,J⟩)])) w:=by kernel_rfl
def afd(w:World):(ReflectliteType.relation "Implements" ReflectliteType.implements_ #[.agg #[.pointer (Y ⟨11,106,J⟩)],.iface 257 (.agg #[.pointer (Y ⟨11,59,J⟩)])]).run Tryz.prog w=.ok (.bool dT) w:=by kernel_rfl
def afe(v:Value)(w:World):(ReflectliteType.typeOf #[.iface 106 v]).run Tryz.prog w=.ok (.iface 257 (.agg #[.pointer (Y ⟨11,106,J⟩)])) w:=by kernel_rfl
def aff(w:World):(ReflectliteType.relation "AssignableTo" ReflectliteType.assignableTo #[.agg #[.pointer (Y ⟨11,106,J⟩)],.iface 257 (.agg #[.pointer (Y ⟨11,106,J⟩)])]).run Tryz.prog w=.ok (.bool dT) w:=by kernel_rfl
def afg(e:Addr)(w:World):(ReflectliteValue.unpack (.iface 106 (.pointer (Y e)))).run Tryz.prog w
  =.ok (.agg #[.pointer (Y ⟨11,106,J⟩),.pointer (Y ⟨w.heap.size,0,J⟩),.int .u64 150]) (w.alloc (.cells #[.pointer (Y e)] 106)):=by kernel_rfl
def afh(w:World):(Rtype.elem? 108).run Tryz.prog w=.ok (Y 106) w:=by kernel_rfl
def afi(p:Addr)(w:World):(ReflectliteValue.mk 106 p ReflectliteValue.flagAddr).run Tryz.prog w=.ok (.agg #[.pointer (Y ⟨11,106,J⟩),.pointer (Y p),.int .u64 406]) w:=by kernel_rfl
def afj(a p:Addr)(W:World)(b:W.cell? a=Y (.pointer (Y p))):
  (ReflectliteValue.method (ReflectliteValue.valueError "reflectlite.Value.Elem" 0) ReflectliteValue.elem #[.agg #[.pointer (Y ⟨11,108,J⟩),.pointer (Y a),.int .u64 150]]).run Tryz.prog W
   =.ok (.agg #[.pointer (Y ⟨11,106,J⟩),.pointer (Y p),.int .u64 406]) W:=by
 rw[rlm];simp only[gb,RS,Result.andThen];simp[ReflectliteValue.elem,loadVar,isAgg,underlying,Tryz.underlying108,b,Result.andThen,afh,afi]
def rls(v x:Value):ReflectliteValue.set #[v,x]=(do
  let(Y (H,a,d),Y (c,b,_)):=(<-ReflectliteValue.parts v,<-ReflectliteValue.parts x)
   |unsupported (.noEntry "extern/(internal/reflectlite.Value).Set.zeroValue")
  if d/ReflectliteValue.flagAddr%2==0 then unsupported (.noEntry "extern/(internal/reflectlite.Value).Set.unaddressable")
  let val<-loadVar c b
  if<-Rtype.directlyAssignable H c then storeVar H a val
  else if<-Rtype.implements H c then
   if(<-Rtype.kind c)==20 then
    match val with
    |.nilIface=>unsupported (.noEntry "extern/reflectlite: a nil value of one interface type handed on as a value of another")
    | _=>storeVar H a val
   else storeVar H a (.iface c val)
  else panicString ("reflectlite.Set: value of type " ++(<-Rtype.spelt c)++ " is not assignable to type " ++(<-Rtype.spelt H))
  pure (.tuple #[])):=Z
def afk(a:Addr)(w:World):(ReflectliteValue.parts (.agg #[.pointer (Y ⟨11,106,J⟩),.pointer (Y a),.int .u64 406])).run Tryz.prog w=.ok (Y (106,a,406)) w:=by kernel_rfl
def afl(a:Addr)(w:World):(ReflectliteValue.parts (.agg #[.pointer (Y ⟨11,106,J⟩),.pointer (Y a),.int .u64 150])).run Tryz.prog w=.ok (Y (106,a,150)) w:=by kernel_rfl
def afm(w:World):(Rtype.directlyAssignable 106 106).run Tryz.prog w=.ok dT w:=by kernel_rfl
def afn(a b e:Addr)(i:Value)(W:World)(j:W.cell? b=Y (.pointer (Y e)))(c:W.cell? a=Y i)(g:W.frozen? a=dU):
  (ReflectliteValue.set #[.agg #[.pointer (Y ⟨11,106,J⟩),.pointer (Y a),.int .u64 406],.agg #[.pointer (Y ⟨11,106,J⟩),.pointer (Y b),.int .u64 150]]).run Tryz.prog W
   =.ok (.tuple #[]) (W.setCell a (.pointer (Y e))):=by
 rw[rls];simp only[gb,afk,afl,Result.andThen];simp[ReflectliteValue.flagAddr,loadVar,isAgg,underlying,Tryz.underlying106,j,Result.andThen,afm,storeVar,Value.cells,storeCells,Addr.add];rw[run_store Tryz.prog W a _ _ (by rfl)];simp[c,g]
def Mb(w:World)(t:Addr):World:=((w.alloc (.cells #[.pointer (Y t)] 108)).alloc (.cells #[.pointer (Y ⟨11,108,J⟩),.pointer (Y ⟨w.heap.size,0,J⟩),.int .u64 150] 177)).alloc (.cells #[.pointer (Y ⟨11,108,J⟩),.pointer (Y ⟨w.heap.size,0,J⟩),.int .u64 150] 177)
def afo(e t:Addr)(old:Value)(w:World)(hg:w.cell? ⟨0,0,J⟩=Y (.iface 257 (.agg #[.pointer (Y ⟨11,59,J⟩)])))(ht0:w.cell? t=Y old)(hf0:w.frozen? t=dU):
  Calls Tryz.prog 28 #[.iface 106 (.pointer (Y e)),.iface 108 (.pointer (Y t))] w λev w'=>ev=.returned (.bool dT)/\w'=((Mb w t).alloc (.cells #[.pointer (Y e)] 106)).setCell t (.pointer (Y e)):=by
 unfold Mb;have h6:=@run_callFunc_extern Tryz.prog 80 _ (λargs=>ReflectliteValue.unpack (args.getD 0 (.tuple #[]))) Tryz.func80 eU eU eU eU;have h7:=@run_callFunc_extern Tryz.prog 81 _ (ReflectliteValue.methodAny (ReflectliteValue.valueError "reflectlite.Value.Type" 0) (λt _ _ _=>ReflectliteType.toType t)) Tryz.func81 eU eU eU eU;have h8:=@run_callFunc_extern Tryz.prog 82 _ (ReflectliteValue.method (ReflectliteValue.valueError "reflectlite.Value.IsNil" 0) ReflectliteValue.isNil) Tryz.func82 eU eU eU eU;have h27:=@run_callFunc_extern Tryz.prog 337 _ (ReflectliteType.abiMethod λt=>do pure (.int .u8 (<-Rtype.kind t))) Tryz.func337 eU eU eU eU;have h37:=@run_callFunc_extern Tryz.prog 350 _ (ReflectliteType.method ReflectliteType.elem) Tryz.func350 eU eU eU eU;have h38:=@run_callFunc_extern Tryz.prog 351 _ (ReflectliteType.relation "Implements" ReflectliteType.implements_) Tryz.func351 eU eU eU eU;have h10:=@run_callFunc_extern Tryz.prog 138 _ ReflectliteType.typeOf Tryz.func138 eU eU eU eU;have h35:=@run_callFunc_extern Tryz.prog 348 _ (ReflectliteType.relation "AssignableTo" ReflectliteType.assignableTo) Tryz.func348 eU eU eU eU;have h11:=@run_callFunc_extern Tryz.prog 139 _ (ReflectliteValue.method (ReflectliteValue.valueError "reflectlite.Value.Elem" 0) ReflectliteValue.elem) Tryz.func139 eU eU eU eU;have h12:=@run_callFunc_extern Tryz.prog 140 _ ReflectliteValue.set Tryz.func140 eU eU eU eU;have tO:=afe;have mA:=methodAssignableTo;have a25:=aff;have v25:=afg;have f6:=ae7;have f7:=ae8;have mK:=methodKind;have mE:=methodElem;have mI:=methodImplements;have k27:=ae9;have k25:=afa;have e27:=afc;have i25:=afd;have n8:=afb ⟨w.heap.size,0,J⟩ t ((w.alloc (.cells #[.pointer (Y t)] 108)).alloc (.cells #[.pointer (Y ⟨11,108,J⟩),.pointer (Y ⟨w.heap.size,0,J⟩),.int .u64 150] 177)) (by simp);have hlt:0<w.heap.size:=by
  obtain h0|h:=xN w.heap.size
  .simp[World.cell?,h0]at hg
  exact h
 have hg2:((w.alloc (.cells #[.pointer (Y t)] 108)).alloc (.cells #[.pointer (Y ⟨11,108,J⟩),.pointer (Y ⟨w.heap.size,0,J⟩),.int .u64 150] 177)).cell? ⟨0,0,J⟩=Y (.iface 257 (.agg #[.pointer (Y ⟨11,59,J⟩)])):=by rw[rY _ _ ⟨0,0,J⟩ (by simp),rY _ _ ⟨0,0,J⟩ hlt];exact hg
 have htl:t.block<w.heap.size:=by
  obtain h|h:=kG t.block w.heap.size
  .exact h
  simp[World.cell?,pF h]at ht0
 have el:=afj ⟨w.heap.size,0,J⟩ t (((w.alloc (.cells #[.pointer (Y t)] 108)).alloc (.cells #[.pointer (Y ⟨11,108,J⟩),.pointer (Y ⟨w.heap.size,0,J⟩),.int .u64 150] 177)).alloc (.cells #[.pointer (Y ⟨11,108,J⟩),.pointer (Y ⟨w.heap.size,0,J⟩),.int .u64 150] 177)) (by rw[rY _ _ ⟨w.heap.size,0,J⟩ (by simp;omega)];simp);have st:=afn t ⟨w.heap.size+1+1+1,0,J⟩ e old ((((w.alloc (.cells #[.pointer (Y t)] 108)).alloc (.cells #[.pointer (Y ⟨11,108,J⟩),.pointer (Y ⟨w.heap.size,0,J⟩),.int .u64 150] 177)).alloc (.cells #[.pointer (Y ⟨11,108,J⟩),.pointer (Y ⟨w.heap.size,0,J⟩),.int .u64 150] 177)).alloc (.cells #[.pointer (Y e)] 106))
  (by rw[World.cell?_alloc_at _ _ _ _ (by simp)];rfl)
  (by rw[rY _ _ t (by simp;omega),rY _ _ t (by simp;omega),rY _ _ t (by simp;omega),rY _ _ t htl];exact ht0)
  (by rw[xy _ _ t (by simp;omega),xy _ _ t (by simp;omega),xy _ _ t (by simp;omega),xy _ _ t (Nat.ne_of_lt htl)];exact hf0)
 go_enter Tryz.func28,Tryz.ntmps28
 go_wp2
 refine wp_loop_rounds 1 ?_;rw[rounds_succ]
 go_wp2
 go_ret
 exact⟨Z,Z⟩
def afp(t:Addr)(w:World):(ReflectliteValue.unpack (.iface 123 (.pointer (Y t)))).run Tryz.prog w
  =.ok (.agg #[.pointer (Y ⟨11,123,J⟩),.pointer (Y ⟨w.heap.size,0,J⟩),.int .u64 150]) (w.alloc (.cells #[.pointer (Y t)] 123)):=by kernel_rfl
def afq(a:Addr)(w:World):(ReflectliteValue.methodAny (ReflectliteValue.valueError "reflectlite.Value.Type" 0) (λt _ _ _=>ReflectliteType.toType t) #[.agg #[.pointer (Y ⟨11,123,J⟩),.pointer (Y a),.int .u64 150]]).run Tryz.prog w
  =.ok (.iface 257 (.agg #[.pointer (Y ⟨11,123,J⟩)])) w:=by kernel_rfl
def afr(w:World):((ReflectliteType.abiMethod λt=>(λa:Nat=>Value.int IntKind.u8 (a:Int))<$>Rtype.kind t) #[.pointer (Y ⟨11,123,J⟩)]).run Tryz.prog w=.ok (.int .u8 22) w:=by kernel_rfl
def afs(w:World):((ReflectliteType.abiMethod λt=>(λa:Nat=>Value.int IntKind.u8 (a:Int))<$>Rtype.kind t) #[.pointer (Y ⟨11,122,J⟩)]).run Tryz.prog w=.ok (.int .u8 2) w:=by kernel_rfl
def RT(a:Addr)(w:World):(ReflectliteValue.parts (.agg #[.pointer (Y ⟨11,123,J⟩),.pointer (Y a),.int .u64 150])).run Tryz.prog w=.ok (Y (123,a,150)) w:=by kernel_rfl
def aft(a p:Addr)(W:World)(b:W.cell? a=Y (.pointer (Y p))):
  (ReflectliteValue.method (ReflectliteValue.valueError "reflectlite.Value.IsNil" 0) ReflectliteValue.isNil #[.agg #[.pointer (Y ⟨11,123,J⟩),.pointer (Y a),.int .u64 150]]).run Tryz.prog W=.ok (.bool dU) W:=by
 rw[rlm];simp only[gb,RT,Result.andThen];simp[ReflectliteValue.isNil,loadVar,isAgg,underlying,Tryz.underlying123,b,Result.andThen]
def afu(w:World):(ReflectliteType.method ReflectliteType.elem #[.agg #[.pointer (Y ⟨11,123,J⟩)]]).run Tryz.prog w=.ok (.iface 257 (.agg #[.pointer (Y ⟨11,122,J⟩)])) w:=by kernel_rfl
def afv(w:World):(ReflectliteType.relation "Implements" ReflectliteType.implements_ #[.agg #[.pointer (Y ⟨11,122,J⟩)],.iface 257 (.agg #[.pointer (Y ⟨11,59,J⟩)])]).run Tryz.prog w=.ok (.bool dT) w:=by kernel_rfl
def afw(v:Value)(w:World):(ReflectliteType.typeOf #[.iface 122 v]).run Tryz.prog w=.ok (.iface 257 (.agg #[.pointer (Y ⟨11,122,J⟩)])) w:=by kernel_rfl
def afx(w:World):(ReflectliteType.relation "AssignableTo" ReflectliteType.assignableTo #[.agg #[.pointer (Y ⟨11,122,J⟩)],.iface 257 (.agg #[.pointer (Y ⟨11,122,J⟩)])]).run Tryz.prog w=.ok (.bool dT) w:=by kernel_rfl
def afy(e:Int)(w:World):(ReflectliteValue.unpack (.iface 122 (.int .i64 e))).run Tryz.prog w
  =.ok (.agg #[.pointer (Y ⟨11,122,J⟩),.pointer (Y ⟨w.heap.size,0,J⟩),.int .u64 130]) (w.alloc (.cells #[.int .i64 e] 122)):=by kernel_rfl
def afz(w:World):(Rtype.elem? 123).run Tryz.prog w=.ok (Y 122) w:=by kernel_rfl
def afA(p:Addr)(w:World):(ReflectliteValue.mk 122 p ReflectliteValue.flagAddr).run Tryz.prog w=.ok (.agg #[.pointer (Y ⟨11,122,J⟩),.pointer (Y p),.int .u64 386]) w:=by kernel_rfl
def afB(a p:Addr)(W:World)(b:W.cell? a=Y (.pointer (Y p))):
  (ReflectliteValue.method (ReflectliteValue.valueError "reflectlite.Value.Elem" 0) ReflectliteValue.elem #[.agg #[.pointer (Y ⟨11,123,J⟩),.pointer (Y a),.int .u64 150]]).run Tryz.prog W
   =.ok (.agg #[.pointer (Y ⟨11,122,J⟩),.pointer (Y p),.int .u64 386]) W:=by
 rw[rlm];simp only[gb,RT,Result.andThen];simp[ReflectliteValue.elem,loadVar,isAgg,underlying,Tryz.underlying123,b,Result.andThen,afz,afA]
def afC(a:Addr)(w:World):(ReflectliteValue.parts (.agg #[.pointer (Y ⟨11,122,J⟩),.pointer (Y a),.int .u64 386])).run Tryz.prog w=.ok (Y (122,a,386)) w:=by kernel_rfl
def afD(a:Addr)(w:World):(ReflectliteValue.parts (.agg #[.pointer (Y ⟨11,122,J⟩),.pointer (Y a),.int .u64 130])).run Tryz.prog w=.ok (Y (122,a,130)) w:=by kernel_rfl
def afE(w:World):(Rtype.directlyAssignable 122 122).run Tryz.prog w=.ok dT w:=by kernel_rfl
def afF(a b:Addr)(e:Int)(i:Value)(W:World)(j:W.cell? b=Y (.int .i64 e))(c:W.cell? a=Y i)(g:W.frozen? a=dU):
  (ReflectliteValue.set #[.agg #[.pointer (Y ⟨11,122,J⟩),.pointer (Y a),.int .u64 386],.agg #[.pointer (Y ⟨11,122,J⟩),.pointer (Y b),.int .u64 130]]).run Tryz.prog W
   =.ok (.tuple #[]) (W.setCell a (.int .i64 e)):=by
 rw[rls];simp only[gb,afC,afD,Result.andThen];simp[ReflectliteValue.flagAddr,loadVar,isAgg,underlying,Tryz.underlying122,j,Result.andThen,afE,storeVar,Value.cells,storeCells,Addr.add];rw[run_store Tryz.prog W a _ _ (by rfl)];simp[c,g]
def afG(w:World):(ReflectliteType.relation "AssignableTo" ReflectliteType.assignableTo #[.agg #[.pointer (Y ⟨11,106,J⟩)],.iface 257 (.agg #[.pointer (Y ⟨11,122,J⟩)])]).run Tryz.prog w=.ok (.bool dU) w:=by kernel_rfl
def afH(v:Value)(a:TypeId)(w:World):(Instr.typeAssert (.iface 106 v) a 262 dT).run Tryz.prog w=.ok (.tuple #[.nilIface,.bool dU]) w:=run_typeAssert_lacksB Tryz.underlying262 eU eU v a w
def afI(v:Value)(a:TypeId)(w:World):(Instr.typeAssert (.iface 106 v) a 265 dT).run Tryz.prog w=.ok (.tuple #[.iface 106 v,.bool dT]) w:=run_typeAssert_hasB Tryz.underlying265 eU v a w
def methodUnwrap(h:Value)(w:World):(Go.method 559 106 h "Unwrap").run Tryz.prog w=.ok (342,h) w:=by kernel_rfl
def Mc(w:World)(t:Addr):World:=((w.alloc (.cells #[.pointer (Y t)] 123)).alloc (.cells #[.pointer (Y ⟨11,123,J⟩),.pointer (Y ⟨w.heap.size,0,J⟩),.int .u64 150] 177)).alloc (.cells #[.pointer (Y ⟨11,123,J⟩),.pointer (Y ⟨w.heap.size,0,J⟩),.int .u64 150] 177)
def afJ(b o:Nat)(z:Int)(t:Addr)(old:Value)(w:World)(hg:w.cell? ⟨0,0,J⟩=Y (.iface 257 (.agg #[.pointer (Y ⟨11,59,J⟩)])))(hb:w.cell? ⟨b,o+1,J⟩=Y (.iface 122 (.int .i64 z)))(ht0:w.cell? t=Y old)(hf0:w.frozen? t=dU):
  Calls Tryz.prog 28 #[.iface 106 (.pointer (Y ⟨b,o,J⟩)),.iface 123 (.pointer (Y t))] w λev w'=>ev=.returned (.bool dT)/\w'=((Mc w t).alloc (.cells #[.int .i64 z] 122)).setCell t (.int .i64 z):=by
 unfold Mc;have h6:=@run_callFunc_extern Tryz.prog 80 _ (λargs=>ReflectliteValue.unpack (args.getD 0 (.tuple #[]))) Tryz.func80 eU eU eU eU;have h7:=@run_callFunc_extern Tryz.prog 81 _ (ReflectliteValue.methodAny (ReflectliteValue.valueError "reflectlite.Value.Type" 0) (λt _ _ _=>ReflectliteType.toType t)) Tryz.func81 eU eU eU eU;have h8:=@run_callFunc_extern Tryz.prog 82 _ (ReflectliteValue.method (ReflectliteValue.valueError "reflectlite.Value.IsNil" 0) ReflectliteValue.isNil) Tryz.func82 eU eU eU eU;have h27:=@run_callFunc_extern Tryz.prog 337 _ (ReflectliteType.abiMethod λt=>do pure (.int .u8 (<-Rtype.kind t))) Tryz.func337 eU eU eU eU;have h37:=@run_callFunc_extern Tryz.prog 350 _ (ReflectliteType.method ReflectliteType.elem) Tryz.func350 eU eU eU eU;have h38:=@run_callFunc_extern Tryz.prog 351 _ (ReflectliteType.relation "Implements" ReflectliteType.implements_) Tryz.func351 eU eU eU eU;have h10:=@run_callFunc_extern Tryz.prog 138 _ ReflectliteType.typeOf Tryz.func138 eU eU eU eU;have h35:=@run_callFunc_extern Tryz.prog 348 _ (ReflectliteType.relation "AssignableTo" ReflectliteType.assignableTo) Tryz.func348 eU eU eU eU;have h11:=@run_callFunc_extern Tryz.prog 139 _ (ReflectliteValue.method (ReflectliteValue.valueError "reflectlite.Value.Elem" 0) ReflectliteValue.elem) Tryz.func139 eU eU eU eU;have h12:=@run_callFunc_extern Tryz.prog 140 _ ReflectliteValue.set Tryz.func140 eU eU eU eU;have tO:=afe;have tO2:=afw;have mA:=methodAssignableTo;have mU:=methodUnwrap;have nA:=afH;have hU:=afI;have aN:=afG;have a25:=afx;have v25:=afy;have f6:=afp;have f7:=afq;have mK:=methodKind;have mE:=methodElem;have mI:=methodImplements;have k27:=afr;have k25:=afs;have e27:=afu;have i25:=afv;have n8:=aft ⟨w.heap.size,0,J⟩ t ((w.alloc (.cells #[.pointer (Y t)] 123)).alloc (.cells #[.pointer (Y ⟨11,123,J⟩),.pointer (Y ⟨w.heap.size,0,J⟩),.int .u64 150] 177)) (by simp);have hlt:0<w.heap.size:=by
  obtain h0|h:=xN w.heap.size
  .simp[World.cell?,h0]at hg
  exact h
 have hg2:((w.alloc (.cells #[.pointer (Y t)] 123)).alloc (.cells #[.pointer (Y ⟨11,123,J⟩),.pointer (Y ⟨w.heap.size,0,J⟩),.int .u64 150] 177)).cell? ⟨0,0,J⟩=Y (.iface 257 (.agg #[.pointer (Y ⟨11,59,J⟩)])):=by rw[rY _ _ ⟨0,0,J⟩ (by simp),rY _ _ ⟨0,0,J⟩ hlt];exact hg
 have htl:t.block<w.heap.size:=by
  obtain h|h:=kG t.block w.heap.size
  .exact h
  simp[World.cell?,pF h]at ht0
 have hbl:b<w.heap.size:=by
  obtain h|h:=kG b w.heap.size
  .exact h
  simp[World.cell?,pF h]at hb
 have hb3:(((w.alloc (.cells #[.pointer (Y t)] 123)).alloc (.cells #[.pointer (Y ⟨11,123,J⟩),.pointer (Y ⟨w.heap.size,0,J⟩),.int .u64 150] 177)).alloc (.cells #[.pointer (Y ⟨11,123,J⟩),.pointer (Y ⟨w.heap.size,0,J⟩),.int .u64 150] 177)).cell? ⟨b,o+1,J⟩=Y (.iface 122 (.int .i64 z)):=by rw[rY _ _ ⟨b,o+1,J⟩ (by simp;omega),rY _ _ ⟨b,o+1,J⟩ (by simp;omega),rY _ _ ⟨b,o+1,J⟩ hbl];exact hb
 have el:=afB ⟨w.heap.size,0,J⟩ t (((w.alloc (.cells #[.pointer (Y t)] 123)).alloc (.cells #[.pointer (Y ⟨11,123,J⟩),.pointer (Y ⟨w.heap.size,0,J⟩),.int .u64 150] 177)).alloc (.cells #[.pointer (Y ⟨11,123,J⟩),.pointer (Y ⟨w.heap.size,0,J⟩),.int .u64 150] 177)) (by rw[rY _ _ ⟨w.heap.size,0,J⟩ (by simp;omega)];simp);have st:=afF t ⟨w.heap.size+1+1+1,0,J⟩ z old ((((w.alloc (.cells #[.pointer (Y t)] 123)).alloc (.cells #[.pointer (Y ⟨11,123,J⟩),.pointer (Y ⟨w.heap.size,0,J⟩),.int .u64 150] 177)).alloc (.cells #[.pointer (Y ⟨11,123,J⟩),.pointer (Y ⟨w.heap.size,0,J⟩),.int .u64 150] 177)).alloc (.cells #[.int .i64 z] 122))
  (by rw[World.cell?_alloc_at _ _ _ _ (by simp)];rfl)
  (by rw[rY _ _ t (by simp;omega),rY _ _ t (by simp;omega),rY _ _ t (by simp;omega),rY _ _ t htl];exact ht0)
  (by rw[xy _ _ t (by simp;omega),xy _ _ t (by simp;omega),xy _ _ t (by simp;omega),xy _ _ t (Nat.ne_of_lt htl)];exact hf0)
 go_enter Tryz.func28,Tryz.ntmps28
 go_wp2
 refine wp_loop_rounds 2 ?_;rw[rounds_succ]
 go_wp2
 rw[rounds_succ]
 go_wp2
 go_ret
 exact⟨Z,Z⟩
