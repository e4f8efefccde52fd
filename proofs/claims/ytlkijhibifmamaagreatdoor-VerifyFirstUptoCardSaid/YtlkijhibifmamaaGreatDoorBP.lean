/- VerifyFirst keeps what its card says, at arguments of at most 1048576 values and letters. No condition beyond the card. -/
import Derived.Test.YtlkijhibifmamaaGreatDoorBO
set_option linter.all false
set_option autoImplicit true
set_option relaxedAutoImplicit true
set_option maxHeartbeats 0
set_option maxRecDepth 100000
noncomputable section
open Option renaming some→Y,none→J
open Bool renaming true→dT,false→dU
open List renaming length→O
namespace Go.As
open Go.RowKit Go.Deep Go.ChangeShapes Go.WideShapes Go.ChangeAt
open Go.Proofs (Tryz.prog Tryz.f3 Tryz.checked Tryz.func3 Tryz.params3)
open Go.Proofs.YtlkijhibifmamaaGreatDoor
def said:Rows.VerifyFirstUptoSaid:=
 OpenClaim.holds_of_cond 3 Tryz.f3 Z Z Z Z Z Z Z ⟨Z,Z,Z,Z,Z⟩ Z Z Z Z Z Nv Tryz.func3 closed
  (j0 Nv) (by unfold Func.isWrapper;first|(rw[gO (by decide+kernel)];kernel_rfl)|(rw[gj (by decide+kernel)];exact⟨Z,Z⟩))
  (λq a H b _ F=>by rw[OpenClaim.pre_eq_preRow];exact lifted q a H b F)
def iC(f:FuncId)(fn:Func)(g:Tryz.pinned.checked.prog.funcNamed "demotic/demoticlaw06.VerifyFirst" =Y f)(a:Tryz.pinned.checked.prog.funcs[f]? =Y fn):
  dT=Tryz.pinned.checked.prog.looks []/\∀(j:Nat) t,fn.params[j]? =Y t->Tryz.pinned.checked.prog.wantsStandIn t=dU:=by
 obtain rfl:f=3:=gu ((show Tryz.prog.funcNamed "demotic/demoticlaw06.VerifyFirst" =Y 3 by kernel_rfl).symm.trans g)|>.symm;obtain rfl:fn=Tryz.f3:=(gu (Tryz.func3.symm.trans a)).symm;refine⟨by kernel_rfl,λj t b=>?_⟩;rw[Tryz.params3]at b;have:t=24\/t=25:=by simpa using Array.mem_of_getElem? b
 obtain rfl|rfl:=this
 .exact(show Tryz.prog.wantsStandIn 24=dU by kernel_rfl)
 exact(show Tryz.prog.wantsStandIn 25=dU by kernel_rfl)
def card:Rows.VerifyFirstUptoCardSaid:=
 Claim7.holds_tied_plain_at .later [] _ _ _ _ said Es eU Es verifyFirstUpto_row_tie Z ⟨Z,Z⟩ eU Z iC eU
end Go.As
namespace Go.Proofs.YtlkijhibifmamaaGreatDoor
theorem card:Rows.VerifyFirstUptoCardSaid:=Go.As.card
