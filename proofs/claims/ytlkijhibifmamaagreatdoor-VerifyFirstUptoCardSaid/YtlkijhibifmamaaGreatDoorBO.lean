/- Lemmas. No condition. -/
import Derived.Test.YtlkijhibifmamaaGreatDoorBN
set_option linter.all false
set_option autoImplicit true
set_option relaxedAutoImplicit true
set_option maxHeartbeats 0
set_option maxRecDepth 100000
noncomputable section
open Option renaming some→Y,none→J
open Bool renaming true→dT,false→dU
open List renaming length→O
namespace Go.As
open Go.Proofs (Tryz.prog Tryz.f3 Tryz.checked Tryz.func3 Tryz.params3)
open Go.Proofs.YtlkijhibifmamaaGreatDoor
def ago(h:a=dT)(k:b=dT):(a&&b)=dT:=by rw[h,k];rfl
def closed:joinedFacts Tryz.prog 3 Tryz.f3 (Rows.OpenSpec.upto Rows.verifyFirstSpec).bare Rows.verifyFirstUptoRow=dT:=by
 unfold joinedFacts;repeat' with_reducible apply ago
 all_goals first|(as_aux_lemma=>kernel_rfl)
