import Derived.Test.YtdeikigmgdnojaaGreatDoorT11
import Derived.ProofKit
import Derived.LaidHandle
import Derived.Deep.DeepLaidRun
import Derived.LaidLaws
/- A part of the proof of one law. -/
set_option maxRecDepth 100000
set_option maxHeartbeats 8000000
set_option linter.unusedVariables false
set_option linter.unusedSimpArgs false
namespace Go.Proofs.YtdeikigmgdnojaaGreatDoor
open Go.ChangeShapes Go.WideShapes Go.ChangeAt Go.RowKit Go.Ab
def litV:DataW Unit→List Value
 | .agg l=>l.filterMap fun | .lit (.int k z)=>some (.int k z) | _=>none
 | _=>[]
noncomputable def oG (os:Os):World :=
 let N:=(World.settled Tryz.prog os).heap.size
 let w0:=World.holding Tryz.prog os ⟨#[.cells (Lib.whiteT.map fun (z:Nat)=>Value.int .u16 (z:Int)).toArray 326,.cells #[.slice (some ⟨N,0,none⟩) 7 7,.slice none 0 0,.int .i64 2] 323],#[],[]⟩
 let put (h:Array Obj) (g:Nat) (cs:Array Value):Array Obj:=h.modify g fun
  | .cells _ t frozen => .cells cs t frozen
  | o=>o
 { w0 with heap:=put (put (put (put (put (put (put w0.heap 2 powTab) 7 (litV Rows.laid_math_bits_deBruijn32tab).toArray) 8 (litV Rows.laid_math_bits_deBruijn64tab).toArray) 6 (AX.map fun z=>Value.int .u8 z).toArray) 4 (Lib.firstTab.map fun z=>Value.int .u8 z).toArray) 5 N8.toArray) 9 #[.pointer (some ⟨N + 1,0,none⟩)] }
theorem C6 (os:Os) (args:Array Value):laidMetH Tryz.prog Rows.machineTextsRow.laid ((oG os).forCall (fun _ _=>0) ⟨#[],args,[]⟩).memory :=
 laidMetH_of_parts (laidMet_of_run3 10 (by kernel_rfl) (by kernel_rfl) (by kernel_rfl)) (by kernel_rfl)
theorem T6:ownKnob Tryz.prog.godebug=none:=by kernel_rfl
theorem C5:laidOutB Tryz.prog=true:=by kernel_rfl
theorem U7:Tryz.prog.underlying 4=some .bool:=by kernel_rfl
end Go.Proofs.YtdeikigmgdnojaaGreatDoor
