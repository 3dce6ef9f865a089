import Derived.Test.YtdeikigmgdnojaaGreatDoorR12
/- A part of the proof of one law. -/
set_option maxRecDepth 100000
set_option maxHeartbeats 8000000
set_option linter.unusedVariables false
set_option linter.unusedSimpArgs false
namespace Go.Proofs.YtdeikigmgdnojaaGreatDoor
open Go.ChangeShapes Go.WideShapes Go.ChangeAt Go.RowKit Go.Ab
abbrev hC:Array Value:=#[.agg #[.slice none 0 0,.int .i64 0,.slice none 0 0,.slice none 0 0]]
noncomputable abbrev u1 (os:Os):World:=(oG os).forCall (fun _ _=>0) ⟨#[],hC,[]⟩
theorem w1 (os:Os):(u1 os).variablesRefB Tryz.prog=true:=by kernel_rfl
theorem w0 (os:Os):((u1 os).heap.toList.drop Tryz.prog.globals.size).take ((begin Tryz.prog (fun _ _=>0) default).world.heap.size - Tryz.prog.globals.size)=(begin Tryz.prog (fun _ _=>0) default).world.heap.toList.drop Tryz.prog.globals.size:=by kernel_rfl
theorem v3 (os:Os):Input.okWideB Tryz.prog (u1 os) 7 ⟨#[],hC,[]⟩=true:=by kernel_rfl
theorem v9 (os:Os) (H:Type) (enc:TypeId × Value→H):Rows.machineRepeatedSpec.preB enc Tryz.prog Tryz.f7 [] false (u1 os).memory hC 8=true:=by kernel_rfl
theorem x1 (os:Os) (H:Type) (enc:TypeId × Value→H):Rows.machineRepeatedSpec.sizedB enc Tryz.prog Tryz.f7 false (u1 os).memory hC 8=true:=by kernel_rfl
theorem v1 (os:Os) (H:Type) (enc:TypeId × Value→H):∃ (w:World) (tape:Tape) (i:Input),w.os=os∧(w.forCall tape i).Shaped Tryz.checked.prog∧i.vars=[]∧Input.okWide Tryz.checked.prog (w.forCall tape i) .any w.heap.size 7 i ∧
   ((Rows.machineRepeatedSpec.pre enc Tryz.prog Tryz.f7 [] false (w.forCall tape i).memory i.args∧laidMetH Tryz.prog Rows.machineRepeatedRow.laid (w.forCall tape i).memory)∧sizedMet enc Tryz.prog Tryz.f7 (OpenSpec.ofChange Rows.machineRepeatedSpec) false (w.forCall tape i).memory i.args)∧({}:Assume).holds Tryz.checked.prog (lone (Frame.enter Tryz.checked.prog 7 i.args .normal) [] (w.forCall tape i)) :=
 ⟨oG os,fun _ _=>0,⟨#[],hC,[]⟩,rfl,World.shaped_of_RefB (w1 os) (w0 os),(Input.okWide_of_okWideB (base:=0) (v3 os)).1,(Input.okWide_of_okWideB (v3 os)).2,⟨⟨ChangeSpec.pre_of_preB (v9 os H enc),C6 os _⟩,sizedMet_of_sizedB (x1 os H enc)⟩,by
  simp only [Assume.holds]
  exact ⟨by simp,by simp,fun _=>Modest.zero,by simp,by simp⟩⟩
end Go.Proofs.YtdeikigmgdnojaaGreatDoor
