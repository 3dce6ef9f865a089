import Derived.Test.YtdeikigmgdnojaaGreatDoorA13
/- A part of the proof of one law. -/
set_option maxRecDepth 100000
set_option maxHeartbeats 8000000
set_option linter.unusedVariables false
set_option linter.unusedSimpArgs false
namespace Go.Proofs.YtdeikigmgdnojaaGreatDoor
open Go.ChangeShapes Go.WideShapes Go.ChangeAt Go.RowKit Go.Ab
abbrev aAB:Array Value:=#[.agg #[.slice none 0 0,.int .i64 0,.slice none 0 0,.slice none 0 0],.int .i64 0]
noncomputable abbrev w06 (os:Os):World:=(oG os).forCall (fun _ _=>0) ⟨#[],aAB,[]⟩
theorem wv6 (os:Os):(w06 os).variablesRefB Tryz.prog=true:=by kernel_rfl
theorem wr6 (os:Os):((w06 os).heap.toList.drop Tryz.prog.globals.size).take ((begin Tryz.prog (fun _ _=>0) default).world.heap.size - Tryz.prog.globals.size)=(begin Tryz.prog (fun _ _=>0) default).world.heap.toList.drop Tryz.prog.globals.size:=by kernel_rfl
theorem wo6 (os:Os):Input.okWideB Tryz.prog (w06 os) 6 ⟨#[],aAB,[]⟩=true:=by kernel_rfl
theorem wp6 (os:Os) (H:Type) (enc:TypeId × Value→H):Rows.machineFirstSpec.preB enc Tryz.prog Tryz.f6 [] false (w06 os).memory aAB 8=true:=by kernel_rfl
theorem wz6 (os:Os) (H:Type) (enc:TypeId × Value→H):Rows.machineFirstSpec.sizedB enc Tryz.prog Tryz.f6 false (w06 os).memory aAB 8=true:=by kernel_rfl
theorem aBy (os:Os) (H:Type) (enc:TypeId × Value→H):∃ (w:World) (tape:Tape) (i:Input),w.os=os∧(w.forCall tape i).Shaped Tryz.checked.prog∧i.vars=[]∧Input.okWide Tryz.checked.prog (w.forCall tape i) .any w.heap.size 6 i ∧
   ((Rows.machineFirstSpec.pre enc Tryz.prog Tryz.f6 [] false (w.forCall tape i).memory i.args∧laidMetH Tryz.prog Rows.machineFirstRow.laid (w.forCall tape i).memory)∧sizedMet enc Tryz.prog Tryz.f6 (OpenSpec.ofChange Rows.machineFirstSpec) false (w.forCall tape i).memory i.args)∧({}:Assume).holds Tryz.checked.prog (lone (Frame.enter Tryz.checked.prog 6 i.args .normal) [] (w.forCall tape i)) :=
 ⟨oG os,fun _ _=>0,⟨#[],aAB,[]⟩,rfl,World.shaped_of_RefB (wv6 os) (wr6 os),(Input.okWide_of_okWideB (base:=0) (wo6 os)).1,(Input.okWide_of_okWideB (wo6 os)).2,⟨⟨ChangeSpec.pre_of_preB (wp6 os H enc),C6 os _⟩,sizedMet_of_sizedB (wz6 os H enc)⟩,by
  simp only [Assume.holds]
  exact ⟨by simp,by simp,fun _=>Modest.zero,by simp,by simp⟩⟩
end Go.Proofs.YtdeikigmgdnojaaGreatDoor
