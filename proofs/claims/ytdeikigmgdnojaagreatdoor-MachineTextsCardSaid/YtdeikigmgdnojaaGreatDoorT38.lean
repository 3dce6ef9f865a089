import Derived.Test.YtdeikigmgdnojaaGreatDoorT12
/- A part of the proof of one law. -/
set_option maxRecDepth 100000
set_option maxHeartbeats 8000000
set_option linter.unusedVariables false
set_option linter.unusedSimpArgs false
namespace Go.Proofs.YtdeikigmgdnojaaGreatDoor
open Go.ChangeShapes Go.WideShapes Go.ChangeAt Go.RowKit Go.Ab
abbrev s3:Array Value:=#[.slice none 0 0]
noncomputable abbrev w09 (os:Os):World:=(oG os).forCall (fun _ _=>0) ⟨#[],s3,[]⟩
theorem wv9 (os:Os):(w09 os).variablesRefB Tryz.prog=true:=by kernel_rfl
theorem wr9 (os:Os):((w09 os).heap.toList.drop Tryz.prog.globals.size).take ((begin Tryz.prog (fun _ _=>0) default).world.heap.size - Tryz.prog.globals.size)=(begin Tryz.prog (fun _ _=>0) default).world.heap.toList.drop Tryz.prog.globals.size:=by kernel_rfl
theorem wo9 (os:Os):Input.okWideB Tryz.prog (w09 os) 9 ⟨#[],s3,[]⟩=true:=by kernel_rfl
theorem wp9 (os:Os) (H:Type) (enc:TypeId × Value→H):Rows.machineTextsSpec.preB enc Tryz.prog Tryz.f9 [] false (w09 os).memory s3 8=true:=by kernel_rfl
theorem wz9 (os:Os) (H:Type) (enc:TypeId × Value→H):Rows.machineTextsSpec.sizedB enc Tryz.prog Tryz.f9 false (w09 os).memory s3 8=true:=by kernel_rfl
theorem aDn (os:Os) (H:Type) (enc:TypeId × Value→H):∃ (w:World) (tape:Tape) (i:Input),w.os=os∧(w.forCall tape i).Shaped Tryz.checked.prog∧i.vars=[]∧Input.okWide Tryz.checked.prog (w.forCall tape i) .any w.heap.size 9 i ∧
   ((Rows.machineTextsSpec.pre enc Tryz.prog Tryz.f9 [] false (w.forCall tape i).memory i.args∧laidMetH Tryz.prog Rows.machineTextsRow.laid (w.forCall tape i).memory)∧sizedMet enc Tryz.prog Tryz.f9 (OpenSpec.ofChange Rows.machineTextsSpec) false (w.forCall tape i).memory i.args)∧({}:Assume).holds Tryz.checked.prog (lone (Frame.enter Tryz.checked.prog 9 i.args .normal) [] (w.forCall tape i)) :=
 ⟨oG os,fun _ _=>0,⟨#[],s3,[]⟩,rfl,World.shaped_of_RefB (wv9 os) (wr9 os),(Input.okWide_of_okWideB (base:=0) (wo9 os)).1,(Input.okWide_of_okWideB (wo9 os)).2,⟨⟨ChangeSpec.pre_of_preB (wp9 os H enc),C6 os _⟩,sizedMet_of_sizedB (wz9 os H enc)⟩,by
  simp only [Assume.holds]
  exact ⟨by simp,by simp,fun _=>Modest.zero,by simp,by simp⟩⟩
end Go.Proofs.YtdeikigmgdnojaaGreatDoor
