import Derived.Test.YtdeikigmgdnojaaGreatDoorA13
/- A part of the proof of one law. -/
set_option maxRecDepth 100000
set_option maxHeartbeats 8000000
set_option linter.unusedVariables false
set_option linter.unusedSimpArgs false
namespace Go.Proofs.YtdeikigmgdnojaaGreatDoor
open Go.ChangeShapes Go.WideShapes Go.ChangeAt Go.RowKit Go.Ab
abbrev aAA:Array Value:=#[.agg #[.slice none 0 0,.int .i64 0,.slice none 0 0,.slice none 0 0]]
noncomputable abbrev w05 (os:Os):World:=(oG os).forCall (fun _ _=>0) ⟨#[],aAA,[]⟩
theorem wv5 (os:Os):(w05 os).variablesRefB Tryz.prog=true:=by kernel_rfl
theorem wr5 (os:Os):((w05 os).heap.toList.drop Tryz.prog.globals.size).take ((begin Tryz.prog (fun _ _=>0) default).world.heap.size - Tryz.prog.globals.size)=(begin Tryz.prog (fun _ _=>0) default).world.heap.toList.drop Tryz.prog.globals.size:=by kernel_rfl
theorem wo5 (os:Os):Input.okWideB Tryz.prog (w05 os) 5 ⟨#[],aAA,[]⟩=true:=by kernel_rfl
theorem wp5 (os:Os) (H:Type) (enc:TypeId × Value→H):Rows.machineGoodSpec.preB enc Tryz.prog Tryz.f5 [] false (w05 os).memory aAA 8=true:=by kernel_rfl
theorem wz5 (os:Os) (H:Type) (enc:TypeId × Value→H):Rows.machineGoodSpec.sizedB enc Tryz.prog Tryz.f5 false (w05 os).memory aAA 8=true:=by kernel_rfl
theorem aBx (os:Os) (H:Type) (enc:TypeId × Value→H):∃ (w:World) (tape:Tape) (i:Input),w.os=os∧(w.forCall tape i).Shaped Tryz.checked.prog∧i.vars=[]∧Input.okWide Tryz.checked.prog (w.forCall tape i) .any w.heap.size 5 i ∧
   ((Rows.machineGoodSpec.pre enc Tryz.prog Tryz.f5 [] false (w.forCall tape i).memory i.args∧laidMetH Tryz.prog Rows.machineGoodRow.laid (w.forCall tape i).memory)∧sizedMet enc Tryz.prog Tryz.f5 (OpenSpec.ofChange Rows.machineGoodSpec) false (w.forCall tape i).memory i.args)∧({}:Assume).holds Tryz.checked.prog (lone (Frame.enter Tryz.checked.prog 5 i.args .normal) [] (w.forCall tape i)) :=
 ⟨oG os,fun _ _=>0,⟨#[],aAA,[]⟩,rfl,World.shaped_of_RefB (wv5 os) (wr5 os),(Input.okWide_of_okWideB (base:=0) (wo5 os)).1,(Input.okWide_of_okWideB (wo5 os)).2,⟨⟨ChangeSpec.pre_of_preB (wp5 os H enc),C6 os _⟩,sizedMet_of_sizedB (wz5 os H enc)⟩,by
  simp only [Assume.holds]
  exact ⟨by simp,by simp,fun _=>Modest.zero,by simp,by simp⟩⟩
end Go.Proofs.YtdeikigmgdnojaaGreatDoor
