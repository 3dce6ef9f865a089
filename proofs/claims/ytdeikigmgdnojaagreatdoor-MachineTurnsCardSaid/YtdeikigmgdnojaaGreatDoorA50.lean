import Derived.Test.YtdeikigmgdnojaaGreatDoorA13
/- A part of the proof of one law. -/
set_option maxRecDepth 100000
set_option maxHeartbeats 8000000
set_option linter.unusedVariables false
set_option linter.unusedSimpArgs false
namespace Go.Proofs.YtdeikigmgdnojaaGreatDoor
open Go.ChangeShapes Go.WideShapes Go.ChangeAt Go.RowKit Go.Ab
abbrev aAC:Array Value:=#[.agg #[.slice none 0 0,.int .i64 0,.slice none 0 0,.slice none 0 0]]
noncomputable abbrev w08 (os:Os):World:=(oG os).forCall (fun _ _=>0) ⟨#[],aAC,[]⟩
theorem wv8 (os:Os):(w08 os).variablesRefB Tryz.prog=true:=by kernel_rfl
theorem wr8 (os:Os):((w08 os).heap.toList.drop Tryz.prog.globals.size).take ((begin Tryz.prog (fun _ _=>0) default).world.heap.size - Tryz.prog.globals.size)=(begin Tryz.prog (fun _ _=>0) default).world.heap.toList.drop Tryz.prog.globals.size:=by kernel_rfl
theorem wo8 (os:Os):Input.okWideB Tryz.prog (w08 os) 8 ⟨#[],aAC,[]⟩=true:=by kernel_rfl
theorem wp8 (os:Os) (H:Type) (enc:TypeId × Value→H):Rows.machineTurnsSpec.preB enc Tryz.prog Tryz.f8 [] false (w08 os).memory aAC 8=true:=by kernel_rfl
theorem wz8 (os:Os) (H:Type) (enc:TypeId × Value→H):Rows.machineTurnsSpec.sizedB enc Tryz.prog Tryz.f8 false (w08 os).memory aAC 8=true:=by kernel_rfl
theorem aBz (os:Os) (H:Type) (enc:TypeId × Value→H):∃ (w:World) (tape:Tape) (i:Input),w.os=os∧(w.forCall tape i).Shaped Tryz.checked.prog∧i.vars=[]∧Input.okWide Tryz.checked.prog (w.forCall tape i) .any w.heap.size 8 i ∧
   ((Rows.machineTurnsSpec.pre enc Tryz.prog Tryz.f8 [] false (w.forCall tape i).memory i.args∧laidMetH Tryz.prog Rows.machineTurnsRow.laid (w.forCall tape i).memory)∧sizedMet enc Tryz.prog Tryz.f8 (OpenSpec.ofChange Rows.machineTurnsSpec) false (w.forCall tape i).memory i.args)∧({}:Assume).holds Tryz.checked.prog (lone (Frame.enter Tryz.checked.prog 8 i.args .normal) [] (w.forCall tape i)) :=
 ⟨oG os,fun _ _=>0,⟨#[],aAC,[]⟩,rfl,World.shaped_of_RefB (wv8 os) (wr8 os),(Input.okWide_of_okWideB (base:=0) (wo8 os)).1,(Input.okWide_of_okWideB (wo8 os)).2,⟨⟨ChangeSpec.pre_of_preB (wp8 os H enc),C6 os _⟩,sizedMet_of_sizedB (wz8 os H enc)⟩,by
  simp only [Assume.holds]
  exact ⟨by simp,by simp,fun _=>Modest.zero,by simp,by simp⟩⟩
end Go.Proofs.YtdeikigmgdnojaaGreatDoor
