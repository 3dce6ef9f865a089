import Derived.Test.YtdeikigmgdnojaaGreatDoorA13
/- A part of the proof of one law. -/
set_option maxRecDepth 100000
set_option maxHeartbeats 8000000
set_option linter.unusedVariables false
set_option linter.unusedSimpArgs false
namespace Go.Proofs.YtdeikigmgdnojaaGreatDoor
open Go.ChangeShapes Go.WideShapes Go.ChangeAt Go.RowKit Go.Ab
abbrev CB:Value := .agg #[.slice none 0 0,.int .i64 0,.slice none 0 0,.slice none 0 0]
noncomputable abbrev uC (os:Os):World:=(oG os).forCall (fun _ _=>0) ⟨#[],#[CB],[]⟩
theorem wv (os:Os):(uC os).variablesRefB Tryz.prog=true:=by kernel_rfl
theorem wr (os:Os):((uC os).heap.toList.drop Tryz.prog.globals.size).take ((begin Tryz.prog (fun _ _=>0) default).world.heap.size - Tryz.prog.globals.size)=(begin Tryz.prog (fun _ _=>0) default).world.heap.toList.drop Tryz.prog.globals.size:=by kernel_rfl
theorem wo (os:Os):Input.okWideB Tryz.prog (uC os) 3 ⟨#[],#[CB],[]⟩=true:=by kernel_rfl
theorem wp (os:Os) (H:Type) (enc:TypeId × Value→H):Rows.machineStartsSpec.preB enc Tryz.prog Tryz.f3 [] false (uC os).memory #[CB] 8=true:=by kernel_rfl
theorem wz (os:Os) (H:Type) (enc:TypeId × Value→H):Rows.machineStartsSpec.sizedB enc Tryz.prog Tryz.f3 false (uC os).memory #[CB] 8=true:=by kernel_rfl
theorem y8 (os:Os) (H:Type) (enc:TypeId × Value→H):∃ (w:World) (tape:Tape) (i:Input),w.os=os∧(w.forCall tape i).Shaped Tryz.checked.prog∧i.vars=[]∧Input.okWide Tryz.checked.prog (w.forCall tape i) .any w.heap.size 3 i ∧
   ((Rows.machineStartsSpec.pre enc Tryz.prog Tryz.f3 [] false (w.forCall tape i).memory i.args∧laidMetH Tryz.prog Rows.machineStartsRow.laid (w.forCall tape i).memory)∧sizedMet enc Tryz.prog Tryz.f3 (OpenSpec.ofChange Rows.machineStartsSpec) false (w.forCall tape i).memory i.args)∧({}:Assume).holds Tryz.checked.prog (lone (Frame.enter Tryz.checked.prog 3 i.args .normal) [] (w.forCall tape i)) :=
 ⟨oG os,fun _ _=>0,⟨#[],#[CB],[]⟩,rfl,World.shaped_of_RefB (wv os) (wr os),(Input.okWide_of_okWideB (base:=0) (wo os)).1,(Input.okWide_of_okWideB (wo os)).2,⟨⟨ChangeSpec.pre_of_preB (wp os H enc),C6 os _⟩,sizedMet_of_sizedB (wz os H enc)⟩,by
  simp only [Assume.holds]
  exact ⟨by simp,by simp,fun _=>Modest.zero,by simp,by simp⟩⟩
end Go.Proofs.YtdeikigmgdnojaaGreatDoor
