import Derived.Test.YtdeikigmgdnojaaGreatDoorA13
/- A part of the proof of one law. -/
set_option maxRecDepth 100000
set_option maxHeartbeats 8000000
set_option linter.unusedVariables false
set_option linter.unusedSimpArgs false
namespace Go.Proofs.YtdeikigmgdnojaaGreatDoor
open Go.ChangeShapes Go.WideShapes Go.ChangeAt Go.RowKit Go.Ab
abbrev B1:Array Value:=#[.agg #[.slice none 0 0],.slice none 0 0,.agg #[.int .i64 0,.int .i64 0,.string ⟨#[]⟩,.int .i64 0,.int .i64 0,.string ⟨#[]⟩]]
noncomputable abbrev VI (os:Os):World:=(oG os).forCall (fun _ _=>0) ⟨#[],B1,[]⟩
theorem wv4 (os:Os):(VI os).variablesRefB Tryz.prog=true:=by kernel_rfl
theorem wr4 (os:Os):((VI os).heap.toList.drop Tryz.prog.globals.size).take ((begin Tryz.prog (fun _ _=>0) default).world.heap.size - Tryz.prog.globals.size)=(begin Tryz.prog (fun _ _=>0) default).world.heap.toList.drop Tryz.prog.globals.size:=by kernel_rfl
theorem wo4 (os:Os):Input.okWideB Tryz.prog (VI os) 4 ⟨#[],B1,[]⟩=true:=by kernel_rfl
theorem wp4 (os:Os) (H:Type) (enc:TypeId × Value→H):Rows.machineGoesSpec.preB enc Tryz.prog Tryz.f4 [] false (VI os).memory B1 8=true:=by kernel_rfl
theorem wz4 (os:Os) (H:Type) (enc:TypeId × Value→H):Rows.machineGoesSpec.sizedB enc Tryz.prog Tryz.f4 false (VI os).memory B1 8=true:=by kernel_rfl
theorem YT (os:Os) (H:Type) (enc:TypeId × Value→H):∃ (w:World) (tape:Tape) (i:Input),w.os=os∧(w.forCall tape i).Shaped Tryz.checked.prog∧i.vars=[]∧Input.okWide Tryz.checked.prog (w.forCall tape i) .any w.heap.size 4 i ∧
   ((Rows.machineGoesSpec.pre enc Tryz.prog Tryz.f4 [] false (w.forCall tape i).memory i.args∧laidMetH Tryz.prog Rows.machineGoesRow.laid (w.forCall tape i).memory)∧sizedMet enc Tryz.prog Tryz.f4 (OpenSpec.ofChange Rows.machineGoesSpec) false (w.forCall tape i).memory i.args)∧({}:Assume).holds Tryz.checked.prog (lone (Frame.enter Tryz.checked.prog 4 i.args .normal) [] (w.forCall tape i)) :=
 ⟨oG os,fun _ _=>0,⟨#[],B1,[]⟩,rfl,World.shaped_of_RefB (wv4 os) (wr4 os),(Input.okWide_of_okWideB (base:=0) (wo4 os)).1,(Input.okWide_of_okWideB (wo4 os)).2,⟨⟨ChangeSpec.pre_of_preB (wp4 os H enc),C6 os _⟩,sizedMet_of_sizedB (wz4 os H enc)⟩,by
  simp only [Assume.holds]
  exact ⟨by simp,by simp,fun _=>Modest.zero,by simp,by simp⟩⟩
end Go.Proofs.YtdeikigmgdnojaaGreatDoor
