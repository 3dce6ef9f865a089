import Derived.Test.YtdeikigmgdnojaaGreatDoorA12
import Derived.Test.YtdeikigmgdnojaaGreatDoorA14
import Derived.Test.YtdeikigmgdnojaaGreatDoorA36
import Derived.ProofKit
import Derived.SevenTiedAt
import Derived.Test.YtdeikigmgdnojaaGreatDoorTie
import Derived.Test.YtdeikigmgdnojaaGreatDoorCards
/- A part of the proof of one law. -/
set_option maxRecDepth 100000
set_option maxHeartbeats 8000000
set_option linter.unusedVariables false
set_option linter.unusedSimpArgs false
namespace Go.Proofs.YtdeikigmgdnojaaGreatDoor
open Go.ChangeShapes Go.WideShapes Go.ChangeAt Go.RowKit Go.Ab
theorem PE:Tryz.f3.params=#[28]:=by kernel_rfl
theorem y9 (os:Os) (started:os.Started) (H:Type) (enc:TypeId × Value→H) :
  ReturnsInHanded {} Tryz.checked os 3 .any (fun w args=>(Rows.machineStartsSpec.pre enc Tryz.prog Tryz.f3 [] false w args∧laidMetH Tryz.prog Rows.machineStartsRow.laid w)∧sizedMet enc Tryz.prog Tryz.f3 (OpenSpec.ofChange Rows.machineStartsSpec) false w args)
   (Rows.machineStartsSpec.post enc Tryz.prog Tryz.f3 false true false false):=by
 refine returnsInHanded_of_calls (C:=Tryz.checked) T6 started (by kernel_rfl)
  (y8 os H enc) ?_
 intro w tape i _ hsh _ hok hpre _
 obtain ⟨_,_,_,fn',hfn',_,_,_,_,hval0⟩:=hok
 obtain rfl:fn'=Tryz.f3:=Option.some.inj (hfn'.symm.trans Tryz.func3)
 obtain ⟨⟨⟨ds,gs,before,hw,hc⟩,hL0⟩,hz⟩:=hpre
 have hW0:=DataW.Whole.of_heap (w':=w.forCall tape i) (by rfl) hw
 have hwt0:=hz.weights hw
 have hL1:laidMetH Tryz.prog Rows.machineStartsRow.laid (w.forCall tape i):=laidMetH.of_heap (by rfl) hL0
 have key:∀ (W:World) (args:Array Value),W.ShapedOpen Tryz.prog→(∀ (j:Nat) t v,Tryz.f3.params[j]? = some t→args[j]? = some v→Value.okWide Tryz.prog W .any w.heap.size t v) →
   DataW.Whole enc Tryz.prog Tryz.f3.params.toList Rows.machineStartsSpec.vars false W args.toList ds gs before→laidMetH Tryz.prog Rows.machineStartsRow.laid W →
   Calls Tryz.prog 3 args W fun e W'=>∃ v,e = .returned v∧Rows.machineStartsSpec.post enc Tryz.prog Tryz.f3 false true false false W args v W':=by
  intro W args hsh hval hW hL
  have hW':=hW
  obtain ⟨p,q,hA0,hV,rfl,hfz,hnd⟩:=hW
  have hA:DataW.TrodAll enc Tryz.prog W 0 (fun _=>true) true Tryz.f3.params.toList args.toList ds p:=hA0
  rw [PE] at hA hval
  obtain ⟨v0,d0,rfl,rfl,h0⟩:=trodAll_one hA
  obtain ⟨rfl,rfl⟩:=trodVars_none hV
  simp only [List.append_nil] at hW'
  have hlt:∀ x ∈ p,x.block < W.heap.size:=fun x hx=>by simpa using hW'.lt x hx
  have hw1:(d0.weights Tryz.prog 28).all (·≤reachBytes)=true:=by
   have h:=hwt0
   rw [PE] at h
   have e:(OpenSpec.ofChange Rows.machineStartsSpec).bare.plain.varTypes Tryz.prog=[]:=rfl
   rw [e] at h
   simpa [DataW.weightsEach] using h
  obtain ⟨xs,hT,hR⟩:=AW (n:=60) UK (hval 0 28 v0 rfl rfl) h0 (by kernel_rfl) hw1
  obtain ⟨c,fn,va,bs,rfl⟩:=LS hT
  refine ((KE ⟨c,fn,va,bs⟩).calls (G6 hL hsh) (vs:=#[v0]) ⟨rfl,fun k x y hx hy=>?_⟩).mono ?_
  ·cases k with
   | zero=>simp at hx hy;subst hx hy;exact hR
   | succ k=>simp at hx
  ·rintro e W' ⟨v,ι',rfl,hv,bel⟩
   obtain rfl:v = .bool true:=hv.sc_inv.1
   have e1:Rows.machineStartsSpec.fn H ([d0]++[])={ results:=[.lit (.bool true)],args:=[d0] }:=by simp [Rows.machineStartsSpec]
   refine ⟨_,rfl,_,_,_,[],p,[],hW',?_,?_,?_,bel.frame _,fun h=>by cases h⟩
   ·rw [e1];exact trodAll_mk1 (shut_bool U7 true)
   ·rw [e1]
    have:=Below.trod C5 (by kernel_rfl) (of_decide_eq_true (by kernel_rfl)) h0 bel hlt
    rw [PE]
    exact trodAll_mk1 this
   ·rw [e1];rfl
 refine (key (w.forCall tape i) i.args hsh hval0 hW0 hL1).mono fun e W' ⟨v,he,hp⟩=>?_
 subst he
 exact ChangeSpec.post_blind hp
theorem fn3:Tryz.prog.funcNamed "seedbed/seedbedlaw14.MachineStarts" = some 3:=by kernel_rfl
theorem T1:Tryz.f3.isInstance Tryz.prog Rows.machineStartsRow.origin Rows.machineStartsRow.targs:=of_decide_eq_true (by kernel_rfl)
theorem VN:Tryz.f3.isWrapper Tryz.prog Rows.machineStartsRow.wrapper Rows.machineStartsRow.mainSum:=by unfold Func.isWrapper;rw [if_neg (of_decide_eq_false (by kernel_rfl))];exact ⟨rfl,rfl⟩
theorem F5:Rows.MachineStartsSaid :=
 OpenClaim.holds_of_wide 3 Tryz.f3 rfl rfl rfl rfl rfl rfl rfl ⟨rfl,rfl,rfl,rfl,rfl⟩ rfl rfl rfl rfl rfl fn3 Tryz.func3 jf
  T1 VN
  (fun os started H enc _=>y9 os started H enc)
theorem starts_holds:Rows.MachineStartsCardSaid :=
 Claim7.holds_tied_plain_at .later [] [.data,.listed,.data,.pinned] true (true, "eeb729ea5854dec3af34cdb7bac2e90a6530410aa469370056f8c20f2d7e3633") true
  F5 (fun _ h=>by cases h) (by kernel_rfl) (fun _ h=>by cases h) machineStarts_row_tie rfl ⟨rfl,rfl⟩ (by kernel_rfl) rfl
  (fun f fn hf hfn=>by
   obtain rfl:f=3:=Option.some.inj ((show Tryz.prog.funcNamed "seedbed/seedbedlaw14.MachineStarts" = some 3 by kernel_rfl).symm.trans hf) |>.symm
   obtain rfl:fn=Tryz.f3:=(Option.some.inj (Tryz.func3.symm.trans hfn)).symm
   exact ⟨by kernel_rfl,fun j t ht=>by
    rw [PE] at ht
    have h3:t=28:=by
     rcases j with _ | j
     ·simpa using ht.symm
     ·simp at ht
    subst h3
    exact (show Tryz.prog.wantsStandIn 28=false by kernel_rfl)⟩)
  (by kernel_rfl)
end Go.Proofs.YtdeikigmgdnojaaGreatDoor
