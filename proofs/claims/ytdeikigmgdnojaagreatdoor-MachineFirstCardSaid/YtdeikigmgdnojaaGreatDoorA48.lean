import Derived.Test.YtdeikigmgdnojaaGreatDoorA45
import Derived.Test.YtdeikigmgdnojaaGreatDoorA46
import Derived.Test.YtdeikigmgdnojaaGreatDoorA47
import Derived.ProofKit
import Derived.SevenTiedAt
import Derived.Test.YtdeikigmgdnojaaGreatDoorTie
import Derived.Test.YtdeikigmgdnojaaGreatDoorCards
/- A part of the proof of one law. -/
set_option maxRecDepth 100000
set_option maxHeartbeats 8000000
set_option linter.unusedVariables false
set_option linter.unusedSimpArgs false
namespace Go.Proofs.YtdeikigmgdnojaaGreatDoor
open Go.ChangeShapes Go.WideShapes Go.ChangeAt Go.RowKit Go.Ab
theorem aBb:Tryz.f6.params=#[28,3]:=by kernel_rfl
theorem aA7 (os:Os) (started:os.Started) (H:Type) (enc:TypeId × Value→H) :
  ReturnsInHanded {} Tryz.checked os 6 .any (fun w args=>(Rows.machineFirstSpec.pre enc Tryz.prog Tryz.f6 [] false w args∧laidMetH Tryz.prog Rows.machineFirstRow.laid w)∧sizedMet enc Tryz.prog Tryz.f6 (OpenSpec.ofChange Rows.machineFirstSpec) false w args)
   (Rows.machineFirstSpec.post enc Tryz.prog Tryz.f6 false true false false):=by
 refine returnsInHanded_of_calls (C:=Tryz.checked) T6 started (by kernel_rfl) (aBy os H enc) ?_
 intro w tape i _ hsh _ hok hpre _
 obtain ⟨_,_,_,fn',hfn',_,_,_,_,hval0⟩:=hok
 obtain rfl:fn'=Tryz.f6:=Option.some.inj (hfn'.symm.trans Tryz.func6)
 obtain ⟨⟨⟨ds,gs,before,hw,hc⟩,hL0⟩,hz⟩:=hpre
 have hW0:=DataW.Whole.of_heap (w':=w.forCall tape i) (by rfl) hw
 have hwt0:=hz.weights hw
 have hL1:laidMetH Tryz.prog Rows.machineFirstRow.laid (w.forCall tape i):=laidMetH.of_heap (by rfl) hL0
 have key:∀ (W:World) (args:Array Value),W.ShapedOpen Tryz.prog→(∀ (j:Nat) t v,Tryz.f6.params[j]? = some t→args[j]? = some v→Value.okWide Tryz.prog W .any w.heap.size t v) →
   DataW.Whole enc Tryz.prog Tryz.f6.params.toList Rows.machineFirstSpec.vars false W args.toList ds gs before→laidMetH Tryz.prog Rows.machineFirstRow.laid W →
   Calls Tryz.prog 6 args W fun e W'=>∃ v,e = .returned v∧Rows.machineFirstSpec.post enc Tryz.prog Tryz.f6 false true false false W args v W':=by
  intro W args hsh hval hW hL
  have hW':=hW
  obtain ⟨p,q,hA0,hV,rfl,hfz,hnd⟩:=hW
  have hA:DataW.TrodAll enc Tryz.prog W 0 (fun _=>true) true Tryz.f6.params.toList args.toList ds p:=hA0
  rw [aBb] at hA hval
  obtain ⟨v0,v1,d0,d1,p0,p1,rfl,rfl,rfl,h0,h1⟩:=trodAll_two hA
  obtain ⟨rfl,rfl⟩:=trodVars_none hV
  simp only [List.append_nil] at hW'
  have hlt:∀ x ∈ p0++p1,x.block < W.heap.size:=fun x hx=>by simpa using hW'.lt x (by simpa using hx)
  have hws:∀ (k:Nat) d,[d0,d1][k]? = some d→∀ t,[28,3][k]? = some t→(d.weights Tryz.prog t).all (·≤reachBytes)=true:=by
   have h:=hwt0
   rw [aBb] at h
   have e:(OpenSpec.ofChange Rows.machineFirstSpec).bare.plain.varTypes Tryz.prog=[]:=rfl
   rw [e] at h
   simp only [DataW.weightsEach,List.append_nil,List.all_append,Bool.and_eq_true] at h
   intro k d hd t ht
   match k,hd,ht with
   | 0,hd,ht=>cases hd;cases ht;exact h.1
   | 1,hd,ht=>cases hd;cases ht;exact h.2
   | k + 2,hd,ht=>simp at hd
  obtain ⟨x0,hT0,hR0⟩:=AW (n:=60) UK (hval 0 28 v0 rfl rfl) h0 (by kernel_rfl) (hws 0 d0 rfl 28 rfl)
  obtain ⟨x1,hR1⟩:=aA5 U6 (hval 1 3 v1 rfl rfl)
  obtain ⟨c,fn,va,bs,rfl⟩:=LS hT0
  refine (bY.calls (aAR ⟨c,fn,va,bs⟩ x1) (G6 (show laidMetH Tryz.prog Rows.machineStartsRow.laid W from hL) hsh) (vs:=#[v0,v1]) ⟨rfl,fun k x y hx hy=>?_⟩).mono ?_
  ·match k,hx,hy with
   | 0,hx,hy=>simp at hx hy;subst hx hy;exact hR0
   | 1,hx,hy=>simp at hx hy;subst hx hy;exact hR1
   | k + 2,hx,hy=>simp at hx
  ·rintro e W' ⟨v,ι',rfl,hv,bel⟩
   obtain rfl:v = .bool true:=hv.sc_inv.1
   have e1:Rows.machineFirstSpec.fn H ([d0,d1]++[])={ results:=[.lit (.bool true)],args:=[d0,d1] }:=by simp [Rows.machineFirstSpec]
   have bt:∀ (t:TypeId) {v:Value} {d:DataW H} {ps:List MemPlace},DataW.Trod enc Tryz.prog W 0 (fun _=>true) true t v d ps→Tryz.prog.readableRec t=true→t < Tryz.prog.types.size→(∀ x ∈ ps,x.block < W.heap.size)→DataW.Trod enc Tryz.prog W' 0 (fun b=>decide (b < W.heap.size)) true t v d ps:=fun t _ _ _ h a b c=>Below.trod C5 a b h bel c
   refine ⟨_,rfl,_,_,_,[],p0++p1,[],hW',?_,?_,?_,bel.frame _,fun h=>by cases h⟩
   ·rw [e1];exact trodAll_mk1 (shut_bool U7 true)
   ·rw [e1]
    rw [aBb]
    exact trodAll_mk2 (bt 28 h0 (by kernel_rfl) (of_decide_eq_true (by kernel_rfl)) (fun y hy=>hlt y (by simp [hy]))) (bt 3 h1 (by kernel_rfl) (of_decide_eq_true (by kernel_rfl)) (fun y hy=>hlt y (by simp [hy])))
   ·rw [e1];rfl
 refine (key (w.forCall tape i) i.args hsh hval0 hW0 hL1).mono fun e W' ⟨v,he,hp⟩=>?_
 subst he
 exact ChangeSpec.post_blind hp
theorem fn6:Tryz.prog.funcNamed "seedbed/seedbedlaw14.MachineFirst" = some 6:=by kernel_rfl
theorem aBk:Tryz.f6.isInstance Tryz.prog Rows.machineFirstRow.origin Rows.machineFirstRow.targs:=of_decide_eq_true (by kernel_rfl)
theorem aBq:Tryz.f6.isWrapper Tryz.prog Rows.machineFirstRow.wrapper Rows.machineFirstRow.mainSum:=by unfold Func.isWrapper;rw [if_neg (of_decide_eq_false (by kernel_rfl))];exact ⟨rfl,rfl⟩
theorem aBv:Rows.MachineFirstSaid :=
 OpenClaim.holds_of_wide 6 Tryz.f6 rfl rfl rfl rfl rfl rfl rfl ⟨rfl,rfl,rfl,rfl,rfl⟩ rfl rfl rfl rfl rfl fn6 Tryz.func6 jf6 aBk aBq (fun os started H enc _=>aA7 os started H enc)
theorem machineFirst_holds:Rows.MachineFirstCardSaid :=
 Claim7.holds_tied_plain_at .later [] [.data,.listed,.data,.pinned] true (true, "eeb729ea5854dec3af34cdb7bac2e90a6530410aa469370056f8c20f2d7e3633") true
  aBv (fun _ h=>by cases h) (by kernel_rfl) (fun _ h=>by cases h) machineFirst_row_tie rfl ⟨rfl,rfl⟩ (by kernel_rfl) rfl
  (fun f fn hf hfn=>by
   obtain rfl:f=6:=Option.some.inj (fn6.symm.trans hf) |>.symm
   obtain rfl:fn=Tryz.f6:=(Option.some.inj (Tryz.func6.symm.trans hfn)).symm
   exact ⟨by kernel_rfl,fun j t ht=>by
    rw [aBb] at ht
    match j,ht with
    | 0,ht=>cases ht;exact (show Tryz.prog.wantsStandIn 28=false by kernel_rfl)
    | 1,ht=>cases ht;exact (show Tryz.prog.wantsStandIn 3=false by kernel_rfl)
    | k + 2,ht=>simp at ht⟩)
  (by kernel_rfl)
end Go.Proofs.YtdeikigmgdnojaaGreatDoor
