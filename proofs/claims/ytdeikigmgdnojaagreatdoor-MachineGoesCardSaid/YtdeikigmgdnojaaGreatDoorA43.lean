import Derived.Test.YtdeikigmgdnojaaGreatDoorA39
import Derived.Test.YtdeikigmgdnojaaGreatDoorA40
import Derived.Test.YtdeikigmgdnojaaGreatDoorA42
import Derived.ProofKit
import Derived.SevenTiedAt
import Derived.Test.YtdeikigmgdnojaaGreatDoorTie
import Derived.Test.YtdeikigmgdnojaaGreatDoorCards
/- A part of the proof of one law. -/
set_option maxRecDepth 100000
set_option maxHeartbeats 8000000
set_option linter.unusedVariables false
set_option linter.unusedSimpArgs false
namespace Go.Proofs.YtdeikigmgdnojaaGreatDoor
open Go.ChangeShapes Go.WideShapes Go.ChangeAt Go.RowKit Go.Ab
theorem PF:Tryz.f4.params=#[24,33,52]:=by kernel_rfl
theorem O5 (os:Os) (started:os.Started) (H:Type) (enc:TypeId × Value→H) :
  ReturnsInHanded {} Tryz.checked os 4 .any (fun w args=>(Rows.machineGoesSpec.pre enc Tryz.prog Tryz.f4 [] false w args∧laidMetH Tryz.prog Rows.machineGoesRow.laid w)∧sizedMet enc Tryz.prog Tryz.f4 (OpenSpec.ofChange Rows.machineGoesSpec) false w args)
   (Rows.machineGoesSpec.post enc Tryz.prog Tryz.f4 false true false false):=by
 refine returnsInHanded_of_calls (C:=Tryz.checked) T6 started (by kernel_rfl) (YT os H enc) ?_
 intro w tape i _ hsh _ hok hpre _
 obtain ⟨_,_,_,fn',hfn',_,_,_,_,hval0⟩:=hok
 obtain rfl:fn'=Tryz.f4:=Option.some.inj (hfn'.symm.trans Tryz.func4)
 obtain ⟨⟨⟨ds,gs,before,hw,hc⟩,hL0⟩,hz⟩:=hpre
 have hW0:=DataW.Whole.of_heap (w':=w.forCall tape i) (by rfl) hw
 have hwt0:=hz.weights hw
 have hL1:laidMetH Tryz.prog Rows.machineGoesRow.laid (w.forCall tape i):=laidMetH.of_heap (by rfl) hL0
 have key:∀ (W:World) (args:Array Value),W.ShapedOpen Tryz.prog→(∀ (j:Nat) t v,Tryz.f4.params[j]? = some t→args[j]? = some v→Value.okWide Tryz.prog W .any w.heap.size t v) →
   DataW.Whole enc Tryz.prog Tryz.f4.params.toList Rows.machineGoesSpec.vars false W args.toList ds gs before→laidMetH Tryz.prog Rows.machineGoesRow.laid W →
   Calls Tryz.prog 4 args W fun e W'=>∃ v,e = .returned v∧Rows.machineGoesSpec.post enc Tryz.prog Tryz.f4 false true false false W args v W':=by
  intro W args hsh hval hW hL
  have hW':=hW
  obtain ⟨p,q,hA0,hV,rfl,hfz,hnd⟩:=hW
  have hA:DataW.TrodAll enc Tryz.prog W 0 (fun _=>true) true Tryz.f4.params.toList args.toList ds p:=hA0
  rw [PF] at hA hval
  obtain ⟨v0,v1,v2,d0,d1,d2,p0,p1,p2,rfl,rfl,rfl,h0,h1,h2⟩:=trodAll_three hA
  obtain ⟨rfl,rfl⟩:=trodVars_none hV
  simp only [List.append_nil] at hW'
  have hlt:∀ x ∈ p0++p1++p2,x.block < W.heap.size:=fun x hx=>by simpa using hW'.lt x (by simpa using hx)
  have hws:∀ (k:Nat) d,[d0,d1,d2][k]? = some d→∀ t,[24,33,52][k]? = some t→(d.weights Tryz.prog t).all (·≤reachBytes)=true:=by
   have h:=hwt0
   rw [PF] at h
   have e:(OpenSpec.ofChange Rows.machineGoesSpec).bare.plain.varTypes Tryz.prog=[]:=rfl
   rw [e] at h
   simp only [DataW.weightsEach,List.append_nil,List.all_append,Bool.and_eq_true] at h
   intro k d hd t ht
   match k,hd,ht with
   | 0,hd,ht=>cases hd;cases ht;exact h.1
   | 1,hd,ht=>cases hd;cases ht;exact h.2.1
   | 2,hd,ht=>cases hd;cases ht;exact h.2.2
   | k + 3,hd,ht=>simp at hd
  obtain ⟨x0,hT0,hR0⟩:=AW (n:=60) UJ (hval 0 24 v0 rfl rfl) h0 (by kernel_rfl) (hws 0 d0 rfl 24 rfl)
  obtain ⟨x1,hT1,hR1⟩:=OA (n:=60) QM (hval 1 33 v1 rfl rfl) h1 (by kernel_rfl) (hws 1 d1 rfl 33 rfl)
  obtain ⟨x2,hT2,hR2⟩:=AW (n:=60) UL (hval 2 52 v2 rfl rfl) h2 (by kernel_rfl) (hws 2 d2 rfl 52 rfl)
  obtain ⟨c,rfl⟩:=CJ hT0
  obtain ⟨fs,rfl,hfs⟩:=OO hT1
  obtain ⟨a,rfl⟩:=LR hT2
  refine (bY.calls (MM c fs a hfs) (G6 (show laidMetH Tryz.prog Rows.machineStartsRow.laid W from hL) hsh) (vs:=#[v0,v1,v2]) ⟨rfl,fun k x y hx hy=>?_⟩).mono ?_
  ·match k,hx,hy with
   | 0,hx,hy=>simp at hx hy;subst hx hy;exact hR0
   | 1,hx,hy=>simp at hx hy;subst hx hy;exact hR1
   | 2,hx,hy=>simp at hx hy;subst hx hy;exact hR2
   | k + 3,hx,hy=>simp at hx
  ·rintro e W' ⟨v,ι',rfl,hv,bel⟩
   obtain rfl:v = .bool true:=hv.sc_inv.1
   have e1:Rows.machineGoesSpec.fn H ([d0,d1,d2]++[])={ results:=[.lit (.bool true)],args:=[d0,d1,d2] }:=by simp [Rows.machineGoesSpec]
   have bt:∀ (t:TypeId) {v:Value} {d:DataW H} {ps:List MemPlace},DataW.Trod enc Tryz.prog W 0 (fun _=>true) true t v d ps→Tryz.prog.readableRec t=true→t < Tryz.prog.types.size→(∀ x ∈ ps,x.block < W.heap.size)→DataW.Trod enc Tryz.prog W' 0 (fun b=>decide (b < W.heap.size)) true t v d ps:=fun t _ _ _ h a b c=>Below.trod C5 a b h bel c
   refine ⟨_,rfl,_,_,_,[],p0++p1++p2,[],hW',?_,?_,?_,bel.frame _,fun h=>by cases h⟩
   ·rw [e1];exact trodAll_mk1 (shut_bool U7 true)
   ·rw [e1]
    rw [PF]
    rw [List.append_assoc]
    exact trodAll_mk3 (bt 24 h0 (by kernel_rfl) (of_decide_eq_true (by kernel_rfl)) (fun y hy=>hlt y (by simp [hy]))) (bt 33 h1 (by kernel_rfl) (of_decide_eq_true (by kernel_rfl)) (fun y hy=>hlt y (by simp [hy]))) (bt 52 h2 (by kernel_rfl) (of_decide_eq_true (by kernel_rfl)) (fun y hy=>hlt y (by simp [hy])))
   ·rw [e1];rfl
 refine (key (w.forCall tape i) i.args hsh hval0 hW0 hL1).mono fun e W' ⟨v,he,hp⟩=>?_
 subst he
 exact ChangeSpec.post_blind hp
theorem fn4:Tryz.prog.funcNamed "seedbed/seedbedlaw14.MachineGoes" = some 4:=by kernel_rfl
theorem T2:Tryz.f4.isInstance Tryz.prog Rows.machineGoesRow.origin Rows.machineGoesRow.targs:=of_decide_eq_true (by kernel_rfl)
theorem VO:Tryz.f4.isWrapper Tryz.prog Rows.machineGoesRow.wrapper Rows.machineGoesRow.mainSum:=by unfold Func.isWrapper;rw [if_neg (of_decide_eq_false (by kernel_rfl))];exact ⟨rfl,rfl⟩
theorem XV:Rows.MachineGoesSaid :=
 OpenClaim.holds_of_wide 4 Tryz.f4 rfl rfl rfl rfl rfl rfl rfl ⟨rfl,rfl,rfl,rfl,rfl⟩ rfl rfl rfl rfl rfl fn4 Tryz.func4 jf4 T2 VO (fun os started H enc _=>O5 os started H enc)
theorem machineGoes_holds:Rows.MachineGoesCardSaid :=
 Claim7.holds_tied_plain_at .later [] [.data,.listed,.data,.pinned] true (true, "eeb729ea5854dec3af34cdb7bac2e90a6530410aa469370056f8c20f2d7e3633") true
  XV (fun _ h=>by cases h) (by kernel_rfl) (fun _ h=>by cases h) machineGoes_row_tie rfl ⟨rfl,rfl⟩ (by kernel_rfl) rfl
  (fun f fn hf hfn=>by
   obtain rfl:f=4:=Option.some.inj (fn4.symm.trans hf) |>.symm
   obtain rfl:fn=Tryz.f4:=(Option.some.inj (Tryz.func4.symm.trans hfn)).symm
   exact ⟨by kernel_rfl,fun j t ht=>by
    rw [PF] at ht
    match j,ht with
    | 0,ht=>cases ht;exact (show Tryz.prog.wantsStandIn 24=false by kernel_rfl)
    | 1,ht=>cases ht;exact (show Tryz.prog.wantsStandIn 33=false by kernel_rfl)
    | 2,ht=>cases ht;exact (show Tryz.prog.wantsStandIn 52=false by kernel_rfl)
    | k + 3,ht=>simp at ht⟩)
  (by kernel_rfl)
end Go.Proofs.YtdeikigmgdnojaaGreatDoor
