import Derived.Test.YtdeikigmgdnojaaGreatDoorT27
/- A part of the proof of one law. -/
set_option maxRecDepth 100000
set_option maxHeartbeats 8000000
set_option linter.unusedVariables false
set_option linter.unusedSimpArgs false
namespace Go.Ab
open Go Go.Ab.Tryz Go.Proofs
section
variable {P:Program} {σ:aA} {e:aW} {J:aW→aA→Prop}
theorem qP (k:Nat) {o:aU} (hk:σ.look k=some o) (h:J e (σ.put k none)):SC P e σ J :=
 kL (α:=Unit) (S:=fun _=>σ.put k none) (E:=fun _=>e) (fun X ι w hh=>by
  have hlook:∀ j,(σ.put k none).look j=if j=k then none else σ.look j:=aM hk
  have hb:∀ {j:Nat} {o:aU},(σ.put k none).look j=some o→σ.look j=some o:=fun {j o} hj=>by
   rw [hlook] at hj
   split at hj
   ·cases hj
   ·exact hj
  refine ⟨(),ι,Comes'.regroup hh (fun _ _ h=>h) (fun id hid=>hh.fresh id (by rw [bV hk] at hid;exact hid)) (fun id o hid => .inl (hb hid)) (fun b ⟨j,o,u,g1,g2,g3⟩=>⟨j,o,u,hb g1,g2,g3⟩) (fun id id' o o' u u' b g1 g2 g3 g4 g5 g6=>hh.inj id id' o o' u u' b (hb g1) (hb g2) g3 g4 g5 g6),fun _ _=>rfl,iM (fun _ _ h=>h)⟩) (fun _=>Nat.le_of_eq (bV hk).symm) (fun _=>h)
end
abbrev Fm.dv (t:Fm):DV := .agg [iv t.fn,iv t.pc,iv t.to,lv (t.slots.map Va.enc)]
section
variable {P:Program} {σ:aA} {e:aW} {J:aW→aA→Prop}
end
def gH (u:Tn) (b:Bool):List aR:=u.enc++[db b]
abbrev yA (u:Tn) (b:Bool):=mG 108 (gH u b)
abbrev vS:=(Tn × Bool) × Nat × Value × List (Value × Fm)
abbrev vS.obj (c:List Fc) (y:vS):aU:=yA y.1.1 y.1.2 c y.2.1 y.2.2.1 y.2.2.2
end Go.Ab
