import Derived.Test.YtdeikigmgdnojaaGreatDoorT11
/- A part of the proof of one law. -/
set_option maxRecDepth 100000
set_option maxHeartbeats 8000000
set_option linter.unusedVariables false
set_option linter.unusedSimpArgs false
namespace Go.Ab
open Go Go.Ab.Tryz Go.Proofs
theorem OA {H:Type} {enc:TypeId × Value→H} {P:Program} {W:World} {base:Nat} {t e:TypeId} {v:Value} {d:DataW H} {ps:List MemPlace} {n:Nat} (hu:P.underlying t=some (.slice e)) (hok:Value.okWide P W .any base t v)
  (h:DataW.Trod enc P W 0 (fun _=>true) true t v d ps) (hp:i6 P n t=true) (hw:(d.weights P t).all (·≤reachBytes)=true) :
  ∃ es,gB P t [.lst es]∧aX (fun _=>none) W (fun _=>False) (.d (.lst es)) v:=by
 obtain ⟨fuel,hf⟩:=h
 unfold Value.okWide at hok
 rw [hu] at hok
 simp only at hok
 unfold Cell.okWide at hok
 rw [hu] at hok
 have hv:∃ A k c,v = .slice A k c:=by
  cases v <;> first | exact ⟨_,_,_,rfl⟩ | (simp [Cell.ok,hu] at hok;done)
 obtain ⟨A,k,c,rfl⟩:=hv
 obtain ⟨xs,h1,h2,h3,h4⟩:=pO n fuel t _ d ps hf hp hw
 obtain ⟨es,rfl,_,_⟩:=h1.slice_inv hu
 exact ⟨es,h1,.d (h4 0 _ _ rfl rfl)⟩
theorem WV:Tryz.prog.bytesOf 35=32:=by kernel_rfl
theorem ON {xs:List aR} (h:gB Tryz.prog 63 xs):∃ v:Fm,xs=v.enc∧v.slots.length * 32≤140737488351232:=by
 obtain ⟨a,r,rfl,ha,h⟩:=(h.fields X0).cons_inv
 obtain ⟨b,r,rfl,hb,h⟩:=h.cons_inv
 obtain ⟨c,r,rfl,hc,h⟩:=h.cons_inv
 obtain ⟨d,r,rfl,hd,h⟩:=h.cons_inv
 obtain rfl:=h.nil_inv
 obtain ⟨a,rfl⟩:=fC ha
 obtain ⟨b,rfl⟩:=fC hb
 obtain ⟨c,rfl⟩:=fC hc
 obtain ⟨es,rfl,hB,he⟩:=hd.slice_invB QL
 obtain ⟨l,rfl,_⟩:=tP (enc:=Va.enc) (ok:=fun _=>True) es (fun cs hc=>by obtain ⟨v,hv⟩:=A2 (he cs hc);exact ⟨v,hv,trivial⟩)
 refine ⟨⟨a,b,c,l⟩,rfl,?_⟩
 rw [WV,List.length_map] at hB
 exact hB
theorem OO {es:List (List aR)} (h:gB Tryz.prog 33 [.lst es]):∃ fs:List Fm,es=fs.map Fm.enc∧∀ t ∈ fs,t.slots.length * 32≤140737488351232:=by
 obtain ⟨es',h1,_,he⟩:=h.slice_inv QM
 cases h1
 exact tP (enc:=Fm.enc) es (fun cs hc=>ON (he cs hc))
end Go.Ab
