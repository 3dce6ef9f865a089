import Derived.Test.YtdeikigmgdnojaaGreatDoorT31
/- A part of the proof of one law. -/
set_option maxRecDepth 100000
set_option maxHeartbeats 8000000
set_option linter.unusedVariables false
set_option linter.unusedSimpArgs false
namespace Go.Ab
open Go Go.Ab.Tryz Go.Proofs
abbrev TU:Fm:=⟨0,1,-1,[⟨1,5,⟨#[]⟩⟩]⟩
abbrev akW:Ak:={ d6 with kind:=3,v:=⟨1,5,⟨#[]⟩⟩ }
abbrev V9:An:=⟨g9,0,kW⟩
theorem RY:mB pM 0 []=([TU],⟨false,akW,g9,kW⟩,0):=by kernel_rfl
theorem goW:v6 pM [TU] V9=([],⟨true,d6,g9,kW⟩,0):=by kernel_rfl
theorem KD:bY Tryz.prog 15 [.agg [bC pM],iv 0,lv []] (dZ ([TU],⟨false,akW,g9,kW⟩,0)):=by
 have:=uH pM 0 []
 rw [RY] at this
 exact this
theorem RK:bY Tryz.prog 21 [.agg [bC pM],lv ([TU].map Fm.enc),V9.dv] (dZ ([],⟨true,d6,g9,kW⟩,0)):=by
 have:=GJ pM [TU] V9
 rw [goW] at this
 exact this
theorem p8:bY Tryz.prog 13 [] (bv true):=by
 refine of_body Tryz.func13 rfl rfl (nB rfl) ?_
 rw [Tryz.ntmps13]
 repeat' (first | ((with_reducible refine kw ?_);first | refine Wg ?_ | refine W0 ?_ | refine W1 ?_ | refine W2 ?_ | refine W3 ?_ | refine W6 ?_ | refine W7 ?_ | refine bJ ?_ | (refine aJ ?_;first | refine tD KB ?_ | refine tD KD ?_ | refine tD RK ?_) | (refine fO ?_;refine cK (aF (el rfl) rfl rfl cN cN ⟨rfl,by decide⟩) rfl rfl ?_) | (refine aE ?_;refine q8 ?_) | refine eT ?_ | refine gQ ?_ | refine iZ ?_ | refine gZ ?_ | refine dH ?_ | refine eV ?_) | refine nP cN ?_ | refine GX ?_ | refine GA ?_ | refine GG ?_ | refine qF cN ?_ | refine nP cN ?_ | ((with_reducible refine kf ?_);refine aP 0 Tryz.results13 rfl rfl rfl ?_) | refine GR ?_ | ((with_reducible refine kr ?_);refine aG rfl ?_) | fail)
 all_goals first | rfl | skip
end Go.Ab
