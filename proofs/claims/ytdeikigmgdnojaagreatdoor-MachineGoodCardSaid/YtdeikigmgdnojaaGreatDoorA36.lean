import Derived.Test.YtdeikigmgdnojaaGreatDoorA35
/- A part of the proof of one law. -/
set_option maxRecDepth 100000
set_option maxHeartbeats 8000000
set_option linter.unusedVariables false
set_option linter.unusedSimpArgs false
namespace Go.Ab
open Go Go.Ab.Tryz Go.Proofs
abbrev TU:Fm:=⟨0,1,-1,[⟨1,5,⟨#[]⟩⟩]⟩
abbrev akW:Ak:={ d6 with kind:=3,v:=⟨1,5,⟨#[]⟩⟩ }
abbrev V9:An:=⟨g9,0,kW⟩
theorem RY:mB pM 0 []=([TU],⟨false,akW,g9,kW⟩,0):=by kernel_rfl
theorem goW:v6 pM [TU] V9=([],⟨true,d6,g9,kW⟩,0):=by kernel_rfl
theorem KD:bY Tryz.prog 15 [.agg [bC pM],iv 0,lv []] (dZ ([TU],⟨false,akW,g9,kW⟩,0)):=by
 have:=uH pM 0 []
 rw [RY] at this
 exact this
theorem RK:bY Tryz.prog 21 [.agg [bC pM],lv ([TU].map Fm.enc),V9.dv] (dZ ([],⟨true,d6,g9,kW⟩,0)):=by
 have:=GJ pM [TU] V9
 rw [goW] at this
 exact this
theorem p8:bY Tryz.prog 13 [] (bv true):=by
 refine of_body Tryz.func13 rfl rfl (nB rfl) ?_
 rw [Tryz.ntmps13]
 repeat' (first | ((with_reducible refine kw ?_);first | refine Wg ?_ | refine W0 ?_ | refine W1 ?_ | refine W2 ?_ | refine W3 ?_ | refine W6 ?_ | refine W7 ?_ | refine bJ ?_ | (refine aJ ?_;first | refine tD KB ?_ | refine tD KD ?_ | refine tD RK ?_) | (refine fO ?_;refine cK (aF (el rfl) rfl rfl cN cN ⟨rfl,by decide⟩) rfl rfl ?_) | (refine aE ?_;refine q8 ?_) | refine eT ?_ | refine gQ ?_ | refine iZ ?_ | refine gZ ?_ | refine dH ?_ | refine eV ?_) | refine nP cN ?_ | refine GX ?_ | refine GA ?_ | refine GG ?_ | refine qF cN ?_ | refine nP cN ?_ | ((with_reducible refine kf ?_);refine aP 0 Tryz.results13 rfl rfl rfl ?_) | refine GR ?_ | ((with_reducible refine kr ?_);refine aG rfl ?_) | fail)
 all_goals first | rfl | skip
theorem F4 (x:Cs) (hr:fX x.c=false) (hs:mB x.c x.fn (x.args.take 10)=([],iK,30)):bY Tryz.prog 3 [x.dv] (bv true):=by
 have h1:=uH x.c x.fn (x.args.take 10)
 have h2:=oP x.c
 rw [hs] at h1
 rw [hr] at h2
 refine of_body Tryz.func3 rfl rfl (nB rfl) ?_
 rw [Tryz.ntmps3]
 repeat' (first | ((with_reducible refine kw ?_);first | refine Wg ?_ | refine W0 ?_ | refine W1 ?_ | refine W3 ?_ | refine W2 ?_ | refine W6 ?_ | refine bJ ?_ | (refine aJ ?_;first | refine bB rfl rfl rfl rfl ((aB.borrowE (R':=fun r=>∃ b,r=bv b) (qU x.c) (.cons (.agg (.cons .d .nil)) .nil) (fun r σ0 h=>⟨r,by obtain ⟨⟨b,rfl⟩,_⟩:=h;exact Fr.sc _,h.1⟩)).mono ?_) | refine tD p8 ?_ | refine tD (LK x) ?_ | refine tD h1 ?_ | refine tD h2 ?_ | refine tD (l4 iK) ?_) | (refine aE ?_;refine vR ?_) | refine eT ?_ | refine gQ ?_ | refine iZ ?_ | refine gZ ?_ | refine cW ?_ | refine dH ?_ | refine eV ?_) | refine nP cN ?_ | refine GX ?_ | refine GA ?_ | refine GG ?_ | refine qG cN ?_ | refine nP cN ?_ | (refine cJ (fun hb=>?_) (fun hb=>?_) <;> try rw [hb]) | ((with_reducible refine kf ?_);refine aP 0 Tryz.results3 rfl rfl rfl ?_) | refine GR ?_ | ((with_reducible refine kr ?_);refine aG rfl ?_) | (rintro _ _ ⟨⟨b,rfl⟩,rfl⟩) | fail)
 all_goals first | rfl | skip
theorem EA (x:Cs) (hr:fX x.c=true) (hc:dR x.c) (hs:mB x.c x.fn (x.args.take 10)=mP x.c x.fn (x.args.take 10)):bY Tryz.prog 3 [x.dv] (bv true):=by
 have h1:=uH x.c x.fn (x.args.take 10)
 have h2:=oP x.c
 have h3:=JW x.c hc x.fn (x.args.take 10)
 rw [hs] at h1
 rw [hr] at h2
 revert h1 h3
 generalize mP x.c x.fn (x.args.take 10)=p
 obtain ⟨l,u,n⟩:=p
 intro h1 h3
 refine of_body Tryz.func3 rfl rfl (nB rfl) ?_
 rw [Tryz.ntmps3]
 repeat' (first | ((with_reducible refine kw ?_);first | refine Wg ?_ | refine W0 ?_ | refine W1 ?_ | refine W3 ?_ | refine W2 ?_ | refine W6 ?_ | refine bJ ?_ | (refine aJ ?_;first | refine bB rfl rfl rfl rfl ((aB.borrowE (R':=fun r=>∃ b,r=bv b) (qU x.c) (.cons (.agg (.cons .d .nil)) .nil) (fun r σ0 h=>⟨r,by obtain ⟨⟨b,rfl⟩,_⟩:=h;exact Fr.sc _,h.1⟩)).mono ?_) | refine tD p8 ?_ | refine tD (LK x) ?_ | refine tD h1 ?_ | refine tD h2 ?_ | refine tD h3 ?_ | refine tD (l4 u) ?_ | refine tD (nX l) ?_) | (refine aE ?_;refine vR ?_) | refine eT ?_ | refine gQ ?_ | refine iZ ?_ | refine cW ?_ | refine dH ?_) | refine nP cN ?_ | refine pX cN ?_ | refine GX ?_ | (refine bW (fun hb=>?_) (fun hb=>?_) <;> rw [hb]) | refine GA ?_ | refine GG ?_ | refine qF cN ?_ | refine nP cN ?_ | refine pX cN ?_ | (refine cJ (fun hb=>?_) (fun hb=>?_) <;> try rw [hb]) | ((with_reducible refine kf ?_);refine aP 0 Tryz.results3 rfl rfl rfl ?_) | refine GR ?_ | ((with_reducible refine kr ?_);refine aG rfl ?_) | (rintro _ _ ⟨⟨b,rfl⟩,rfl⟩) | fail)
 all_goals first
  | (exfalso;simp at *;done)
  | rfl
  | skip
theorem KE (x:Cs):bY Tryz.prog 3 [x.dv] (bv true):=by
 refine aB.assume rfl fun hok _=>?_
 have hL:=QF (hok x.dv eS (.lst (x.c.map Fc.enc)) eS)
 by_cases h:cC x.c=0
 ·exact EA x ((rP hL).1 h) (eL h) (KC h _ _)
 ·refine F4 x ?_ (F3 h _ _)
  cases hq:fX x.c with
  | false=>rfl
  | true=>exact absurd ((rP hL).2 hq) h
end Go.Ab
