import Derived.Test.YtdeikigmgdnojaaGreatDoorA47
import Derived.Test.YtdeikigmgdnojaaGreatDoorA36
/- A part of the proof of one law. -/
set_option maxRecDepth 100000
set_option maxHeartbeats 8000000
set_option linter.unusedVariables false
set_option linter.unusedSimpArgs false
namespace Go.Ab
open Go Go.Ab.Tryz Go.Proofs
theorem aBf {c:List Fc} {fn:Int} {args:List Va} {ans:List An} (h:cC c=0):aAc c fn args ans=(if (mB c fn args).2.2≠0 then ([],(mB c fn args).2.2) else if (ans.length:Int) > 400 then ([],5) else aAa c ans (mB c fn args).1 (mB c fn args).2.1):=by
 unfold aAc
 simp only
 rw [if_neg (by simpa using h)]
 cases hq:lT c fn args with
 | true=>rw [if_neg eS]
 | false =>
  have e:mB c fn args=([],iK,2):=by unfold mB;rw [if_neg (by simpa using h),if_pos hq]
  rw [if_pos rfl,e,if_pos cN]
theorem aAT (c:List Fc) (h0:cC c=0) (fn:Int) (args:List Va) (ans:List An):aB Tryz.prog 35 [.agg [bC c],iv fn,lv (args.map Va.enc),lv (ans.map An.enc)] [] (fun r s=>cA Tryz.prog s r (aAL (aAc c fn args ans))):=by
 refine aB.assume rfl fun hok _=>?_
 have hlen:=dK (hok (lv (ans.map An.enc)) eS)
 simp only [List.length_map] at hlen
 rw [aBf h0]
 have h5:=JW c (eL h0) fn args
 rw [← KC h0] at h5
 have hO:=aAf (c:=c) (fn:=fn) (args:=args) h0
 revert h5 hO
 generalize mB c fn args=p
 obtain ⟨fs0,t0,n0⟩:=p
 intro h5 hO
 simp only
 refine fW Tryz.func35 rfl rfl (nB rfl) ?_
 rw [Tryz.ntmps35]
 repeat' (first | ((with_reducible refine kw ?_);first | refine W0 ?_ | refine W1 ?_ | refine W3 ?_ | refine W2 ?_ | refine W6 ?_ | refine bJ ?_ | (refine aJ ?_;refine tD h5 ?_) | (refine aE ?_;refine q8 ?_) | refine iZ ?_ | refine gZ ?_ | refine cW ?_ | refine dH ?_ | refine KS ?_ | (refine vQ ?_;refine ZD ?_)) | refine GN ?_ | ((with_reducible refine kd ?_);first | refine D0 ?_ | refine D3 ?_ | refine iY ?_ | (refine bM ?_;refine dD h5 ?_) | (refine aV ?_;refine BW ?_) | refine wP ?_) | ((with_reducible refine ka ?_);((with_reducible refine i5 6 ?_);refine fI ?_;refine aAJ rfl rfl rfl (el rfl) rfl (BR (ag rfl) (sz rfl) rfl rfl rfl rfl) rfl rfl ?_)) | refine GA ?_ | refine GG ?_ | (refine cJ (fun hb=>?_) (fun hb=>?_) <;> try rw [hb]) | ((with_reducible refine tO ?_);refine j7 Tryz.results35 rfl ?_) | refine GS ?_ | fail)
 all_goals first
  | (have h3:=oT ‹decide (n0≠0)=true›;rw [if_pos h3];exact cA.tup (.cons cA.d (.cons .sc .nil)))
  | (have h3:=oF ‹decide (n0≠0)=false›;have h4:=oT ‹decide ((ans.length:Int) > 400)=true›;rw [if_neg h3,if_pos h4];exact cA.tup (.cons cA.d (.cons .sc .nil)))
  | skip
 have h3:=oF ‹decide (n0≠0)=false›
 have h4:=oF ‹decide ((ans.length:Int) > 400)=false›
 rw [if_neg h3,if_neg h4]
 have hg0:t0.done=false→d9 c fs0=true:=fun hd=>aAe hO (Decidable.not_not.1 h3) hd
 generalize hR:aAa c ans fs0 t0=R
 have hR0:R=aAj [] (aAa c (ans.drop 0) fs0 t0):=by rw [List.drop_zero,hR,aAD];intro h;subst hR;exact aAm c _ _ _ h
 refine dB (kK 42 ?_)
 refine dB (qR 13 (m:=3) (s:=[t0.enc]) rfl rfl rfl rfl fun u=>?_)
 refine cF [3,4,10,11,13,14] rfl ?_
 refine jY 4 (n:=_) (fun n e σ=>∃ (i:Nat) (m:Int) (fs:List Fm) (t:Tn) (ts0:List Tn) (u:Value),n=ans.length - i∧(m=i∧i≤ans.length∧(t.done=false→d9 c fs=true)∧R=aAj ts0 (aAa c (ans.drop i) fs t)∧ts0.length=i)∧e=[(3,_),(4,_),(10,lv (fs.map Fm.enc)),(11,_),(13,.d (.sc u)),(14,iv m)]∧σ=[some (.box 24 [bC c]),some (.box 42 (t.enc.map .d)),none,some (bS Tryz.prog 42 [(u,(ts0++[t]).map Tn.enc)])]) rfl ⟨0,0,fs0,t0,[],u,rfl,⟨rfl,Nat.zero_le _,hg0,hR0,rfl⟩,rfl,rfl⟩ ?_
 rintro n e σ ⟨i,m,fs,t,ts0,u,rfl,⟨rfl,hi,hg,hR1,hl0⟩,rfl,rfl⟩
 refine dB (wK 13 (m:=3) rfl hP rfl ?_)
 by_cases hlt:i < ans.length
 ·have hb:decide ((i:Int) < (ans.length:Int))=true:=decide_eq_true aI
  obtain ⟨a,ha⟩:∃ a,aC ans (i:Int)=a:=⟨_,rfl⟩
  have hd:ans.drop i=a::ans.drop (i + 1):=by rw [← ha,bK hlt];exact List.drop_eq_getElem_cons hlt
  rw [hd] at hR1
  have hgo:=@aAG c fs a h0
  by_cases hdn:t.done=true
  ·have hdn':t.done=true:=hdn
   repeat' (first | ((with_reducible refine kw ?_);first | refine W0 ?_ | refine W1 ?_ | refine W3 ?_ | refine W2 ?_ | refine W6 ?_ | refine bJ ?_ | (refine aE ?_;refine q8 ?_) | refine iZ ?_ | refine gZ ?_ | refine cW ?_ | refine dH ?_ | refine KS ?_ | (refine vQ ?_;refine ZD ?_)) | refine GN ?_ | ((with_reducible refine kd ?_);first | refine D0 ?_ | refine D3 ?_ | refine iY ?_ | (refine bM ?_;skip) | (refine c7 ?_;refine dC (aF (el rfl) rfl rfl aI aI ⟨rfl,by decide⟩) rfl rfl rfl rfl ?_) | (refine aV ?_;refine BW ?_) | refine wP ?_) | refine GA ?_ | refine GG ?_ | (refine cJ (fun hb=>?_) (fun hb=>?_) <;> try rw [hb]) | ((with_reducible refine tO ?_);refine j7 Tryz.results35 rfl ?_) | refine GS ?_ | fail)
   have e:aAa c (a::ans.drop (i + 1)) fs t=([],10):=by unfold aAa;rw [if_pos hdn]
   rw [hR1,e]
   exact cA.tup (.cons cA.d (.cons .sc .nil))
  ·have hdn':t.done=false:=by simpa using hdn
   have hon:bY Tryz.prog 25 [.agg [bC c],lv (fs.map Fm.enc),(aC ans (i:Int)).dv] (dZ (v6 c fs a)):=by rw [ha];exact MT c h0 fs a
   have hal:aAa c (a::ans.drop (i + 1)) fs t=(if (v6 c fs a).2.2≠0 then ([],(v6 c fs a).2.2) else if (aAa c (ans.drop (i + 1)) (v6 c fs a).1 (v6 c fs a).2.1).2≠0 then ([],(aAa c (ans.drop (i + 1)) (v6 c fs a).1 (v6 c fs a).2.1).2) else (t::(aAa c (ans.drop (i + 1)) (v6 c fs a).1 (v6 c fs a).2.1).1,0)):=by
    conv=>lhs;unfold aAa
    rw [if_neg hdn]
   revert hgo hon hal
   generalize v6 c fs a=p
   obtain ⟨l,u',n⟩:=p
   intro hgo hon hal
   simp only at hal
   repeat' (first | ((with_reducible refine kw ?_);first | refine W0 ?_ | refine W1 ?_ | refine W3 ?_ | refine W2 ?_ | refine W6 ?_ | refine bJ ?_ | (refine aE ?_;refine q8 ?_) | refine iZ ?_ | refine gZ ?_ | refine cW ?_ | refine dH ?_ | refine KS ?_ | (refine vQ ?_;refine ZD ?_)) | refine GN ?_ | ((with_reducible refine kd ?_);first | refine D0 ?_ | refine D3 ?_ | refine iY ?_ | (refine bM ?_;refine dD hon ?_) | (refine c7 ?_;refine dC (aF (el rfl) rfl rfl aI aI ⟨rfl,by decide⟩) rfl rfl rfl rfl ?_) | (refine aV ?_;refine BW ?_) | refine wP ?_) | refine GA ?_ | refine GG ?_ | (refine cJ (fun hb=>?_) (fun hb=>?_) <;> try rw [hb]) | ((with_reducible refine tO ?_);refine j7 Tryz.results35 rfl ?_) | refine GS ?_ | fail)
   ·have h6:=oT ‹decide (n≠0)=true›
    rw [if_pos h6] at hal
    rw [hR1,hal]
    unfold aAj
    rw [if_pos h6]
    exact cA.tup (.cons cA.d (.cons .sc .nil))
   ·have h6:=oF ‹decide (n≠0)=false›
    rw [if_neg h6] at hal
    have hgl:R=aAj (ts0++[t]) (aAa c (ans.drop (i + 1)) l u'):=by
     rw [hR1,hal];exact aAs
    refine gE (qR 13 (m:=3) (s:=((ts0++[t])++[u']).map Tn.enc) rfl rfl (by simp [aO]) rfl fun u2=>?_)
    refine gE (jM [3,4,10,11,13,14] rfl ?_)
    refine gU 4 rfl rfl rfl ?_
    refine gT ⟨_,?_,i + 1,_,l,u',ts0++[t],u2,rfl,⟨aL aI aI,by omega,fun hd=>aAe hgo (Decidable.not_not.1 h6) hd,hgl,by simp [hl0]⟩,rfl,rfl⟩
    omega
 ·have hb:decide ((i:Int) < (ans.length:Int))=false:=decide_eq_false aI
  have e:i=ans.length:=by omega
  subst e
  rw [List.drop_length] at hR1
  repeat' (first | ((with_reducible refine kw ?_);first | refine W0 ?_ | refine W1 ?_ | refine W3 ?_ | refine W2 ?_ | refine W6 ?_ | refine bJ ?_ | (refine aE ?_;refine q8 ?_) | refine iZ ?_ | refine gZ ?_ | refine cW ?_ | refine dH ?_ | refine KS ?_ | (refine vQ ?_;refine ZD ?_)) | refine GN ?_ | ((with_reducible refine kd ?_);first | refine D0 ?_ | refine D3 ?_ | refine iY ?_ | (refine bM ?_;skip) | (refine c7 ?_;refine dC (aF (el rfl) rfl rfl aI aI ⟨rfl,by decide⟩) rfl rfl rfl rfl ?_) | (refine aV ?_;refine BW ?_) | refine wP ?_) | refine GA ?_ | refine GG ?_ | (refine cJ (fun hb=>?_) (fun hb=>?_) <;> try rw [hb]) | ((with_reducible refine tO ?_);refine j7 Tryz.results35 rfl ?_) | refine GS ?_ | fail)
  have hR2:R=(ts0++[t],0):=by rw [hR1];rfl
  rw [hR2]
  refine cA.tup (.cons (cA.arr rfl (by simp [aO]) (fun k e he=>?_)) (.cons .sc .nil))
  simp only [aO,List.getElem?_map] at he
  obtain ⟨r,hr,rfl⟩:=Option.map_eq_some_iff.1 he
  exact ⟨r,by rw [List.getElem?_map];exact hr,kO r⟩
theorem aAN (c:List Fc) (h0:cC c=0) (fn:Int) (args:List Va) (ans:List An):bY Tryz.prog 35 [.agg [bC c],iv fn,lv (args.map Va.enc),lv (ans.map An.enc)] (aAL (aAc c fn args ans)):=aB.frozen (aAT c h0 fn args ans) fun r s h=>h
theorem aAW (x:Cs) (hr:fX x.c=false) (hq:aAc x.c x.fn (x.args.take 10) (x.ans.take 402)=([],30)):bY Tryz.prog 8 [x.dv] (bv true):=by
 have h1:=aAg x.c x.fn (x.args.take 10) (x.ans.take 402)
 have h2:=aAv x.c x.fn (x.args.take 10) (x.ans.take 402)
 have h3:=oP x.c
 rw [hq] at h1 h2
 rw [hr] at h3
 have h1:bY Tryz.prog 30 [.agg [bC x.c],iv x.fn,lv ((x.args.take 10).map Va.enc),lv ((x.ans.take 402).map An.enc)] (.tup [lv (([]:List Tn).map Tn.enc),iv 30]):=h1
 have h2:bY Tryz.prog 34 [.agg [bC x.c],iv x.fn,lv ((x.args.take 10).map Va.enc),lv ((x.ans.take 402).map An.enc)] (.tup [(iK).dv,iv 30]):=h2
 refine of_body Tryz.func8 rfl rfl (nB rfl) ?_
 rw [Tryz.ntmps8]
 repeat' (first | ((with_reducible refine kw ?_);first | refine Wg ?_ | refine W0 ?_ | refine W1 ?_ | refine W3 ?_ | refine W2 ?_ | refine W6 ?_ | refine bJ ?_ | (refine aJ ?_;first | refine bB rfl rfl rfl rfl ((aB.borrowE (R':=fun r=>∃ b,r=bv b) (qU x.c) (.cons (.agg (.cons .d .nil)) .nil) (fun r σ0 h=>⟨r,by obtain ⟨⟨b,rfl⟩,_⟩:=h;exact Fr.sc _,h.1⟩)).mono ?_) | refine tD p8 ?_ | refine tD (LK x) ?_ | refine tD h1 ?_ | refine tD h2 ?_ | refine tD h3 ?_ | refine tD (l4 iK) ?_) | (refine aE ?_;refine q8 ?_) | refine eT ?_ | refine gQ ?_ | refine iZ ?_ | refine gZ ?_ | refine cW ?_ | refine dH ?_ | refine eV ?_) | refine nP cN ?_ | refine GX ?_ | refine GA ?_ | refine GG ?_ | refine qG cN ?_ | refine nP cN ?_ | (refine cJ (fun hb=>?_) (fun hb=>?_) <;> try rw [hb]) | ((with_reducible refine kf ?_);refine aP 0 Tryz.results8 rfl rfl rfl ?_) | refine GR ?_ | ((with_reducible refine kr ?_);refine aG rfl ?_) | (rintro _ _ ⟨⟨b,rfl⟩,rfl⟩) | fail)
 all_goals first | rfl | skip
theorem aAX (x:Cs) (hr:fX x.c=true) (hc:cC x.c=0) (e:Int) (he:e≠0) (hq:aAc x.c x.fn (x.args.take 10) (x.ans.take 402)=([],e)):bY Tryz.prog 8 [x.dv] (bv true):=by
 have h1:=aAg x.c x.fn (x.args.take 10) (x.ans.take 402)
 have h2:=aAv x.c x.fn (x.args.take 10) (x.ans.take 402)
 have h3:=oP x.c
 rw [hq] at h1 h2
 rw [hr] at h3
 have h1:bY Tryz.prog 30 [.agg [bC x.c],iv x.fn,lv ((x.args.take 10).map Va.enc),lv ((x.ans.take 402).map An.enc)] (.tup [lv (([]:List Tn).map Tn.enc),iv e]):=h1
 have h2:bY Tryz.prog 34 [.agg [bC x.c],iv x.fn,lv ((x.args.take 10).map Va.enc),lv ((x.ans.take 402).map An.enc)] (.tup [(iK).dv,iv e]):=by unfold aAM at h2;rw [if_pos he] at h2;exact h2
 have h4:=aAN x.c hc x.fn (x.args.take 10) (x.ans.take 402)
 rw [hq] at h4
 have h4:bY Tryz.prog 35 [.agg [bC x.c],iv x.fn,lv ((x.args.take 10).map Va.enc),lv ((x.ans.take 402).map An.enc)] (.tup [lv (([]:List Tn).map Tn.enc),iv e]):=h4
 have hb0:decide (e≠0)=true:=decide_eq_true he
 have hb1:decide (e≠e)=false:=by simp
 refine of_body Tryz.func8 rfl rfl (nB rfl) ?_
 rw [Tryz.ntmps8]
 repeat' (first | ((with_reducible refine kw ?_);first | refine Wg ?_ | refine W0 ?_ | refine W1 ?_ | refine W3 ?_ | refine W2 ?_ | refine W6 ?_ | refine bJ ?_ | (refine aJ ?_;first | refine bB rfl rfl rfl rfl ((aB.borrowE (R':=fun r=>∃ b,r=bv b) (qU x.c) (.cons (.agg (.cons .d .nil)) .nil) (fun r σ0 h=>⟨r,by obtain ⟨⟨b,rfl⟩,_⟩:=h;exact Fr.sc _,h.1⟩)).mono ?_) | refine tD p8 ?_ | refine tD (LK x) ?_ | refine tD h1 ?_ | refine tD h2 ?_ | refine tD h3 ?_ | refine tD h4 ?_ | refine tD (l4 iK) ?_ | refine tD (aAd []) ?_) | (refine aE ?_;refine q8 ?_) | refine eT ?_ | refine gQ ?_ | refine iZ ?_ | refine cW ?_ | refine dH ?_ | refine eV ?_) | refine nP cN ?_ | refine pX cN ?_ | refine GX ?_ | (refine bW (fun hb=>?_) (fun hb=>?_) <;> rw [hb]) | refine GA ?_ | refine GG ?_ | refine qG cN ?_ | refine qF cN ?_ | refine nP cN ?_ | refine pX cN ?_ | (refine cJ (fun hb=>?_) (fun hb=>?_) <;> try rw [hb]) | ((with_reducible refine kf ?_);refine aP 0 Tryz.results8 rfl rfl rfl ?_) | refine GR ?_ | ((with_reducible refine kr ?_);refine aG rfl ?_) | (rintro _ _ ⟨⟨b,rfl⟩,rfl⟩) | fail)
 all_goals first
  | rfl
  | (exfalso;exact (oT hb) rfl)
  | (exfalso;exact (oF hb) he)
  | skip
theorem aAI (x:Cs) (hr:fX x.c=true) (hc:cC x.c=0) (l:List Tn) (hq:aAc x.c x.fn (x.args.take 10) (x.ans.take 402)=(l,0)):bY Tryz.prog 8 [x.dv] (bv true):=by
 have hl:=@aAn x.c x.fn (x.args.take 10) (x.ans.take 402)
 have h400:=@aAh x.c x.fn (x.args.take 10) (x.ans.take 402)
 rw [hq] at hl h400
 have hl:=hl rfl
 have h400:=(h400 rfl).2.2.2.1
 simp only at hl
 have h1:=aAg x.c x.fn (x.args.take 10) (x.ans.take 402)
 have h2:=aAv x.c x.fn (x.args.take 10) (x.ans.take 402)
 have h3:=oP x.c
 rw [hq] at h1 h2
 rw [hr] at h3
 have h1:bY Tryz.prog 30 [.agg [bC x.c],iv x.fn,lv ((x.args.take 10).map Va.enc),lv ((x.ans.take 402).map An.enc)] (.tup [lv (l.map Tn.enc),iv 0]):=h1
 have h2:bY Tryz.prog 34 [.agg [bC x.c],iv x.fn,lv ((x.args.take 10).map Va.enc),lv ((x.ans.take 402).map An.enc)] (.tup [(aC l (IntKind.i64.wrap ((l.length:Int) - 1))).dv,iv 0]):=h2
 have h4:=aAN x.c hc x.fn (x.args.take 10) (x.ans.take 402)
 rw [hq] at h4
 have h4:bY Tryz.prog 35 [.agg [bC x.c],iv x.fn,lv ((x.args.take 10).map Va.enc),lv ((x.ans.take 402).map An.enc)] (.tup [lv (l.map Tn.enc),iv 0]):=h4
 have hi:0≤IntKind.i64.wrap ((l.length:Int) - 1)∧IntKind.i64.wrap ((l.length:Int) - 1) < (l.length:Int):=by rw [aL aI aI];omega
 have h5:=l4 (aC l (IntKind.i64.wrap ((l.length:Int) - 1)))
 refine of_body Tryz.func8 rfl rfl (nB rfl) ?_
 rw [Tryz.ntmps8]
 repeat' (first | ((with_reducible refine kw ?_);first | refine Wg ?_ | refine W0 ?_ | refine W1 ?_ | refine W3 ?_ | refine W2 ?_ | refine W6 ?_ | refine bJ ?_ | (refine aJ ?_;first | refine bB rfl rfl rfl rfl ((aB.borrowE (R':=fun r=>∃ b,r=bv b) (qU x.c) (.cons (.agg (.cons .d .nil)) .nil) (fun r σ0 h=>⟨r,by obtain ⟨⟨b,rfl⟩,_⟩:=h;exact Fr.sc _,h.1⟩)).mono ?_) | refine tD p8 ?_ | refine tD (LK x) ?_ | refine tD h1 ?_ | refine tD h2 ?_ | refine tD h3 ?_ | refine tD h4 ?_ | refine tD (aAd l) ?_) | (refine aE ?_;refine q8 ?_) | refine eT ?_ | refine gQ ?_ | refine iZ ?_ | refine cW ?_ | refine dH ?_) | refine nP cN ?_ | refine GX ?_ | refine GN ?_ | refine GD ?_ | ((with_reducible refine kd ?_);first | refine D0 ?_ | refine D3 ?_ | refine D6 ?_ | refine iY ?_ | (refine bM ?_;first | refine dD h5 ?_ | refine dD p8 ?_) | (refine c7 ?_;refine dC (aF (el rfl) rfl rfl hi.1 hi.2 ⟨rfl,by decide⟩) rfl rfl rfl rfl ?_) | refine uF ?_ | refine BT ?_) | refine GA ?_ | refine GG ?_ | refine qF cN ?_ | refine nP cN ?_ | (refine cJ (fun hb=>?_) (fun hb=>?_) <;> try rw [hb]) | ((with_reducible refine kf ?_);refine aP 0 Tryz.results8 rfl rfl rfl ?_) | refine GR ?_ | ((with_reducible refine kr ?_);refine aG rfl ?_) | (rintro _ _ ⟨⟨b,rfl⟩,rfl⟩) | fail)
 all_goals first
  | rfl
  | (exfalso;simp at *;done)
  | skip
theorem aAS (x:Cs):bY Tryz.prog 8 [x.dv] (bv true):=by
 refine aB.assume rfl fun hok _=>?_
 have hL:=QF (hok x.dv eS (.lst (x.c.map Fc.enc)) eS)
 by_cases hc:cC x.c=0
 ·have hr:=(rP hL).1 hc
  by_cases h:(aAc x.c x.fn (x.args.take 10) (x.ans.take 402)).2=0
  ·exact aAI x hr hc _ (Prod.ext rfl h)
  ·exact aAX x hr hc _ h (Prod.ext (aAz h) rfl)
 ·refine aAW x ?_ ?_
  ·cases hq:fX x.c with
   | false=>rfl
   | true=>exact absurd ((rP hL).2 hq) hc
  ·unfold aAc;rw [if_pos hc,CC hc]
end Go.Ab
