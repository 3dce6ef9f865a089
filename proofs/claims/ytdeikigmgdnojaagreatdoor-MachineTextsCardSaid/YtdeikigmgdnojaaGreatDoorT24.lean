import Derived.Test.YtdeikigmgdnojaaGreatDoorT20
import Derived.Test.YtdeikigmgdnojaaGreatDoorT21
import Derived.Test.YtdeikigmgdnojaaGreatDoorT22
import Derived.Test.YtdeikigmgdnojaaGreatDoorT23
import Derived.Test.YtdeikigmgdnojaaGreatDoorT19
/- A part of the proof of one law. -/
set_option maxRecDepth 100000
set_option maxHeartbeats 8000000
set_option linter.unusedVariables false
set_option linter.unusedSimpArgs false
namespace Go.Ab
open Go Go.Ab.Tryz Go.Proofs
theorem E0 (op k n k2 n2:Int) (s s2:ByteArray) (hop:op=7∨op=8∨op=9∨op=10∨op=11∨op=12∨op=13∨op=14∨op=15∨op=16∨op=17∨op=18∨op=19) (h1:s.size≤60) (h2:s2.size≤60):bY Tryz.prog 255 [iv op,.agg [iv k,iv n,sv s],.agg [iv k2,iv n2,sv s2]] (kH (bA op ⟨k,n,s⟩ ⟨k2,n2,s2⟩)):=by
 rcases hop with h | h | h | h | h | h | h | h | h | h | h | h | h
 ·exact WR op k n k2 n2 s s2 h h1 h2
 ·exact WT op k n k2 n2 s s2 h h1 h2
 ·exact WU op k n k2 n2 s s2 h h1 h2
 ·exact S4 op k n k2 n2 s s2 h h1 h2
 ·exact S5 op k n k2 n2 s s2 h h1 h2
 ·exact S6 op k n k2 n2 s s2 h h1 h2
 ·exact S7 op k n k2 n2 s s2 h h1 h2
 ·exact S8 op k n k2 n2 s s2 h h1 h2
 ·exact S9 op k n k2 n2 s s2 h h1 h2
 ·exact TA op k n k2 n2 s s2 h h1 h2
 ·exact TB op k n k2 n2 s s2 h h1 h2
 ·exact TC op k n k2 n2 s s2 h h1 h2
 ·exact TD op k n k2 n2 s s2 h h1 h2
theorem pP {k n:Int} {s:ByteArray} (h:cQ k n s=true):s.size≤60:=by
 unfold cQ at h
 have e0:∀ {s:ByteArray},s=⟨#[]⟩→s.size≤60:=by rintro _ rfl;decide
 have ht:bP s=true→s.size≤60:=by intro h;unfold bP at h;simp only [c5,dT] at h;exact h.2
 repeat' split at h
 all_goals simp only [c5,dT] at h
 ·exact e0 h.2
 ·exact e0 h.1
 ·exact e0 h.1
 ·exact ht h.2
 ·exact e0 h.1.2
theorem in7 {op:Int} (h:7≤op∧op≤19):op=7∨op=8∨op=9∨op=10∨op=11∨op=12∨op=13∨op=14∨op=15∨op=16∨op=17∨op=18∨op=19:=by omega
theorem E1 (op k n k2 n2:Int) (s s2:ByteArray) (h:(7≤op∧op≤19)∧cQ k n s=true∧cQ k2 n2 s2=true) :
  bY Tryz.prog 245 [iv op,.agg [iv k,iv n,sv s],.agg [iv k2,iv n2,sv s2]] (.tup [(bA op ⟨k,n,s⟩ ⟨k2,n2,s2⟩).1.dv,(bA op ⟨k,n,s⟩ ⟨k2,n2,s2⟩).2.dv,iv 0]):=by
 have hU:=E0 op k n k2 n2 s s2 (in7 h.1) (pP h.2.1) (pP h.2.2)
 generalize bA op ⟨k,n,s⟩ ⟨k2,n2,s2⟩=r at hU ⊢
 obtain ⟨⟨k1,n1,s1⟩,⟨k3,t3⟩⟩:=r
 refine of_body Tryz.func245 rfl rfl (nB rfl) ?_
 rw [Tryz.ntmps245]
 repeat' (first | ((with_reducible refine kw ?_);first | refine Wg ?_ | refine W0 ?_ | refine W3 ?_ | refine W6 ?_ | refine bJ ?_ | (refine aJ ?_;first | refine tD (h.2.1 ▸ l7 k n s) ?_ | refine tD (h.2.2 ▸ l7 k2 n2 s2) ?_ | refine tD hU ?_) | (refine aE ?_;refine p5 ?_) | refine eT ?_ | refine gQ ?_ | refine iZ ?_ | refine cW ?_ | refine dH ?_ | refine eV ?_) | refine GX ?_ | (refine bW (fun hb=>?_) (fun hb=>?_) <;> rw [hb]) | refine GN ?_ | ((with_reducible refine kd ?_);first | refine D3 ?_ | refine iY ?_ | (refine aV ?_;refine P5 ?_)) | refine GA ?_ | refine GG ?_ | ((with_reducible refine kf ?_);refine aP 0 Tryz.results245 rfl rfl rfl ?_) | refine GR ?_ | ((with_reducible refine kr ?_);refine aG rfl ?_) | fail)
 all_goals first | (refine dG ?_;rfl) | (exfalso;simp_all only [dT,dF,b2,c4,b0];omega) | (exfalso;simp_all;done)
def dO (y:Fa):Bool:=decide (y.k=0) && (decide (y.t=⟨#[]⟩) && true)
theorem MN {y:Fa} (h:dO y=true):y=kW:=by
 simp only [dO,b5,c5,dT] at h
 cases y;simp_all
theorem pG (c:List Fc) (t:Fm) (gr:List (Value × Fm)) (x:In) (hp:0≤t.pc∧t.pc < 4000) :
  aB Tryz.prog 216 [.ptr 0 0,.eptr 1 gr.length 4 0,x.dv] (oX c t gr []) (fun r σ'=>r=RU∧σ'=oX c (dS t) gr []):=by
 refine of_body Tryz.func216 rfl rfl (nB rfl) ?_
 rw [Tryz.ntmps216]
 repeat' (first | ((with_reducible refine kw ?_);first | refine W0 ?_ | refine W1 ?_ | (refine f9 ?_;refine H0 ?_) | refine W4 ?_ | refine W6 ?_ | (refine aE ?_;refine SX ?_) | refine cW ?_ | refine dH ?_ | refine eV ?_) | refine GA ?_ | refine GG ?_ | ((with_reducible refine kf ?_);refine tF (post:=[]) Tryz.results216 rfl ?_) | refine GR ?_ | ((with_reducible refine kr ?_);refine bD rfl rfl ⟨?_,?_⟩) | fail)
 all_goals first | rfl | (show oX c { t with pc:=IntKind.i64.wrap (t.pc + 1) } gr []=_;rw [aL aI aI];rfl)
theorem CD (c:List Fc) (t:Fm) (gr:List (Value × Fm)) (x:In) (hp:0≤t.pc∧t.pc < 4000) (ha:0≤x.a∧x.a < (t.slots.length:Int)) :
  aB Tryz.prog 206 [.ptr 0 0,.eptr 1 gr.length 4 0,x.dv] (oX c t gr []) (fun r σ'=>r=RU∧σ'=oX c (dS (fK t x.a x.v)) gr []):=by
 refine of_body Tryz.func206 rfl rfl (nB rfl) ?_
 rw [Tryz.ntmps206]
 repeat' (first | ((with_reducible refine kw ?_);first | refine W0 ?_ | refine W3 ?_ | (refine aJ ?_;refine bB rfl rfl rfl rfl (aB.ret (w3 (pG c (fK t x.a x.v) gr x hp) rfl rfl) ?_)) | (refine aE ?_;refine H2 ?_) | refine cW ?_ | refine dH ?_) | refine GN ?_ | ((with_reducible refine kd ?_);first | refine D0 ?_ | refine D1 ?_ | (refine dI ?_;refine H1 ?_) | refine D2 ?_ | refine D3 ?_ | refine D4 ?_ | (refine c7 ?_;refine NZ ?_) | (refine aV ?_;refine H3 ?_)) | refine GA ?_ | refine GG ?_ | ((with_reducible refine kf ?_);refine tF (post:=[]) Tryz.results206 rfl ?_) | refine GR ?_ | ((with_reducible refine kr ?_);refine bD rfl rfl ⟨?_,?_⟩) | fail)
 all_goals rfl
theorem O8 (c:List Fc) (t:Fm) (gr:List (Value × Fm)) (x:In) (hp:0≤t.pc∧t.pc < 4000) (ha:0≤x.a∧x.a < (t.slots.length:Int)) (hb:0≤x.b∧x.b < (t.slots.length:Int)) :
  aB Tryz.prog 207 [.ptr 0 0,.eptr 1 gr.length 4 0,x.dv] (oX c t gr []) (fun r σ'=>r=RU∧σ'=oX c (dS (fK t x.a (aD t x.b))) gr []):=by
 refine of_body Tryz.func207 rfl rfl (nB rfl) ?_
 rw [Tryz.ntmps207]
 repeat' (first | ((with_reducible refine kw ?_);first | refine W0 ?_ | refine W3 ?_ | (refine aJ ?_;refine bB rfl rfl rfl rfl (aB.ret (w3 (pG c (fK t x.a (aD t x.b)) gr x hp) rfl rfl) ?_)) | (refine aE ?_;refine H2 ?_) | refine cW ?_ | refine dH ?_) | refine GN ?_ | ((with_reducible refine kd ?_);first | refine D0 ?_ | refine D1 ?_ | (refine dI ?_;refine H1 ?_) | refine D2 ?_ | refine D4 ?_ | (refine c7 ?_;refine NZ ?_) | (refine aV ?_;refine H3 ?_)) | refine GA ?_ | refine GG ?_ | ((with_reducible refine kf ?_);refine tF (post:=[]) Tryz.results207 rfl ?_) | refine GR ?_ | ((with_reducible refine kr ?_);refine bD rfl rfl ⟨?_,?_⟩) | fail)
 all_goals rfl
theorem vC (c:List Fc) (t:Fm) (gr:List (Value × Fm)) (x:In) (v:Va) (y:Fa) (hp:0≤t.pc∧t.pc < 4000) (ha:0≤x.a∧x.a < (t.slots.length:Int)) :
  aB Tryz.prog 244 [.ptr 0 0,.eptr 1 gr.length 4 0,x.dv,v.dv,y.dv] (oX c t gr []) (fun r σ'=>r=Rs.dv y d6 false g9∧σ'=oX c (bif dO y then dS (fK t x.a v) else t) gr []):=by
 refine of_body Tryz.func244 rfl rfl (nB rfl) ?_
 rw [Tryz.ntmps244]
 repeat' (first | ((with_reducible refine kw ?_);first | refine W0 ?_ | refine W3 ?_ | refine W7 ?_ | (refine aJ ?_;refine bB rfl rfl rfl rfl (aB.ret (w3 (pG c (fK t x.a v) gr x hp) rfl rfl) ?_)) | (refine aE ?_;refine H2 ?_) | refine cW ?_ | refine dH ?_ | refine eV ?_) | refine GN ?_ | ((with_reducible refine kd ?_);first | refine D0 ?_ | refine D1 ?_ | (refine dI ?_;refine H1 ?_) | refine D3 ?_ | refine D2 ?_ | refine D4 ?_ | (refine c7 ?_;refine NZ ?_) | (refine aV ?_;refine H3 ?_)) | refine GA ?_ | refine GG ?_ | (refine cJ (fun hb=>?_) (fun hb=>?_) <;> try rw [hb]) | ((with_reducible refine kf ?_);refine tF (post:=[]) Tryz.results244 rfl ?_) | refine GR ?_ | ((with_reducible refine kr ?_);refine bD rfl rfl ⟨?_,?_⟩) | fail)
 all_goals ((first | (have hn:dO y=false:=(by revert hb;show (!(dO y))=true→_;cases dO y <;> simp);(try rw [hn]);rfl) | (have hn:dO y=true:=(by revert hb;show (!(dO y))=false→_;cases dO y <;> simp);obtain rfl:=MN hn;rfl)))
theorem KH (c:List Fc) (t:Fm) (gr:List (Value × Fm)) (x:In) (hp:0≤t.pc∧t.pc < 4000) (ha:0≤x.a∧x.a < (t.slots.length:Int)) (hc:0≤x.c∧x.c < (t.slots.length:Int)) (hop:x.b=5∨x.b=6) (hv:cQ (aD t x.c).k (aD t x.c).n (aD t x.c).s=true) :
  aB Tryz.prog 208 [.ptr 0 0,.eptr 1 gr.length 4 0,x.dv] (oX c t gr []) (fun r σ'=>r=(Rs.dv (eN x.b (aD t x.c)).2 d6 false g9)∧σ'=oX c (bif dO (eN x.b (aD t x.c)).2 then dS (fK t x.a (eN x.b (aD t x.c)).1) else t) gr []):=by
 refine of_body Tryz.func208 rfl rfl (nB rfl) ?_
 rw [Tryz.ntmps208]
 repeat' (first | ((with_reducible refine kw ?_);first | refine W0 ?_ | refine W3 ?_ | (refine aJ ?_;refine bB rfl rfl rfl rfl (aB.ret (w3 (vC c t gr x (eN x.b (aD t x.c)).1 (eN x.b (aD t x.c)).2 hp ha) rfl rfl) ?_)) | (refine aE ?_;refine H2 ?_) | refine cW ?_ | refine dH ?_) | refine GN ?_ | ((with_reducible refine kd ?_);first | refine D0 ?_ | refine D1 ?_ | (refine dI ?_;refine H1 ?_) | refine D2 ?_ | refine D4 ?_ | refine iY ?_ | (refine bM ?_;refine dD (KJ x.b _ _ _ ⟨hop,hv⟩) ?_) | (refine c7 ?_;refine NZ ?_) | (refine aV ?_;refine H3 ?_) | refine wP ?_ | refine pZ ?_) | refine GA ?_ | refine GG ?_ | ((with_reducible refine kf ?_);refine tF (post:=[]) Tryz.results208 rfl ?_) | refine GR ?_ | ((with_reducible refine kr ?_);refine bD rfl rfl ⟨?_,?_⟩) | fail)
 all_goals rfl
theorem EZ (c:List Fc) (t:Fm) (gr:List (Value × Fm)) (x:In) (hp:0≤t.pc∧t.pc < 4000) (ha:0≤x.a∧x.a < (t.slots.length:Int)) (hc:0≤x.c∧x.c < (t.slots.length:Int)) (hl0:(0:Int) < (x.l.length:Int)) (hl1:0≤aC x.l 0) (hl2:aC x.l 0 < (t.slots.length:Int)) (hop:7≤x.b∧x.b≤19) (hv:cQ (aD t x.c).k (aD t x.c).n (aD t x.c).s=true) (hw:cQ (aD t (aC x.l 0)).k (aD t (aC x.l 0)).n (aD t (aC x.l 0)).s=true) :
  aB Tryz.prog 209 [.ptr 0 0,.eptr 1 gr.length 4 0,x.dv] (oX c t gr []) (fun r σ'=>r=(Rs.dv (bA x.b (aD t x.c) (aD t (aC x.l 0))).2 d6 false g9)∧σ'=oX c (bif dO (bA x.b (aD t x.c) (aD t (aC x.l 0))).2 then dS (fK t x.a (bA x.b (aD t x.c) (aD t (aC x.l 0))).1) else t) gr []):=by
 refine of_body Tryz.func209 rfl rfl (nB rfl) ?_
 rw [Tryz.ntmps209]
 repeat' (first | ((with_reducible refine kw ?_);first | refine W0 ?_ | refine W3 ?_ | (refine aJ ?_;refine bB rfl rfl rfl rfl (aB.ret (w3 (vC c t gr x (bA x.b (aD t x.c) (aD t (aC x.l 0))).1 (bA x.b (aD t x.c) (aD t (aC x.l 0))).2 hp ha) rfl rfl) ?_)) | (refine aE ?_;refine H2 ?_) | refine cW ?_ | refine dH ?_) | refine GN ?_ | ((with_reducible refine kd ?_);first | refine D0 ?_ | refine D1 ?_ | (refine dI ?_;refine H1 ?_) | refine D2 ?_ | refine D4 ?_ | refine iY ?_ | (refine bM ?_;refine dD (E1 x.b _ _ _ _ _ _ ⟨hop,hv,hw⟩) ?_) | (refine c7 ?_;refine NZ ?_) | (refine aV ?_;refine H3 ?_) | refine wP ?_ | refine pZ ?_) | refine GA ?_ | refine GG ?_ | ((with_reducible refine kf ?_);refine tF (post:=[]) Tryz.results209 rfl ?_) | refine GR ?_ | ((with_reducible refine kr ?_);refine bD rfl rfl ⟨?_,?_⟩) | fail)
 all_goals rfl
theorem O2 (c:List Fc) (t:Fm) (gr:List (Value × Fm)) (x:In) :
  aB Tryz.prog 210 [.ptr 0 0,.eptr 1 gr.length 4 0,x.dv] (oX c t gr []) (fun r σ'=>r=RU∧σ'=oX c (BV t x.a) gr []):=by
 refine of_body Tryz.func210 rfl rfl (nB rfl) ?_
 rw [Tryz.ntmps210]
 repeat' (first | ((with_reducible refine kw ?_);first | refine W0 ?_ | refine W1 ?_ | refine W2 ?_ | refine W4 ?_ | (refine aE ?_;refine SX ?_) | refine cW ?_ | refine dH ?_ | refine eV ?_) | refine GA ?_ | refine GG ?_ | ((with_reducible refine kf ?_);refine tF (post:=[]) Tryz.results210 rfl ?_) | refine GR ?_ | ((with_reducible refine kr ?_);refine bD rfl rfl ⟨?_,?_⟩) | fail)
 all_goals rfl
theorem KK (c:List Fc) (t:Fm) (gr:List (Value × Fm)) (x:In) (hp:0≤t.pc∧t.pc < 4000) (ha:0≤x.a∧x.a < (t.slots.length:Int)) :
  aB Tryz.prog 211 [.ptr 0 0,.eptr 1 gr.length 4 0,x.dv] (oX c t gr []) (fun r σ'=>r=(Rs.dv (if (aD t x.a).k≠2 then l9 eA else kW) d6 false g9)∧σ'=oX c (if (aD t x.a).k≠2 then t else if (aD t x.a).n=0 then BV t x.b else dS t) gr []):=by
 refine of_body Tryz.func211 rfl rfl (nB rfl) ?_
 rw [Tryz.ntmps211]
 repeat' (first | ((with_reducible refine kw ?_);first | refine W0 ?_ | refine W1 ?_ | refine W2 ?_ | refine W3 ?_ | refine W4 ?_ | refine W6 ?_ | refine bJ ?_ | (refine aJ ?_;first | refine tD (mY eA) ?_ | refine bB rfl rfl rfl rfl (aB.ret (w3 (pG c (t) gr x hp) rfl rfl) ?_)) | (refine aE ?_;refine H2 ?_) | refine cW ?_ | refine dH ?_ | refine eV ?_) | refine GN ?_ | ((with_reducible refine kd ?_);first | refine D0 ?_ | refine D1 ?_ | (refine dI ?_;refine H1 ?_) | refine D2 ?_ | refine D4 ?_ | (refine c7 ?_;refine NZ ?_) | (refine aV ?_;refine H3 ?_) | refine pZ ?_) | refine GA ?_ | refine GG ?_ | (refine cJ (fun hb=>?_) (fun hb=>?_) <;> try rw [hb]) | ((with_reducible refine kf ?_);refine tF (post:=[]) Tryz.results211 rfl ?_) | refine GR ?_ | ((with_reducible refine kr ?_);refine bD rfl rfl ⟨?_,?_⟩) | fail)
 all_goals (first | rfl | (have h0:¬ ((aD t x.a).k≠2):=oF ‹decide ((aC t.slots x.a).k≠2)=false›;have h1:(aD t x.a).n=0:=oT ‹decide ((aC t.slots x.a).n=0)=true›;(try rw [if_neg h0]);(try rw [if_pos h1]);rfl) | (have h0:¬ ((aD t x.a).k≠2):=oF ‹decide ((aC t.slots x.a).k≠2)=false›;have h1:¬ ((aD t x.a).n=0):=oF ‹decide ((aC t.slots x.a).n=0)=false›;(try rw [if_neg h0]);(try rw [if_neg h1]);rfl) | (have h0:(aD t x.a).k≠2:=oT ‹decide ((aC t.slots x.a).k≠2)=true›;(try rw [if_pos h0]);rfl) | (have h0:¬ ((aD t x.a).k≠2):=oF ‹decide ((aC t.slots x.a).k≠2)=false›;(try rw [if_neg h0]);rfl))
theorem KG (c:List Fc) (t:Fm) (gr:List (Value × Fm)) (x:In) (ha:0≤x.a∧x.a < (t.slots.length:Int)) :
  aB Tryz.prog 214 [.ptr 0 0,.eptr 1 gr.length 4 0,x.dv] (oX c t gr []) (fun r σ'=>r=(Rs.dv (if (aD t x.a).k=3 then l9 (aD t x.a).s else l9 eA) d6 false g9)∧σ'=oX c (t) gr []):=by
 refine of_body Tryz.func214 rfl rfl (nB rfl) ?_
 rw [Tryz.ntmps214]
 repeat' (first | ((with_reducible refine kw ?_);first | refine W1 ?_ | refine W2 ?_ | refine W6 ?_ | (refine aJ ?_;refine tD (mY _) ?_) | (refine aE ?_;refine H2 ?_) | refine cW ?_ | refine dH ?_ | refine eV ?_) | refine GN ?_ | ((with_reducible refine kd ?_);first | refine D0 ?_ | refine D1 ?_ | (refine dI ?_;refine H1 ?_) | refine D2 ?_ | refine D4 ?_ | (refine c7 ?_;refine NZ ?_) | (refine aV ?_;refine H3 ?_) | refine pZ ?_) | refine GA ?_ | refine GG ?_ | (refine cJ (fun hb=>?_) (fun hb=>?_) <;> try rw [hb]) | ((with_reducible refine kf ?_);refine tF (post:=[]) Tryz.results214 rfl ?_) | refine GR ?_ | ((with_reducible refine kr ?_);refine bD rfl rfl ⟨?_,?_⟩) | fail)
 all_goals (first | rfl | (have h0:(aD t x.a).k=3:=oT ‹decide ((aC t.slots x.a).k=3)=true›;(try rw [if_pos h0]);rfl) | (have h0:¬ ((aD t x.a).k=3):=oF ‹decide ((aC t.slots x.a).k=3)=false›;(try rw [if_neg h0]);rfl))
theorem IU (c:List Fc) (t:Fm) (gr:List (Value × Fm)) (x:In) (ha:0≤x.a∧x.a < (t.slots.length:Int)) :
  aB Tryz.prog 217 [.ptr 0 0,.eptr 1 gr.length 4 0,x.dv] (oX c t gr []) (fun r σ'=>r=(Rs.dv (if (aD t x.a).k≠1 then l9 eA else if (aD t x.a).n < 0 then l9 eA else if (aD t x.a).n≥(x.l.length:Int) then l9 eA else kW) d6 false g9)∧σ'=oX c (if (aD t x.a).k≠1 then t else if (aD t x.a).n < 0 then t else if (aD t x.a).n≥(x.l.length:Int) then t else BV t (aC x.l (aD t x.a).n)) gr []):=by
 refine of_body Tryz.func217 rfl rfl (nB rfl) ?_
 rw [Tryz.ntmps217]
 repeat' (first | ((with_reducible refine kw ?_);first | refine Wg ?_ | refine W0 ?_ | refine W1 ?_ | refine W2 ?_ | refine W4 ?_ | refine W6 ?_ | (refine aJ ?_;refine tD (mY eA) ?_) | refine wR ?_ | (refine aE ?_;refine H2 ?_) | refine eT ?_ | refine gZ ?_ | refine cW ?_ | refine dH ?_ | refine eV ?_) | refine GX ?_ | (refine bW (fun hb=>?_) (fun hb=>?_) <;> rw [hb]) | refine GN ?_ | ((with_reducible refine kd ?_);first | refine D0 ?_ | refine D1 ?_ | (refine dI ?_;refine H1 ?_) | refine D2 ?_ | refine D4 ?_ | (refine c7 ?_;refine NZ ?_) | (refine aV ?_;refine H3 ?_) | refine pZ ?_) | refine GA ?_ | refine GG ?_ | (refine cJ (fun hb=>?_) (fun hb=>?_) <;> try rw [hb]) | ((with_reducible refine kf ?_);refine tF (post:=[]) Tryz.results217 rfl ?_) | refine GR ?_ | ((with_reducible refine kr ?_);refine bD rfl rfl ⟨?_,?_⟩) | fail)
 all_goals (first | rfl | (have h0:(aD t x.a).k≠1:=oT ‹decide ((aC t.slots x.a).k≠1)=true›;(try rw [if_pos h0]);rfl) | (have h0:¬ ((aD t x.a).k≠1):=oF ‹decide ((aC t.slots x.a).k≠1)=false›;have h1:(aD t x.a).n < 0:=oT ‹decide ((aC t.slots x.a).n < 0)=true›;(try rw [if_neg h0]);(try rw [if_pos h1]);rfl) | (have h0:¬ ((aD t x.a).k≠1):=oF ‹decide ((aC t.slots x.a).k≠1)=false›;have h1:¬ ((aD t x.a).n < 0):=oF ‹decide ((aC t.slots x.a).n < 0)=false›;have h2:(aD t x.a).n≥(x.l.length:Int):=oT ‹decide ((aC t.slots x.a).n≥(x.l.length:Int))=true›;(try rw [if_neg h0]);(try rw [if_neg h1]);(try rw [if_pos h2]);rfl) | (have h0:¬ ((aD t x.a).k≠1):=oF ‹decide ((aC t.slots x.a).k≠1)=false›;have h1:¬ ((aD t x.a).n < 0):=oF ‹decide ((aC t.slots x.a).n < 0)=false›;have h2:¬ ((aD t x.a).n≥(x.l.length:Int)):=oF ‹decide ((aC t.slots x.a).n≥(x.l.length:Int))=false›;(try rw [if_neg h0]);(try rw [if_neg h1]);(try rw [if_neg h2]);rfl))
def rQ (v:Va):Bool:=decide (v.k=1) && (decide (v.n=1) && (decide (v.s=⟨#[]⟩) && true))
theorem g7 {n b:Nat} (h:n≤100000) (hb:b≤1000):vB n b=true:=by
 unfold vB gY
 have h1:(n + n / 4 + 512) * b≤125512 * 1000:=Nat.mul_le_mul aI hb
 simp only [c5,dT];omega
theorem AN {t:Fm} {l:List Int} {i:Nat} (h:i < l.length):aO ((aY t (l.take i)).map Va.enc)++[[iv (aD t (aC l (i:Int))).k,iv (aD t (aC l (i:Int))).n,sv (aD t (aC l (i:Int))).s]]=aO ((aY t (l.take (i + 1))).map Va.enc):=by
 rw [gL h];simp [aY,aO]
theorem IR (c:List Fc) (t:Fm) (gr:List (Value × Fm)) (x:In) (hp:0≤t.pc∧t.pc < 4000) (ha:0≤x.a∧x.a < (t.slots.length:Int)) :
  aB Tryz.prog 218 [.ptr 0 0,.eptr 1 gr.length 4 0,x.dv] (oX c t gr []) (fun r σ'=>r=RU∧σ'=oX c (bif rQ (aD t x.a) then dS t else BV t x.b) gr []):=by
 refine of_body Tryz.func218 rfl rfl (nB rfl) ?_
 rw [Tryz.ntmps218]
 repeat' (first | ((with_reducible refine kw ?_);first | refine W0 ?_ | refine W1 ?_ | refine W2 ?_ | refine W3 ?_ | refine W4 ?_ | (refine aJ ?_;refine bB rfl rfl rfl rfl (aB.ret (w3 (pG c (t) gr x hp) rfl rfl) ?_)) | (refine aE ?_;refine H2 ?_) | refine cW ?_ | refine dH ?_ | refine eV ?_) | refine GN ?_ | ((with_reducible refine kd ?_);first | refine D0 ?_ | refine D1 ?_ | (refine dI ?_;refine H1 ?_) | refine D2 ?_ | refine D4 ?_ | refine D7 ?_ | (refine c7 ?_;refine NZ ?_) | refine sU ?_) | refine GA ?_ | refine GG ?_ | (refine cJ (fun hb=>?_) (fun hb=>?_) <;> try rw [hb]) | ((with_reducible refine kf ?_);refine tF (post:=[]) Tryz.results218 rfl ?_) | refine GR ?_ | ((with_reducible refine kr ?_);refine bD rfl rfl ⟨?_,?_⟩) | fail)
 all_goals ((first | (have hn:rQ (aD t x.a)=false:=(by revert hb;show (!(rQ (aD t x.a)))=true→_;cases rQ (aD t x.a) <;> simp);(try rw [hn]);rfl) | (have hn:rQ (aD t x.a)=true:=(by revert hb;show (!(rQ (aD t x.a)))=false→_;cases rQ (aD t x.a) <;> simp);(try rw [hn]);rfl)))
theorem sH (t:Fm) (k:Int) (h0:0≤k) (h1:k + 1 < (t.slots.length:Int)) (h2:(t.slots.length:Int)≤200):bY Tryz.prog 101 [.iptr t.enc 0,iv k] (.tup [(dJ t k).dv,bv (cS t k)]):=by
 have hw:IntKind.i64.wrap (k + 1)=k + 1:=aL aI aI
 have h3:k < (t.slots.length:Int):=by omega
 have h4:0≤IntKind.i64.wrap (k + 1):=by omega
 have h5:IntKind.i64.wrap (k + 1) < (t.slots.length:Int):=by omega
 refine of_body Tryz.func101 rfl rfl (nB rfl) ?_
 rw [Tryz.ntmps101]
 repeat' (first | ((with_reducible refine kw ?_);first | refine W1 ?_ | refine W2 ?_ | refine bJ ?_ | (refine aE ?_;refine q8 ?_) | refine dH ?_ | refine eV ?_) | refine GN ?_ | refine GD ?_ | (refine kX (fun hb=>?_) (fun hb=>?_) <;> rw [hb]) | ((with_reducible refine kd ?_);first | refine D0 ?_ | refine D1 ?_ | refine D2 ?_ | refine D3 ?_ | refine D4 ?_ | refine D6 ?_ | refine iY ?_ | (refine bM ?_;refine dD (yQ _ _) ?_) | (refine c7 ?_;refine SH ?_) | (refine aV ?_;refine BW ?_) | refine uF ?_ | refine pZ ?_) | refine GA ?_ | refine GG ?_ | ((with_reducible refine kf ?_);refine aP 0 Tryz.results101 rfl rfl rfl ?_) | refine GR ?_ | ((with_reducible refine kr ?_);refine aG rfl ?_) | fail)
 all_goals (generalize hm:IntKind.i64.wrap (k + 1)=m at *;obtain rfl:m=k + 1:=hw)
 all_goals first
  | (have g1:(aD t k).k=1:=oT ‹decide ((aC t.slots k).k=1)=true›;have g3:(aD t (k + 1)).k=3:=oT ‹decide ((aC t.slots (k + 1)).k=3)=true›;have e:cS t k=gW (dJ t k).k (dJ t k).t:=(by simp [cS,g1,g3]);rw [e];rfl)
  | (have g1:(aD t k).k=1:=oT ‹decide ((aC t.slots k).k=1)=true›;have g3:¬ (aD t (k + 1)).k=3:=oF ‹decide ((aC t.slots (k + 1)).k=3)=false›;have e:cS t k=false:=(by simp [cS,g1,g3]);rw [e];rfl)
  | (have g1:¬ (aD t k).k=1:=oF ‹decide ((aC t.slots k).k=1)=false›;have e:cS t k=false:=(by simp [cS,g1]);rw [e];rfl)
theorem AO (t:Fm) (l:List Int) (hl:l.length≤1000) (hk:∀ i:Nat,i < l.length→0≤aC l (i:Int)∧aC l (i:Int) < (t.slots.length:Int)) :
  aB Tryz.prog 99 [.iptr t.enc 0,lv (uS l)] [] (fun r σ'=>r = .arr 2∧σ'=[some (bS Tryz.prog 35 []),none,some (.arr 35 (aS (aY t l)))]):=by
 refine of_body Tryz.func99 rfl rfl (nB rfl) ?_
 rw [Tryz.ntmps99]
 repeat' (first | ((with_reducible refine kw ?_);first | refine W0 ?_ | refine W1 ?_ | refine W2 ?_ | refine W3 ?_ | refine W4 ?_ | refine W6 ?_ | refine bJ ?_ | refine wR ?_ | refine gZ ?_ | refine KS ?_) | refine GA ?_ | refine GG ?_ | (refine cJ (fun hb=>?_) (fun hb=>?_) <;> try rw [hb]) | ((with_reducible refine kf ?_);refine aP 0 Tryz.results99 rfl rfl rfl ?_) | refine GR ?_ | fail)
 refine dB (kK 35 ?_)
 refine dB (DS 5 35 rfl ?_)
 refine dB (qR 5 (m:=0) (s:=[]) rfl rfl rfl rfl fun u=>?_)
 refine cF [0,5,8,9,10] rfl ?_
 refine jY 2 (n:=_) (fun n e σ=>∃ (i:Nat) (m:Int) (u:Value),n=l.length - i∧(m=i∧i≤l.length)∧e=[(0,_),(5,.d (.sc u)),(8,_),(9,_),(10,iv m)]∧σ=[some (bS Tryz.prog 35 [(u,(aY t (l.take i)).map Va.enc)]),none]) rfl ⟨0,0,u,rfl,⟨rfl,Nat.zero_le _⟩,rfl,rfl⟩ ?_
 rintro n e σ ⟨i,m,u,rfl,⟨rfl,hi⟩,rfl,rfl⟩
 have hlen:=hl
 refine dB (wK 5 (m:=0) rfl hP rfl ?_)
 repeat' (first | ((with_reducible refine kw ?_);first | refine W0 ?_ | refine W1 ?_ | refine W2 ?_ | refine W3 ?_ | refine W4 ?_ | refine W6 ?_ | refine bJ ?_ | (refine fO ?_;refine cK (aF (el rfl) rfl rfl (hk i V0).1 (hk i V0).2 ⟨rfl,by decide⟩) rfl rfl ?_) | refine wR ?_ | refine gZ ?_ | refine KS ?_ | (refine vQ ?_;refine cK (fY (el rfl) (sl rfl) rfl rfl rfl (ap rfl) (mM rfl rfl) (iI eS) (g7 (by simp [aO,aY];omega) cN)) rfl rfl ?_)) | refine GA ?_ | refine GG ?_ | (refine cJ (fun hb=>?_) (fun hb=>?_) <;> try rw [hb]) | ((with_reducible refine kf ?_);refine aP 3 Tryz.results99 rfl rfl (by show (true && (true && ((aU.arr 35 (aS (aY t (l.take i)))).under 3 && true)))=true;rw [eB];rfl) ?_) | refine GR ?_ | ((with_reducible refine kr ?_);refine bD rfl rfl ⟨?_,?_⟩) | fail)
 all_goals first
  | (have hlt:=oT hb;refine gE (qR 5 (m:=0) (s:=(aY t (l.take (i + 1))).map Va.enc) rfl rfl (AN aI) rfl fun u2=>?_);refine gE (jM [0,5,8,9,10] rfl ?_);refine gU 2 rfl rfl rfl ?_;refine gT ⟨_,?_,i + 1,_,u2,rfl,⟨aL aI aI,by omega⟩,rfl,rfl⟩;omega)
  | rfl
  | (have hge:=oF hb;have e:i=l.length:=aI;subst e;rw [List.take_length];rfl)
theorem fL {f:Nat→Nat} {t:TypeId} {ss:List Va}:(aU.arr t (aS ss)).ren f = .arr t (aS ss):=lH
theorem G9 (vs:List Va) (k:Int) (h0:0≤k) (h1:k < (vs.length:Int)) :
  aB Tryz.prog 100 [iv k,.ptr 0 0] [some (.box 25 [.arr 1]),some (.arr 35 (aS vs))] (fun r σ'=>r=bv (decide ((aC vs k).k=1))∧σ'=[some (.box 25 [.arr 1]),some (.arr 35 (aS vs))]):=by
 refine of_body Tryz.func100 rfl rfl (nB rfl) ?_
 rw [Tryz.ntmps100]
 repeat' (first | ((with_reducible refine kw ?_);first | refine W0 ?_ | refine W1 ?_ | (refine f9 ?_;refine H0 ?_) | refine W2 ?_ | refine W6 ?_ | refine bJ ?_ | (refine fO ?_;refine H38 ?_)) | refine GA ?_ | refine GG ?_ | ((with_reducible refine kf ?_);refine aP 2 Tryz.results100 rfl rfl (by show (true && ((aU.arr 35 (aS vs)).under 2 && true))=true;rw [eB];rfl) ?_) | refine GR ?_ | ((with_reducible refine kr ?_);refine bD rfl rfl ⟨?_,rfl⟩) | fail)
 all_goals rfl
theorem JE (c:List Fc) (t:Fm) (s:aR) (rest:List aR) (hf0:0≤t.fn) (hf1:t.fn < (c.length:Int)) (hp0:0≤t.pc) (hp1:t.pc < ((aC c t.fn).code.length:Int)) :
  bY Tryz.prog 95 [.iptr (kZ c::rest) 0,.agg [iv t.fn,iv t.pc,iv t.to,.d s]] ((aN c t).dv):=by
 refine of_body Tryz.func95 rfl rfl (nB rfl) ?_
 rw [Tryz.ntmps95]
 repeat' (first | ((with_reducible refine kw ?_);first | refine cW ?_ | refine dH ?_) | refine GN ?_ | ((with_reducible refine kd ?_);first | refine D0 ?_ | refine D1 ?_ | refine D2 ?_ | refine D3 ?_ | refine D4 ?_ | (refine c7 ?_;refine SH ?_) | (refine aV ?_;refine BW ?_)) | refine GA ?_ | refine GG ?_ | ((with_reducible refine kf ?_);refine aP 0 Tryz.results95 rfl rfl rfl ?_) | refine GR ?_ | ((with_reducible refine kr ?_);refine aG rfl ?_) | fail)
 all_goals rfl
theorem cB {t:Fm} {l:List Int} {j:Int} (h0:0≤j) (h1:j < (l.length:Int)):aC (aY t l) j=aD t (aC l j):=by
 have h:j.toNat < l.length:=by omega
 simp [aC,aY,List.getD_eq_getElem?_getD,h]
theorem oW {t:Fm} {l:List Int}:(aY t l).length=l.length:=by simp [aY]
theorem u7 {σ:aA} (t:Fm) (l:List Int) (hl:l.length≤1000) (hk:∀ i:Nat,i < l.length→0≤aC l (i:Int)∧aC l (i:Int) < (t.slots.length:Int)) :
  aB Tryz.prog 99 [.iptr t.enc 0,lv (uS l)] σ (fun r σ'=>r = .arr (σ.length + 2)∧σ'=σ++[some (bS Tryz.prog 35 []),none,some (.arr 35 (aS (aY t l)))]):=by
 refine aB.shiftR (AO t l hl hk) rfl ⟨rfl,?_⟩
 show σ++[some (bS Tryz.prog 35 []),none,some ((aU.arr 35 (aS (aY t l))).ren _)]=_
 rw [fL]
structure wO (t:Fm) (x:In):Prop where
 a:x.a=1∨x.a=2∨x.a=3
 n:x.l.length≤1000
 l0:(0:Int) < (x.l.length:Int)
 l1:x.a=2→(1:Int) < (x.l.length:Int)
 k:∀ i:Nat,i < x.l.length→0≤aC x.l (i:Int)∧aC x.l (i:Int) < (t.slots.length:Int)
abbrev WP (k:Int):DV := .agg [iv k,iv 0,iv 0,iv 0,iv 0,sv ⟨#[]⟩,iv 0,iv 0,sv ⟨#[]⟩,iv 0,.nils,.nils,iv 0,sv ⟨#[]⟩]
abbrev WQ (k n:Int) (d:DV):DV := .agg [iv k,iv n,iv 0,iv 0,iv 0,sv ⟨#[]⟩,iv 0,iv 0,sv ⟨#[]⟩,iv 0,lv [],d,iv 0,sv ⟨#[]⟩]
theorem n8 {t:Fm} {As:List In} {i:Nat} (r:Am) (h:i < As.length) (hr:lA t (aC As (i:Int))=r):aO (((As.take i).map (lA t)).map Am.enc)++[r.enc.map .d]=aO (((As.take (i + 1)).map (lA t)).map Am.enc):=by
 rw [gL h,← hr];simp [aO]
theorem B2 (c:List Fc) (t:Fm) (kind other:Int) (rest:List aR) (a:Nat) (hpa:t.pc=(a:Int)) (hf0:0≤t.fn) (hf1:t.fn < (c.length:Int)) (hp0:0≤t.pc) (hp1:t.pc < ((aC c t.fn).code.length:Int)) (As:List In) (hAs:fP c t=As) (hA:∀ i:Nat,i < As.length→wO t (aC As (i:Int))) (hn:As.length≤4000) :
  aB Tryz.prog 102 [.iptr (kZ c::rest) 0,.iptr t.enc 0,WP kind,iv other] [] (fun r σ'=>∃ id l,r = .tup [WQ kind other (.arr id),bv (As.all (l8 t))]∧σ'.look id=some (.arr 117 (aO (l.map Am.enc)))∧(As.all (l8 t)=true→l=As.map (lA t))):=by
 have hA':d5 (aC c t.fn).code a=As:=by rw [← hAs];simp [fP,hpa]
 have ha:a≤(aC c t.fn).code.length:=by omega
 have harms:=GP (aC c t.fn).code a ha
 rw [← hpa,hA'] at harms
 refine fW Tryz.func102 rfl rfl (nB rfl) ?_
 rw [Tryz.ntmps102]
 repeat' (first | ((with_reducible refine kw ?_);first | refine W0 ?_ | refine W1 ?_ | refine W2 ?_ | refine W3 ?_ | refine W6 ?_ | refine bJ ?_ | (refine aE ?_;refine q8 ?_) | refine cW ?_ | refine dH ?_ | refine eV ?_ | refine KS ?_) | refine GN ?_ | ((with_reducible refine kd ?_);first | refine D0 ?_ | refine D1 ?_ | refine D2 ?_ | refine D4 ?_ | (refine bM ?_;refine dD harms ?_) | (refine c7 ?_;refine SH ?_) | refine BT ?_) | refine GA ?_ | refine GG ?_ | (refine cJ (fun hb=>?_) (fun hb=>?_) <;> try rw [hb]) | ((with_reducible refine tO ?_);refine j7 Tryz.results102 rfl ?_) | refine GS ?_ | fail)
 refine dB (kK 117 ?_)
 refine dB (FY 0 11 117 rfl rfl ?_)
 refine dB (qQ 0 11 (m:=2) (p:=3) (s:=[]) rfl rfl rfl rfl rfl fun u=>?_)
 refine cF [0,1,6,8,9,32,33,34] rfl ?_
 refine jY 4 (n:=_) (fun n e σ=>∃ (i:Nat) (m:Int) (u:Value),n=As.length - i∧(m=i∧i≤As.length∧(As.take i).all (l8 t)=true)∧e=[(0,_),(1,_),(6,_),(8,_),(9,_),(32,_),(33,_),(34,iv m)]∧σ=[some (.box 40 [iv kind,iv other,iv 0,iv 0,iv 0,sv ⟨#[]⟩,iv 0,iv 0,sv ⟨#[]⟩,iv 0,.nils,.d (.sc u),iv 0,sv ⟨#[]⟩]),_,some (bS Tryz.prog 117 [(u,((As.take i).map (lA t)).map Am.enc)]),none]) rfl ⟨0,0,u,rfl,⟨rfl,Nat.zero_le _,rfl⟩,rfl,rfl⟩ ?_
 rintro n e σ ⟨i,m,u,rfl,⟨rfl,hi,hall⟩,rfl,rfl⟩
 refine dB (HN 0 11 (m:=2) rfl hP rfl rfl ?_)
 repeat' (first | ((with_reducible refine kw ?_);first | refine W0 ?_ | refine W1 ?_ | (refine f9 ?_;first | refine cK (iS (ag rfl) (sz rfl) rfl rfl (sz rfl) cN Z6) rfl rfl ?_ | refine cK (gN (ag rfl) rfl rfl (sz rfl) cN Z6 rfl) rfl rfl ?_) | refine W2 ?_ | refine W3 ?_ | refine W6 ?_ | refine bJ ?_ | (refine aJ ?_;refine bB rfl rfl rfl rfl (aB.ret (u7 t (aC As (i:Int)).l (hA i NS).n (hA i NS).k) ?_)) | (refine fO ?_;first | refine cK (aF (el rfl) rfl rfl VS VS ⟨rfl,by decide⟩) rfl rfl ?_ | refine cK (eG (el rfl) rfl rfl rfl (sz rfl) cN Z6) rfl rfl ?_) | (refine aE ?_;refine H2 ?_) | refine cW ?_ | refine dH ?_ | refine eV ?_ | refine KS ?_ | (refine vQ ?_;refine ZD ?_)) | refine GN ?_ | ((with_reducible refine kd ?_);first | refine D0 ?_ | refine D1 ?_ | (refine dI ?_;first | refine dC (iS (ag rfl) (sz rfl) rfl rfl (sz rfl) cN Z6) rfl rfl rfl rfl ?_ | refine dC (gN (ag rfl) rfl rfl (sz rfl) cN Z6 rfl) rfl rfl rfl rfl ?_) | refine D2 ?_ | refine D4 ?_ | (refine c7 ?_;first | refine dC (aF (el rfl) rfl rfl VS VS ⟨rfl,by decide⟩) rfl rfl rfl rfl ?_ | refine dC (eG (el rfl) rfl rfl rfl (sz rfl) cN Z6) rfl rfl rfl rfl ?_) | (refine aV ?_;refine H3 ?_) | refine BT ?_) | refine GA ?_ | refine GG ?_ | (refine cJ (fun hb=>?_) (fun hb=>?_) <;> try rw [hb]) | ((with_reducible refine tO ?_);refine j7 Tryz.results102 rfl ?_) | refine GS ?_ | fail)
 all_goals first
  | (have g0:=‹decide ((aC As (i:Int)).a=1)=true›;(have hlt:i < As.length:=NS;have hf:=hA i hlt;have e0:aC (aY t (aC As (i:Int)).l) 0=aD t (aC (aC As (i:Int)).l 0):=cB cN hf.l0;refine gE (qQ 0 11 (m:=2) (s:=(((As.take (i + 1)).map (lA t)).map Am.enc)) rfl rfl (n8 ⟨(aC As (i:Int)).a,(aC (aY t (aC As (i:Int)).l) 0),g9,0⟩ hlt (by have h1:=oT ‹decide ((aC As (i:Int)).a=1)=true›;simp [lA,h1,e0])) rfl rfl fun u2=>?_);have hs:=p7 (l:=As) (p:=l8 t) (i:=i) hlt hall (by have h1:=oT ‹decide ((aC As (i:Int)).a=1)=true›;simp [l8,h1]);refine gE (jM [0,1,6,8,9,32,33,34] rfl ?_);refine gU 4 rfl rfl rfl ?_;refine gT ⟨_,?_,i + 1,_,u2,rfl,⟨aL aI aI,by omega,hs⟩,rfl,rfl⟩;omega))
  | (have e1:aC (aY t (aC As (i:Int)).l) 1=aD t (aC (aC As (i:Int)).l 1):=cB cN ((hA i NS).l1 (oT ‹decide ((aC As (i:Int)).a=2)=true›));(have hlt:i < As.length:=NS;have hf:=hA i hlt;have e0:aC (aY t (aC As (i:Int)).l) 0=aD t (aC (aC As (i:Int)).l 0):=cB cN hf.l0;refine gE (qQ 0 11 (m:=2) (s:=(((As.take (i + 1)).map (lA t)).map Am.enc)) rfl rfl (n8 ⟨(aC As (i:Int)).a,(aC (aY t (aC As (i:Int)).l) 0),(aC (aY t (aC As (i:Int)).l) 1),0⟩ hlt (by have h1:=oT ‹decide ((aC As (i:Int)).a=2)=true›;simp [lA,h1,e0,e1])) rfl rfl fun u2=>?_);have hs:=p7 (l:=As) (p:=l8 t) (i:=i) hlt hall (by have h1:=oT ‹decide ((aC As (i:Int)).a=2)=true›;simp [l8,h1]);refine gE (jM [0,1,6,8,9,32,33,34] rfl ?_);refine gU 4 rfl rfl rfl ?_;refine gT ⟨_,?_,i + 1,_,u2,rfl,⟨aL aI aI,by omega,hs⟩,rfl,rfl⟩;omega))
  | (have g0:=‹decide ((aC As (i:Int)).a=3)=true›;have g1:=‹decide ((aC (aY t (aC As (i:Int)).l) 0).k≠1)=false›;(have hlt:i < As.length:=NS;have hf:=hA i hlt;have e0:aC (aY t (aC As (i:Int)).l) 0=aD t (aC (aC As (i:Int)).l 0):=cB cN hf.l0;refine gE (qQ 0 11 (m:=2) (s:=(((As.take (i + 1)).map (lA t)).map Am.enc)) rfl rfl (n8 ⟨(aC As (i:Int)).a,g9,g9,(aC (aY t (aC As (i:Int)).l) 0).n⟩ hlt (by have h1:=oT ‹decide ((aC As (i:Int)).a=3)=true›;simp [lA,h1,e0])) rfl rfl fun u2=>?_);have hs:=p7 (l:=As) (p:=l8 t) (i:=i) hlt hall (by have h1:=oT ‹decide ((aC As (i:Int)).a=3)=true›;have h2:=oF ‹decide ((aC (aY t (aC As (i:Int)).l) 0).k≠1)=false›;rw [e0] at h2;simp only [ne_eq,Classical.not_not] at h2;simp [l8,h1,h2]);refine gE (jM [0,1,6,8,9,32,33,34] rfl ?_);refine gU 4 rfl rfl rfl ?_;refine gT ⟨_,?_,i + 1,_,u2,rfl,⟨aL aI aI,by omega,hs⟩,rfl,rfl⟩;omega))
  | (have g0:=‹decide ((aC (aY t (aC As (i:Int)).l) 0).k≠1)=true›;have hlt:i < As.length:=NS;have hf:=hA i hlt;have e0:aC (aY t (aC As (i:Int)).l) 0=aD t (aC (aC As (i:Int)).l 0):=cB cN hf.l0;have h1:=oT ‹decide ((aC As (i:Int)).a=3)=true›;have h2:=oT g0;have hs:=BY (l:=As) (p:=l8 t) (i:=i) hlt (by rw [e0] at h2;simp [l8,h1,h2]);exact ⟨_,(As.take i).map (lA t),by rw [hs];rfl,rfl,fun h=>by rw [hs] at h;cases h⟩)
  | (have g0:=‹decide ((aC As (i:Int)).a=3)=false›;exfalso;have hlt:i < As.length:=NS;have hf:=hA i hlt;have e0:aC (aY t (aC As (i:Int)).l) 0=aD t (aC (aC As (i:Int)).l 0):=cB cN hf.l0;have h1:=oF ‹decide ((aC As (i:Int)).a=1)=false›;have h2:=oF ‹decide ((aC As (i:Int)).a=2)=false›;have h3:=oF g0;have:=hf.a;omega)
  | (have hge:=oF hb;have e:i=As.length:=aI;subst e;rw [List.take_length] at hall ⊢;exact ⟨_,As.map (lA t),by rw [hall];rfl,rfl,fun _=>rfl⟩)
structure oY (c:List Fc) (t:Fm) (x:In):Prop where
 n:x.l.length≤1000
 k:∀ i:Nat,i < x.l.length→0≤aC x.l (i:Int)∧aC x.l (i:Int) < (t.slots.length:Int)
 s:(t.slots.length:Int)≤200
 l0:x.b=2∨x.b=12∨x.b=20∨x.b=21∨x.b=8∨x.b=3∨x.b=6∨x.b=7∨x.b=10∨x.b=11∨x.b=13∨x.b=14∨x.b=9→(0:Int) < (x.l.length:Int)
 l1:x.b=9→(1:Int) < (x.l.length:Int)
 f:x.b=17→(0:Int) < (x.l.length:Int)→aC x.l 0 + 1 < (t.slots.length:Int)
 arms:x.b=15→(∀ i:Nat,i < (fP c t).length→wO t (aC (fP c t) (i:Int)))∧(fP c t).length≤4000
theorem wN {l:List Va}:∀ r ∈ l.map Va.enc,∀ x ∈ r,∃ v,x=aR.sc v:=by
 intro r hr x hx
 obtain ⟨v,_,rfl⟩:=List.mem_map.1 hr
 simp only [Va.enc,List.mem_cons,List.not_mem_nil,or_false] at hx
 rcases hx with rfl | rfl | rfl <;> exact ⟨_,rfl⟩
theorem GQ {l:List Am}:∀ r ∈ l.map Am.enc,∀ x ∈ r,∃ v,x=aR.sc v:=by
 intro r hr x hx
 obtain ⟨v,_,rfl⟩:=List.mem_map.1 hr
 simp only [Am.enc,List.mem_cons,List.not_mem_nil,or_false] at hx
 rcases hx with rfl | rfl | rfl | rfl | rfl | rfl | rfl | rfl <;> exact ⟨_,rfl⟩
theorem AM {P:Program} {e:aW} {σ:aA} {n:Nat} {x:Operand} {ty el:TypeId} {id:Nat} {t:Fm} {l:List Int} (ht:P.underlying ty=some (.slice el)) (hx:e.ev x=some (.arr id)) (hl:σ.look id=some (.arr 35 (aS (aY t l)))):Ev P (.call { callee := .builtin .len,args:=#[x],argTypes:=#[ty] }) e σ n (.d (.sc (.int .i64 l.length))) σ:=by
 have:=yN (P:=P) (n:=n) ht hx hl
 rwa [yP,oW] at this
theorem xQ {σ σ0:aA} {id:Nat} {t:TypeId} {rows:List (List aR)} {x:Option aU} (h:σ0.look id=some (.arr t (aO rows))) (hn:0 < σ.length) :
  aA.look (aA.put (σ++σ0.map (Option.map (aU.ren (bL [] σ.length)))) 0 x) (bL [] σ.length id)=some (.arr t (aO rows)):=by
 have hp:bL [] σ.length id=σ.length + id:=by simp [bL]
 rw [aA.look_put (Nat.zero_le _),if_neg aI,eZ,if_neg aI,hp,Nat.add_sub_cancel_left]
 unfold aA.look at h ⊢
 rw [List.getElem?_map]
 obtain ⟨y,hy,rfl⟩:=Option.bind_eq_some_iff.1 h
 rw [hy];simp [lH]
theorem wA {τ σ0:aA} {id:Nat} {t:TypeId} {rows:List (List aR)} {x y:Option aU} (h:σ0.look id=some (.arr t (aO rows))) :
  aA.look (x::List.append τ (σ0.map (Option.map (aU.ren (bL [] (y::τ).length))))) (bL [] (y::τ).length id)=some (.arr t (aO rows)) :=
 xQ (σ:=y::τ) (x:=x) h (Nat.succ_pos _)
abbrev Ak.dv (a:Ak):DV := .agg (a.enc.map .d)
theorem wB (c:List Fc) (t:Fm) (rest:List aR) (a:Nat) (hpa:t.pc=(a:Int)) (hf0:0≤t.fn) (hf1:t.fn < (c.length:Int)) (hp0:0≤t.pc) (hp1:t.pc < ((aC c t.fn).code.length:Int)) (x:In) (hx:aN c t=x) (F:oY c t x) :
  aB Tryz.prog 55 [.iptr (kZ c::rest) 0,.iptr t.enc 0] [] (fun r σ'=>∃ a',(bT c t x=true→a'=bX c t x)∧Fr σ' r (.tup [Ak.dv a',bv (bT c t x)])):=by
 have hI:=JE c t (ld (t.slots.map Va.enc)) rest hf0 hf1 hp0 hp1
 rw [hx] at hI
 refine fW Tryz.func55 rfl rfl (nB rfl) ?_
 rw [Tryz.ntmps55]
 repeat' (first | ((with_reducible refine kw ?_);first | refine W0 ?_ | refine W1 ?_ | (refine f9 ?_;refine H9 ?_) | refine W3 ?_ | refine W2 ?_ | refine W4 ?_ | refine W6 ?_ | refine bJ ?_ | (refine aJ ?_;first | refine tD hI ?_ | refine bB rfl rfl rfl rfl (aB.ret (u7 t x.l F.n F.k) ?_) | refine bB rfl rfl rfl rfl (bY.at (sH t (aC x.l 0) (F.k 0 (by have h:=oT ‹decide ((x.l.length:Int) > 0)=true›;omega)).1 (F.f (oT ‹decide (x.b=17)=true›) (oT ‹decide ((x.l.length:Int) > 0)=true›)) F.s) rfl rfl ?_) | refine rO rfl rfl rfl (aB.shift (B2 c t x.b x.c rest a hpa hf0 hf1 hp0 hp1 (fP c t) rfl (F.arms (oT ‹decide (x.b=15)=true›)).1 (F.arms (oT ‹decide (x.b=15)=true›)).2) rfl ?_)) | (refine fO ?_;refine Y2 ?_) | (refine aE ?_;refine q8 ?_) | refine iZ ?_ | (refine kT ?_;refine cK (AM (sl rfl) rfl rfl) rfl rfl ?_) | refine dH ?_ | refine N3 ?_ | refine eV ?_) | refine GN ?_ | ((with_reducible refine kd ?_);first | refine D0 ?_ | refine D1 ?_ | (refine dI ?_;refine H8 ?_) | refine D3 ?_ | refine D2 ?_ | refine iY ?_ | (refine bM ?_;refine eM [6,5] rfl rfl rfl rfl (aB.readsL (G9 (aY t x.l) 0 cN Z0) [6,5] rfl ⟨⟨rfl,rfl,rfl⟩,⟨rfl,eB,by rw [fL];rfl⟩,trivial⟩ rfl rfl rfl rfl) rfl ?_) | (refine c7 ?_;refine Y1 ?_) | (refine aV ?_;refine BW ?_)) | refine GA ?_ | refine GG ?_ | (refine cJ (fun hb=>?_) (fun hb=>?_) <;> try rw [hb]) | ((with_reducible refine tO ?_);refine j7 Tryz.results55 rfl ?_) | refine GS ?_ | fail)
 all_goals first
  | (have h:=oT ‹decide (x.b=2)=true›;have e0:aC (aY t x.l) 0=aD t (aC x.l 0):=cB cN Z2;have hV:bX c t x={ d6 with kind:=x.b,n:=(aC (aY t x.l) 0).n }:=VZ;have hB:bT c t x=decide ((aC (aY t x.l) 0).k=1):=S1;exact ⟨_,fun _=>rfl,by rw [hB,hV];exact .tup (.cons (.agg (.cons (.sc _) (.cons (.sc _) (.cons (.sc _) (.cons (.sc _) (.cons (.sc _) (.cons (.sc _) (.cons (.sc _) (.cons (.sc _) (.cons (.sc _) (.cons (.sc _) (.cons .emp (.cons .emp (.cons (.sc _) (.cons (.sc _) .nil))))))))))))))) (.cons (.sc _) .nil))⟩)
  | (have h:=oT ‹decide (x.b=12)=true›;have e0:aC (aY t x.l) 0=aD t (aC x.l 0):=cB cN Z2;have hV:bX c t x={ d6 with kind:=x.b,n:=(aC (aY t x.l) 0).n }:=VZ;have hB:bT c t x=decide ((aC (aY t x.l) 0).k=1):=S1;exact ⟨_,fun _=>rfl,by rw [hB,hV];exact .tup (.cons (.agg (.cons (.sc _) (.cons (.sc _) (.cons (.sc _) (.cons (.sc _) (.cons (.sc _) (.cons (.sc _) (.cons (.sc _) (.cons (.sc _) (.cons (.sc _) (.cons (.sc _) (.cons .emp (.cons .emp (.cons (.sc _) (.cons (.sc _) .nil))))))))))))))) (.cons (.sc _) .nil))⟩)
  | (have h:=oT ‹decide (x.b=20)=true›;have e0:aC (aY t x.l) 0=aD t (aC x.l 0):=cB cN Z2;have hV:bX c t x={ d6 with kind:=x.b,n:=(aC (aY t x.l) 0).n }:=VZ;have hB:bT c t x=decide ((aC (aY t x.l) 0).k=1):=S1;exact ⟨_,fun _=>rfl,by rw [hB,hV];exact .tup (.cons (.agg (.cons (.sc _) (.cons (.sc _) (.cons (.sc _) (.cons (.sc _) (.cons (.sc _) (.cons (.sc _) (.cons (.sc _) (.cons (.sc _) (.cons (.sc _) (.cons (.sc _) (.cons .emp (.cons .emp (.cons (.sc _) (.cons (.sc _) .nil))))))))))))))) (.cons (.sc _) .nil))⟩)
  | (have h:=oT ‹decide (x.b=21)=true›;have e0:aC (aY t x.l) 0=aD t (aC x.l 0):=cB cN Z2;have hV:bX c t x={ d6 with kind:=x.b,n:=(aC (aY t x.l) 0).n }:=VZ;have hB:bT c t x=decide ((aC (aY t x.l) 0).k=1):=S1;exact ⟨_,fun _=>rfl,by rw [hB,hV];exact .tup (.cons (.agg (.cons (.sc _) (.cons (.sc _) (.cons (.sc _) (.cons (.sc _) (.cons (.sc _) (.cons (.sc _) (.cons (.sc _) (.cons (.sc _) (.cons (.sc _) (.cons (.sc _) (.cons .emp (.cons .emp (.cons (.sc _) (.cons (.sc _) .nil))))))))))))))) (.cons (.sc _) .nil))⟩)
  | (have h:=oT ‹decide (x.b=8)=true›;have e0:aC (aY t x.l) 0=aD t (aC x.l 0):=cB cN Z2;have hV:bX c t x={ d6 with kind:=x.b,n:=(aC (aY t x.l) 0).n,m:=x.c }:=(by unfold bX;rw [if_neg aI,if_pos aI];rw [e0]);have hB:bT c t x=decide ((aC (aY t x.l) 0).k=1):=S1;exact ⟨_,fun _=>rfl,by rw [hB,hV];exact .tup (.cons (.agg (.cons (.sc _) (.cons (.sc _) (.cons (.sc _) (.cons (.sc _) (.cons (.sc _) (.cons (.sc _) (.cons (.sc _) (.cons (.sc _) (.cons (.sc _) (.cons (.sc _) (.cons .emp (.cons .emp (.cons (.sc _) (.cons (.sc _) .nil))))))))))))))) (.cons (.sc _) .nil))⟩)
  | (have h:=oT ‹decide (x.b=3)=true›;have e0:aC (aY t x.l) 0=aD t (aC x.l 0):=cB cN Z2;have hV:bX c t x={ d6 with kind:=x.b,v:=(aC (aY t x.l) 0) }:=GL;have hB:bT c t x=true:=zD;exact ⟨_,fun _=>rfl,by rw [hB,hV];exact .tup (.cons (.agg (.cons (.sc _) (.cons (.sc _) (.cons (.sc _) (.cons (.sc _) (.cons (.sc _) (.cons (.sc _) (.cons (.sc _) (.cons (.sc _) (.cons (.sc _) (.cons (.sc _) (.cons .emp (.cons .emp (.cons (.sc _) (.cons (.sc _) .nil))))))))))))))) (.cons (.sc _) .nil))⟩)
  | (have h:=oT ‹decide (x.b=6)=true›;have e0:aC (aY t x.l) 0=aD t (aC x.l 0):=cB cN Z2;have hV:bX c t x={ d6 with kind:=x.b,v:=(aC (aY t x.l) 0) }:=GL;have hB:bT c t x=true:=zD;exact ⟨_,fun _=>rfl,by rw [hB,hV];exact .tup (.cons (.agg (.cons (.sc _) (.cons (.sc _) (.cons (.sc _) (.cons (.sc _) (.cons (.sc _) (.cons (.sc _) (.cons (.sc _) (.cons (.sc _) (.cons (.sc _) (.cons (.sc _) (.cons .emp (.cons .emp (.cons (.sc _) (.cons (.sc _) .nil))))))))))))))) (.cons (.sc _) .nil))⟩)
  | (have h:=oT ‹decide (x.b=7)=true›;have e0:aC (aY t x.l) 0=aD t (aC x.l 0):=cB cN Z2;have hV:bX c t x={ d6 with kind:=x.b,v:=(aC (aY t x.l) 0) }:=GL;have hB:bT c t x=true:=zD;exact ⟨_,fun _=>rfl,by rw [hB,hV];exact .tup (.cons (.agg (.cons (.sc _) (.cons (.sc _) (.cons (.sc _) (.cons (.sc _) (.cons (.sc _) (.cons (.sc _) (.cons (.sc _) (.cons (.sc _) (.cons (.sc _) (.cons (.sc _) (.cons .emp (.cons .emp (.cons (.sc _) (.cons (.sc _) .nil))))))))))))))) (.cons (.sc _) .nil))⟩)
  | (have h:=oT ‹decide (x.b=10)=true›;have e0:aC (aY t x.l) 0=aD t (aC x.l 0):=cB cN Z2;have hV:bX c t x={ d6 with kind:=x.b,v:=(aC (aY t x.l) 0) }:=GL;have hB:bT c t x=true:=zD;exact ⟨_,fun _=>rfl,by rw [hB,hV];exact .tup (.cons (.agg (.cons (.sc _) (.cons (.sc _) (.cons (.sc _) (.cons (.sc _) (.cons (.sc _) (.cons (.sc _) (.cons (.sc _) (.cons (.sc _) (.cons (.sc _) (.cons (.sc _) (.cons .emp (.cons .emp (.cons (.sc _) (.cons (.sc _) .nil))))))))))))))) (.cons (.sc _) .nil))⟩)
  | (have h:=oT ‹decide (x.b=11)=true›;have e0:aC (aY t x.l) 0=aD t (aC x.l 0):=cB cN Z2;have hV:bX c t x={ d6 with kind:=x.b,v:=(aC (aY t x.l) 0) }:=GL;have hB:bT c t x=true:=zD;exact ⟨_,fun _=>rfl,by rw [hB,hV];exact .tup (.cons (.agg (.cons (.sc _) (.cons (.sc _) (.cons (.sc _) (.cons (.sc _) (.cons (.sc _) (.cons (.sc _) (.cons (.sc _) (.cons (.sc _) (.cons (.sc _) (.cons (.sc _) (.cons .emp (.cons .emp (.cons (.sc _) (.cons (.sc _) .nil))))))))))))))) (.cons (.sc _) .nil))⟩)
  | (have h:=oT ‹decide (x.b=13)=true›;have e0:aC (aY t x.l) 0=aD t (aC x.l 0):=cB cN Z2;have hV:bX c t x={ d6 with kind:=x.b,v:=(aC (aY t x.l) 0) }:=GL;have hB:bT c t x=true:=zD;exact ⟨_,fun _=>rfl,by rw [hB,hV];exact .tup (.cons (.agg (.cons (.sc _) (.cons (.sc _) (.cons (.sc _) (.cons (.sc _) (.cons (.sc _) (.cons (.sc _) (.cons (.sc _) (.cons (.sc _) (.cons (.sc _) (.cons (.sc _) (.cons .emp (.cons .emp (.cons (.sc _) (.cons (.sc _) .nil))))))))))))))) (.cons (.sc _) .nil))⟩)
  | (have h:=oT ‹decide (x.b=14)=true›;have e0:aC (aY t x.l) 0=aD t (aC x.l 0):=cB cN Z2;have hV:bX c t x={ d6 with kind:=x.b,v:=(aC (aY t x.l) 0) }:=GL;have hB:bT c t x=true:=zD;exact ⟨_,fun _=>rfl,by rw [hB,hV];exact .tup (.cons (.agg (.cons (.sc _) (.cons (.sc _) (.cons (.sc _) (.cons (.sc _) (.cons (.sc _) (.cons (.sc _) (.cons (.sc _) (.cons (.sc _) (.cons (.sc _) (.cons (.sc _) (.cons .emp (.cons .emp (.cons (.sc _) (.cons (.sc _) .nil))))))))))))))) (.cons (.sc _) .nil))⟩)
  | (have h:=oT ‹decide (x.b=9)=true›;have e0:aC (aY t x.l) 0=aD t (aC x.l 0):=cB cN Z2;have e1:aC (aY t x.l) 1=aD t (aC x.l 1):=cB cN (F.l1 (oT ‹decide (x.b=9)=true›));have hV:bX c t x={ d6 with kind:=x.b,v:=(aC (aY t x.l) 0),w:=(aC (aY t x.l) 1) }:=ZY;have hB:bT c t x=true:=zD;exact ⟨_,fun _=>rfl,by rw [hB,hV];exact .tup (.cons (.agg (.cons (.sc _) (.cons (.sc _) (.cons (.sc _) (.cons (.sc _) (.cons (.sc _) (.cons (.sc _) (.cons (.sc _) (.cons (.sc _) (.cons (.sc _) (.cons (.sc _) (.cons .emp (.cons .emp (.cons (.sc _) (.cons (.sc _) .nil))))))))))))))) (.cons (.sc _) .nil))⟩)
  | (have h:=oT ‹decide (x.b=5)=true›;have hV:bX c t x={ d6 with kind:=x.b,fn:=x.c,args:=aY t x.l }:=ZV;have hB:bT c t x=true:=zD;exact ⟨_,fun _=>rfl,by rw [hB,hV];exact .tup (.cons (.agg (.cons (.sc _) (.cons (.sc _) (.cons (.sc _) (.cons (.sc _) (.cons (.sc _) (.cons (.sc _) (.cons (.sc _) (.cons (.sc _) (.cons (.sc _) (.cons (.sc _) (.cons (.arr rfl rfl wN) (.cons .emp (.cons (.sc _) (.cons (.sc _) .nil))))))))))))))) (.cons (.sc _) .nil))⟩)
  | (have h:=oT ‹decide (x.b=16)=true›;have g:=oT ‹decide ((x.l.length:Int) > 0)=true›;have gn:¬ x.l=[]:=SL;have e0:aC (aY t x.l) 0=aD t (aC x.l 0):=cB cN Z2;have hV:bX c t x={ d6 with kind:=x.b,n:=x.c,m:=(aC (aY t x.l) 0).n }:=(by unfold bX;rw [if_neg aI,if_neg aI,if_neg aI,if_neg aI,if_neg aI,if_pos aI,if_neg gn];rw [e0]);have hB:bT c t x=decide ((aC (aY t x.l) 0).k=1):=(by unfold bT;rw [if_neg aI,if_pos aI];rw [e0];simp [gn]);exact ⟨_,fun _=>rfl,by rw [hB,hV];exact .tup (.cons (.agg (.cons (.sc _) (.cons (.sc _) (.cons (.sc _) (.cons (.sc _) (.cons (.sc _) (.cons (.sc _) (.cons (.sc _) (.cons (.sc _) (.cons (.sc _) (.cons (.sc _) (.cons .emp (.cons .emp (.cons (.sc _) (.cons (.sc _) .nil))))))))))))))) (.cons (.sc _) .nil))⟩)
  | (have h:=oT ‹decide (x.b=16)=true›;have g:=oF ‹decide ((x.l.length:Int) > 0)=false›;have gn:x.l=[]:=List.eq_nil_of_length_eq_zero aI;have hV:bX c t x={ d6 with kind:=x.b,n:=x.c,m:=-1 }:=ZR;have hB:bT c t x=true:=(by unfold bT;rw [if_neg aI,if_pos aI];simp [gn]);exact ⟨_,fun _=>rfl,by rw [hB,hV];exact .tup (.cons (.agg (.cons (.sc _) (.cons (.sc _) (.cons (.sc _) (.cons (.sc _) (.cons (.sc _) (.cons (.sc _) (.cons (.sc _) (.cons (.sc _) (.cons (.sc _) (.cons (.sc _) (.cons .emp (.cons .emp (.cons (.sc _) (.cons (.sc _) .nil))))))))))))))) (.cons (.sc _) .nil))⟩)
  | (have h:=oT ‹decide (x.b=17)=true›;have g:=oT ‹decide ((x.l.length:Int) > 0)=true›;have gn:¬ x.l=[]:=SL;have hV:bX c t x={ d6 with kind:=x.b,f:=dJ t (aC x.l 0) }:=ZP;have hB:bT c t x=cS t (aC x.l 0):=WL;exact ⟨_,fun _=>rfl,by rw [hB,hV];exact .tup (.cons (.agg (.cons (.sc _) (.cons (.sc _) (.cons (.sc _) (.cons (.sc _) (.cons (.sc _) (.cons (.sc _) (.cons (.sc _) (.cons (.sc _) (.cons (.sc _) (.cons (.sc _) (.cons .emp (.cons .emp (.cons (.sc _) (.cons (.sc _) .nil))))))))))))))) (.cons (.sc _) .nil))⟩)
  | (have h:=oT ‹decide (x.b=17)=true›;have g:=oF ‹decide ((x.l.length:Int) > 0)=false›;have gn:x.l=[]:=List.eq_nil_of_length_eq_zero aI;have hV:bX c t x={ d6 with kind:=x.b }:=ZQ;have hB:bT c t x=true:=WL;exact ⟨_,fun _=>rfl,by rw [hB,hV];exact .tup (.cons (.agg (.cons (.sc _) (.cons (.sc _) (.cons (.sc _) (.cons (.sc _) (.cons (.sc _) (.cons (.sc _) (.cons (.sc _) (.cons (.sc _) (.cons (.sc _) (.cons (.sc _) (.cons .emp (.cons .emp (.cons (.sc _) (.cons (.sc _) .nil))))))))))))))) (.cons (.sc _) .nil))⟩)
  | (have h2:=oF ‹decide (x.b=2)=false›;have h12:=oF ‹decide (x.b=12)=false›;have h20:=oF ‹decide (x.b=20)=false›;have h21:=oF ‹decide (x.b=21)=false›;have h8:=oF ‹decide (x.b=8)=false›;have h3:=oF ‹decide (x.b=3)=false›;have h6:=oF ‹decide (x.b=6)=false›;have h7:=oF ‹decide (x.b=7)=false›;have h10:=oF ‹decide (x.b=10)=false›;have h11:=oF ‹decide (x.b=11)=false›;have h13:=oF ‹decide (x.b=13)=false›;have h14:=oF ‹decide (x.b=14)=false›;have h9:=oF ‹decide (x.b=9)=false›;have h5:=oF ‹decide (x.b=5)=false›;have h16:=oF ‹decide (x.b=16)=false›;have h17:=oF ‹decide (x.b=17)=false›;have h15:=oF ‹decide (x.b=15)=false›;have hV:bX c t x={ d6 with kind:=x.b }:=ZO;have hB:bT c t x=true:=zD;exact ⟨_,fun _=>rfl,by rw [hB,hV];exact .tup (.cons (.agg (.cons (.sc _) (.cons (.sc _) (.cons (.sc _) (.cons (.sc _) (.cons (.sc _) (.cons (.sc _) (.cons (.sc _) (.cons (.sc _) (.cons (.sc _) (.cons (.sc _) (.cons .emp (.cons .emp (.cons (.sc _) (.cons (.sc _) .nil))))))))))))))) (.cons (.sc _) .nil))⟩)
  | skip
 ·have h:=oT ‹decide (x.b=15)=true›
  rintro r0 σ0 ⟨id,l,rfl,hl,hc⟩
  repeat' (first | ((with_reducible refine kw ?_);first | refine W0 ?_ | refine W1 ?_ | (refine f9 ?_;refine H9 ?_) | refine W3 ?_ | refine W2 ?_ | refine W4 ?_ | refine W6 ?_ | refine bJ ?_ | (refine aJ ?_;first | refine tD hI ?_ | refine bB rfl rfl rfl rfl (aB.ret (u7 t x.l F.n F.k) ?_) | refine bB rfl rfl rfl rfl (bY.at (sH t (aC x.l 0) (F.k 0 (by have h:=oT ‹decide ((x.l.length:Int) > 0)=true›;omega)).1 (F.f (oT ‹decide (x.b=17)=true›) (oT ‹decide ((x.l.length:Int) > 0)=true›)) F.s) rfl rfl ?_) | refine rO rfl rfl rfl (aB.shift (B2 c t x.b x.c rest a hpa hf0 hf1 hp0 hp1 (fP c t) rfl (F.arms (oT ‹decide (x.b=15)=true›)).1 (F.arms (oT ‹decide (x.b=15)=true›)).2) rfl ?_)) | (refine fO ?_;refine Y2 ?_) | (refine aE ?_;refine q8 ?_) | refine iZ ?_ | (refine kT ?_;refine cK (AM (sl rfl) rfl rfl) rfl rfl ?_) | refine dH ?_ | refine N3 ?_ | refine eV ?_) | refine GN ?_ | ((with_reducible refine kd ?_);first | refine D0 ?_ | refine D1 ?_ | (refine dI ?_;refine H8 ?_) | refine D3 ?_ | refine D2 ?_ | refine iY ?_ | (refine bM ?_;refine eM [6,5] rfl rfl rfl rfl (aB.readsL (G9 (aY t x.l) 0 cN Z0) [6,5] rfl ⟨⟨rfl,rfl,rfl⟩,⟨rfl,eB,by rw [fL];rfl⟩,trivial⟩ rfl rfl rfl rfl) rfl ?_) | (refine c7 ?_;refine Y1 ?_) | (refine aV ?_;refine BW ?_)) | refine GA ?_ | refine GG ?_ | (refine cJ (fun hb=>?_) (fun hb=>?_) <;> try rw [hb]) | ((with_reducible refine tO ?_);refine j7 Tryz.results55 rfl ?_) | refine GS ?_ | fail)
  have hV:(fP c t).all (l8 t)=true→bX c t x={ d6 with kind:=x.b,n:=x.c,arms:=l }:=fun hq=>by unfold bX;rw [if_neg aI,if_neg aI,if_neg aI,if_neg aI,if_neg aI,if_neg aI,if_neg aI,if_pos aI,hc hq]
  have hB:bT c t x=(fP c t).all (l8 t):=by unfold bT;rw [if_neg aI,if_neg aI,if_neg aI,if_pos aI]
  refine ⟨{ d6 with kind:=x.b,n:=x.c,arms:=l },fun hq=>(hV (by rw [← hB];exact hq)).symm,?_⟩
  rw [hB]
  exact .tup (.cons (.agg (.cons (.sc _) (.cons (.sc _) (.cons (.sc _) (.cons (.sc _) (.cons (.sc _) (.cons (.sc _) (.cons (.sc _) (.cons (.sc _) (.cons (.sc _) (.cons (.sc _) (.cons .emp (.cons (.arr (wA hl) rfl GQ) (.cons (.sc _) (.cons (.sc _) .nil))))))))))))))) (.cons (.sc _) .nil))
end Go.Ab
namespace Go.Ab
open Go
section
variable {P:Program} {nt:Nat} {σ σ':aA} {e:aW} {c:Code} {Q:Exit→aW→aA→Prop}
theorem sC:∀ (xs:List DV) (k i:Nat) (x:DV),xs[i]? = some x→(iL k xs).get (k + i)=some x
 | [],_,i,x,h=>by simp at h
 | y::xs,k,0,x,h=>by simp at h;subst h;simp [iL,aW.get]
 | y::xs,k,i + 1,x,h=>by
  simp only [iL,aW.get]
  rw [if_neg (by omega)]
  have:=sC xs (k + 1) i x (by simpa using h)
  rw [show k + 1 + i=k + (i + 1) by omega] at this
  exact this
theorem aB.conv {f:FuncId} {args args':List DV} {R R':DV→aA→Prop} (hl:args.length=args'.length) (pre:SC P (iL 0 args) σ (fun e1 σ1=>(∀ i d,args'[i]? = some d→e1.get i=some d)∧σ1=σ')) (h:aB P f args' σ' R)
  (post:∀ r σ2,R r σ2→SC P [(0,r)] σ2 (fun e3 σ3=>∃ r3,e3.get 0=some r3∧r3.under σ.length=true∧eJ σ.length σ3=true∧R' r3 (σ3.take σ.length))):aB P f args σ R':=by
 refine ⟨h.body,fun X ι w vs hh hr=>?_⟩
 have hst:St P X args.length w ι σ ι (iL 0 args) σ { tmps:=vs.toArray,defers:=[] } w:=by
  refine ⟨by simpa using hr.len,rfl,⟨fun t d ht=>?_⟩,fA.refl hh⟩
  obtain ⟨_,h2⟩:=mV _ _ _ _ ht
  rw [Nat.sub_zero] at h2
  have hlt:t < vs.length:=by rw [hr.len];exact (List.getElem?_eq_some_iff.1 h2).1
  have hg:vs.toArray.getD t undef=vs[t]:=by simp [Array.getD,hlt]
  simp only [hg]
  exact hr.get t d _ h2 (List.getElem?_eq_getElem hlt)
 obtain ⟨ι1,e1,σ1,⟨he,rfl⟩,hs1⟩:=pre.h X args.length w ι σ ι _ w hst
 have hr1:cM ι1 w (bQ X ι1 σ1) args' vs:=⟨by rw [hr.len,hl],fun i d v hd hv=>by
  have:=hs1.env.get i d (he i d hd)
  have hi:=(List.getElem?_eq_some_iff.1 hv).1
  have hg:vs.toArray.getD i undef=vs[i]:=by simp [Array.getD,hi]
  simp only [hg] at this
  rw [(List.getElem?_eq_some_iff.1 hv).2] at this
  exact this⟩
 refine (h.run X ι1 w vs hs1.comes.heap hr1).mono ?_
 rintro en w' ⟨v,r,σ2,ι2,rfl,hR,hc,hv⟩
 have hst2:St P X 1 w ι σ ι2 [(0,r)] σ2 { tmps:=#[v],defers:=[] } w':=⟨rfl,rfl,⟨fun t d ht=>by
  simp only [aW.get] at ht
  split at ht
  ·rename_i e0;subst e0;cases ht;exact hv
  ·cases ht⟩,hs1.comes.trans hc⟩
 obtain ⟨ι3,e3,σ3,⟨r3,h1,h2,h3,h4⟩,hs3⟩:=(post r σ2 hR).h X 1 w ι σ ι2 _ w' hst2
 have hv3:aX ι3 w' (bQ X ι3 σ3) r3 v:=hs3.env.get 0 r3 h1
 refine ⟨v,r3,_,_,rfl,h4,hs3.comes.take hh.fresh (Nat.le_refl _) (fun i o hi ho=>jR h3 hi ho),?_⟩
 refine aX.mono (fun _ _ h=>h) (a8.refl _ w') (fun b hb' hm'=>?_) (hv3.upto h2)
 rcases hm' with hm' | ⟨i,o,u,g1,g2,g3⟩
 ·exact .inl hm'
 obtain ⟨g4,g5⟩:=fR g1
 exact .inr ⟨i,o,u,g5,by simpa [bZ.upto,g4] using g2,g3⟩
theorem jZ (h:AC P nt c e σ (fun ex e' σ'=>SC P e' σ' (Q ex))):AC P nt c e σ Q:=⟨fun X w0 ι0 σ0 ι a w hst=>wp_mono (h.h X w0 ι0 σ0 ι a w hst) (by
 rintro ex a' w' ⟨ι',e',σ',hq,hst'⟩
 obtain ⟨ι2,e2,σ2,h1,h2⟩:=hq.h X nt w0 ι0 σ0 ι' a' w' hst'
 exact ⟨ι2,e2,σ2,h1,h2⟩)⟩
theorem O3 {J:aW→aA→Prop} (h:SC P e σ J):SC P e σ J:=h
theorem y7 {J:aW→aA→Prop} (h:J e σ):SC P e σ J:=⟨fun X nt w0 ι0 σ0 ι a w hst=>⟨ι,e,σ,h,hst⟩⟩
theorem i5 (n:Nat) {l:Array Oper} {b:Bool} {y:Code} (h:AC P nt (.seq (.region n l b) y) e σ Q):AC P nt (.seq (.region n l b) y) e σ Q:=h
theorem QE (n:Nat) {l:Array Oper} {b:Bool} (h:AC P nt (.region n l b) e σ Q):AC P nt (.region n l b) e σ Q:=h
end
end Go.Ab
namespace Go.Ab
open Go Go.Ab.Tryz Go.Proofs
section
variable {σ L:aA} {c:List Fc} {b0:Nat} {fv u:Value} {t t':Fm} {gr gs:List (Value × Fm)} {run:TypeId} {post:List aR} {ss:List Va}
theorem yG {id:Nat} (h:σ.look id=some (.arr 35 (aS ss))):cA Tryz.prog σ (.arr id) (.d (.lst (ss.map Va.enc))) :=
 cA.arr h (by simp [aS,aO]) fun i e he=>by
  simp only [aS,aO,List.getElem?_map] at he
  obtain ⟨r,hr,rfl⟩:=Option.map_eq_some_iff.1 he
  exact ⟨r,by rw [List.getElem?_map];exact hr,kO r⟩
theorem AG {m:Nat} {g:Value × Fm} (hm:σ.look m=some (iB gr)) (hg:g ∈ gr):jX Tryz.prog σ ((RT g).map .d) (g.2.enc.map .d) :=
 .cons cA.d (.cons cA.d (.cons cA.d (.cons (cA.raw hm (List.mem_map.2 ⟨g,hg,rfl⟩)) .nil)))
def SN (gr:List (Value × Fm)) (t:Fm):List (List aR):=(gr.map fun g=>g.2.enc).reverse++[t.enc]
theorem DW (h1:σ.look 1=some (.arr 63 (d4 gr++[iD t (.arr 3)]))) (h2:σ.look 2=some (iB gr)) (h3:σ.look 3=some (.arr 35 (aS t.slots))):cA Tryz.prog σ (.arr 1) (.d (.lst (SN gr t))):=by
 refine cA.arr h1 (by simp [SN,d4,aO,gI]) fun i e he=>?_
 have hlen:(d4 gr).length=gr.length:=f6
 rw [List.getElem?_append] at he
 split at he
 ·rename_i hi
  simp only [d4,aO,gI,List.getElem?_map] at he
  obtain ⟨r,hr,rfl⟩:=Option.map_eq_some_iff.1 he
  rw [← List.map_reverse,List.getElem?_map] at hr
  obtain ⟨g,hg,rfl⟩:=Option.map_eq_some_iff.1 hr
  refine ⟨g.2.enc,?_,AG h2 (List.mem_reverse.1 (List.mem_of_getElem? hg))⟩
  unfold SN
  rw [List.getElem?_append_left KT,← List.map_reverse,List.getElem?_map,hg];rfl
 ·rename_i hi
  have hj:i - (d4 gr).length=0:=by
   have:=(List.getElem?_eq_some_iff.1 he).1
   simp at this;omega
  rw [hj] at he;cases he
  refine ⟨t.enc,?_,.cons cA.d (.cons cA.d (.cons cA.d (.cons (yG h3) .nil)))⟩
  unfold SN
  rw [List.getElem?_append_right KT]
  have:i - ((gr.map fun g=>g.2.enc).reverse).length=0:=by simp;omega
  rw [this];rfl
theorem DY:jX Tryz.prog (KM run (post.map .d) c t gr L) [.ptr 0 0,.eptr 1 gr.length 4 0] [.iptr (kZ c::ld (SN gr t)::post) 0,.iptr t.enc 0] :=
 .cons (cA.box rfl (.cons cA.d (.cons (DW rfl rfl rfl) (kO post)))) (.cons (cA.row rfl (dV rfl) (sz rfl) (.cons cA.d (.cons cA.d (.cons cA.d (.cons (yG rfl) .nil))))) .nil)
theorem RH {k:FuncId} {xs:List DV} {x:DV} (hU:aB Tryz.prog k (.ptr 0 0 :: .eptr 1 gr.length 4 0::xs) (oX c t gr []) (fun r s=>r=x∧s=oX c t' gr [])) (hx:x.under 1=true) :
  aB Tryz.prog k (.ptr 0 0 :: .d (.sc (pY fv (gr.length * 4 + 0)))::xs) [some (jK c b0 fv ((u,t)::gr))] (fun r s=>r=x∧∃ b0 fv u,s=[some (jK c b0 fv ((u,t')::gr))]):=by
 refine aB.conv (args' := .ptr 0 0 :: .eptr 1 gr.length 4 0::xs) rfl (σ':=oX c t gr []) (FZ (post:=[]) 1 rfl ⟨fun i d hd=>?_,rfl⟩) hU ?_
 ·rw [aW.get_put]
  match i,hd with
  | 0,hd=>simpa [iL,aW.get] using hd
  | 1,hd=>simpa using hd
  | i + 2,hd =>
   rw [if_neg eS]
   have:=sC (.ptr 0 0 :: .d (.sc (pY fv (gr.length * 4 + 0)))::xs) 0 (i + 2) d (by simpa using hd)
   simpa using this
 rintro r σ2 ⟨rfl,rfl⟩
 refine PT (post:=[]) (L:=[]) fun b0 fv u=>⟨_,rfl,hx,rfl,rfl,b0,fv,u,?_⟩
 obtain ⟨fn,pc,tt,ss⟩:=t'
 rfl
theorem WO {nt:Nat} {e:aW} {Q:Exit→aW→aA→Prop} (h:AC Tryz.prog nt .ret e σ Q):AC Tryz.prog nt .ret e σ Q:=h
theorem UO (t0:Nat) {e:aW} {J:aW→aA→Prop} {fn pc tt:Int} (ht:e.get t0=some (.eptr 1 gr.length 4 0)) (h:∀ b0 fv u,J (e.put (some t0) (.d (.sc (pY fv (gr.length * 4 + 0))))) (some (mG run post c b0 fv ((u,⟨fn,pc,tt,ss⟩)::gr))::none::none::none::L)) :
  SC Tryz.prog e (some (.box run (bC c :: .arr 1::post.map .d))::some (.arr 63 (d4 gr++[[iv fn,iv pc,iv tt,.arr 3]]))::some (iB gr)::some (.arr 35 (aS ss))::L) J:=by
 refine lQ (vO (n:=1) (m:=2) (p:=3) (i:=gr.length) (j:=3) (l:=gr.map rS) rfl rfl rfl rfl (s:=ss.map Va.enc) rfl (dV rfl) rfl fun u=>?_)
 rw [mC]
 show SC Tryz.prog _ (some (.box run (bC c :: .arr 1::post.map .d))::some (.arr 63 (d4 gr++[[iv fn,iv pc,iv tt,.d (.sc u)]]))::some (bS Tryz.prog 35 ((u,ss.map Va.enc)::gr.map rS))::none::L) J
 refine DR (k:=0) (n:=1) (m:=2) [kZ c] post t0 (rows:=gI ((u,⟨fn,pc,tt,ss⟩)::gr)) rfl rfl ?_ rfl ht fun b0 fv=>?_
 ·exact (fM (u:=u) (t:=⟨fn,pc,tt,ss⟩)).symm
 ·exact h b0 fv u
end
end Go.Ab
