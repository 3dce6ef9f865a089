import Derived.Test.YtdeikigmgdnojaaGreatDoorA47
import Derived.Test.YtdeikigmgdnojaaGreatDoorA36
/- A part of the proof of one law. -/
set_option maxRecDepth 100000
set_option maxHeartbeats 8000000
set_option linter.unusedVariables false
set_option linter.unusedSimpArgs false
namespace Go.Ab
open Go Go.Ab.Tryz Go.Proofs
theorem aBd {o:Option (List Fm × Tn)}:(oL o).2.2=0∨(oL o).2.2=7:=by
 cases o with
 | none=>exact .inr rfl
 | some p=>exact .inl rfl
theorem aBs {c:List Fc} {fs:List Fm} {a:An} (h:cC c=0) (hg:d9 c fs=true):(v6 c fs a).2.2=0∨(v6 c fs a).2.2=10∨(v6 c fs a).2.2=7:=by
 have hc:=eL h
 unfold v6
 rw [if_neg (by simpa using h),if_neg (by rw [hg];simp)]
 have R:=FV hg
 cases hr:fs.reverse with
 | nil=>rw [hr] at R;cases R.g.ch
 | cons t r =>
  rw [hr] at R
  show (iG c t r a).2.2=0∨(iG c t r a).2.2=10∨(iG c t r a).2.2=7
  unfold iG
  split
  ·rename_i h1;exact .inr (.inl (aA4 h1))
  ·rename_i h1
   have hfo:=(xG (fun _=>aAo hc R.g.top) h1).2.1
   split
   ·have hRG:=pH hc hfo _ R.g.n R.g.fr (.inr R.g.ch)
    split
    ·exact .inl rfl
    ·rename_i h2
     rw [s7 hc (hRG.resolve_left h2)]
     exact aBd.imp (fun h=>h) (fun h => .inr h)
   ·rw [s7 hc (aAk hc R h1)]
    exact aBd.imp (fun h=>h) (fun h => .inr h)
theorem aA3 {c:List Fc} {t:Fm} {r:List Fm} (h:cC c=0) (R:N1 c (t::r)):pW c (t::r).reverse=(bX c t (aN c t),0)∧CY c (t::r).reverse=true:=by
 have hg:=aAp R
 obtain ⟨t',r',h1,_,h2,_⟩:=xL hg (xH hg).1
 rw [List.reverse_reverse] at h1
 cases h1
 unfold pW CY
 rw [if_neg (by simpa using h),if_neg (by rw [hg];simp),h2,hg,h]
 exact ⟨rfl,rfl⟩
theorem aAE (x:Cs) (e:Int) (he:e≠0) (h1:mB x.c x.fn (x.args.take 10)=([],iK,e)):bY Tryz.prog 5 [x.dv] (bv true):=by
 have h2:=uH x.c x.fn (x.args.take 10)
 rw [h1] at h2
 have h2:bY Tryz.prog 15 [.agg [bC x.c],iv x.fn,lv ((x.args.take 10).map Va.enc)] (.tup [lv (([]:List Fm).map Fm.enc),iK.dv,iv e]):=h2
 have hb0:decide (e≠0)=true:=decide_eq_true he
 refine of_body Tryz.func5 rfl rfl (nB rfl) ?_
 rw [Tryz.ntmps5]
 repeat' (first | ((with_reducible refine kw ?_);first | refine Wg ?_ | refine W0 ?_ | refine W1 ?_ | refine W3 ?_ | refine W2 ?_ | refine W6 ?_ | refine bJ ?_ | (refine aJ ?_;first | refine bB rfl rfl rfl rfl ((aB.borrowE (R':=fun r=>∃ b,r=bv b) (qU x.c) (.cons (.agg (.cons .d .nil)) .nil) (fun r σ0 h=>⟨r,by obtain ⟨⟨b,rfl⟩,_⟩:=h;exact Fr.sc _,h.1⟩)).mono ?_) | refine tD p8 ?_ | refine tD (LK x) ?_ | refine tD h2 ?_) | (refine aE ?_;refine q8 ?_) | refine eT ?_ | refine gQ ?_ | refine iZ ?_ | refine gZ ?_ | refine cW ?_ | refine dH ?_) | refine nP cN ?_ | (refine nP (by with_reducible assumption) ?_;first | rw [hb0] | rw [hb1]) | refine GX ?_ | refine GA ?_ | refine GG ?_ | refine qG cN ?_ | refine nP cN ?_ | (refine cJ (fun hb=>?_) (fun hb=>?_) <;> try rw [hb]) | ((with_reducible refine kf ?_);refine aP 0 Tryz.results5 rfl rfl rfl ?_) | refine GR ?_ | ((with_reducible refine kr ?_);refine aG rfl ?_) | (rintro _ _ ⟨⟨b,rfl⟩,rfl⟩) | fail)
 all_goals first
  | rfl
  | (exfalso;exact (oF hb) he)
  | skip
theorem aAQ (x:Cs) (hc:cC x.c=0) (fs0:List Fm) (t0:Tn) (h1:mB x.c x.fn (x.args.take 10)=(fs0,t0,0)):bY Tryz.prog 5 [x.dv] (bv true):=by
 have h2:=uH x.c x.fn (x.args.take 10)
 have hO:=aAf (c:=x.c) (fn:=x.fn) (args:=x.args.take 10) hc
 rw [h1] at h2 hO
 have h2:bY Tryz.prog 15 [.agg [bC x.c],iv x.fn,lv ((x.args.take 10).map Va.enc)] (.tup [lv (fs0.map Fm.enc),t0.dv,iv 0]):=h2
 have hcut:=LK x
 have hA:(x.ans.take 402).length≤402:=by simp;omega
 revert hcut
 generalize x.ans.take 402=A at hA
 intro hcut
 refine of_body Tryz.func5 rfl rfl (nB rfl) ?_
 rw [Tryz.ntmps5]
 repeat' (first | ((with_reducible refine kw ?_);first | refine Wg ?_ | refine W0 ?_ | refine W1 ?_ | refine W3 ?_ | refine W2 ?_ | refine W6 ?_ | refine W8 ?_ | refine bJ ?_ | (refine aJ ?_;first | refine bB rfl rfl rfl rfl ((aB.borrowE (R':=fun r=>∃ b,r=bv b) (qU x.c) (.cons (.agg (.cons .d .nil)) .nil) (fun r σ0 h=>⟨r,by obtain ⟨⟨b,rfl⟩,_⟩:=h;exact Fr.sc _,h.1⟩)).mono ?_) | refine tD p8 ?_ | refine tD h2 ?_ | refine tD hcut ?_) | (refine aE ?_;refine q8 ?_) | refine eT ?_ | refine gQ ?_ | refine iZ ?_ | refine gZ ?_ | refine cW ?_ | refine dH ?_ | refine eV ?_) | refine nP cN ?_ | refine pX cN ?_ | (refine nP (by with_reducible assumption) ?_;first | rw [hb0] | rw [hb1]) | (refine pX (by first | exact hb0 | exact hb1) ?_;first | rw [hb0] | rw [hb1]) | refine GX ?_ | (refine bW (fun hb=>?_) (fun hb=>?_) <;> rw [hb]) | refine GN ?_ | ((with_reducible refine kd ?_);first | refine D0 ?_ | refine D1 ?_ | refine D3 ?_ | refine iY ?_ | (refine bM ?_;skip) | (refine aV ?_;refine BW ?_) | refine wP ?_) | refine GA ?_ | refine GG ?_ | refine qG cN ?_ | refine qF cN ?_ | refine nP cN ?_ | refine pX cN ?_ | (refine cJ (fun hb=>?_) (fun hb=>?_) <;> try rw [hb]) | ((with_reducible refine kf ?_);refine aP 0 Tryz.results5 rfl rfl rfl ?_) | refine GR ?_ | ((with_reducible refine kr ?_);refine aG rfl ?_) | (rintro _ _ ⟨⟨b,rfl⟩,rfl⟩) | fail)
 all_goals first | rfl | skip
 refine cF [1,4,5,6,7,8] rfl ?_
 refine fS 2 (n:=_) (fun n e σ=>∃ (i:Nat) (m er:Int) (fs:List Fm) (t:Tn),n=A.length + 1 - i∧(m=i∧i≤A.length + 1∧(er=0∨er=10∨er=7)∧aAl x.c (fs,t,er))∧e=[(1,_),(4,lv (A.map An.enc)),(5,lv (fs.map Fm.enc)),(6,_),(7,iv er),(8,iv m)]∧σ=[some (.box 28 [bC x.c,iv x.fn,lv (x.args.map Va.enc),lv (x.ans.map An.enc)]),some (.box 42 (t.enc.map .d))]) rfl ⟨0,0,0,fs0,t0,rfl,⟨rfl,Nat.zero_le _,.inl rfl,hO⟩,rfl,rfl⟩ ?_
 rintro n e σ ⟨i,m,er,fs,t,rfl,⟨rfl,hi,hE,hO⟩,rfl,rfl⟩
 by_cases he:er=0
 ·subst he
  by_cases hle:i≤A.length
  ·have hb0:decide ((i:Int)≤(A.length:Int))=true:=decide_eq_true aI
   rcases hO with ⟨h3,_⟩ | ⟨_,ts,h3,h4⟩
   ·exact absurd rfl h3
   have h3:fs=ts.reverse:=h3
   have h4:aAi x.c ts t:=h4
   subst h3
   rcases h4 with ⟨h4,v,f,h5,h6,h7,h8⟩ | ⟨tt,r,h4,h5,R⟩
   ·subst h4 h5
    have g1:=iU v.k v.n v.s
    have g2:=AP f.k f.t
    rw [show cQ v.k v.n v.s=true from h6] at g1
    rw [show gW f.k f.t=true from h7] at g2
    rcases h8 with h8 | h8
    ·subst h8
     repeat' (first | ((with_reducible refine kw ?_);first | refine Wg ?_ | refine W0 ?_ | refine W1 ?_ | refine W3 ?_ | refine W2 ?_ | refine W6 ?_ | refine W8 ?_ | refine bJ ?_ | (refine aJ ?_;first | refine tD p8 ?_ | refine tD g1 ?_ | refine tD g2 ?_) | (refine aE ?_;refine q8 ?_) | refine eT ?_ | refine gQ ?_ | refine iZ ?_ | refine gZ ?_ | refine cW ?_ | refine dH ?_ | refine eV ?_) | refine nP cN ?_ | refine pX cN ?_ | (refine nP (by with_reducible assumption) ?_;first | rw [hb0] | rw [hb1]) | (refine pX (by first | exact hb0 | exact hb1) ?_;first | rw [hb0] | rw [hb1]) | refine GX ?_ | (refine bW (fun hb=>?_) (fun hb=>?_) <;> rw [hb]) | refine GN ?_ | ((with_reducible refine kd ?_);first | refine D0 ?_ | refine D1 ?_ | refine D3 ?_ | refine iY ?_ | (refine bM ?_;skip) | (refine aV ?_;refine BW ?_) | refine wP ?_) | refine GA ?_ | refine GG ?_ | refine qG cN ?_ | refine qF cN ?_ | refine nP cN ?_ | refine pX cN ?_ | (refine cJ (fun hb=>?_) (fun hb=>?_) <;> try rw [hb]) | ((with_reducible refine kf ?_);refine aP 0 Tryz.results5 rfl rfl rfl ?_) | refine GR ?_ | ((with_reducible refine kr ?_);refine aG rfl ?_) | fail)
     all_goals first | rfl | (exfalso;simp at hb;done) | (rename_i hq;exfalso;simp at hq;done) | skip
    ·subst h8
     repeat' (first | ((with_reducible refine kw ?_);first | refine Wg ?_ | refine W0 ?_ | refine W1 ?_ | refine W3 ?_ | refine W2 ?_ | refine W6 ?_ | refine W8 ?_ | refine bJ ?_ | (refine aJ ?_;first | refine tD p8 ?_ | refine tD g1 ?_ | refine tD g2 ?_) | (refine aE ?_;refine q8 ?_) | refine eT ?_ | refine gQ ?_ | refine iZ ?_ | refine gZ ?_ | refine cW ?_ | refine dH ?_ | refine eV ?_) | refine nP cN ?_ | refine pX cN ?_ | (refine nP (by with_reducible assumption) ?_;first | rw [hb0] | rw [hb1]) | (refine pX (by first | exact hb0 | exact hb1) ?_;first | rw [hb0] | rw [hb1]) | refine GX ?_ | (refine bW (fun hb=>?_) (fun hb=>?_) <;> rw [hb]) | refine GN ?_ | ((with_reducible refine kd ?_);first | refine D0 ?_ | refine D1 ?_ | refine D3 ?_ | refine iY ?_ | (refine bM ?_;skip) | (refine aV ?_;refine BW ?_) | refine wP ?_) | refine GA ?_ | refine GG ?_ | refine qG cN ?_ | refine qF cN ?_ | refine nP cN ?_ | refine pX cN ?_ | (refine cJ (fun hb=>?_) (fun hb=>?_) <;> try rw [hb]) | ((with_reducible refine kf ?_);refine aP 0 Tryz.results5 rfl rfl rfl ?_) | refine GR ?_ | ((with_reducible refine kr ?_);refine aG rfl ?_) | fail)
     all_goals first | rfl | (exfalso;simp at hb;done) | (rename_i hq;exfalso;simp at hq;done) | skip
   ·subst h4 h5
    obtain ⟨w1,w2⟩:=aA3 hc R
    have g1:=wS x.c (tt::r).reverse
    have g2:=AT x.c (tt::r).reverse
    rw [w1] at g1
    rw [w2] at g2
    have hgd:=aAp R
    have hO2:aAl x.c ((tt::r).reverse,⟨false,bX x.c tt (aN x.c tt),g9,kW⟩,0) := .inr ⟨rfl,tt::r,rfl,.inr ⟨tt,r,rfl,rfl,R⟩⟩
    generalize (tt::r).reverse=F at *
    have g1:bY Tryz.prog 22 [.agg [bC x.c],lv (F.map Fm.enc)] (.tup [(bX x.c tt (aN x.c tt)).dv,iv 0]):=g1
    generalize bX x.c tt (aN x.c tt)=k at *
    have g3:=pL k
    by_cases hlt:i < A.length
    ·have hb1:decide ((i:Int) < (A.length:Int))=true:=decide_eq_true aI
     have g4:=GJ x.c F (aC A (i:Int))
     have hgo:=@aAG x.c F (aC A (i:Int)) hc
     have hge:=@aBs x.c F (aC A (i:Int)) hc hgd
     revert g4 hgo hge
     generalize v6 x.c F (aC A (i:Int))=p
     obtain ⟨l,u,n⟩:=p
     intro g4 hgo hge
     repeat' (first | ((with_reducible refine kw ?_);first | refine Wg ?_ | refine W0 ?_ | refine W1 ?_ | refine W3 ?_ | refine W2 ?_ | refine W6 ?_ | refine W8 ?_ | refine bJ ?_ | (refine aJ ?_;first | refine tD p8 ?_ | refine tD g1 ?_ | refine tD g2 ?_ | refine tD g3 ?_) | (refine aE ?_;refine q8 ?_) | refine eT ?_ | refine gQ ?_ | refine iZ ?_ | refine gZ ?_ | refine cW ?_ | refine dH ?_ | refine eV ?_) | refine nP cN ?_ | refine pX cN ?_ | (refine nP (by with_reducible assumption) ?_;first | rw [hb0] | rw [hb1]) | (refine pX (by first | exact hb0 | exact hb1) ?_;first | rw [hb0] | rw [hb1]) | refine GX ?_ | (refine bW (fun hb=>?_) (fun hb=>?_) <;> rw [hb]) | refine GN ?_ | ((with_reducible refine kd ?_);first | refine D0 ?_ | refine D1 ?_ | refine D3 ?_ | refine iY ?_ | (refine bM ?_;refine dD g4 ?_) | (refine c7 ?_;refine dC (aF (el rfl) rfl rfl aI aI ⟨rfl,by decide⟩) rfl rfl rfl rfl ?_) | (refine aV ?_;refine BW ?_) | refine wP ?_) | refine GA ?_ | refine GG ?_ | refine qG cN ?_ | refine qF cN ?_ | refine nP cN ?_ | refine pX cN ?_ | (refine cJ (fun hb=>?_) (fun hb=>?_) <;> try rw [hb]) | ((with_reducible refine kf ?_);refine aP 0 Tryz.results5 rfl rfl rfl ?_) | refine GR ?_ | ((with_reducible refine kr ?_);refine aG rfl ?_) | fail)
     all_goals first
      | (refine ⟨_,_,?_,aW.pick_get _ [1,4,5,6,7,8],⟨rfl,rfl⟩,i + 1,_,n,l,u,rfl,⟨aL aI aI,by omega,hge,hgo⟩,rfl,rfl⟩;omega)
      | skip
    ·have hb1:decide ((i:Int) < (A.length:Int))=false:=decide_eq_false aI
     repeat' (first | ((with_reducible refine kw ?_);first | refine Wg ?_ | refine W0 ?_ | refine W1 ?_ | refine W3 ?_ | refine W2 ?_ | refine W6 ?_ | refine W8 ?_ | refine bJ ?_ | (refine aJ ?_;first | refine tD p8 ?_ | refine tD g1 ?_ | refine tD g2 ?_ | refine tD g3 ?_) | (refine aE ?_;refine q8 ?_) | refine eT ?_ | refine gQ ?_ | refine iZ ?_ | refine gZ ?_ | refine cW ?_ | refine dH ?_ | refine eV ?_) | refine nP cN ?_ | refine pX cN ?_ | (refine nP (by with_reducible assumption) ?_;first | rw [hb0] | rw [hb1]) | (refine pX (by first | exact hb0 | exact hb1) ?_;first | rw [hb0] | rw [hb1]) | refine GX ?_ | (refine bW (fun hb=>?_) (fun hb=>?_) <;> rw [hb]) | refine GN ?_ | ((with_reducible refine kd ?_);first | refine D0 ?_ | refine D1 ?_ | refine D3 ?_ | refine iY ?_ | (refine bM ?_;skip) | (refine aV ?_;refine BW ?_) | refine wP ?_) | refine GA ?_ | refine GG ?_ | refine qG cN ?_ | refine qF cN ?_ | refine nP cN ?_ | refine pX cN ?_ | (refine cJ (fun hb=>?_) (fun hb=>?_) <;> try rw [hb]) | ((with_reducible refine kf ?_);refine aP 0 Tryz.results5 rfl rfl rfl ?_) | refine GR ?_ | ((with_reducible refine kr ?_);refine aG rfl ?_) | fail)
     all_goals first
      | (refine ⟨_,_,?_,aW.pick_get _ [1,4,5,6,7,8],⟨rfl,rfl⟩,i + 1,_,0,F,⟨false,k,g9,kW⟩,rfl,⟨aL aI aI,by omega,.inl rfl,hO2⟩,rfl,rfl⟩;omega)
      | skip
  ·have hb0:decide ((i:Int)≤(A.length:Int))=false:=decide_eq_false aI
   repeat' (first | ((with_reducible refine kw ?_);first | refine Wg ?_ | refine W0 ?_ | refine W1 ?_ | refine W3 ?_ | refine W2 ?_ | refine W6 ?_ | refine W8 ?_ | refine bJ ?_ | (refine aJ ?_;refine tD p8 ?_) | (refine aE ?_;refine q8 ?_) | refine eT ?_ | refine gQ ?_ | refine iZ ?_ | refine gZ ?_ | refine cW ?_ | refine dH ?_ | refine eV ?_) | refine nP cN ?_ | refine pX cN ?_ | (refine nP (by with_reducible assumption) ?_;first | rw [hb0] | rw [hb1]) | (refine pX (by first | exact hb0 | exact hb1) ?_;first | rw [hb0] | rw [hb1]) | refine GX ?_ | (refine bW (fun hb=>?_) (fun hb=>?_) <;> rw [hb]) | refine GN ?_ | ((with_reducible refine kd ?_);first | refine D0 ?_ | refine D1 ?_ | refine D3 ?_ | refine iY ?_ | (refine bM ?_;skip) | (refine aV ?_;refine BW ?_) | refine wP ?_) | refine GA ?_ | refine GG ?_ | refine qG cN ?_ | refine qF cN ?_ | refine nP cN ?_ | refine pX cN ?_ | (refine cJ (fun hb=>?_) (fun hb=>?_) <;> try rw [hb]) | ((with_reducible refine kf ?_);refine aP 0 Tryz.results5 rfl rfl rfl ?_) | refine GR ?_ | ((with_reducible refine kr ?_);refine aG rfl ?_) | fail)
   all_goals first | rfl | skip
 ·have hz:decide (er=0)=false:=decide_eq_false he
  rcases hE.resolve_left he with h9 | h9
  ·subst h9
   by_cases hle:i≤A.length
   ·have hb0:decide ((i:Int)≤(A.length:Int))=true:=decide_eq_true aI
    repeat' (first | ((with_reducible refine kw ?_);first | refine Wg ?_ | refine W0 ?_ | refine W1 ?_ | refine W3 ?_ | refine W2 ?_ | refine W6 ?_ | refine W8 ?_ | refine bJ ?_ | (refine aJ ?_;refine tD p8 ?_) | (refine aE ?_;refine q8 ?_) | refine eT ?_ | refine gQ ?_ | refine iZ ?_ | refine gZ ?_ | refine cW ?_ | refine dH ?_ | refine eV ?_) | refine nP cN ?_ | refine pX cN ?_ | (refine nP (by with_reducible assumption) ?_;first | rw [hb0] | rw [hb1]) | (refine pX (by first | exact hb0 | exact hb1) ?_;first | rw [hb0] | rw [hb1]) | refine GX ?_ | (refine bW (fun hb=>?_) (fun hb=>?_) <;> rw [hb]) | refine GN ?_ | ((with_reducible refine kd ?_);first | refine D0 ?_ | refine D1 ?_ | refine D3 ?_ | refine iY ?_ | (refine bM ?_;skip) | (refine aV ?_;refine BW ?_) | refine wP ?_) | refine GA ?_ | refine GG ?_ | refine qG cN ?_ | refine qF cN ?_ | refine nP cN ?_ | refine pX cN ?_ | (refine cJ (fun hb=>?_) (fun hb=>?_) <;> try rw [hb]) | ((with_reducible refine kf ?_);refine aP 0 Tryz.results5 rfl rfl rfl ?_) | refine GR ?_ | ((with_reducible refine kr ?_);refine aG rfl ?_) | fail)
    all_goals first | rfl | skip
   ·have hb0:decide ((i:Int)≤(A.length:Int))=false:=decide_eq_false aI
    repeat' (first | ((with_reducible refine kw ?_);first | refine Wg ?_ | refine W0 ?_ | refine W1 ?_ | refine W3 ?_ | refine W2 ?_ | refine W6 ?_ | refine W8 ?_ | refine bJ ?_ | (refine aJ ?_;refine tD p8 ?_) | (refine aE ?_;refine q8 ?_) | refine eT ?_ | refine gQ ?_ | refine iZ ?_ | refine gZ ?_ | refine cW ?_ | refine dH ?_ | refine eV ?_) | refine nP cN ?_ | refine pX cN ?_ | (refine nP (by with_reducible assumption) ?_;first | rw [hb0] | rw [hb1]) | (refine pX (by first | exact hb0 | exact hb1) ?_;first | rw [hb0] | rw [hb1]) | refine GX ?_ | (refine bW (fun hb=>?_) (fun hb=>?_) <;> rw [hb]) | refine GN ?_ | ((with_reducible refine kd ?_);first | refine D0 ?_ | refine D1 ?_ | refine D3 ?_ | refine iY ?_ | (refine bM ?_;skip) | (refine aV ?_;refine BW ?_) | refine wP ?_) | refine GA ?_ | refine GG ?_ | refine qG cN ?_ | refine qF cN ?_ | refine nP cN ?_ | refine pX cN ?_ | (refine cJ (fun hb=>?_) (fun hb=>?_) <;> try rw [hb]) | ((with_reducible refine kf ?_);refine aP 0 Tryz.results5 rfl rfl rfl ?_) | refine GR ?_ | ((with_reducible refine kr ?_);refine aG rfl ?_) | fail)
    all_goals first | rfl | skip
  ·subst h9
   by_cases hle:i≤A.length
   ·have hb0:decide ((i:Int)≤(A.length:Int))=true:=decide_eq_true aI
    repeat' (first | ((with_reducible refine kw ?_);first | refine Wg ?_ | refine W0 ?_ | refine W1 ?_ | refine W3 ?_ | refine W2 ?_ | refine W6 ?_ | refine W8 ?_ | refine bJ ?_ | (refine aJ ?_;refine tD p8 ?_) | (refine aE ?_;refine q8 ?_) | refine eT ?_ | refine gQ ?_ | refine iZ ?_ | refine gZ ?_ | refine cW ?_ | refine dH ?_ | refine eV ?_) | refine nP cN ?_ | refine pX cN ?_ | (refine nP (by with_reducible assumption) ?_;first | rw [hb0] | rw [hb1]) | (refine pX (by first | exact hb0 | exact hb1) ?_;first | rw [hb0] | rw [hb1]) | refine GX ?_ | (refine bW (fun hb=>?_) (fun hb=>?_) <;> rw [hb]) | refine GN ?_ | ((with_reducible refine kd ?_);first | refine D0 ?_ | refine D1 ?_ | refine D3 ?_ | refine iY ?_ | (refine bM ?_;skip) | (refine aV ?_;refine BW ?_) | refine wP ?_) | refine GA ?_ | refine GG ?_ | refine qG cN ?_ | refine qF cN ?_ | refine nP cN ?_ | refine pX cN ?_ | (refine cJ (fun hb=>?_) (fun hb=>?_) <;> try rw [hb]) | ((with_reducible refine kf ?_);refine aP 0 Tryz.results5 rfl rfl rfl ?_) | refine GR ?_ | ((with_reducible refine kr ?_);refine aG rfl ?_) | fail)
    all_goals first | rfl | skip
   ·have hb0:decide ((i:Int)≤(A.length:Int))=false:=decide_eq_false aI
    repeat' (first | ((with_reducible refine kw ?_);first | refine Wg ?_ | refine W0 ?_ | refine W1 ?_ | refine W3 ?_ | refine W2 ?_ | refine W6 ?_ | refine W8 ?_ | refine bJ ?_ | (refine aJ ?_;refine tD p8 ?_) | (refine aE ?_;refine q8 ?_) | refine eT ?_ | refine gQ ?_ | refine iZ ?_ | refine gZ ?_ | refine cW ?_ | refine dH ?_ | refine eV ?_) | refine nP cN ?_ | refine pX cN ?_ | (refine nP (by with_reducible assumption) ?_;first | rw [hb0] | rw [hb1]) | (refine pX (by first | exact hb0 | exact hb1) ?_;first | rw [hb0] | rw [hb1]) | refine GX ?_ | (refine bW (fun hb=>?_) (fun hb=>?_) <;> rw [hb]) | refine GN ?_ | ((with_reducible refine kd ?_);first | refine D0 ?_ | refine D1 ?_ | refine D3 ?_ | refine iY ?_ | (refine bM ?_;skip) | (refine aV ?_;refine BW ?_) | refine wP ?_) | refine GA ?_ | refine GG ?_ | refine qG cN ?_ | refine qF cN ?_ | refine nP cN ?_ | refine pX cN ?_ | (refine cJ (fun hb=>?_) (fun hb=>?_) <;> try rw [hb]) | ((with_reducible refine kf ?_);refine aP 0 Tryz.results5 rfl rfl rfl ?_) | refine GR ?_ | ((with_reducible refine kr ?_);refine aG rfl ?_) | fail)
    all_goals first | rfl | skip
theorem aAZ (x:Cs):bY Tryz.prog 5 [x.dv] (bv true):=by
 by_cases hc:cC x.c=0
 ·have hO:=aAf (c:=x.c) (fn:=x.fn) (args:=x.args.take 10) hc
  by_cases h:(mB x.c x.fn (x.args.take 10)).2.2=0
  ·exact aAQ x hc _ _ (Prod.ext rfl (Prod.ext rfl h))
  ·rcases hO with ⟨h1,h2,h3⟩ | ⟨h1,_⟩
   ·exact aAE x _ h1 (Prod.ext h2 (Prod.ext h3 rfl))
   ·exact absurd h1 h
 ·exact aAE x 30 cN (F3 hc _ _)
end Go.Ab
