import Derived.Test.YtdeikigmgdnojaaGreatDoorR37
/- A part of the proof of one law. -/
set_option maxRecDepth 100000
set_option maxHeartbeats 8000000
set_option linter.unusedVariables false
set_option linter.unusedSimpArgs false
namespace Go.Ab
open Go Go.Ab.Tryz Go.Proofs
theorem j4 {P:Program} {e:aW} {σ:aA} {n:Nat} {t:TypeId} {x:Operand} {f:Nat} {cs:List DV} {fs:Array Field} {g:Field} {d:DV} (hx:e.ev x=some (.agg cs)) (hu:P.underlying t=some (.struct fs)) (hf:fs[f]? = some g) (hl:lX P g.type (cs.drop g.offset)=some d):Ev P (.field t x f) e σ n d σ :=
 eY rfl (by simp only [aK,hu,hx,hf];exact hl)
theorem s1 {c:List Fc} {gq:List (Value × Fc)} (h:gq.map (·.2)=c.reverse):gq.length=c.length:=by
 have:=congrArg List.length h;simpa using this
abbrev a2 (l:List In) (n:Int) (k:Nat):List (List DV):=aO (((l.take k).map (dIq n)).map In.enc)++aO ((l.drop k).map In.enc)
theorem h9 {l:List In} {n:Int} {k:Nat}:(a2 l n k).length=l.length:=by simp [a2,aO];omega
theorem h8 {l:List In} {n:Int} {k:Nat} (h:k < l.length):a2 l n k=aO (((l.take k).map (dIq n)).map In.enc)++((aC l (k:Int)).enc.map DV.d::aO ((l.drop (k + 1)).map In.enc)):=by
 unfold a2
 rw [show l.drop k=aC l (k:Int)::l.drop (k + 1) by rw [bK h];exact List.drop_eq_getElem_cons h];rfl
theorem a0 {l:List In} {n:Int} {k m:Nat} (h:k < l.length) (hm:m=k):(a2 l n k)[m]? = some ((aC l (k:Int)).enc.map DV.d):=by
 subst hm
 rw [h8 h]
 have hl:(aO (((l.take m).map (dIq n)).map In.enc)).length=m:=by simp [aO];omega
 rw [List.getElem?_append_right (by rw [hl];exact Nat.le_refl _),hl,Nat.sub_self];rfl
theorem m1 {l:List In} {n:Int} {k m:Nat} (h:k < l.length) (hm:m=k) {r:List DV} (hr:r=(dIq n (aC l (k:Int))).enc.map DV.d):(a2 l n k).set m r=a2 l n (k + 1):=by
 subst hm hr
 rw [h8 h]
 have hl:(aO (((l.take m).map (dIq n)).map In.enc)).length=m:=by simp [aO];omega
 rw [List.set_append_right _ _ (by rw [hl];exact Nat.le_refl _),hl,Nat.sub_self]
 unfold a2
 rw [gL h]
 simp [aO]
theorem j3 {A:List (Option aU)} {l:List In} {n:Int} {k:Nat} (hA:eJ 18 A=true) (hl:A.length=17):eJ 18 (A++[some (.arr 80 (a2 l n k))])=true:=by
 have h:(aU.arr 80 (a2 l n k)).under 18=true:=by
  have:a2 l n k=aO (((l.take k).map (dIq n)).map In.enc++(l.drop k).map In.enc):=by simp [a2,aO]
  rw [this]
  simp only [aU.under,aO,List.all_map,List.all_eq_true]
  intro r _
  exact fB 18 r
 unfold eJ at hA ⊢
 rw [List.take_of_length_le aI] at hA
 rw [List.take_of_length_le KT,List.all_append,hA]
 simp [h]
theorem k2 {l:List In} {n:Int} {k:Nat} (h:k < l.length) (ho:(aC l (k:Int)).op≠7):a2 l n k=a2 l n (k + 1):=by
 rw [h8 h]
 unfold a2
 rw [gL h]
 simp [aO,hD ho]
abbrev a5 (c:List Fc) (i:Nat):List (List aR):=(c++(c.take i).map (p4 c.length)).map Fc.enc
theorem m0 {l:List In} {n:Int}:a2 l n l.length=aO ((l.map (dIq n)).map In.enc):=by simp [a2,aO]
theorem t4 (a:ByteArray):a++(⟨#[122]⟩:ByteArray)=⟨a.data++#[122]⟩:=by
 apply ByteArray.ext
 simp
theorem k3 {c:List Fc} {i:Nat} {F:Fc} (h:i < c.length) (hF:aC c (i:Int)=F):aO (a5 c i)++[[sv (F.name++⟨#[122]⟩),iv F.params,iv F.slots,lv ((F.code.map (dIq (c.length:Int))).map In.enc),lv (F.guards.map Gd.enc)]]=aO (a5 c (i + 1)):=by
 subst hF
 unfold a5
 rw [gL h,t4]
 simp [aO,p4]
theorem t5 {c:List Fc} (hB:∀ f ∈ c,∀ i ∈ f.code,i.l.length * 8≤140737488351232):∀ f ∈ a3 c,∀ x ∈ f.code,x.l.length≤9223372036854775807:=by
 intro f hf x hx
 unfold a3 at hf
 rcases List.mem_append.1 hf with h | h
 ·have:=hB f h x hx;omega
 ·obtain ⟨g,hg,rfl⟩:=List.mem_map.1 h
  have hx:x ∈ g.code.map (dIq c.length):=hx
  obtain ⟨y,hy,rfl⟩:=List.mem_map.1 hx
  have:=hB g hg y hy
  have e:(dIq (c.length:Int) y).l=y.l:=by unfold dIq;split <;> rfl
  rw [e];omega
theorem k7 {c:List Fc} {fn:Int} {args:List Va} (h:¬ (0≤fn∧fn < (c.length:Int))):lT c fn args=false:=by
 unfold lT
 have e:(decide (fn≥0) && decide (fn < (c.length:Int)))=false:=by
  rw [Bool.and_eq_false_iff]
  simp only [dF]
  omega
 rw [e]
 rfl
theorem m2 (x:Cs) (hr:fX x.c=true) (hck:cC x.c=0) (hc:dR x.c) (hn:x.c.length≤8) (hN:∀ f ∈ x.c,f.name.size≤12) (hB:∀ f ∈ x.c,∀ i ∈ f.code,i.l.length * 8≤140737488351232):bY Tryz.prog 7 [x.dv] (bv true):=by
 have h3:=oP x.c
 rw [hr] at h3
 have hb2:decide (8 < (x.c.length:Int))=false:=decide_eq_false aI
 refine of_body Tryz.func7 rfl rfl (nB rfl) ?_
 rw [Tryz.ntmps7]
 repeat' (first | ((with_reducible refine kw ?_);first | refine Wg ?_ | refine W0 ?_ | refine W1 ?_ | refine W2 ?_ | refine W3 ?_ | refine W6 ?_ | refine WK ?_ | refine bJ ?_ | (refine aJ ?_;first | refine bB rfl rfl rfl rfl ((aB.borrowE (R':=fun r=>∃ b,r=bv b) (qU x.c) (.cons (.agg (.cons .d .nil)) .nil) (fun r σ0 h=>⟨r,by obtain ⟨⟨b,rfl⟩,_⟩:=h;exact Fr.sc _,h.1⟩)).mono ?_) | refine tD p8 ?_ | refine tD (LK x) ?_ | refine tD h3 ?_) | refine wR ?_ | refine W14 ?_ | refine W15 ?_ | (refine aE ?_;refine q8 ?_) | refine eT ?_ | refine gQ ?_ | refine iZ ?_ | refine gZ ?_ | refine W23 ?_ | refine W24 ?_ | refine W25 ?_ | refine cW ?_ | refine dH ?_ | refine KS ?_ | refine W48 ?_ | refine W49 ?_) | refine nP cN ?_ | refine pX cN ?_ | (refine nP (by with_reducible assumption) ?_;first | rw [hb0] | rw [hb1]) | (refine pX (by first | exact hb0 | exact hb1) ?_;first | rw [hb0] | rw [hb1]) | refine GX ?_ | (refine bW (fun hb=>?_) (fun hb=>?_) <;> rw [hb]) | refine GN ?_ | (with_reducible refine T4 ?_) | ((with_reducible refine kQ ?_);refine kP rfl ?_) | ((with_reducible refine kd ?_);first | refine D0 ?_ | refine D1 ?_ | refine D2 ?_ | refine D3 ?_ | refine D6 ?_ | refine D11 ?_ | refine YZ ?_ | refine D14 ?_ | refine D15 ?_ | (refine aV ?_;refine BW ?_)) | ((with_reducible refine ka ?_);((with_reducible refine i5 4 ?_);refine a4 ?_)) | refine GA ?_ | refine GG ?_ | refine qG cN ?_ | refine qF cN ?_ | refine nP cN ?_ | refine pX cN ?_ | (refine cJ (fun hb=>?_) (fun hb=>?_) <;> try rw [hb]) | ((with_reducible refine kf ?_);refine aP 0 Tryz.results7 rfl rfl rfl ?_) | refine GR ?_ | ((with_reducible refine kr ?_);refine aG rfl ?_) | (rintro _ _ ⟨⟨b,rfl⟩,rfl⟩) | refine GO ?_ ?_ | exact GB | fail)
 all_goals first | rfl | skip
 refine ⟨?_⟩
 repeat' (first | ((with_reducible refine kw ?_);first | refine Wg ?_ | refine W0 ?_ | refine W1 ?_ | refine W2 ?_ | refine W3 ?_ | refine W6 ?_ | refine WK ?_ | refine bJ ?_ | (refine aJ ?_;refine bB rfl rfl rfl rfl ((hT (n:=1) rfl x.c hc hB).mono ?_)) | refine wR ?_ | refine W14 ?_ | refine W15 ?_ | (refine aE ?_;refine q8 ?_) | refine eT ?_ | refine gQ ?_ | refine iZ ?_ | refine gZ ?_ | refine W23 ?_ | refine W24 ?_ | refine W25 ?_ | refine cW ?_ | refine dH ?_ | refine KS ?_ | refine W48 ?_ | refine W49 ?_) | refine nP cN ?_ | refine pX cN ?_ | (refine nP (by with_reducible assumption) ?_;first | rw [hb0] | rw [hb1]) | (refine pX (by first | exact hb0 | exact hb1) ?_;first | rw [hb0] | rw [hb1]) | refine GX ?_ | (refine bW (fun hb=>?_) (fun hb=>?_) <;> rw [hb]) | refine GN ?_ | (with_reducible refine T4 ?_) | ((with_reducible refine kQ ?_);refine kP rfl ?_) | ((with_reducible refine kd ?_);first | refine D0 ?_ | refine D1 ?_ | refine D2 ?_ | refine D3 ?_ | refine D6 ?_ | refine D11 ?_ | refine YZ ?_ | refine D14 ?_ | refine D15 ?_ | (refine aV ?_;refine BW ?_)) | ((with_reducible refine ka ?_);((with_reducible refine i5 5 ?_);refine dB (qP 1 rfl ?_);refine dB (qP 2 rfl ?_);refine dB (qP 3 rfl ?_);refine dB (kK 77 ?_);refine dB (qQ 7 0 (m:=8) (p:=6) (s:=a5 x.c 0) rfl rfl (by simp [a5]) rfl rfl fun u=>?_);refine fI ?_)) | refine GA ?_ | refine GG ?_ | refine qG cN ?_ | refine qF cN ?_ | refine nP cN ?_ | refine pX cN ?_ | (refine cJ (fun hb=>?_) (fun hb=>?_) <;> try rw [hb]) | ((with_reducible refine kf ?_);refine aP 0 Tryz.results7 rfl rfl rfl ?_) | refine GR ?_ | ((with_reducible refine kr ?_);refine aG rfl ?_) | (rintro _ _ ⟨rfl,rfl⟩) | refine GO ?_ ?_ | exact GB | fail)
 refine cF [1,3,4,5] rfl ?_
 refine jY 9 (n:=_) (fun n e σ=>∃ (i:Nat) (m:Int) (u:Value),n=x.c.length - i∧(m=i∧i≤x.c.length)∧e=[(1,_),(3,iv (x.c.length:Int)),(4,_),(5,iv m)]∧σ=[some (.box 28 [bC x.c,iv x.fn,lv (x.args.map Va.enc),lv (x.ans.map An.enc)]),none,none,none,none,none,none,some (.box 24 [.d (.sc u)]),some (bS Tryz.prog 77 [(u,a5 x.c i)])]) rfl ⟨0,0,u,rfl,⟨rfl,Nat.zero_le _⟩,rfl,rfl⟩ ?_
 rintro n e σ ⟨i,m,u,rfl,⟨rfl,hi⟩,rfl,rfl⟩
 repeat' (first | ((with_reducible refine kw ?_);first | refine Wg ?_ | refine W0 ?_ | refine W1 ?_ | (refine f9 ?_;refine cK (jA (ag rfl) (sz rfl) rfl rfl (sz rfl) hrow rfl rfl) rfl rfl ?_) | refine W2 ?_ | refine W3 ?_ | (refine EK ?_;refine cK (VB rfl rfl hnz) rfl rfl ?_) | refine W6 ?_ | refine WK ?_ | refine bJ ?_ | (refine aJ ?_;refine bB rfl rfl rfl rfl ((hY (n:=9) rfl x.c hc hB).mono ?_)) | (refine fO ?_;refine cK (BP (el rfl) rfl rfl rfl aI hlen2 (sz rfl)) rfl rfl ?_) | refine wR ?_ | refine W14 ?_ | refine W15 ?_ | (refine aE ?_;refine q8 ?_) | refine eT ?_ | refine gQ ?_ | refine iZ ?_ | refine gZ ?_ | refine W23 ?_ | refine W24 ?_ | refine W25 ?_ | refine cW ?_ | refine dH ?_ | refine KS ?_ | refine W48 ?_ | refine W49 ?_) | refine nP cN ?_ | refine pX cN ?_ | (refine nP (by with_reducible assumption) ?_;first | rw [hb0] | rw [hb1]) | (refine pX (by first | exact hb0 | exact hb1) ?_;first | rw [hb0] | rw [hb1]) | refine GX ?_ | (refine bW (fun hb=>?_) (fun hb=>?_) <;> rw [hb]) | refine GN ?_ | (with_reducible refine T4 ?_) | ((with_reducible refine kQ ?_);refine kP rfl ?_) | ((with_reducible refine kd ?_);first | refine D0 ?_ | refine D1 ?_ | (refine dI ?_;refine dC (jA (ag rfl) (sz rfl) rfl rfl (sz rfl) hrow rfl rfl) rfl rfl rfl rfl ?_) | refine D2 ?_ | refine D3 ?_ | (refine TN ?_;refine IX (VB rfl rfl hnz) rfl rfl rfl ?_) | refine D6 ?_ | refine D11 ?_ | (refine c7 ?_;refine dC (BP (el rfl) rfl rfl rfl aI hlen2 (sz rfl)) rfl rfl rfl rfl ?_) | refine YZ ?_ | refine D14 ?_ | refine D15 ?_ | (refine aV ?_;refine BW ?_)) | ((with_reducible refine ka ?_);first | ((with_reducible refine i5 17 ?_);refine a4 ?_) | ((with_reducible refine i5 9 ?_);refine a4 ?_)) | refine GA ?_ | refine GG ?_ | refine qG cN ?_ | refine qF cN ?_ | refine nP cN ?_ | refine pX cN ?_ | (refine cJ (fun hb=>?_) (fun hb=>?_) <;> try rw [hb]) | ((with_reducible refine kf ?_);refine aP 0 Tryz.results7 rfl rfl rfl ?_) | refine GR ?_ | ((with_reducible refine kr ?_);refine aG rfl ?_) | (rintro _ _ ⟨rfl,gq,hgq,rfl⟩;obtain ⟨w,l',hrow,hperm⟩:=n2 hgq (by have:=(oT ‹decide ((i:Int) < (x.c.length:Int))=true›);omega:i < x.c.length);have hlen2:(i:Int) < ((aO (a1 gq)).length:Int):=by rw [f3,s1 hgq];exact (oT ‹decide ((i:Int) < (x.c.length:Int))=true›)) | ((with_reducible refine kw ?_);refine cK (j4 rfl rfl rfl rfl) rfl rfl ?_) | refine GO ?_ ?_ | exact GB | fail)
 rotate_left
 ·refine ⟨?_⟩
  have hge:=oF ‹decide ((i:Int) < (x.c.length:Int))=false›
  have e:i=x.c.length:=by omega
  subst e
  rw [show a5 x.c x.c.length=(a3 x.c).map Fc.enc by simp [a5,a3]]
  refine dB (HN 7 0 (m:=8) rfl hP rfl rfl ?_)
  refine dB (J9 7 0 (p:=9) rfl rfl rfl (sA _) ?_)
  have h5:=oP (a3 x.c)
  have hcut:=LK x
  revert hcut
  generalize x.args.take 10=A1q
  generalize x.ans.take 402=A2q
  intro hcut
  have q1:=aAg x.c x.fn A1q A2q
  have q2:=aAg (a3 x.c) x.fn A1q A2q
  by_cases hd:fX (a3 x.c)=true
  ·have hdc:=(rP (t5 hB)).2 hd
   rw [hd] at h5
   by_cases hf:0≤x.fn∧x.fn < (x.c.length:Int)
   ·have ew:IntKind.i64.wrap (x.fn + (x.c.length:Int))=x.fn + (x.c.length:Int):=aL aI aI
    have q3:=aAg (a3 x.c) (x.fn + (x.c.length:Int)) A1q A2q
    rw [j2 (s2 x.c) hck hdc hf.1 hf.2,← ew] at q3
    have s0:=j2 (o1 x.c) hck hdc hf.1 hf.2 (args:=A1q) (bs:=A2q)
    rw [Int.add_zero] at s0
    rw [s0] at q2
    generalize aAc x.c x.fn A1q A2q=p at q1 q2 q3
    obtain ⟨l,er⟩:=p
    have q1:bY Tryz.prog 30 [.agg [bC x.c],iv x.fn,lv (A1q.map Va.enc),lv (A2q.map An.enc)] (.tup [lv (l.map Tn.enc),iv er]):=q1
    have q2:bY Tryz.prog 30 [.agg [bC (a3 x.c)],iv x.fn,lv (A1q.map Va.enc),lv (A2q.map An.enc)] (.tup [lv (l.map Tn.enc),iv er]):=q2
    have q3:bY Tryz.prog 30 [.agg [bC (a3 x.c)],iv (IntKind.i64.wrap (x.fn + (x.c.length:Int))),lv (A1q.map Va.enc),lv (A2q.map An.enc)] (.tup [lv (l.map Tn.enc),iv er]):=q3
    have q4:=aAd l
    have hb0:decide (er=er)=true:=by simp
    have hb1:decide (x.fn < 0)=false:=decide_eq_false aI
    have hb3:decide (x.fn≥(x.c.length:Int))=false:=decide_eq_false aI
    have hb4:decide ((x.c.length:Int)≤x.fn)=false:=decide_eq_false aI
    repeat' (first | ((with_reducible refine kw ?_);first | refine Wg ?_ | refine W0 ?_ | refine W1 ?_ | refine W2 ?_ | refine W3 ?_ | refine W6 ?_ | refine WK ?_ | refine bJ ?_ | (refine aJ ?_;first | refine tD p8 ?_ | refine tD h5 ?_ | refine tD hcut ?_ | refine tD q1 ?_ | refine tD q2 ?_ | refine tD q3 ?_ | refine tD q4 ?_) | refine wR ?_ | refine W14 ?_ | refine W15 ?_ | (refine aE ?_;refine q8 ?_) | refine eT ?_ | refine gQ ?_ | refine iZ ?_ | refine gZ ?_ | refine W23 ?_ | refine W24 ?_ | refine W25 ?_ | refine cW ?_ | refine dH ?_ | refine KS ?_ | refine W48 ?_ | refine W49 ?_) | refine nP cN ?_ | refine pX cN ?_ | (refine nP (by with_reducible assumption) ?_;first | rw [hb0] | rw [hb1]) | (refine pX (by first | exact hb0 | exact hb1) ?_;first | rw [hb0] | rw [hb1]) | refine GX ?_ | (refine bW (fun hb=>?_) (fun hb=>?_) <;> rw [hb]) | refine GN ?_ | ((with_reducible refine kd ?_);first | refine D0 ?_ | refine D1 ?_ | refine D2 ?_ | refine D3 ?_ | refine D6 ?_ | refine D11 ?_ | refine YZ ?_ | refine D14 ?_ | refine D15 ?_ | (refine aV ?_;refine BW ?_)) | refine GA ?_ | refine GG ?_ | refine qG cN ?_ | refine qF cN ?_ | refine nP cN ?_ | refine pX cN ?_ | (refine cJ (fun hb=>?_) (fun hb=>?_) <;> try rw [hb]) | ((with_reducible refine kf ?_);refine aP 0 Tryz.results7 rfl rfl rfl ?_) | refine GR ?_ | ((with_reducible refine kr ?_);refine aG rfl ?_) | ((with_reducible refine kw ?_);refine cK (j4 rfl rfl rfl rfl) rfl rfl ?_) | refine GO ?_ ?_ | exact GB | fail)
    all_goals first | rfl | trace_state
   ·have ha:lT x.c x.fn A1q=false:=k7 hf
    have e1:aAc x.c x.fn A1q A2q=([],2):=by unfold aAc;rw [if_neg (by simpa using hck),if_pos ha]
    rw [e1] at q1
    generalize aAc (a3 x.c) x.fn A1q A2q=p at q2
    obtain ⟨l,er⟩:=p
    have q1:bY Tryz.prog 30 [.agg [bC x.c],iv x.fn,lv (A1q.map Va.enc),lv (A2q.map An.enc)] (.tup [lv (([]:List Tn).map Tn.enc),iv 2]):=q1
    have q2:bY Tryz.prog 30 [.agg [bC (a3 x.c)],iv x.fn,lv (A1q.map Va.enc),lv (A2q.map An.enc)] (.tup [lv (l.map Tn.enc),iv er]):=q2
    repeat' (first | ((with_reducible refine kw ?_);first | refine Wg ?_ | refine W0 ?_ | refine W1 ?_ | refine W2 ?_ | refine W3 ?_ | refine W6 ?_ | refine WK ?_ | refine bJ ?_ | (refine aJ ?_;first | refine tD p8 ?_ | refine tD h5 ?_ | refine tD hcut ?_ | refine tD q1 ?_ | refine tD q2 ?_) | refine wR ?_ | refine W14 ?_ | refine W15 ?_ | (refine aE ?_;refine q8 ?_) | refine eT ?_ | refine gQ ?_ | refine iZ ?_ | refine gZ ?_ | refine W23 ?_ | refine W24 ?_ | refine W25 ?_ | refine cW ?_ | refine dH ?_ | refine KS ?_ | refine W48 ?_ | refine W49 ?_) | refine nP cN ?_ | refine pX cN ?_ | (refine nP (by with_reducible assumption) ?_;first | rw [hb0] | rw [hb1]) | (refine pX (by first | exact hb0 | exact hb1) ?_;first | rw [hb0] | rw [hb1]) | refine GX ?_ | (refine bW (fun hb=>?_) (fun hb=>?_) <;> rw [hb]) | refine GN ?_ | ((with_reducible refine kd ?_);first | refine D0 ?_ | refine D1 ?_ | refine D2 ?_ | refine D3 ?_ | refine D6 ?_ | refine D11 ?_ | refine YZ ?_ | refine D14 ?_ | refine D15 ?_ | (refine aV ?_;refine BW ?_)) | refine GA ?_ | refine GG ?_ | refine qG cN ?_ | refine qF cN ?_ | refine nP cN ?_ | refine pX cN ?_ | (refine cJ (fun hb=>?_) (fun hb=>?_) <;> try rw [hb]) | ((with_reducible refine kf ?_);refine aP 0 Tryz.results7 rfl rfl rfl ?_) | refine GR ?_ | ((with_reducible refine kr ?_);refine aG rfl ?_) | ((with_reducible refine kw ?_);refine cK (j4 rfl rfl rfl rfl) rfl rfl ?_) | refine GO ?_ ?_ | exact GB | fail)
    all_goals first | rfl | (exfalso;simp at *;omega) | trace_state
  ·rw [show fX (a3 x.c)=false by simpa using hd] at h5
   repeat' (first | ((with_reducible refine kw ?_);first | refine Wg ?_ | refine W0 ?_ | refine W1 ?_ | refine W2 ?_ | refine W3 ?_ | refine W6 ?_ | refine WK ?_ | refine bJ ?_ | (refine aJ ?_;first | refine tD p8 ?_ | refine tD h5 ?_) | refine wR ?_ | refine W14 ?_ | refine W15 ?_ | (refine aE ?_;refine q8 ?_) | refine eT ?_ | refine gQ ?_ | refine iZ ?_ | refine gZ ?_ | refine W23 ?_ | refine W24 ?_ | refine W25 ?_ | refine cW ?_ | refine dH ?_ | refine KS ?_ | refine W48 ?_ | refine W49 ?_) | refine nP cN ?_ | refine pX cN ?_ | (refine nP (by with_reducible assumption) ?_;first | rw [hb0] | rw [hb1]) | (refine pX (by first | exact hb0 | exact hb1) ?_;first | rw [hb0] | rw [hb1]) | refine GX ?_ | (refine bW (fun hb=>?_) (fun hb=>?_) <;> rw [hb]) | refine GN ?_ | ((with_reducible refine kd ?_);first | refine D0 ?_ | refine D1 ?_ | refine D2 ?_ | refine D3 ?_ | refine D6 ?_ | refine D11 ?_ | refine YZ ?_ | refine D14 ?_ | refine D15 ?_ | (refine aV ?_;refine BW ?_)) | refine GA ?_ | refine GG ?_ | refine qG cN ?_ | refine qF cN ?_ | refine nP cN ?_ | refine pX cN ?_ | (refine cJ (fun hb=>?_) (fun hb=>?_) <;> try rw [hb]) | ((with_reducible refine kf ?_);refine aP 0 Tryz.results7 rfl rfl rfl ?_) | refine GR ?_ | ((with_reducible refine kr ?_);refine aG rfl ?_) | ((with_reducible refine kw ?_);refine cK (j4 rfl rfl rfl rfl) rfl rfl ?_) | refine GO ?_ ?_ | exact GB | fail)
   all_goals first | rfl | trace_state
 refine ⟨?_⟩
 have hlt:i < x.c.length:=by have:=(oT ‹decide ((i:Int) < (x.c.length:Int))=true›);omega
 refine dB (HN 16 3 (m:=14) rfl hperm rfl rfl ?_)
 refine dB (qP 9 rfl ?_)
 refine dB (qP 10 rfl ?_)
 refine dB (qP 11 rfl ?_)
 refine dB (qP 14 rfl ?_)
 refine dB (qP 15 rfl ?_)
 have hnz:(aC x.c (i:Int)).name.size + (⟨#[122]⟩:ByteArray).size≤9223372036854775807:=by
  have:=hN _ (dM aI aI:aC x.c (i:Int) ∈ x.c)
  show _ + 1≤_
  omega
 repeat' (first | ((with_reducible refine kw ?_);first | refine Wg ?_ | refine W0 ?_ | refine W1 ?_ | (refine f9 ?_;refine cK (jA (ag rfl) (sz rfl) rfl rfl (sz rfl) hrow rfl rfl) rfl rfl ?_) | refine W2 ?_ | refine W3 ?_ | (refine EK ?_;refine cK (VB rfl rfl hnz) rfl rfl ?_) | refine W6 ?_ | refine WK ?_ | refine bJ ?_ | (refine fO ?_;refine cK (BP (el rfl) rfl rfl rfl aI hlen2 (sz rfl)) rfl rfl ?_) | refine wR ?_ | refine W14 ?_ | refine W15 ?_ | (refine aE ?_;refine q8 ?_) | refine eT ?_ | refine gQ ?_ | refine iZ ?_ | refine gZ ?_ | refine W23 ?_ | refine W24 ?_ | refine W25 ?_ | refine cW ?_ | refine dH ?_ | refine KS ?_ | refine W48 ?_ | refine W49 ?_) | refine nP cN ?_ | refine pX cN ?_ | (refine nP (by with_reducible assumption) ?_;first | rw [hb0] | rw [hb1]) | (refine pX (by first | exact hb0 | exact hb1) ?_;first | rw [hb0] | rw [hb1]) | refine GX ?_ | (refine bW (fun hb=>?_) (fun hb=>?_) <;> rw [hb]) | refine GN ?_ | (with_reducible refine T4 ?_) | ((with_reducible refine kQ ?_);refine kP rfl ?_) | ((with_reducible refine kd ?_);first | refine D0 ?_ | refine D1 ?_ | (refine dI ?_;refine dC (jA (ag rfl) (sz rfl) rfl rfl (sz rfl) hrow rfl rfl) rfl rfl rfl rfl ?_) | refine D2 ?_ | refine D3 ?_ | (refine TN ?_;refine IX (VB rfl rfl hnz) rfl rfl rfl ?_) | refine D6 ?_ | refine D11 ?_ | (refine c7 ?_;refine dC (BP (el rfl) rfl rfl rfl aI hlen2 (sz rfl)) rfl rfl rfl rfl ?_) | refine YZ ?_ | refine D14 ?_ | refine D15 ?_ | (refine aV ?_;refine BW ?_)) | ((with_reducible refine ka ?_);((with_reducible refine i5 15 ?_);refine a4 ?_)) | refine GA ?_ | refine GG ?_ | refine qG cN ?_ | refine qF cN ?_ | refine nP cN ?_ | refine pX cN ?_ | (refine cJ (fun hb=>?_) (fun hb=>?_) <;> try rw [hb]) | ((with_reducible refine kf ?_);refine aP 0 Tryz.results7 rfl rfl rfl ?_) | refine GR ?_ | ((with_reducible refine kr ?_);refine aG rfl ?_) | refine GO ?_ ?_ | exact GB | fail)
 refine cF [1,3,4,5,6,7] rfl ?_
 refine jY 18 (n:=_) (fun n e σ=>∃ (k:Nat) (mk:Int),n=(aC x.c (i:Int)).code.length - k∧(mk=k∧k≤(aC x.c (i:Int)).code.length)∧e=[(1,_),(3,iv (x.c.length:Int)),(4,_),(5,iv i),(6,_),(7,iv mk)]∧σ=[some (.box 28 [bC x.c,iv x.fn,lv (x.args.map Va.enc),lv (x.ans.map An.enc)]),none,none,none,none,none,none,some (.box 24 [.d (.sc u)]),some (bS Tryz.prog 77 [(u,a5 x.c i)]),none,none,none,none,none,none,none,some (.box 77 [sv ((aC x.c (i:Int)).name++⟨#[122]⟩),iv (aC x.c (i:Int)).params,iv (aC x.c (i:Int)).slots,.arr 17,lv ((aC x.c (i:Int)).guards.map Gd.enc)]),some (.arr 80 (a2 (aC x.c (i:Int)).code (x.c.length:Int) k))]) rfl ⟨0,0,rfl,⟨rfl,Nat.zero_le _⟩,rfl,rfl⟩ ?_
 rintro n e σ ⟨k,mk,rfl,⟨rfl,hk⟩,rfl,rfl⟩
 have hcl:(aC x.c (i:Int)).code.length≤4000:=(hc.fs _ (dM aI aI:aC x.c (i:Int) ∈ x.c)).hd.n1
 generalize hF:aC x.c (i:Int)=F at *
 by_cases hkl:k < F.code.length
 ·have hb1:decide ((k:Int) < ((a2 F.code (x.c.length:Int) k).length:Int))=true:=decide_eq_true (by rw [h9];omega)
  have hlenk:(k:Int) < ((a2 F.code (x.c.length:Int) k).length:Int):=by rw [h9];omega
  by_cases h7:(aC F.code (k:Int)).op=7
  ·have hb3:decide ((aC F.code (k:Int)).op=7)=true:=decide_eq_true h7
   repeat' (first | ((with_reducible refine kw ?_);first | refine Wg ?_ | refine W0 ?_ | refine W1 ?_ | (refine f9 ?_;refine cK (mQ (ag rfl) rfl rfl (sz rfl) (a0 hkl rfl) rfl) rfl rfl ?_) | refine W2 ?_ | refine W3 ?_ | refine W6 ?_ | refine WK ?_ | refine bJ ?_ | (refine fO ?_;refine cK (BP (el rfl) rfl rfl rfl aI hlenk (sz rfl)) rfl rfl ?_) | refine wR ?_ | refine W14 ?_ | refine W15 ?_ | (refine aE ?_;refine q8 ?_) | refine eT ?_ | refine gQ ?_ | refine iZ ?_ | refine gZ ?_ | refine W23 ?_ | refine W24 ?_ | refine W25 ?_ | refine cW ?_ | refine dH ?_ | refine KS ?_ | refine W48 ?_ | refine W49 ?_) | refine nP cN ?_ | refine pX cN ?_ | (refine nP (by with_reducible assumption) ?_;first | rw [hb0] | rw [hb1]) | (refine pX (by first | exact hb0 | exact hb1) ?_;first | rw [hb0] | rw [hb1]) | refine GX ?_ | (refine bW (fun hb=>?_) (fun hb=>?_) <;> rw [hb]) | refine GN ?_ | (with_reducible refine T4 ?_) | ((with_reducible refine kQ ?_);refine kP rfl ?_) | ((with_reducible refine kd ?_);first | refine D0 ?_ | refine D1 ?_ | (refine dI ?_;refine dC (mQ (ag rfl) rfl rfl (sz rfl) (a0 hkl rfl) rfl) rfl rfl rfl rfl ?_) | refine D2 ?_ | refine D3 ?_ | refine D6 ?_ | refine D11 ?_ | (refine c7 ?_;refine dC (BP (el rfl) rfl rfl rfl aI hlenk (sz rfl)) rfl rfl rfl rfl ?_) | refine YZ ?_ | refine D14 ?_ | refine D15 ?_ | (refine aV ?_;first | refine SM rfl rfl (kY rfl) rfl rfl rfl (a0 hkl rfl) (sz rfl) (by show 3≤8;omega) rfl rfl ?_ | refine gV rfl rfl (kY rfl) rfl rfl rfl rfl rfl (eH.eq mD) rfl ?_ | refine mX rfl rfl (kY rfl) rfl rfl rfl rfl (sz rfl) rfl (eH.eq mD) rfl ?_)) | ((with_reducible refine ka ?_);((with_reducible refine i5 15 ?_);refine a4 ?_)) | refine GA ?_ | refine GG ?_ | refine qG cN ?_ | refine qF cN ?_ | refine nP cN ?_ | refine pX cN ?_ | (refine cJ (fun hb=>?_) (fun hb=>?_) <;> try rw [hb]) | ((with_reducible refine kf ?_);refine aP 0 Tryz.results7 rfl rfl rfl ?_) | refine GR ?_ | ((with_reducible refine kr ?_);refine aG rfl ?_) | refine GO ?_ ?_ | exact GB | fail)
   have hbd:=((hc.fs F (by rw [← hF];exact dM aI aI)).ins _ (dM aI aI:aC F.code (k:Int) ∈ F.code)).ca h7
   have hN16:=hc.n
   have e2:(a2 F.code (x.c.length:Int) k).set (k:Int).toNat [iv (aC F.code (k:Int)).op,iv (aC F.code (k:Int)).a,iv (IntKind.i64.wrap ((aC F.code (k:Int)).b + (x.c.length:Int))),iv (aC F.code (k:Int)).c,iv (aC F.code (k:Int)).v.k,iv (aC F.code (k:Int)).v.n,sv (aC F.code (k:Int)).v.s,lv (uS (aC F.code (k:Int)).l)]=a2 F.code (x.c.length:Int) (k + 1):=m1 hkl rfl (by
    rw [aL aI aI]
    unfold dIq
    rw [if_pos h7]
    rfl)
   have hU:=@j3 [some (.box 28 [bC x.c,iv x.fn,lv (x.args.map Va.enc),lv (x.ans.map An.enc)]),none,none,none,none,none,none,some (.box 24 [.d (.sc u)]),some (bS Tryz.prog 77 [(u,a5 x.c i)]),none,none,none,none,none,none,none,some (.box 77 [sv (F.name++⟨#[122]⟩),iv F.params,iv F.slots,.arr 17,lv (F.guards.map Gd.enc)])] F.code (x.c.length:Int) (k + 1) rfl rfl
   rw [← e2] at hU
   refine gE (jM [1,3,4,5,6,7] rfl ?_)
   refine gU 18 rfl rfl hU ?_
   refine gT ⟨_,?_,k + 1,_,rfl,⟨aL aI aI,by omega⟩,rfl,?_⟩
   ·omega
   ·rw [← e2];rfl
  ·have hb3:decide ((aC F.code (k:Int)).op=7)=false:=decide_eq_false h7
   repeat' (first | ((with_reducible refine kw ?_);first | refine Wg ?_ | refine W0 ?_ | refine W1 ?_ | (refine f9 ?_;refine cK (mQ (ag rfl) rfl rfl (sz rfl) (a0 hkl rfl) rfl) rfl rfl ?_) | refine W2 ?_ | refine W3 ?_ | refine W6 ?_ | refine WK ?_ | refine bJ ?_ | (refine fO ?_;refine cK (BP (el rfl) rfl rfl rfl aI hlenk (sz rfl)) rfl rfl ?_) | refine wR ?_ | refine W14 ?_ | refine W15 ?_ | (refine aE ?_;refine q8 ?_) | refine eT ?_ | refine gQ ?_ | refine iZ ?_ | refine gZ ?_ | refine W23 ?_ | refine W24 ?_ | refine W25 ?_ | refine cW ?_ | refine dH ?_ | refine KS ?_ | refine W48 ?_ | refine W49 ?_) | refine nP cN ?_ | refine pX cN ?_ | (refine nP (by with_reducible assumption) ?_;first | rw [hb0] | rw [hb1]) | (refine pX (by first | exact hb0 | exact hb1) ?_;first | rw [hb0] | rw [hb1]) | refine GX ?_ | (refine bW (fun hb=>?_) (fun hb=>?_) <;> rw [hb]) | refine GN ?_ | (with_reducible refine T4 ?_) | ((with_reducible refine kQ ?_);refine kP rfl ?_) | ((with_reducible refine kd ?_);first | refine D0 ?_ | refine D1 ?_ | (refine dI ?_;refine dC (mQ (ag rfl) rfl rfl (sz rfl) (a0 hkl rfl) rfl) rfl rfl rfl rfl ?_) | refine D2 ?_ | refine D3 ?_ | refine D6 ?_ | refine D11 ?_ | (refine c7 ?_;refine dC (BP (el rfl) rfl rfl rfl aI hlenk (sz rfl)) rfl rfl rfl rfl ?_) | refine YZ ?_ | refine D14 ?_ | refine D15 ?_ | (refine aV ?_;first | refine SM rfl rfl (kY rfl) rfl rfl rfl (a0 hkl rfl) (sz rfl) (by show 3≤8;omega) rfl rfl ?_ | refine gV rfl rfl (kY rfl) rfl rfl rfl rfl rfl (eH.eq mD) rfl ?_ | refine mX rfl rfl (kY rfl) rfl rfl rfl rfl (sz rfl) rfl (eH.eq mD) rfl ?_)) | ((with_reducible refine ka ?_);((with_reducible refine i5 15 ?_);refine a4 ?_)) | refine GA ?_ | refine GG ?_ | refine qG cN ?_ | refine qF cN ?_ | refine nP cN ?_ | refine pX cN ?_ | (refine cJ (fun hb=>?_) (fun hb=>?_) <;> try rw [hb]) | ((with_reducible refine kf ?_);refine aP 0 Tryz.results7 rfl rfl rfl ?_) | refine GR ?_ | ((with_reducible refine kr ?_);refine aG rfl ?_) | refine GO ?_ ?_ | exact GB | fail)
   have e2:=@k2 F.code (x.c.length:Int) k hkl h7
   have hU:=@j3 [some (.box 28 [bC x.c,iv x.fn,lv (x.args.map Va.enc),lv (x.ans.map An.enc)]),none,none,none,none,none,none,some (.box 24 [.d (.sc u)]),some (bS Tryz.prog 77 [(u,a5 x.c i)]),none,none,none,none,none,none,none,some (.box 77 [sv (F.name++⟨#[122]⟩),iv F.params,iv F.slots,.arr 17,lv (F.guards.map Gd.enc)])] F.code (x.c.length:Int) (k + 1) rfl rfl
   rw [← e2] at hU
   refine gE (jM [1,3,4,5,6,7] rfl ?_)
   refine gU 18 rfl rfl hU ?_
   refine gT ⟨_,?_,k + 1,_,rfl,⟨aL aI aI,by omega⟩,rfl,?_⟩
   ·omega
   ·rw [← e2];rfl
 ·have hb1:decide ((k:Int) < ((a2 F.code (x.c.length:Int) k).length:Int))=false:=decide_eq_false (by rw [h9];omega)
  repeat' (first | ((with_reducible refine kw ?_);first | refine Wg ?_ | refine W0 ?_ | refine W1 ?_ | (refine f9 ?_;refine cK (mQ (ag rfl) rfl rfl (sz rfl) (a0 hkl rfl) rfl) rfl rfl ?_) | refine W2 ?_ | refine W3 ?_ | refine W6 ?_ | refine WK ?_ | refine bJ ?_ | (refine fO ?_;refine cK (BP (el rfl) rfl rfl rfl aI hlenk (sz rfl)) rfl rfl ?_) | refine wR ?_ | refine W14 ?_ | refine W15 ?_ | (refine aE ?_;refine q8 ?_) | refine eT ?_ | refine gQ ?_ | refine iZ ?_ | refine gZ ?_ | refine W23 ?_ | refine W24 ?_ | refine W25 ?_ | refine cW ?_ | refine dH ?_ | refine KS ?_ | refine W48 ?_ | refine W49 ?_) | refine nP cN ?_ | refine pX cN ?_ | (refine nP (by with_reducible assumption) ?_;first | rw [hb0] | rw [hb1]) | (refine pX (by first | exact hb0 | exact hb1) ?_;first | rw [hb0] | rw [hb1]) | refine GX ?_ | (refine bW (fun hb=>?_) (fun hb=>?_) <;> rw [hb]) | refine GN ?_ | (with_reducible refine T4 ?_) | ((with_reducible refine kQ ?_);refine kP rfl ?_) | ((with_reducible refine kd ?_);first | refine D0 ?_ | refine D1 ?_ | (refine dI ?_;refine dC (mQ (ag rfl) rfl rfl (sz rfl) (a0 hkl rfl) rfl) rfl rfl rfl rfl ?_) | refine D2 ?_ | refine D3 ?_ | refine D6 ?_ | refine D11 ?_ | (refine c7 ?_;refine dC (BP (el rfl) rfl rfl rfl aI hlenk (sz rfl)) rfl rfl rfl rfl ?_) | refine YZ ?_ | refine D14 ?_ | refine D15 ?_ | (refine aV ?_;first | refine SM rfl rfl (kY rfl) rfl rfl rfl (a0 hkl rfl) (sz rfl) (by show 3≤8;omega) rfl rfl ?_ | refine gV rfl rfl (kY rfl) rfl rfl rfl rfl rfl (eH.eq mD) rfl ?_ | refine mX rfl rfl (kY rfl) rfl rfl rfl rfl (sz rfl) rfl (eH.eq mD) rfl ?_)) | ((with_reducible refine ka ?_);((with_reducible refine i5 15 ?_);refine a4 ?_)) | refine GA ?_ | refine GG ?_ | refine qG cN ?_ | refine qF cN ?_ | refine nP cN ?_ | refine pX cN ?_ | (refine cJ (fun hb=>?_) (fun hb=>?_) <;> try rw [hb]) | ((with_reducible refine kf ?_);refine aP 0 Tryz.results7 rfl rfl rfl ?_) | refine GR ?_ | ((with_reducible refine kr ?_);refine aG rfl ?_) | refine GO ?_ ?_ | exact GB | fail)
  refine ⟨?_⟩
  have e:k=F.code.length:=by omega
  subst e
  rw [m0]
  repeat' (first | ((with_reducible refine kw ?_);first | refine Wg ?_ | refine W0 ?_ | refine W1 ?_ | refine W2 ?_ | refine W3 ?_ | refine W6 ?_ | refine WK ?_ | refine bJ ?_ | refine wR ?_ | refine W14 ?_ | refine W15 ?_ | (refine aE ?_;refine q8 ?_) | refine eT ?_ | refine gQ ?_ | refine iZ ?_ | refine gZ ?_ | refine W23 ?_ | refine W24 ?_ | refine W25 ?_ | refine cW ?_ | refine dH ?_ | refine KS ?_ | refine W48 ?_ | (refine vQ ?_;refine cK (fY (el rfl) (sl rfl) rfl rfl rfl (ap rfl) (mM rfl rfl) (iI eS) (g7 (by simp [aO,a5];omega) cN)) rfl rfl ?_) | refine W49 ?_) | refine nP cN ?_ | refine pX cN ?_ | (refine nP (by with_reducible assumption) ?_;first | rw [hb0] | rw [hb1]) | (refine pX (by first | exact hb0 | exact hb1) ?_;first | rw [hb0] | rw [hb1]) | refine GX ?_ | (refine bW (fun hb=>?_) (fun hb=>?_) <;> rw [hb]) | refine GN ?_ | (with_reducible refine T4 ?_) | ((with_reducible refine kQ ?_);refine kP rfl ?_) | ((with_reducible refine kd ?_);first | refine D0 ?_ | refine D1 ?_ | refine D2 ?_ | refine D3 ?_ | refine D6 ?_ | refine D11 ?_ | refine YZ ?_ | refine D14 ?_ | refine D15 ?_ | (refine aV ?_;refine BW ?_)) | ((with_reducible refine ka ?_);((with_reducible refine i5 15 ?_);refine dB (J9 16 3 (p:=17) rfl rfl rfl (sA _) ?_);refine dB (HN 7 0 (m:=8) rfl hP rfl rfl ?_);refine fI ?_)) | refine GA ?_ | refine GG ?_ | refine qG cN ?_ | refine qF cN ?_ | refine nP cN ?_ | refine pX cN ?_ | (refine cJ (fun hb=>?_) (fun hb=>?_) <;> try rw [hb]) | ((with_reducible refine kf ?_);refine aP 0 Tryz.results7 rfl rfl rfl ?_) | refine GR ?_ | ((with_reducible refine kr ?_);refine aG rfl ?_) | refine GO ?_ ?_ | exact GB | fail)
  refine gE (qQ 7 0 (m:=8) (p:=19) (s:=a5 x.c (i + 1)) rfl rfl (k3 aI hF) rfl rfl fun u2=>?_)
  refine gE (jM [1,3,4,5] rfl ?_)
  refine gU 9 rfl rfl rfl ?_
  refine gT ⟨_,?_,i + 1,_,u2,rfl,⟨aL aI aI,by omega⟩,rfl,rfl⟩
  omega
theorem r1 {c:List Fc} (h:cC c=0):∀ f ∈ c,f.name.size≤12:=by
 unfold cC at h
 cases hq:(bI c.length 1 16 && fN c.length (lK c)) with
 | false=>rw [hq] at h;cases h
 | true =>
  rw [c5,cD,dN] at hq
  intro f hf
  obtain ⟨i,hi,rfl⟩:=List.getElem_of_mem hf
  have h2:=hq.2 i hi
  unfold lK at h2
  rw [← bK hi]
  simp only [b0,Bool.or_eq_false_iff,Bool.not_eq_false'] at h2
  have hb:jC (aC c (i:Int))=false:=by
   have:=h2.2
   unfold r4 at this
   cases hb:jC (aC c (i:Int)) with
   | false=>rfl
   | true=>rw [hb] at this;cases this
  have hn:=(vF.1 hb).1
  unfold jD at hn
  simp only [c5,dT] at hn
  omega
theorem q6 (x:Cs) (hB:∀ f ∈ x.c,∀ i ∈ f.code,i.l.length * 8≤140737488351232):bY Tryz.prog 7 [x.dv] (bv true):=by
 cases hr:fX x.c with
 | false=>exact r3 x hr
 | true =>
  by_cases hn:x.c.length≤8
  ·have hck:cC x.c=0:=(rP (fun f hf i hi=>by have:=hB f hf i hi;omega)).2 hr
   exact m2 x hr hck (eL hck) hn (r1 hck) hB
  ·exact sO x hr aI
theorem v4:Tryz.prog.bytesOf 3=8:=by kernel_rfl
theorem hG {α:Type} {f:α→List aR} {ok:α→Prop} {t e:TypeId} {xs:List aR} (h:gB Tryz.prog t xs) (hu:Tryz.prog.underlying t=some (.slice e)) (hd:∀ cs,gB Tryz.prog e cs→∃ v,cs=f v∧ok v):∃ l:List α,xs=[ld (l.map f)]∧∀ v ∈ l,ok v:=by
 obtain ⟨es,rfl,_,he⟩:=h.slice_inv hu
 obtain ⟨l,rfl,hl⟩:=tP (enc:=f) (ok:=ok) es (fun cs hc=>hd cs (he cs hc))
 exact ⟨l,rfl,hl⟩
theorem p3 {xs:List aR} (h:gB Tryz.prog 80 xs):∃ v:In,xs=v.enc∧v.l.length * 8≤140737488351232:=by
 obtain ⟨a,r,rfl,ha,h⟩:=(h.fields X2).cons_inv
 obtain ⟨b,r,rfl,hb,h⟩:=h.cons_inv
 obtain ⟨c,r,rfl,hc,h⟩:=h.cons_inv
 obtain ⟨d,r,rfl,hd,h⟩:=h.cons_inv
 obtain ⟨v,r,rfl,hv,h⟩:=h.cons_inv
 obtain ⟨l,r,rfl,hl,h⟩:=h.cons_inv
 obtain rfl:=h.nil_inv
 obtain ⟨a,rfl⟩:=fC ha
 obtain ⟨b,rfl⟩:=fC hb
 obtain ⟨c,rfl⟩:=fC hc
 obtain ⟨d,rfl⟩:=fC hd
 obtain ⟨v,rfl⟩:=A2 hv
 obtain ⟨es,rfl,hB,he⟩:=hl.slice_invB VA
 obtain ⟨l,rfl,_⟩:=tP (enc:=fun n:Int=>[di n]) (ok:=fun _=>True) es (fun cs hc=>by obtain ⟨n,hn⟩:=fC (he cs hc);exact ⟨n,hn,trivial⟩)
 refine ⟨⟨a,b,c,d,v,l⟩,rfl,?_⟩
 rw [v4,List.length_map] at hB
 exact hB
theorem p2 {xs:List aR} (h:gB Tryz.prog 77 xs):∃ v:Fc,xs=v.enc∧∀ x ∈ v.code,x.l.length * 8≤140737488351232:=by
 obtain ⟨a,r,rfl,ha,h⟩:=(h.fields X1).cons_inv
 obtain ⟨b,r,rfl,hb,h⟩:=h.cons_inv
 obtain ⟨c,r,rfl,hc,h⟩:=h.cons_inv
 obtain ⟨d,r,rfl,hd,h⟩:=h.cons_inv
 obtain ⟨g,r,rfl,hg,h⟩:=h.cons_inv
 obtain rfl:=h.nil_inv
 obtain ⟨a,rfl⟩:=A1 ha
 obtain ⟨b,rfl⟩:=fC hb
 obtain ⟨c,rfl⟩:=fC hc
 obtain ⟨d,rfl,hB⟩:=hG (f:=In.enc) (ok:=fun v:In=>v.l.length * 8≤140737488351232) hd U8 (fun cs hc=>p3 hc)
 obtain ⟨g,rfl⟩:=rA (f:=Gd.enc) hg U9 (fun cs=>Q9)
 exact ⟨⟨a,b,c,d,g⟩,rfl,hB⟩
theorem k1 {xs:List aR} (h:gB Tryz.prog 24 xs):∃ c:List Fc,xs=[.lst (c.map Fc.enc)]∧∀ f ∈ c,∀ x ∈ f.code,x.l.length * 8≤140737488351232:=by
 obtain ⟨a,r,rfl,ha,h⟩:=(h.fields UJ).cons_inv
 obtain rfl:=h.nil_inv
 obtain ⟨a,rfl,hB⟩:=hG (f:=Fc.enc) (ok:=fun v:Fc=>∀ x ∈ v.code,x.l.length * 8≤140737488351232) ha U4 (fun cs hc=>p2 hc)
 exact ⟨a,rfl,hB⟩
theorem k0 {xs:List aR} (h:gB Tryz.prog 28 xs):∃ (c:List Fc) (fn:Int) (args:List Va) (ans:List An),xs=[.lst (c.map Fc.enc),di fn,ld (args.map Va.enc),ld (ans.map An.enc)]∧∀ f ∈ c,∀ x ∈ f.code,x.l.length * 8≤140737488351232:=by
 obtain ⟨a,r,rfl,ha,h⟩:=(h.fields UK).cons_inv
 obtain ⟨b,r,rfl,hb,h⟩:=h.cons_inv
 obtain ⟨c,r,rfl,hc,h⟩:=h.cons_inv
 obtain ⟨d,r,rfl,hd,h⟩:=h.cons_inv
 obtain rfl:=h.nil_inv
 obtain ⟨a,rfl,hB⟩:=k1 ha
 obtain ⟨b,rfl⟩:=fC hb
 obtain ⟨c,rfl⟩:=rA (f:=Va.enc) hc QL (fun cs=>A2)
 obtain ⟨d,rfl⟩:=rA (f:=An.enc) hd U5 (fun cs=>LR)
 exact ⟨a,b,c,d,rfl,hB⟩
end Go.Ab
