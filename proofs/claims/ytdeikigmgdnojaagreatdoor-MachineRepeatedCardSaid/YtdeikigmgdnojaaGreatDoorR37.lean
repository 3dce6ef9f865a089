import Derived.Test.YtdeikigmgdnojaaGreatDoorR34
import Derived.Test.YtdeikigmgdnojaaGreatDoorR33
import Derived.Test.YtdeikigmgdnojaaGreatDoorR32
import Derived.Test.YtdeikigmgdnojaaGreatDoorR27
import Derived.Test.YtdeikigmgdnojaaGreatDoorR16
/- A part of the proof of one law. -/
set_option maxRecDepth 100000
set_option maxHeartbeats 8000000
set_option linter.unusedVariables false
set_option linter.unusedSimpArgs false
namespace Go.Ab
open Go Go.Ab.Tryz Go.Proofs
theorem k8 {c:List Fc} {i:Nat} (h:i < c.length):aO ((c.take i).map Fc.enc)++[[sv (aC c (i:Int)).name,iv (aC c (i:Int)).params,iv (aC c (i:Int)).slots,lv ((aC c (i:Int)).code.map In.enc),lv ((aC c (i:Int)).guards.map Gd.enc)]]=aO ((c.take (i + 1)).map Fc.enc):=by
 rw [gL h];simp [aO]
theorem hH {l:List In} {k:Nat} (h:k < l.length):aO ((l.take k).map In.enc)++[[iv (aC l (k:Int)).op,iv (aC l (k:Int)).a,iv (aC l (k:Int)).b,iv (aC l (k:Int)).c,iv (aC l (k:Int)).v.k,iv (aC l (k:Int)).v.n,sv (aC l (k:Int)).v.s,lv (uS (aC l (k:Int)).l)]]=aO ((l.take (k + 1)).map In.enc):=by
 rw [gL h];simp [aO]
theorem d1 {k:Nat} (h:k * 8≤140737488351232):vB k 8=true:=by
 unfold vB gY
 simp only [c5,dT]
 omega
structure t3 (G:Prop):Prop where
 h:G
theorem a4 {G:Prop} (k:t3 G):G:=k.h
theorem hX (c:List Fc) (hc:dR c) (hB:∀ f ∈ c,∀ x ∈ f.code,x.l.length * 8≤140737488351232) :
  aB Tryz.prog 33 [.agg [bC c]] [] (fun r s=>r = .agg [.arr 5]∧s=[some (.box 24 [bC c]),some (.box 24 [.arr 5]),some (.box 24 [.arr 5]),none,none,some (.arr 77 (aO (c.map Fc.enc)))]):=by
 have hn:=hc.n
 refine fW Tryz.func33 rfl rfl (nB rfl) ?_
 rw [Tryz.ntmps33]
 repeat' (first | ((with_reducible refine kw ?_);first | refine W0 ?_ | refine W1 ?_ | refine W2 ?_ | refine W3 ?_ | refine W6 ?_ | refine bJ ?_ | (refine fO ?_;first | refine cK (aF (el rfl) rfl rfl aI (oT ‹decide ((i:Int) < (c.length:Int))=true›) ⟨rfl,by decide⟩) rfl rfl ?_ | refine cK (aF (el rfl) rfl rfl aI (oT ‹decide ((k:Int) < ((aC c (i:Int)).code.length:Int))=true›) ⟨rfl,by decide⟩) rfl rfl ?_) | refine wR ?_ | refine W14 ?_ | refine W15 ?_ | (refine aE ?_;refine q8 ?_) | refine gZ ?_ | refine W23 ?_ | refine W24 ?_ | refine W25 ?_ | refine cW ?_ | refine dH ?_ | refine KS ?_ | refine W48 ?_ | refine W49 ?_) | refine GA ?_ | refine GG ?_ | (refine cJ (fun hb=>?_) (fun hb=>?_) <;> try rw [hb]) | ((with_reducible refine kf ?_);refine aP 0 Tryz.results33 rfl rfl rfl ?_) | refine GR ?_ | ((with_reducible refine kr ?_);refine aG rfl ?_) | ((with_reducible refine tO ?_);refine j7 Tryz.results33 rfl ?_) | refine GS ?_ | refine GO ?_ ?_ | exact GB | fail)
 refine dB (kK 77 ?_)
 refine dB (FY 2 0 77 rfl rfl ?_)
 refine dB (qQ 2 0 (m:=3) (p:=4) (s:=[]) rfl rfl rfl rfl rfl fun u=>?_)
 refine cF [1,2,3,4] rfl ?_
 refine jY 5 (n:=_) (fun n e σ=>∃ (i:Nat) (m:Int) (u:Value),n=c.length - i∧(m=i∧i≤c.length)∧e=[(1,_),(2,_),(3,_),(4,iv m)]∧σ=[some (.box 24 [bC c]),some (.box 24 [.nils]),some (.box 24 [.d (.sc u)]),some (bS Tryz.prog 77 [(u,(c.take i).map Fc.enc)]),none]) rfl ⟨0,0,u,rfl,⟨rfl,Nat.zero_le _⟩,rfl,rfl⟩ ?_
 rintro n e σ ⟨i,m,u,rfl,⟨rfl,hi⟩,rfl,rfl⟩
 repeat' (first | ((with_reducible refine kw ?_);first | refine W0 ?_ | refine W1 ?_ | refine W2 ?_ | refine W3 ?_ | refine W6 ?_ | refine bJ ?_ | (refine fO ?_;first | refine cK (aF (el rfl) rfl rfl aI (oT ‹decide ((i:Int) < (c.length:Int))=true›) ⟨rfl,by decide⟩) rfl rfl ?_ | refine cK (aF (el rfl) rfl rfl aI (oT ‹decide ((k:Int) < ((aC c (i:Int)).code.length:Int))=true›) ⟨rfl,by decide⟩) rfl rfl ?_) | refine wR ?_ | refine W14 ?_ | refine W15 ?_ | (refine aE ?_;refine q8 ?_) | refine gZ ?_ | refine W23 ?_ | refine W24 ?_ | refine W25 ?_ | refine cW ?_ | refine dH ?_ | refine KS ?_ | refine W48 ?_ | refine W49 ?_) | ((with_reducible refine ka ?_);((with_reducible refine i5 18 ?_);refine a4 ?_)) | refine GA ?_ | refine GG ?_ | (refine cJ (fun hb=>?_) (fun hb=>?_) <;> try rw [hb]) | ((with_reducible refine kf ?_);refine aP 0 Tryz.results33 rfl rfl rfl ?_) | refine GR ?_ | ((with_reducible refine kr ?_);refine aG rfl ?_) | ((with_reducible refine tO ?_);refine j7 Tryz.results33 rfl ?_) | refine GS ?_ | refine GO ?_ ?_ | exact GB | fail)
 rotate_left
 ·refine ⟨?_⟩
  have hge:=oF ‹decide ((i:Int) < (c.length:Int))=false›
  have e:i=c.length:=by omega
  subst e
  rw [List.take_length]
  refine dB (HN 2 0 (m:=3) rfl hP rfl rfl ?_)
  refine dB (qP 3 rfl ?_)
  repeat' (first | ((with_reducible refine kw ?_);first | refine W0 ?_ | refine W1 ?_ | refine W2 ?_ | refine W3 ?_ | refine W6 ?_ | refine bJ ?_ | (refine fO ?_;first | refine cK (aF (el rfl) rfl rfl aI (oT ‹decide ((i:Int) < (c.length:Int))=true›) ⟨rfl,by decide⟩) rfl rfl ?_ | refine cK (aF (el rfl) rfl rfl aI (oT ‹decide ((k:Int) < ((aC c (i:Int)).code.length:Int))=true›) ⟨rfl,by decide⟩) rfl rfl ?_) | refine wR ?_ | refine W14 ?_ | refine W15 ?_ | (refine aE ?_;refine q8 ?_) | refine gZ ?_ | refine W23 ?_ | refine W24 ?_ | refine W25 ?_ | refine cW ?_ | refine dH ?_ | refine KS ?_ | refine W48 ?_ | refine W49 ?_) | refine GA ?_ | refine GG ?_ | (refine cJ (fun hb=>?_) (fun hb=>?_) <;> try rw [hb]) | ((with_reducible refine kf ?_);refine aP 0 Tryz.results33 rfl rfl rfl ?_) | refine GR ?_ | ((with_reducible refine kr ?_);refine aG rfl ?_) | ((with_reducible refine tO ?_);refine j7 Tryz.results33 rfl ?_) | refine GS ?_ | refine GO ?_ ?_ | exact GB | fail)
  exact ⟨rfl,rfl⟩
 have hlt:=(oT ‹decide ((i:Int) < (c.length:Int))=true›)
 have hcl:(aC c (i:Int)).code.length≤4000:=(hc.fs _ (dM aI hlt:aC c (i:Int) ∈ c)).hd.n1
 refine dB (kK 80 ?_)
 refine dB (DS 6 80 rfl ?_)
 refine dB (qR 6 (m:=6) (s:=[]) rfl rfl rfl rfl fun w=>?_)
 refine cF [1,2,3,4,5,6,7] rfl ?_
 refine jY 8 (n:=_) (fun n e σ=>∃ (k:Nat) (mk:Int) (w:Value),n=(aC c (i:Int)).code.length - k∧(mk=k∧k≤(aC c (i:Int)).code.length)∧e=[(1,_),(2,_),(3,_),(4,iv i),(5,_),(6,.d (.sc w)),(7,iv mk)]∧σ=[some (.box 24 [bC c]),some (.box 24 [.nils]),some (.box 24 [.d (.sc u)]),some (bS Tryz.prog 77 [(u,(c.take i).map Fc.enc)]),none,some (.box 77 ((aC c (i:Int)).enc.map .d)),some (bS Tryz.prog 80 [(w,((aC c (i:Int)).code.take k).map In.enc)]),none]) rfl ⟨0,0,w,rfl,⟨rfl,Nat.zero_le _⟩,rfl,rfl⟩ ?_
 rintro n e σ ⟨k,mk,w,rfl,⟨rfl,hk⟩,rfl,rfl⟩
 refine dB (wK 6 (m:=6) rfl hP rfl ?_)
 repeat' (first | ((with_reducible refine kw ?_);first | refine W0 ?_ | refine W1 ?_ | refine W2 ?_ | refine W3 ?_ | refine W6 ?_ | refine bJ ?_ | (refine fO ?_;first | refine cK (aF (el rfl) rfl rfl aI (oT ‹decide ((i:Int) < (c.length:Int))=true›) ⟨rfl,by decide⟩) rfl rfl ?_ | refine cK (aF (el rfl) rfl rfl aI (oT ‹decide ((k:Int) < ((aC c (i:Int)).code.length:Int))=true›) ⟨rfl,by decide⟩) rfl rfl ?_) | refine wR ?_ | refine W14 ?_ | refine W15 ?_ | (refine aE ?_;refine q8 ?_) | refine gZ ?_ | refine W23 ?_ | refine W24 ?_ | refine W25 ?_ | refine cW ?_ | refine dH ?_ | refine KS ?_ | refine W48 ?_ | (refine vQ ?_;first | refine cK (fY (el rfl) (sl rfl) rfl rfl rfl (ap rfl) (mM rfl rfl) (iI eS) (g7 (by simp [aO];omega) cN)) rfl rfl ?_ | refine cK (fY (el rfl) (sl rfl) rfl rfl rfl (ap rfl) rfl (iI eS) (d1 (by have:=hB _ (dM aI hlt:aC c (i:Int) ∈ c) _ (dM aI (oT ‹decide ((k:Int) < ((aC c (i:Int)).code.length:Int))=true›):aC (aC c (i:Int)).code (k:Int) ∈ _);simpa [uS] using this))) rfl rfl ?_) | refine W49 ?_) | ((with_reducible refine ka ?_);first | ((with_reducible refine i5 14 ?_);refine a4 ?_) | ((with_reducible refine QE 13 ?_);refine dB (J9 9 7 rfl rfl rfl (sA _) ?_))) | refine GA ?_ | refine GG ?_ | (refine cJ (fun hb=>?_) (fun hb=>?_) <;> try rw [hb]) | ((with_reducible refine kf ?_);refine aP 0 Tryz.results33 rfl rfl rfl ?_) | refine GR ?_ | ((with_reducible refine kr ?_);refine aG rfl ?_) | ((with_reducible refine tO ?_);refine j7 Tryz.results33 rfl ?_) | refine GS ?_ | refine GO ?_ ?_ | exact GB | fail)
 ·have hlk:=(oT ‹decide ((k:Int) < ((aC c (i:Int)).code.length:Int))=true›)
  refine gE (qR 6 (m:=6) (s:=(((aC c (i:Int)).code.take (k + 1)).map In.enc)) rfl rfl (hH aI) rfl fun w2=>?_)
  refine gE (jM [1,2,3,4,5,6,7] rfl ?_)
  refine gU 8 rfl rfl rfl ?_
  refine gT ⟨_,?_,k + 1,_,w2,rfl,⟨aL aI aI,by omega⟩,rfl,rfl⟩
  omega
 ·refine ⟨?_⟩
  have hgk:=oF ‹decide ((k:Int) < ((aC c (i:Int)).code.length:Int))=false›
  have e:k=(aC c (i:Int)).code.length:=by omega
  rw [e,List.take_length]
  repeat' (first | ((with_reducible refine kw ?_);first | refine W0 ?_ | refine W1 ?_ | refine W2 ?_ | refine W3 ?_ | refine W6 ?_ | refine bJ ?_ | (refine fO ?_;first | refine cK (aF (el rfl) rfl rfl aI (oT ‹decide ((i:Int) < (c.length:Int))=true›) ⟨rfl,by decide⟩) rfl rfl ?_ | refine cK (aF (el rfl) rfl rfl aI (oT ‹decide ((k:Int) < ((aC c (i:Int)).code.length:Int))=true›) ⟨rfl,by decide⟩) rfl rfl ?_) | refine wR ?_ | refine W14 ?_ | refine W15 ?_ | (refine aE ?_;refine q8 ?_) | refine gZ ?_ | refine W23 ?_ | refine W24 ?_ | refine W25 ?_ | refine cW ?_ | refine dH ?_ | refine KS ?_ | refine W48 ?_ | (refine vQ ?_;first | refine cK (fY (el rfl) (sl rfl) rfl rfl rfl (ap rfl) (mM rfl rfl) (iI eS) (g7 (by simp [aO];omega) cN)) rfl rfl ?_ | refine cK (fY (el rfl) (sl rfl) rfl rfl rfl (ap rfl) rfl (iI eS) (g7 (by have:=(hc.fs _ (dM aI hlt:aC c (i:Int) ∈ c)).hd.g1;simp;omega) cN)) rfl rfl ?_) | refine W49 ?_) | ((with_reducible refine ka ?_);((with_reducible refine i5 16 ?_);refine dB (J9 5 3 rfl rfl rfl (sA _) ?_);refine dB (J9 5 4 rfl rfl rfl (sA _) ?_);refine dB (HN 2 0 (m:=3) rfl hP rfl rfl ?_);refine fI ?_)) | refine GA ?_ | refine GG ?_ | (refine cJ (fun hb=>?_) (fun hb=>?_) <;> try rw [hb]) | ((with_reducible refine kf ?_);refine aP 0 Tryz.results33 rfl rfl rfl ?_) | refine GR ?_ | ((with_reducible refine kr ?_);refine aG rfl ?_) | ((with_reducible refine tO ?_);refine j7 Tryz.results33 rfl ?_) | refine GS ?_ | refine GO ?_ ?_ | exact GB | fail)
  refine gE (qQ 2 0 (m:=3) (p:=11) (s:=((c.take (i + 1)).map Fc.enc)) rfl rfl (k8 aI) rfl rfl fun u2=>?_)
  refine gE (jM [1,2,3,4] rfl ?_)
  refine gU 5 rfl rfl rfl ?_
  refine gT ⟨_,?_,i + 1,_,u2,rfl,⟨aL aI aI,by omega⟩,rfl,rfl⟩
  omega
def s5 (g:Value × Fc):List aR:=[ds g.2.name,di g.2.params,di g.2.slots,.sc g.1,ld (g.2.guards.map Gd.enc)]
def t2 (g:Value × Fc):Value × List (List aR):=(g.1,g.2.code.map In.enc)
def a1 (gq:List (Value × Fc)):List (List aR):=(gq.map s5).reverse
theorem i1 {gq:List (Value × Fc)} {w:Value} {f:Fc}:aO (a1 gq)++[[sv f.name,iv f.params,iv f.slots,.d (.sc w),lv (f.guards.map Gd.enc)]]=aO (a1 ((w,f)::gq)):=by simp [a1,aO,s5]
theorem f3 {gq:List (Value × Fc)}:(aO (a1 gq)).length=gq.length:=by simp [a1,aO]
theorem h6 (c:List Fc) (hc:dR c) (hB:∀ f ∈ c,∀ x ∈ f.code,x.l.length * 8≤140737488351232) :
  aB Tryz.prog 33 [.agg [bC c]] [] (fun r s=>r = .agg [.arr 6]∧∃ gq:List (Value × Fc),gq.map (·.2)=c.reverse∧s=[some (.box 24 [bC c]),some (.box 24 [.arr 6]),some (.box 24 [.arr 6]),none,none,some (bS Tryz.prog 80 (gq.map t2)),some (.arr 77 (aO (a1 gq)))]):=by
 have hn:=hc.n
 refine fW Tryz.func33 rfl rfl (nB rfl) ?_
 rw [Tryz.ntmps33]
 repeat' (first | ((with_reducible refine kw ?_);first | refine W0 ?_ | refine W1 ?_ | refine W2 ?_ | refine W3 ?_ | refine W6 ?_ | refine bJ ?_ | (refine fO ?_;first | refine cK (aF (el rfl) rfl rfl aI (oT ‹decide ((i:Int) < (c.length:Int))=true›) ⟨rfl,by decide⟩) rfl rfl ?_ | refine cK (aF (el rfl) rfl rfl aI (oT ‹decide ((k:Int) < ((aC c (i:Int)).code.length:Int))=true›) ⟨rfl,by decide⟩) rfl rfl ?_) | refine wR ?_ | refine W14 ?_ | refine W15 ?_ | (refine aE ?_;refine q8 ?_) | refine gZ ?_ | refine W23 ?_ | refine W24 ?_ | refine W25 ?_ | refine cW ?_ | refine dH ?_ | refine KS ?_ | refine W48 ?_ | refine W49 ?_) | refine GA ?_ | refine GG ?_ | (refine cJ (fun hb=>?_) (fun hb=>?_) <;> try rw [hb]) | ((with_reducible refine kf ?_);refine aP 0 Tryz.results33 rfl rfl rfl ?_) | refine GR ?_ | ((with_reducible refine kr ?_);refine aG rfl ?_) | ((with_reducible refine tO ?_);refine j7 Tryz.results33 rfl ?_) | refine GS ?_ | refine GO ?_ ?_ | exact GB | fail)
 refine dB (kK 77 ?_)
 refine dB (FY 2 0 77 rfl rfl ?_)
 refine dB (qQ 2 0 (m:=3) (p:=4) (s:=[]) rfl rfl rfl rfl rfl fun u=>?_)
 refine dB (kK 80 ?_)
 refine cF [1,2,3,4] rfl ?_
 refine jY 6 (n:=_) (fun n e σ=>∃ (i:Nat) (m:Int) (u:Value) (gq:List (Value × Fc)),n=c.length - i∧(m=i∧i≤c.length∧gq.map (·.2)=(c.take i).reverse)∧e=[(1,_),(2,_),(3,_),(4,iv m)]∧σ=[some (.box 24 [bC c]),some (.box 24 [.nils]),some (.box 24 [.d (.sc u)]),some (bS Tryz.prog 77 [(u,a1 gq)]),none,some (bS Tryz.prog 80 (gq.map t2))]) rfl ⟨0,0,u,[],rfl,⟨rfl,Nat.zero_le _,rfl⟩,rfl,rfl⟩ ?_
 rintro n e σ ⟨i,m,u,gq,rfl,⟨rfl,hi,hg⟩,rfl,rfl⟩
 repeat' (first | ((with_reducible refine kw ?_);first | refine W0 ?_ | refine W1 ?_ | refine W2 ?_ | refine W3 ?_ | refine W6 ?_ | refine bJ ?_ | (refine fO ?_;first | refine cK (aF (el rfl) rfl rfl aI (oT ‹decide ((i:Int) < (c.length:Int))=true›) ⟨rfl,by decide⟩) rfl rfl ?_ | refine cK (aF (el rfl) rfl rfl aI (oT ‹decide ((k:Int) < ((aC c (i:Int)).code.length:Int))=true›) ⟨rfl,by decide⟩) rfl rfl ?_) | refine wR ?_ | refine W14 ?_ | refine W15 ?_ | (refine aE ?_;refine q8 ?_) | refine gZ ?_ | refine W23 ?_ | refine W24 ?_ | refine W25 ?_ | refine cW ?_ | refine dH ?_ | refine KS ?_ | refine W48 ?_ | refine W49 ?_) | ((with_reducible refine ka ?_);((with_reducible refine i5 18 ?_);refine a4 ?_)) | refine GA ?_ | refine GG ?_ | (refine cJ (fun hb=>?_) (fun hb=>?_) <;> try rw [hb]) | ((with_reducible refine kf ?_);refine aP 0 Tryz.results33 rfl rfl rfl ?_) | refine GR ?_ | ((with_reducible refine kr ?_);refine aG rfl ?_) | ((with_reducible refine tO ?_);refine j7 Tryz.results33 rfl ?_) | refine GS ?_ | refine GO ?_ ?_ | exact GB | fail)
 rotate_left
 ·refine ⟨?_⟩
  have hge:=oF ‹decide ((i:Int) < (c.length:Int))=false›
  have e:i=c.length:=by omega
  subst e
  rw [List.take_length] at hg
  refine dB (HN 2 0 (m:=3) rfl hP rfl rfl ?_)
  refine dB (qP 3 rfl ?_)
  repeat' (first | ((with_reducible refine kw ?_);first | refine W0 ?_ | refine W1 ?_ | refine W2 ?_ | refine W3 ?_ | refine W6 ?_ | refine bJ ?_ | (refine fO ?_;first | refine cK (aF (el rfl) rfl rfl aI (oT ‹decide ((i:Int) < (c.length:Int))=true›) ⟨rfl,by decide⟩) rfl rfl ?_ | refine cK (aF (el rfl) rfl rfl aI (oT ‹decide ((k:Int) < ((aC c (i:Int)).code.length:Int))=true›) ⟨rfl,by decide⟩) rfl rfl ?_) | refine wR ?_ | refine W14 ?_ | refine W15 ?_ | (refine aE ?_;refine q8 ?_) | refine gZ ?_ | refine W23 ?_ | refine W24 ?_ | refine W25 ?_ | refine cW ?_ | refine dH ?_ | refine KS ?_ | refine W48 ?_ | refine W49 ?_) | refine GA ?_ | refine GG ?_ | (refine cJ (fun hb=>?_) (fun hb=>?_) <;> try rw [hb]) | ((with_reducible refine kf ?_);refine aP 0 Tryz.results33 rfl rfl rfl ?_) | refine GR ?_ | ((with_reducible refine kr ?_);refine aG rfl ?_) | ((with_reducible refine tO ?_);refine j7 Tryz.results33 rfl ?_) | refine GS ?_ | refine GO ?_ ?_ | exact GB | fail)
  exact ⟨rfl,gq,hg,rfl⟩
 have hgl:gq.length=i:=by have:=congrArg List.length hg;simp at this;omega
 have hlt:=(oT ‹decide ((i:Int) < (c.length:Int))=true›)
 have hcl:(aC c (i:Int)).code.length≤4000:=(hc.fs _ (dM aI hlt:aC c (i:Int) ∈ c)).hd.n1
 refine dB (DS 6 80 rfl ?_)
 refine dB (qR 6 (m:=5) (s:=[]) rfl rfl rfl rfl fun w=>?_)
 refine cF [1,2,3,4,5,6,7] rfl ?_
 refine jY 8 (n:=_) (fun n e σ=>∃ (k:Nat) (mk:Int) (w:Value),n=(aC c (i:Int)).code.length - k∧(mk=k∧k≤(aC c (i:Int)).code.length)∧e=[(1,_),(2,_),(3,_),(4,iv i),(5,_),(6,.d (.sc w)),(7,iv mk)]∧σ=[some (.box 24 [bC c]),some (.box 24 [.nils]),some (.box 24 [.d (.sc u)]),some (bS Tryz.prog 77 [(u,a1 gq)]),none,some (bS Tryz.prog 80 ((w,((aC c (i:Int)).code.take k).map In.enc)::gq.map t2)),some (.box 77 ((aC c (i:Int)).enc.map .d)),none]) rfl ⟨0,0,w,rfl,⟨rfl,Nat.zero_le _⟩,rfl,rfl⟩ ?_
 rintro n e σ ⟨k,mk,w,rfl,⟨rfl,hk⟩,rfl,rfl⟩
 refine dB (wK 6 (m:=5) rfl hP rfl ?_)
 repeat' (first | ((with_reducible refine kw ?_);first | refine W0 ?_ | refine W1 ?_ | refine W2 ?_ | refine W3 ?_ | refine W6 ?_ | refine bJ ?_ | (refine fO ?_;first | refine cK (aF (el rfl) rfl rfl aI (oT ‹decide ((i:Int) < (c.length:Int))=true›) ⟨rfl,by decide⟩) rfl rfl ?_ | refine cK (aF (el rfl) rfl rfl aI (oT ‹decide ((k:Int) < ((aC c (i:Int)).code.length:Int))=true›) ⟨rfl,by decide⟩) rfl rfl ?_) | refine wR ?_ | refine W14 ?_ | refine W15 ?_ | (refine aE ?_;refine q8 ?_) | refine gZ ?_ | refine W23 ?_ | refine W24 ?_ | refine W25 ?_ | refine cW ?_ | refine dH ?_ | refine KS ?_ | refine W48 ?_ | (refine vQ ?_;first | refine cK (fY (el rfl) (sl rfl) rfl rfl rfl (ap rfl) (mM rfl rfl) (iI eS) (g7 (by simp [aO];omega) cN)) rfl rfl ?_ | refine cK (fY (el rfl) (sl rfl) rfl rfl rfl (ap rfl) rfl (iI eS) (d1 (by have:=hB _ (dM aI hlt:aC c (i:Int) ∈ c) _ (dM aI (oT ‹decide ((k:Int) < ((aC c (i:Int)).code.length:Int))=true›):aC (aC c (i:Int)).code (k:Int) ∈ _);simpa [uS] using this))) rfl rfl ?_) | refine W49 ?_) | ((with_reducible refine ka ?_);first | ((with_reducible refine i5 14 ?_);refine a4 ?_) | ((with_reducible refine QE 13 ?_);refine dB (J9 9 7 rfl rfl rfl (sA _) ?_))) | refine GA ?_ | refine GG ?_ | (refine cJ (fun hb=>?_) (fun hb=>?_) <;> try rw [hb]) | ((with_reducible refine kf ?_);refine aP 0 Tryz.results33 rfl rfl rfl ?_) | refine GR ?_ | ((with_reducible refine kr ?_);refine aG rfl ?_) | ((with_reducible refine tO ?_);refine j7 Tryz.results33 rfl ?_) | refine GS ?_ | refine GO ?_ ?_ | exact GB | fail)
 ·have hlk:=(oT ‹decide ((k:Int) < ((aC c (i:Int)).code.length:Int))=true›)
  refine gE (qR 6 (m:=5) (s:=(((aC c (i:Int)).code.take (k + 1)).map In.enc)) rfl rfl (hH aI) rfl fun w2=>?_)
  refine gE (jM [1,2,3,4,5,6,7] rfl ?_)
  refine gU 8 rfl rfl rfl ?_
  refine gT ⟨_,?_,k + 1,_,w2,rfl,⟨aL aI aI,by omega⟩,rfl,rfl⟩
  omega
 ·refine ⟨?_⟩
  have hgk:=oF ‹decide ((k:Int) < ((aC c (i:Int)).code.length:Int))=false›
  have e:k=(aC c (i:Int)).code.length:=by omega
  rw [e,List.take_length]
  repeat' (first | ((with_reducible refine kw ?_);first | refine W0 ?_ | refine W1 ?_ | refine W2 ?_ | refine W3 ?_ | refine W6 ?_ | refine bJ ?_ | (refine fO ?_;first | refine cK (aF (el rfl) rfl rfl aI (oT ‹decide ((i:Int) < (c.length:Int))=true›) ⟨rfl,by decide⟩) rfl rfl ?_ | refine cK (aF (el rfl) rfl rfl aI (oT ‹decide ((k:Int) < ((aC c (i:Int)).code.length:Int))=true›) ⟨rfl,by decide⟩) rfl rfl ?_) | refine wR ?_ | refine W14 ?_ | refine W15 ?_ | (refine aE ?_;refine q8 ?_) | refine gZ ?_ | refine W23 ?_ | refine W24 ?_ | refine W25 ?_ | refine cW ?_ | refine dH ?_ | refine KS ?_ | refine W48 ?_ | (refine vQ ?_;first | refine cK (fY (el rfl) (sl rfl) rfl rfl rfl (ap rfl) (mM rfl rfl) (iI eS) (g7 (by simp only [f3,List.length_cons,List.length_map,List.length_nil];omega) cN)) rfl rfl ?_ | refine cK (fY (el rfl) (sl rfl) rfl rfl rfl (ap rfl) rfl (iI eS) (g7 (by have:=(hc.fs _ (dM aI hlt:aC c (i:Int) ∈ c)).hd.g1;simp;omega) cN)) rfl rfl ?_) | refine W49 ?_) | ((with_reducible refine ka ?_);((with_reducible refine i5 16 ?_);refine dB (J9 6 4 rfl rfl rfl (sA _) ?_);refine dB (qQ 6 3 (m:=5) (p:=8) rfl rfl rfl rfl rfl fun w3q=>?_);refine dB (HN 2 0 (m:=3) rfl hP rfl rfl ?_);refine fI ?_)) | refine GA ?_ | refine GG ?_ | (refine cJ (fun hb=>?_) (fun hb=>?_) <;> try rw [hb]) | ((with_reducible refine kf ?_);refine aP 0 Tryz.results33 rfl rfl rfl ?_) | refine GR ?_ | ((with_reducible refine kr ?_);refine aG rfl ?_) | ((with_reducible refine tO ?_);refine j7 Tryz.results33 rfl ?_) | refine GS ?_ | refine GO ?_ ?_ | exact GB | fail)
  refine gE (qQ 2 0 (m:=3) (p:=11) (s:=a1 ((w3q,aC c (i:Int))::gq)) rfl rfl i1 rfl rfl fun u2=>?_)
  refine gE (jM [1,2,3,4] rfl ?_)
  refine gU 6 rfl rfl rfl ?_
  refine gT ⟨_,?_,i + 1,_,u2,(w3q,aC c (i:Int))::gq,rfl,⟨aL aI aI,by omega,by rw [gL aI,List.reverse_append,List.map_cons,hg];rfl⟩,rfl,rfl⟩
  omega
end Go.Ab
namespace Go.Ab
open Go
def dIq (s:Int) (x:In):In:=if x.op=7 then { x with b:=x.b + s } else x
def sh (s:Int) (t:Fm):Fm:={ t with fn:=t.fn + s }
structure f2 (c d:List Fc) (s:Int):Prop where
 s0:0≤s
 len:(c.length:Int) + s≤(d.length:Int)
 fn:∀ n:Int,0≤n→n < (c.length:Int)→(aC d (n + s)).params=(aC c n).params∧(aC d (n + s)).slots=(aC c n).slots∧(aC d (n + s)).guards=(aC c n).guards∧(aC d (n + s)).code=(aC c n).code.map (dIq s)
def q5 (s:Int):Ou→Ou
 | .more ts => .more (ts.map (sh s))
 | .turn ts u => .turn (ts.map (sh s)) u
section
variable {c d:List Fc} {s:Int} {t:Fm} {r ts:List Fm} {f:Fa} {v:Va} {n:Int}
theorem s4 {x:In}:(dIq s x).op=x.op:=by unfold dIq;split <;> rfl
theorem hD {x:In} (h:x.op≠7):dIq s x=x:=by unfold dIq;rw [if_neg h]
theorem l0 {l:List In} {i:Int}:aC (l.map (dIq s)) i=dIq s (aC l i):=by
 unfold aC
 rw [List.getD_eq_getElem?_getD,List.getD_eq_getElem?_getD,List.getElem?_map]
 cases l[i.toNat]? with
 | none=>rfl
 | some x=>rfl
theorem a9 (S:f2 c d s) (h0:0≤t.fn) (h1:t.fn < (c.length:Int)):aN d (sh s t)=dIq s (aN c t):=by
 unfold aN
 show aC (aC d (t.fn + s)).code t.pc=_
 rw [(S.fn t.fn h0 h1).2.2.2,l0]
theorem k4 (S:f2 c d s) (h0:0≤t.fn) (h1:t.fn < (c.length:Int)):cH (aC d (t.fn + s)) t.pc=cH (aC c t.fn) t.pc:=by
 unfold cH
 rw [(S.fn t.fn h0 h1).2.2.1]
theorem a6 (S:f2 c d s):∀ {ts:List Fm},(∀ t ∈ ts,0≤t.fn∧t.fn < (c.length:Int))→cT d f (ts.map (sh s))=(cT c f ts).map (sh s)
 | [],_=>rfl
 | t::r,h=>by
  obtain ⟨h0,h1⟩:=h t (by simp)
  have e1:=k4 S h0 h1
  have e2:=(S.fn t.fn h0 h1).2.2.1
  simp only [List.map_cons,cT]
  rw [show cH (aC d (sh s t).fn) (sh s t).pc=cH (aC c t.fn) t.pc from e1]
  split
  ·exact a6 S (fun u hu=>h u (List.mem_cons_of_mem _ hu))
  ·simp only [List.map_cons,List.cons.injEq,and_true]
   unfold o5 sh
   simp only
   rw [e1,e2]
theorem eF (S:f2 c d s) (h:∀ t ∈ ts,0≤t.fn∧t.fn < (c.length:Int)):dE d f (ts.map (sh s))=q5 s (dE c f ts):=by
 unfold dE
 rw [a6 S h]
 cases cT c f ts with
 | nil=>rfl
 | cons a l=>rfl
theorem hS (S:f2 c d s) (h:∀ t' ∈ t::r,0≤t'.fn∧t'.fn < (c.length:Int)):jW d (sh s t) (r.map (sh s)) n v f=q5 s (jW c t r n v f):=by
 unfold jW
 split
 ·rw [show sh s t::r.map (sh s)=(t::r).map (sh s) from rfl];exact eF S h
 ·split <;> rfl
theorem f4 {l:List In}:∀ a,gA (l.map (dIq s)) a=gA l a
 | 0=>rfl
 | i + 1=>by
  unfold gA
  rw [l0,s4,f4 i]
theorem n3 {l:List In} {a:Nat}:d5 (l.map (dIq s)) a=d5 l a:=by
 unfold d5
 rw [f4,← List.map_drop,← List.map_take]
 refine List.ext_getElem? fun i=>?_
 rw [List.getElem?_map]
 cases hq:((l.drop (gA l a)).take (a - gA l a))[i]? with
 | none=>rfl
 | some x =>
  rw [Option.map_some]
  have h1:i < a - gA l a:=by
   have:=(List.getElem?_eq_some_iff.1 hq).1
   simp at this;omega
  rw [List.getElem?_take,if_pos h1,List.getElem?_drop] at hq
  have h2:=B4 (l:=l) (a:=a) (j:=gA l a + i) (by omega) (by omega)
  have h3:aC l ((gA l a + i:Nat):Int)=x:=by
   unfold aC
   rw [List.getD_eq_getElem?_getD,Int.toNat_natCast,hq];rfl
  rw [h3] at h2
  rw [hD (by rw [h2];decide)]
theorem d2 (S:f2 c d s) (h0:0≤t.fn) (h1:t.fn < (c.length:Int)):fP d (sh s t)=fP c t:=by
 unfold fP
 show d5 (aC d (t.fn + s)).code t.pc.toNat=_
 rw [(S.fn t.fn h0 h1).2.2.2,n3]
theorem u0:aD (sh s t) n=aD t n:=rfl
theorem hM (S:f2 c d s) (h0:0≤t.fn) (h1:t.fn < (c.length:Int)) {x:In}:bX d (sh s t) x=bX c t x:=by
 unfold bX
 rw [d2 S h0 h1]
 rfl
theorem hK (S:f2 c d s) (h0:0≤t.fn) (h1:t.fn < (c.length:Int)) {x:In}:bT d (sh s t) x=bT c t x:=by
 unfold bT
 rw [d2 S h0 h1]
 rfl
theorem f5 (S:f2 c d s) {b tt:Int} {args:List Va} (h0:0≤b) (h1:b < (c.length:Int)):eW d (b + s) tt args=sh s (eW c b tt args):=by
 unfold eW sh
 simp only
 rw [(S.fn b h0 h1).2.1]
theorem o0 (S:f2 c d s) (hc:dR c) (G:eK c (t::r)):cE d (sh s t) (r.map (sh s))=q5 s (cE c t r):=by
 have F:=G.top
 have I:=vG hc F
 have hfr:∀ u ∈ t::r,0≤u.fn∧u.fn < (c.length:Int):=fun u hu=>⟨(G.fr u hu).f0,(G.fr u hu).f1⟩
 have hins:=a9 S F.f0 F.f1
 have hR:∀ {f:Fa},dE d f (sh s t::r.map (sh s))=q5 s (dE c f (t::r)):=fun {f}=>eF S hfr
 unfold cE
 simp only
 rw [hins]
 generalize hx:aN c t=x at *
 rw [s4]
 by_cases e7:x.op=7
 ·have hb:=I.ca e7
  have k:∀ m:Int,m≠7→¬ x.op=m:=fun m h e=>h (e.symm.trans e7)
  rw [if_neg (k 1 (by decide)),if_neg (k 2 (by decide)),if_neg (k 3 (by decide)),if_neg (k 4 (by decide)),if_neg (k 5 (by decide)),if_neg (k 6 (by decide)),if_pos e7]
  rw [if_neg (k 1 (by decide)),if_neg (k 2 (by decide)),if_neg (k 3 (by decide)),if_neg (k 4 (by decide)),if_neg (k 5 (by decide)),if_neg (k 6 (by decide)),if_pos e7]
  rw [List.length_map]
  by_cases h24:r.length + 1=24
  ·rw [if_pos h24,if_pos h24];exact hR
  ·rw [if_neg h24,if_neg h24]
   unfold dIq
   rw [if_pos e7]
   show Ou.more (eW d (x.b + s) x.a (aY t x.l)::sh s t::r.map (sh s))=_
   rw [f5 S hb.1 hb.2.1]
   rfl
 rw [hD e7]
 by_cases e1:x.op=1
 ·rw [if_pos e1,if_pos e1];rfl
 rw [if_neg e1,if_neg e1]
 by_cases e2:x.op=2
 ·rw [if_pos e2,if_pos e2];rfl
 rw [if_neg e2,if_neg e2]
 by_cases e3:x.op=3
 ·rw [if_pos e3,if_pos e3];exact hS S hfr
 rw [if_neg e3,if_neg e3]
 by_cases e4:x.op=4
 ·rw [if_pos e4,if_pos e4];exact hS S hfr
 rw [if_neg e4,if_neg e4]
 by_cases e5:x.op=5
 ·rw [if_pos e5,if_pos e5];rfl
 rw [if_neg e5,if_neg e5]
 by_cases e6:x.op=6
 ·rw [if_pos e6,if_pos e6]
  by_cases h1:(aD t x.a).k≠2
  ·rw [if_pos h1,if_pos (show (aD (sh s t) x.a).k≠2 from h1)];exact hR
  ·rw [if_neg h1,if_neg (show ¬ (aD (sh s t) x.a).k≠2 from h1)]
   by_cases h2:(aD t x.a).n=0
   ·rw [if_pos h2,if_pos (show (aD (sh s t) x.a).n=0 from h2)];rfl
   ·rw [if_neg h2,if_neg (show ¬ (aD (sh s t) x.a).n=0 from h2)];rfl
 rw [if_neg e6,if_neg e6,if_neg e7,if_neg e7]
 by_cases e8:x.op=8
 ·rw [if_pos e8,if_pos e8]
  cases r with
  | nil=>rfl
  | cons u r =>
   simp only [List.map_cons]
   show Ou.more _=Ou.more _
   by_cases h1:t.to≥0
   ·rw [if_pos h1,if_pos (show (sh s t).to≥0 from h1)];rfl
   ·rw [if_neg h1,if_neg (show ¬ (sh s t).to≥0 from h1)];rfl
 rw [if_neg e8,if_neg e8]
 by_cases e9:x.op=9
 ·rw [if_pos e9,if_pos e9];exact hR
 rw [if_neg e9,if_neg e9]
 by_cases e10:x.op=10
 ·rw [if_pos e10,if_pos e10,hK S F.f0 F.f1,hM S F.f0 F.f1]
  by_cases h1:bT c t x=true
  ·rw [if_pos h1,if_pos h1];rfl
  ·rw [if_neg h1,if_neg h1];exact hR
 rw [if_neg e10,if_neg e10]
 by_cases e11:x.op=11
 ·rw [if_pos e11,if_pos e11];rfl
 rw [if_neg e11,if_neg e11]
 by_cases e12:x.op=12
 ·rw [if_pos e12,if_pos e12]
  by_cases h1:(aD t x.a).k=1∧0≤(aD t x.a).n∧(aD t x.a).n < (x.l.length:Int)
  ·rw [if_pos h1,if_pos (show (aD (sh s t) x.a).k=1∧0≤(aD (sh s t) x.a).n∧(aD (sh s t) x.a).n < (x.l.length:Int) from h1)];rfl
  ·rw [if_neg h1,if_neg (show ¬ ((aD (sh s t) x.a).k=1∧0≤(aD (sh s t) x.a).n∧(aD (sh s t) x.a).n < (x.l.length:Int)) from h1)];exact hR
 rw [if_neg e12,if_neg e12]
 by_cases e13:x.op=13
 ·rw [if_pos e13,if_pos e13]
  by_cases h1:aD t x.a=⟨1,1,⟨#[]⟩⟩
  ·rw [if_pos h1,if_pos (show aD (sh s t) x.a=⟨1,1,⟨#[]⟩⟩ from h1)];rfl
  ·rw [if_neg h1,if_neg (show ¬ aD (sh s t) x.a=⟨1,1,⟨#[]⟩⟩ from h1)];rfl
 rw [if_neg e13,if_neg e13]
 exact hR
theorem c6 (S:f2 c d s) (hc:dR c):∀ (n:Nat) (ts:List Fm),eK c ts→sQ d n (ts.map (sh s))=(sQ c n ts).map (fun p=>(p.1.map (sh s),p.2))
 | _,[],G=>by cases G.ch
 | 0,_::_,_=>rfl
 | n + 1,t::r,G=>by
  simp only [List.map_cons,sQ]
  rw [o0 S hc G]
  cases hs:cE c t r with
  | more ts=>exact c6 S hc n ts (rN hc G hs)
  | turn ts u=>rfl
theorem e0 (o:Option (List Fm × Tn)):oL (o.map (fun p=>(p.1.map (sh s),p.2)))=((oL o).1.map (sh s),(oL o).2.1,(oL o).2.2):=by
 cases o with
 | none=>rfl
 | some p=>obtain ⟨ts,u⟩:=p;simp [oL]
theorem t0 (S:f2 c d s) (F:jS c t):jS d (sh s t):=by
 have h:=S.fn t.fn F.f0 F.f1
 have:=S.s0;have:=S.len;have:=F.f0;have:=F.f1
 refine ⟨by show 0≤t.fn + s;omega,by show t.fn + s < _;omega,F.p0,?_,?_,F.vv⟩
 ·show t.pc < ((aC d (t.fn + s)).code.length:Int)
  rw [h.2.2.2,List.length_map];exact F.p1
 ·show (t.slots.length:Int)=(aC d (t.fn + s)).slots
  rw [h.2.1];exact F.sl
theorem g3 (S:f2 c d s):∀ {ts:List Fm},(∀ t ∈ ts,0≤t.fn∧t.fn < (c.length:Int))→vA c ts→vA d (ts.map (sh s))
 | [],_,h=>h
 | [t],_,h=>h
 | t::u::r,hf,h=>by
  refine ⟨?_,g3 S (fun v hv=>hf v (List.mem_cons_of_mem _ hv)) h.2⟩
  obtain ⟨g0,g1⟩:=hf u (by simp)
  obtain ⟨l1,l2,l3⟩:=h.1
  unfold SZ
  rw [a9 S g0 g1]
  unfold dIq
  rw [if_pos l1]
  exact ⟨l1,by show (aN c u).b + s=t.fn + s;rw [l2],l3⟩
theorem d3 (S:f2 c d s) (G:eK c ts):eK d (ts.map (sh s)) :=
 ⟨by rw [List.length_map];exact G.n,fun u hu=>by
  obtain ⟨t,ht,rfl⟩:=List.mem_map.1 hu
  exact t0 S (G.fr t ht),g3 S (fun t ht=>⟨(G.fr t ht).f0,(G.fr t ht).f1⟩) G.ch⟩
theorem s3 (S:f2 c d s) (R:N1 c ts):N1 d (ts.map (sh s)) :=
 ⟨d3 S R.g,fun t' r' e=>by
  cases ts with
  | nil=>cases e
  | cons t r =>
   cases e
   obtain ⟨h1,h2⟩:=R.top t r rfl
   have F:=R.g.top
   rw [a9 S F.f0 F.f1,hD (by rw [h1];decide),hK S F.f0 F.f1]
   exact ⟨h1,h2⟩⟩
theorem t1 (S:f2 c d s) (h1:cC c=0) (h2:cC d=0) (R:N1 c ts) {a:An}:v6 d (ts.reverse.map (sh s)) a=((v6 c ts.reverse a).1.map (sh s),(v6 c ts.reverse a).2.1,(v6 c ts.reverse a).2.2):=by
 have hc:=eL h1
 have hd:=eL h2
 have g1:=aAp R
 have g2:=aAp (s3 S R)
 rw [← List.map_reverse] at g2
 unfold v6
 rw [if_neg (show ¬ cC d≠0 by simpa using h2),if_neg (show ¬ d9 d (List.map (sh s) ts.reverse)=false by rw [g2];simp),if_neg (show ¬ cC c≠0 by simpa using h1),if_neg (show ¬ d9 c ts.reverse=false by rw [g1];simp)]
 rw [← List.map_reverse,List.reverse_reverse]
 cases ts with
 | nil=>cases R.g.ch
 | cons t r =>
  have F:=R.g.top
  have h10:=(R.top t r rfl).1
  show iG d (sh s t) (r.map (sh s)) a=((iG c t r a).1.map (sh s),(iG c t r a).2.1,(iG c t r a).2.2)
  have ei:aN d (sh s t)=aN c t:=by rw [a9 S F.f0 F.f1,hD (by rw [h10];decide)]
  unfold iG
  rw [ei,hM S F.f0 F.f1]
  by_cases hF:i3 (bX c t (aN c t)) a≠0
  ·rw [if_pos hF,if_pos hF];rfl
  rw [if_neg hF,if_neg hF]
  have hfo:=(xG (fun _=>aAo hc F) hF).2.1
  by_cases hN:dO a.f=false
  ·rw [if_pos hN,if_pos hN]
   have hRG:=pH hc hfo _ R.g.n R.g.fr (.inr R.g.ch)
   have er:cT d a.f (sh s t::r.map (sh s))=(cT c a.f (t::r)).map (sh s):=a6 S (fun u hu=>⟨(R.g.fr u hu).f0,(R.g.fr u hu).f1⟩) (ts:=t::r)
   rw [er]
   by_cases hE:cT c a.f (t::r)=[]
   ·rw [if_pos hE,if_pos (by rw [hE];rfl)];rfl
   ·rw [if_neg hE,if_neg (by simpa using hE)]
    have G2q:=hRG.resolve_left hE
    rw [s7 hc G2q,s7 hd (d3 S G2q),c6 S hc _ _ G2q,e0]
  ·rw [if_neg hN,if_neg hN]
   have G2q:=aAk hc R hF
   have e:dS (iV (sh s t) (aN c t) a)::r.map (sh s)=(dS (iV t (aN c t) a)::r).map (sh s):=by
    simp only [List.map_cons,List.cons.injEq,and_true]
    unfold iV
    simp only
    split <;> split <;> rfl
   rw [e,s7 hc G2q,s7 hd (d3 S G2q),c6 S hc _ _ G2q,e0]
end
section
variable {c d:List Fc} {s:Int}
theorem j1 {p:List Fm × Tn × Int} (h:aAl c p) (h0:p.2.2=0) (hd:p.2.1.done=false):∃ ts,p.1=ts.reverse∧N1 c ts:=by
 rcases h with ⟨h1,_⟩ | ⟨_,ts,h2,h3⟩
 ·exact absurd h0 h1
 ·rcases h3 with ⟨_,v,f,h4,_⟩ | ⟨t,r,e,_,R⟩
  ·rw [h4] at hd;cases hd
  ·exact ⟨ts,h2,R⟩
theorem hI (S:f2 c d s) (h1:cC c=0) (h2:cC d=0):∀ (bs:List An) (fs:List Fm) (t:Tn),(t.done=false→∃ ts,fs=ts.reverse∧N1 c ts)→aAa d bs (fs.map (sh s)) t=aAa c bs fs t
 | [],_,_,_=>rfl
 | a::bs,fs,t,h=>by
  unfold aAa
  by_cases hd:t.done=true
  ·rw [if_pos hd,if_pos hd]
  rw [if_neg hd,if_neg hd]
  obtain ⟨ts,rfl,R⟩:=h (by simpa using hd)
  have e:=t1 S h1 h2 R (a:=a)
  have hgo:=@aAG c ts.reverse a h1
  rw [e]
  revert hgo
  generalize v6 c ts.reverse a=p
  intro hgo
  simp only
  by_cases h3:p.2.2≠0
  ·rw [if_pos h3,if_pos h3]
  rw [if_neg h3,if_neg h3]
  rw [hI S h1 h2 bs p.1 p.2.1 (fun hd=>j1 hgo (Decidable.not_not.1 h3) hd)]
theorem hJ (S:f2 c d s) {fn:Int} {args:List Va} (h0:0≤fn) (h1:fn < (c.length:Int)):lT d (fn + s) args=lT c fn args:=by
 have:=S.s0;have:=S.len
 unfold lT
 rw [(S.fn fn h0 h1).1,decide_eq_true (show fn + s≥0 by omega),decide_eq_true (show fn + s < (d.length:Int) by omega),decide_eq_true (show fn≥0 by omega),decide_eq_true h1]
theorem k6 (S:f2 c d s) (h1:cC c=0) (h2:cC d=0) {fn:Int} {args:List Va} (g0:0≤fn) (g1:fn < (c.length:Int)):mB d (fn + s) args=((mB c fn args).1.map (sh s),(mB c fn args).2.1,(mB c fn args).2.2):=by
 rw [KC h1,KC h2]
 unfold mP
 rw [hJ S g0 g1]
 cases hq:lT c fn args with
 | false=>rw [if_pos rfl,if_pos rfl];rfl
 | true =>
  rw [if_neg (by simp),if_neg (by simp)]
  have hc:=eL h1
  have G:=sE hc hq
  have:=c6 S hc 20000 _ G
  simp only [List.map_cons,List.map_nil] at this
  rw [f5 S g0 g1,this,e0]
theorem j2 (S:f2 c d s) (h1:cC c=0) (h2:cC d=0) {fn:Int} {args:List Va} {bs:List An} (g0:0≤fn) (g1:fn < (c.length:Int)):aAc d (fn + s) args bs=aAc c fn args bs:=by
 unfold aAc
 rw [if_neg (show ¬ cC d≠0 by simpa using h2),if_neg (show ¬ cC c≠0 by simpa using h1),hJ S g0 g1,k6 S h1 h2 g0 g1]
 have hO:=@aAf c fn args h1
 revert hO
 generalize mB c fn args=p
 intro hO
 simp only
 split
 ·rfl
 split
 ·rfl
 ·rename_i h3
  split
  ·rfl
  ·exact hI S h1 h2 bs p.1 p.2.1 (fun hd=>j1 hO (Decidable.not_not.1 h3) hd)
end
def p4 (n:Int) (f:Fc):Fc:=⟨⟨f.name.data++#[122]⟩,f.params,f.slots,f.code.map (dIq n),f.guards⟩
def a3 (c:List Fc):List Fc:=c++c.map (p4 c.length)
theorem o2 (x:In):dIq 0 x=x:=by
 unfold dIq
 split
 ·rw [Int.add_zero]
 ·rfl
theorem o1 (c:List Fc):f2 c (a3 c) 0:=⟨Int.le_refl _,by simp [a3];omega,fun n h0 h1=>by
 have e:aC (a3 c) (n + 0)=aC c n:=by
  unfold aC a3
  rw [List.getD_eq_getElem?_getD,List.getD_eq_getElem?_getD,Int.add_zero,List.getElem?_append_left (by omega)]
 rw [e]
 refine ⟨rfl,rfl,rfl,?_⟩
 rw [show dIq 0=id from funext o2,List.map_id]⟩
theorem s2 (c:List Fc):f2 c (a3 c) c.length:=⟨by omega,by simp [a3],fun n h0 h1=>by
 have e:aC (a3 c) (n + (c.length:Int))=p4 c.length (aC c n):=by
  unfold aC a3
  rw [List.getD_eq_getElem?_getD,List.getD_eq_getElem?_getD,List.getElem?_append_right (by omega),List.getElem?_map,show (n + (c.length:Int)).toNat - c.length=n.toNat by omega]
  rw [List.getElem?_eq_getElem (show n.toNat < c.length by omega)]
  rfl
 rw [e]
 exact ⟨rfl,rfl,rfl,rfl⟩⟩
end Go.Ab
namespace Go.Ab
open Go Go.Ab.Tryz Go.Proofs
theorem hT {σ:aA} {n:Nat} (hn:σ.length=n) (c:List Fc) (hc:dR c) (hB:∀ f ∈ c,∀ x ∈ f.code,x.l.length * 8≤140737488351232) :
  aB Tryz.prog 33 [.agg [bC c]] σ (fun r s=>r = .agg [.arr (n + 5)]∧s=σ++[some (.box 24 [bC c]),some (.box 24 [.arr (n + 5)]),some (.box 24 [.arr (n + 5)]),none,none,some (.arr 77 (aO (c.map Fc.enc)))]):=by
 subst hn
 have e:bL [] σ.length 5=σ.length + 5:=by simp [bL,Nat.add_comm]
 refine aB.shiftR (hX c hc hB) rfl ⟨?_,?_⟩
 ·show DV.agg [DV.arr (bL [] σ.length 5)]=_
  rw [e]
 ·simp only [List.map_cons,List.map_nil,Option.map_some,Option.map_none]
  rw [show (aU.arr 77 (aO (c.map Fc.enc))).ren (bL [] σ.length) = .arr 77 (aO (c.map Fc.enc)) from lH]
  show σ++[some (aU.box 24 [bC c]),some (aU.box 24 [DV.arr (bL [] σ.length 5)]),some (aU.box 24 [DV.arr (bL [] σ.length 5)]),none,none,_]=_
  rw [e]
theorem hY {σ:aA} {n:Nat} (hn:σ.length=n) (c:List Fc) (hc:dR c) (hB:∀ f ∈ c,∀ x ∈ f.code,x.l.length * 8≤140737488351232) :
  aB Tryz.prog 33 [.agg [bC c]] σ (fun r s=>r = .agg [.arr (n + 6)]∧∃ gq:List (Value × Fc),gq.map (·.2)=c.reverse∧s=σ++[some (.box 24 [bC c]),some (.box 24 [.arr (n + 6)]),some (.box 24 [.arr (n + 6)]),none,none,some (bS Tryz.prog 80 (gq.map t2)),some (.arr 77 (aO (a1 gq)))]):=by
 subst hn
 have e:bL [] σ.length 6=σ.length + 6:=by simp [bL,Nat.add_comm]
 refine aB.shift (h6 c hc hB) rfl fun r0 σ0 ⟨h1,gq,h2,h3⟩=>?_
 subst h1 h3
 refine ⟨?_,gq,h2,?_⟩
 ·show DV.agg [DV.arr (bL [] σ.length 6)]=_
  rw [e]
 ·simp only [List.map_cons,List.map_nil,Option.map_some,Option.map_none]
  rw [show (aU.arr 77 (aO (a1 gq))).ren (bL [] σ.length) = .arr 77 (aO (a1 gq)) from lH]
  show σ++[some (aU.box 24 [bC c]),some (aU.box 24 [DV.arr (bL [] σ.length 6)]),some (aU.box 24 [DV.arr (bL [] σ.length 6)]),none,none,some (bS Tryz.prog 80 (gq.map t2)),_]=_
  rw [e]
theorem n2 {c:List Fc} {gq:List (Value × Fc)} (h:gq.map (·.2)=c.reverse) {i:Nat} (hi:i < c.length):∃ w l',(aO (a1 gq))[i]? = some ((s5 (w,aC c (i:Int))).map .d)∧(gq.map t2).Perm ((w,(aC c (i:Int)).code.map In.enc)::l'):=by
 have hl:gq.length=c.length:=by have:=congrArg List.length h;simpa using this
 have hj:c.length - 1 - i < gq.length:=by omega
 obtain ⟨⟨w,f⟩,hg⟩:∃ g,gq[c.length - 1 - i]? = some g:=⟨_,List.getElem?_eq_getElem hj⟩
 have hf:f=aC c (i:Int):=by
  have:=congrArg (fun l=>l[c.length - 1 - i]?) h
  simp only [List.getElem?_map,hg,Option.map_some] at this
  rw [List.getElem?_reverse aI,show c.length - 1 - (c.length - 1 - i)=i by omega,List.getElem?_eq_getElem hi] at this
  rw [bK hi]
  exact Option.some.inj this
 subst hf
 obtain ⟨l1,l2,rfl,hl1⟩:∃ l1 l2,gq=l1++(w,aC c (i:Int))::l2∧l1.length=c.length - 1 - i:=by
  refine ⟨gq.take (c.length - 1 - i),gq.drop (c.length - 1 - i + 1),?_,by simp;omega⟩
  have h1:=(List.getElem?_eq_some_iff.1 hg).2
  rw [← h1,← List.drop_eq_getElem_cons hj,List.take_append_drop]
 refine ⟨w,(l1++l2).map t2,?_,?_⟩
 ·have e:(aO (a1 (l1++(w,aC c (i:Int))::l2)))[i]? = (a1 (l1++(w,aC c (i:Int))::l2))[i]?.map (fun r=>r.map .d):=by simp [aO]
  rw [e]
  unfold a1
  rw [List.getElem?_reverse (by simp at hl ⊢;omega)]
  simp only [List.length_map]
  rw [show (l1++(w,aC c (i:Int))::l2).length - 1 - i=l1.length by omega]
  simp
 ·simp only [List.map_append,List.map_cons]
  exact List.perm_middle
theorem r3 (x:Cs) (hr:fX x.c=false):bY Tryz.prog 7 [x.dv] (bv true):=by
 have h3:=oP x.c
 rw [hr] at h3
 refine of_body Tryz.func7 rfl rfl (nB rfl) ?_
 rw [Tryz.ntmps7]
 repeat' (first | ((with_reducible refine kw ?_);first | refine Wg ?_ | refine W0 ?_ | refine W1 ?_ | refine W2 ?_ | refine W3 ?_ | refine W6 ?_ | refine WK ?_ | refine bJ ?_ | (refine aJ ?_;first | refine bB rfl rfl rfl rfl ((aB.borrowE (R':=fun r=>∃ b,r=bv b) (qU x.c) (.cons (.agg (.cons .d .nil)) .nil) (fun r σ0 h=>⟨r,by obtain ⟨⟨b,rfl⟩,_⟩:=h;exact Fr.sc _,h.1⟩)).mono ?_) | refine tD p8 ?_ | refine tD (LK x) ?_ | refine tD h3 ?_) | refine wR ?_ | refine W14 ?_ | refine W15 ?_ | (refine aE ?_;refine q8 ?_) | refine eT ?_ | refine gQ ?_ | refine iZ ?_ | refine gZ ?_ | refine W23 ?_ | refine W24 ?_ | refine W25 ?_ | refine cW ?_ | refine dH ?_ | refine KS ?_ | refine W48 ?_ | refine W49 ?_) | refine nP cN ?_ | refine pX cN ?_ | (refine nP (by with_reducible assumption) ?_;first | rw [hb0] | rw [hb1]) | (refine pX (by first | exact hb0 | exact hb1) ?_;first | rw [hb0] | rw [hb1]) | refine GX ?_ | (refine bW (fun hb=>?_) (fun hb=>?_) <;> rw [hb]) | refine GN ?_ | (with_reducible refine T4 ?_) | ((with_reducible refine kQ ?_);refine kP rfl ?_) | ((with_reducible refine kd ?_);first | refine D0 ?_ | refine D1 ?_ | refine D2 ?_ | refine D3 ?_ | refine D6 ?_ | refine D11 ?_ | refine YZ ?_ | refine D14 ?_ | refine D15 ?_ | (refine aV ?_;refine BW ?_)) | ((with_reducible refine ka ?_);((with_reducible refine i5 4 ?_);refine a4 ?_)) | refine GA ?_ | refine GG ?_ | refine qG cN ?_ | refine qF cN ?_ | refine nP cN ?_ | refine pX cN ?_ | (refine cJ (fun hb=>?_) (fun hb=>?_) <;> try rw [hb]) | ((with_reducible refine kf ?_);refine aP 0 Tryz.results7 rfl rfl rfl ?_) | refine GR ?_ | ((with_reducible refine kr ?_);refine aG rfl ?_) | (rintro _ _ ⟨⟨b,rfl⟩,rfl⟩) | refine GO ?_ ?_ | exact GB | fail)
 all_goals first | rfl | skip
theorem sO (x:Cs) (hr:fX x.c=true) (hn:8 < x.c.length):bY Tryz.prog 7 [x.dv] (bv true):=by
 have h3:=oP x.c
 rw [hr] at h3
 have hb1:decide ((x.c.length:Int) > 8)=true:=decide_eq_true aI
 have hb2:decide (8 < (x.c.length:Int))=true:=decide_eq_true aI
 refine of_body Tryz.func7 rfl rfl (nB rfl) ?_
 rw [Tryz.ntmps7]
 repeat' (first | ((with_reducible refine kw ?_);first | refine Wg ?_ | refine W0 ?_ | refine W1 ?_ | refine W2 ?_ | refine W3 ?_ | refine W6 ?_ | refine WK ?_ | refine bJ ?_ | (refine aJ ?_;first | refine bB rfl rfl rfl rfl ((aB.borrowE (R':=fun r=>∃ b,r=bv b) (qU x.c) (.cons (.agg (.cons .d .nil)) .nil) (fun r σ0 h=>⟨r,by obtain ⟨⟨b,rfl⟩,_⟩:=h;exact Fr.sc _,h.1⟩)).mono ?_) | refine tD p8 ?_ | refine tD (LK x) ?_ | refine tD h3 ?_) | refine wR ?_ | refine W14 ?_ | refine W15 ?_ | (refine aE ?_;refine q8 ?_) | refine eT ?_ | refine gQ ?_ | refine iZ ?_ | refine gZ ?_ | refine W23 ?_ | refine W24 ?_ | refine W25 ?_ | refine cW ?_ | refine dH ?_ | refine KS ?_ | refine W48 ?_ | refine W49 ?_) | refine nP cN ?_ | refine pX cN ?_ | (refine nP (by with_reducible assumption) ?_;first | rw [hb0] | rw [hb1]) | (refine pX (by first | exact hb0 | exact hb1) ?_;first | rw [hb0] | rw [hb1]) | refine GX ?_ | (refine bW (fun hb=>?_) (fun hb=>?_) <;> rw [hb]) | refine GN ?_ | (with_reducible refine T4 ?_) | ((with_reducible refine kQ ?_);refine kP rfl ?_) | ((with_reducible refine kd ?_);first | refine D0 ?_ | refine D1 ?_ | refine D2 ?_ | refine D3 ?_ | refine D6 ?_ | refine D11 ?_ | refine YZ ?_ | refine D14 ?_ | refine D15 ?_ | (refine aV ?_;refine BW ?_)) | ((with_reducible refine ka ?_);((with_reducible refine i5 4 ?_);refine a4 ?_)) | refine GA ?_ | refine GG ?_ | refine qG cN ?_ | refine qF cN ?_ | refine nP cN ?_ | refine pX cN ?_ | (refine cJ (fun hb=>?_) (fun hb=>?_) <;> try rw [hb]) | ((with_reducible refine kf ?_);refine aP 0 Tryz.results7 rfl rfl rfl ?_) | refine GR ?_ | ((with_reducible refine kr ?_);refine aG rfl ?_) | (rintro _ _ ⟨⟨b,rfl⟩,rfl⟩) | refine GO ?_ ?_ | exact GB | fail)
 all_goals first | rfl | skip
end Go.Ab
