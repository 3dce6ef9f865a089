import Derived.Test.YtdeikigmgdnojaaGreatDoorA29
/- A part of the proof of one law. -/
set_option maxRecDepth 100000
set_option maxHeartbeats 8000000
set_option linter.unusedVariables false
set_option linter.unusedSimpArgs false
namespace Go.Ab
open Go Go.Ab.Tryz Go.Proofs
section
variable {P:Program} {σ:aA} {e:aW} {J:aW→aA→Prop}
theorem qP (k:Nat) {o:aU} (hk:σ.look k=some o) (h:J e (σ.put k none)):SC P e σ J :=
 kL (α:=Unit) (S:=fun _=>σ.put k none) (E:=fun _=>e) (fun X ι w hh=>by
  have hlook:∀ j,(σ.put k none).look j=if j=k then none else σ.look j:=aM hk
  have hb:∀ {j:Nat} {o:aU},(σ.put k none).look j=some o→σ.look j=some o:=fun {j o} hj=>by
   rw [hlook] at hj
   split at hj
   ·cases hj
   ·exact hj
  refine ⟨(),ι,Comes'.regroup hh (fun _ _ h=>h) (fun id hid=>hh.fresh id (by rw [bV hk] at hid;exact hid)) (fun id o hid => .inl (hb hid)) (fun b ⟨j,o,u,g1,g2,g3⟩=>⟨j,o,u,hb g1,g2,g3⟩) (fun id id' o o' u u' b g1 g2 g3 g4 g5 g6=>hh.inj id id' o o' u u' b (hb g1) (hb g2) g3 g4 g5 g6),fun _ _=>rfl,iM (fun _ _ h=>h)⟩) (fun _=>Nat.le_of_eq (bV hk).symm) (fun _=>h)
end
abbrev Fm.dv (t:Fm):DV := .agg [iv t.fn,iv t.pc,iv t.to,lv (t.slots.map Va.enc)]
theorem nN {P:Program} {σ:aA} {id:Nat} {el:TypeId} {ss:List Va} (h:σ.look id=some (.arr el (aS ss))):cA P σ (.arr id) (lv (ss.map Va.enc)):=by
 refine cA.arr h (by simp [aS,aO]) (fun i e he=>?_)
 simp only [aS,aO,List.getElem?_map] at he
 obtain ⟨r,hr,rfl⟩:=Option.map_eq_some_iff.1 he
 exact ⟨r,by rw [List.getElem?_map];exact hr,kO r⟩
theorem vN (t:Fm) (l:List Int) (hl:l.length≤1000) (hk:∀ i:Nat,i < l.length→0≤aC l (i:Int)∧aC l (i:Int) < (t.slots.length:Int)) :
  aB Tryz.prog 60 [t.dv,lv (uS l)] [] (fun r s=>r = .arr 3∧s=[none,none,none,some (.arr 35 (aS (aY t l)))]):=by
 refine fW Tryz.func60 rfl rfl (nB rfl) ?_
 rw [Tryz.ntmps60]
 repeat' (first | ((with_reducible refine kw ?_);first | refine W0 ?_ | refine W6 ?_ | refine bJ ?_ | refine gZ ?_ | refine cW ?_) | refine GN ?_ | ((with_reducible refine kd ?_);first | refine D0 ?_ | refine D1 ?_ | refine D2 ?_ | refine D3 ?_ | refine iY ?_ | refine YZ ?_ | refine Y0 ?_) | refine GA ?_ | refine GG ?_ | (refine cJ (fun hb=>?_) (fun hb=>?_) <;> try rw [hb]) | ((with_reducible refine tO ?_);refine j7 Tryz.results60 rfl ?_) | refine GS ?_ | fail)
 refine dB (kK 35 ?_)
 refine dB (DS 5 35 rfl ?_)
 refine dB (qR 5 (m:=1) (s:=[]) rfl rfl rfl rfl fun u=>?_)
 refine cF [1,2,5,6] rfl ?_
 refine jY 3 (n:=_) (fun n e σ=>∃ (i:Nat) (m:Int) (u:Value),n=l.length - i∧(m=i∧i≤l.length)∧e=[(1,_),(2,_),(5,.d (.sc u)),(6,iv m)]∧σ=[_,some (bS Tryz.prog 35 [(u,(aY t (l.take i)).map Va.enc)]),none]) rfl ⟨0,0,u,rfl,⟨rfl,Nat.zero_le _⟩,rfl,rfl⟩ ?_
 rintro n e σ ⟨i,m,u,rfl,⟨rfl,hi⟩,rfl,rfl⟩
 have hlen:=hl
 refine dB (wK 5 (m:=1) rfl hP rfl ?_)
 repeat' (first | ((with_reducible refine kw ?_);first | refine W0 ?_ | refine W6 ?_ | refine bJ ?_ | refine gZ ?_ | refine cW ?_) | refine GN ?_ | ((with_reducible refine kd ?_);first | refine D0 ?_ | refine D1 ?_ | refine D2 ?_ | refine D3 ?_ | refine iY ?_ | (refine c7 ?_;refine dC (aF (el rfl) rfl rfl (hk i V0).1 (hk i V0).2 ⟨rfl,by decide⟩) rfl rfl rfl rfl ?_) | refine YZ ?_ | refine Y0 ?_ | (refine LW ?_;refine TE (fY (el rfl) (sl rfl) rfl rfl rfl (ap rfl) (mM rfl rfl) (iI eS) (g7 (by simp [aO,aY];omega) cN)) rfl rfl rfl rfl rfl ?_)) | ((with_reducible refine ka ?_);((with_reducible refine i5 6 ?_);refine dB (qP 0 rfl ?_);refine dB (qP 1 rfl ?_);refine fI ?_)) | refine GA ?_ | refine GG ?_ | (refine cJ (fun hb=>?_) (fun hb=>?_) <;> try rw [hb]) | ((with_reducible refine tO ?_);refine j7 Tryz.results60 rfl ?_) | refine GS ?_ | fail)
 all_goals first
  | (have hlt:=oT hb;refine gE (qR 5 (m:=1) (s:=(aY t (l.take (i + 1))).map Va.enc) rfl rfl (AN aI) rfl fun u2=>?_);refine gE (jM [1,2,5,6] rfl ?_);refine gU 3 rfl rfl rfl ?_;refine gT ⟨_,?_,i + 1,_,u2,rfl,⟨aL aI aI,by omega⟩,rfl,rfl⟩;omega)
  | (have hge:=oF hb;have e:i=l.length:=aI;subst e;rw [List.take_length];exact ⟨rfl,rfl⟩)
  | skip
theorem sP (t:Fm) (k:Int) (h0:0≤k) (h1:k < (t.slots.length:Int)) :
  bY Tryz.prog 61 [t.dv,iv k] (.tup [iv (aD t k).n,bv (decide ((aD t k).k=1))]):=by
 refine of_body Tryz.func61 rfl rfl (nB rfl) ?_
 rw [Tryz.ntmps61]
 repeat' (first | ((with_reducible refine kw ?_);first | refine bJ ?_ | refine cW ?_) | refine GN ?_ | ((with_reducible refine kd ?_);first | refine D0 ?_ | refine D1 ?_ | refine D2 ?_ | refine D6 ?_ | refine iY ?_ | (refine c7 ?_;refine SH ?_)) | refine GA ?_ | refine GG ?_ | ((with_reducible refine kf ?_);refine aP 0 Tryz.results61 rfl rfl rfl ?_) | refine GR ?_ | ((with_reducible refine kr ?_);refine aG rfl ?_) | fail)
 all_goals rfl
theorem AD (t:Fm) (k:Int) (h0:0≤k) (h1:k + 1 < (t.slots.length:Int)) (h2:(t.slots.length:Int)≤200):bY Tryz.prog 62 [t.dv,iv k] (.tup [(dJ t k).dv,bv (cS t k)]):=by
 have hw:IntKind.i64.wrap (k + 1)=k + 1:=aL aI aI
 have h3:k < (t.slots.length:Int):=by omega
 have h4:0≤IntKind.i64.wrap (k + 1):=by omega
 have h5:IntKind.i64.wrap (k + 1) < (t.slots.length:Int):=by omega
 refine of_body Tryz.func62 rfl rfl (nB rfl) ?_
 rw [Tryz.ntmps62]
 repeat' (first | ((with_reducible refine kw ?_);first | refine W1 ?_ | refine W2 ?_ | refine bJ ?_ | (refine aE ?_;refine q8 ?_) | refine cW ?_ | refine dH ?_ | refine eV ?_) | refine GN ?_ | refine GD ?_ | (refine kX (fun hb=>?_) (fun hb=>?_) <;> rw [hb]) | ((with_reducible refine kd ?_);first | refine D0 ?_ | refine D1 ?_ | refine D2 ?_ | refine D3 ?_ | refine D6 ?_ | refine iY ?_ | (refine bM ?_;refine dD (AP _ _) ?_) | (refine c7 ?_;refine SH ?_) | (refine aV ?_;refine BW ?_) | refine uF ?_ | refine pZ ?_) | refine GA ?_ | refine GG ?_ | ((with_reducible refine kf ?_);refine aP 0 Tryz.results62 rfl rfl rfl ?_) | refine GR ?_ | ((with_reducible refine kr ?_);refine aG rfl ?_) | fail)
 all_goals (generalize hm:IntKind.i64.wrap (k + 1)=m at *;obtain rfl:m=k + 1:=hw)
 all_goals first
  | (have g1:(aD t k).k=1:=oT ‹decide ((aC t.slots k).k=1)=true›;have g3:(aD t (k + 1)).k=3:=oT ‹decide ((aC t.slots (k + 1)).k=3)=true›;have e:cS t k=gW (dJ t k).k (dJ t k).t:=(by simp [cS,g1,g3]);rw [e];rfl)
  | (have g1:(aD t k).k=1:=oT ‹decide ((aC t.slots k).k=1)=true›;have g3:¬ (aD t (k + 1)).k=3:=oF ‹decide ((aC t.slots (k + 1)).k=3)=false›;have e:cS t k=false:=(by simp [cS,g1,g3]);rw [e];rfl)
  | (have g1:¬ (aD t k).k=1:=oF ‹decide ((aC t.slots k).k=1)=false›;have e:cS t k=false:=(by simp [cS,g1]);rw [e];rfl)
theorem JX (t:Fm) (x:In) (F:wO t x):bY Tryz.prog 64 [t.dv,x.dv] (.tup [.agg ((lA t x).enc.map .d),bv (l8 t x)]):=by
 refine of_body Tryz.func64 rfl rfl (nB rfl) ?_
 rw [Tryz.ntmps64]
 repeat' (first | ((with_reducible refine kw ?_);first | refine W0 ?_ | refine W1 ?_ | refine W2 ?_ | refine W3 ?_ | refine W6 ?_ | refine bJ ?_ | (refine aE ?_;refine q8 ?_) | refine cW ?_ | refine dH ?_ | refine eV ?_) | refine GN ?_ | ((with_reducible refine kd ?_);first | refine D0 ?_ | refine D1 ?_ | refine D2 ?_ | refine D3 ?_ | refine iY ?_ | (refine bM ?_;refine eM [] rfl rfl rfl rfl (fun σ2 _=>bY.at (sP t (aC x.l 0) (F.k 0 (by have:=F.l0;omega)).1 (F.k 0 (by have:=F.l0;omega)).2) rfl rfl ⟨rfl,rfl⟩) rfl ?_) | (refine c7 ?_;first | refine dC (aF (el rfl) rfl rfl cN F.l0 ⟨rfl,by decide⟩) rfl rfl rfl rfl ?_ | refine dC (aF (el rfl) rfl rfl cN (F.l1 (oT ‹decide (x.a=2)=true›)) ⟨rfl,by decide⟩) rfl rfl rfl rfl ?_ | refine dC (aF (el rfl) rfl rfl (F.k 0 (by have:=F.l0;omega)).1 (F.k 0 (by have:=F.l0;omega)).2 ⟨rfl,by decide⟩) rfl rfl rfl rfl ?_ | refine dC (aF (el rfl) rfl rfl (F.k 1 (by have:=(F.l1 (oT ‹decide (x.a=2)=true›));omega)).1 (F.k 1 (by have:=(F.l1 (oT ‹decide (x.a=2)=true›));omega)).2 ⟨rfl,by decide⟩) rfl rfl rfl rfl ?_) | (refine aV ?_;refine BW ?_) | refine wP ?_) | refine GA ?_ | refine GG ?_ | (refine cJ (fun hb=>?_) (fun hb=>?_) <;> try rw [hb]) | ((with_reducible refine kf ?_);refine aP 0 Tryz.results64 rfl rfl rfl ?_) | refine GR ?_ | ((with_reducible refine kr ?_);refine aG rfl ?_) | fail)
 all_goals first
  | (have h3:=oT ‹decide (x.a=3)=true›;have e1:lA t x=⟨x.a,g9,g9,(aD t (aC x.l 0)).n⟩:=(by simp [lA,h3]);have e2:l8 t x=decide ((aD t (aC x.l 0)).k=1):=(by simp [l8,h3]);rw [e1,e2];rfl)
  | (have h3:=oF ‹decide (x.a=3)=false›;have h2:=oT ‹decide (x.a=2)=true›;have e1:lA t x=⟨x.a,aD t (aC x.l 0),aD t (aC x.l 1),0⟩:=(by simp [lA,h2]);have e2:l8 t x=true:=(by simp [l8,h3]);rw [e1,e2];rfl)
  | (have h3:=oF ‹decide (x.a=3)=false›;have h2:=oF ‹decide (x.a=2)=false›;have e1:lA t x=⟨x.a,aD t (aC x.l 0),g9,0⟩:=(by simp [lA,h2,h3]);have e2:l8 t x=true:=(by simp [l8,h3]);rw [e1,e2];rfl)
theorem JZ (c:List Fc) (fn tt:Int) (args:List Va) (hf0:0≤fn) (hf1:fn < (c.length:Int)) (hs0:0≤(aC c fn).slots) (hs1:(aC c fn).slots≤200) (hle:args.length≤(aC c fn).slots.toNat) :
  aB Tryz.prog 51 [.agg [bC c],iv fn,iv tt,lv (args.map Va.enc)] [] (fun r σ'=>r = .agg (iD (eW c fn tt args) (.arr 2))∧σ'=[some (.box 24 [bC c]),some (.box 63 (iD (eW c fn tt args) (.arr 2))),some (.arr 35 (aS (eW c fn tt args).slots))]):=by
 refine fW Tryz.func51 rfl rfl (nB rfl) ?_
 rw [Tryz.ntmps51]
 repeat' (first | ((with_reducible refine kw ?_);first | refine W0 ?_ | refine W1 ?_ | refine W2 ?_ | refine bJ ?_ | (refine fO ?_;refine cK (aF (el rfl) rfl rfl hf0 hf1 ⟨rfl,by decide⟩) rfl rfl ?_) | (refine aE ?_;refine q8 ?_) | refine cW ?_ | refine dH ?_ | refine eV ?_ | (refine NO ?_;refine cK (SA (el rfl) rfl rfl (WY rfl) (zr rfl) hs0 (Int.le_refl _) aI (by unfold gY;omega) rfl rfl) rfl rfl ?_) | (refine cK (HT (el rfl) rfl rfl rfl hle rfl) rfl rfl ?_)) | refine GA ?_ | refine GG ?_ | ((with_reducible refine tO ?_);refine j7 Tryz.results51 rfl ?_) | refine GS ?_ | fail)
 all_goals exact ⟨rfl,rfl⟩
theorem zF {l:List In} {a:Nat} (ha:a≤l.length):(d5 l a).length=a - gA l a:=by
 have:=n7 l a
 simp [d5];omega
theorem IF {l:List In} {a i:Nat} (ha:a≤l.length) (h:i < (d5 l a).length):aC (d5 l a) (i:Int)=aC l ((a:Int) - ((d5 l a).length - i:Int)):=by
 have h1:=n7 l a
 have h2:=zF ha
 rw [h2] at h
 have e:(a:Int) - ((d5 l a).length - i:Int)=((gA l a + i:Nat):Int):=by omega
 rw [e,bK (by rw [h2];exact h),bK aI]
 simp [d5]
theorem eP {σ:aA} (a:Ak) (h1:a.args=[]) (h2:a.arms=[]) (b:Bool):Fr σ (.tup [Ak.dv a,bv b]) (.tup [Ak.dv a,bv b]):=by
 obtain ⟨k,n,m,v,w,fn,args,arms,f⟩:=a
 simp only at h1 h2
 subst h1 h2
 exact .tup (.cons (.agg (.cons (.sc _) (.cons (.sc _) (.cons (.sc _) (.cons (.sc _) (.cons (.sc _) (.cons (.sc _) (.cons (.sc _) (.cons (.sc _) (.cons (.sc _) (.cons (.sc _) (.cons .emp (.cons .emp (.cons (.sc _) (.cons (.sc _) .nil))))))))))))))) (.cons (.sc _) .nil))
theorem yB {σ:aA} {n:Nat} (hn:σ.length=n) (t:Fm) (l:List Int) (hl:l.length≤1000) (hk:∀ i:Nat,i < l.length→0≤aC l (i:Int)∧aC l (i:Int) < (t.slots.length:Int)) :
  aB Tryz.prog 60 [t.dv,lv (uS l)] σ (fun r s=>r = .arr (n + 3)∧s=σ++[none,none,none,some (.arr 35 (aS (aY t l)))]):=by
 subst hn
 refine aB.shiftR (vN t l hl hk) rfl ⟨?_,?_⟩
 ·show DV.arr (bL [] σ.length 3)=_
  simp [bL,Nat.add_comm]
 ·simp only [List.map_cons,List.map_nil,Option.map_none,Option.map_some,fL]
theorem BG (c:List Fc) (t:Fm) (a:Nat) (hpa:t.pc=(a:Int)) (hp4:t.pc < 4000) (hf0:0≤t.fn) (hf1:t.fn < (c.length:Int)) (hp0:0≤t.pc) (hp1:t.pc < ((aC c t.fn).code.length:Int)) (x:In) (hx:aN c t=x) (F:oY c t x) :
  aB Tryz.prog 27 [.agg [bC c],t.dv] [] (fun r σ'=>Fr σ' r (.tup [Ak.dv (if bT c t x=true then bX c t x else d6),bv (bT c t x)])):=by
 have ha:a≤(aC c t.fn).code.length:=by omega
 have harms:=x6 (aC c t.fn) a ha
 rw [← hpa] at harms
 have hx2:aC (aC c t.fn).code t.pc=x:=hx
 have hnt:(!true)=false:=rfl
 refine fW Tryz.func27 rfl rfl (nB rfl) ?_
 rw [Tryz.ntmps27]
 repeat' (first | ((with_reducible refine kw ?_);first | refine Wg ?_ | refine W0 ?_ | refine W1 ?_ | (refine f9 ?_;refine cK (iS (ag rfl) (sz rfl) rfl rfl (sz rfl) cN Z0) rfl rfl ?_) | refine W2 ?_ | refine W3 ?_ | refine W2 ?_ | refine W3 ?_ | refine W6 ?_ | refine bJ ?_ | (refine aJ ?_;first | refine bB rfl rfl rfl rfl (aB.ret (yB (n:=6) rfl t x.l F.n F.k) ?_) | refine tD harms ?_) | (refine fO ?_;first | refine cK (aF (el rfl) rfl rfl hf0 hf1 ⟨rfl,by decide⟩) rfl rfl ?_ | refine cK (aF (el rfl) rfl rfl hp0 hp1 ⟨rfl,by decide⟩) rfl rfl ?_ | refine cK (aF (el rfl) rfl rfl cN Z2 ⟨rfl,by decide⟩) rfl rfl ?_ | refine cK (eG (el rfl) rfl rfl rfl (sz rfl) cN Z0) rfl rfl ?_) | (refine aE ?_;refine q8 ?_) | refine eT ?_ | refine gQ ?_ | refine gZ ?_ | refine cW ?_ | refine dH ?_ | refine eV ?_ | refine KS ?_) | refine GX ?_ | (refine bW (fun hb=>?_) (fun hb=>?_) <;> rw [hb]) | refine GN ?_ | ((with_reducible refine kd ?_);first | refine D0 ?_ | refine D1 ?_ | refine D2 ?_ | refine D3 ?_ | refine D2 ?_ | refine D3 ?_ | refine D6 ?_ | refine iY ?_ | (refine bM ?_;first | refine eM [] rfl rfl rfl rfl (fun σ2 _=>bY.at (sP t (aC x.l 0) (F.k 0 Z1).1 (F.k 0 Z1).2) rfl rfl ⟨rfl,rfl⟩) rfl ?_ | refine eM [] rfl rfl rfl rfl (fun σ2 _=>bY.at (AD t (aC x.l 0) (F.k 0 Z1).1 (F.f (oT ‹decide (x.b=17)=true›) (oT ‹decide ((x.l.length:Int) > 0)=true›)) F.s) rfl rfl ⟨rfl,rfl⟩) rfl ?_) | (refine c7 ?_;first | refine dC (aF (el rfl) rfl rfl hf0 hf1 ⟨rfl,by decide⟩) rfl rfl rfl rfl ?_ | refine dC (aF (el rfl) rfl rfl hp0 hp1 ⟨rfl,by decide⟩) rfl rfl rfl rfl ?_ | refine dC (aF (el rfl) rfl rfl cN Z2 ⟨rfl,by decide⟩) rfl rfl rfl rfl ?_ | refine dC (eG (el rfl) rfl rfl rfl (sz rfl) cN Z0) rfl rfl rfl rfl ?_) | (refine aV ?_;refine BW ?_) | refine wP ?_ | refine pZ ?_) | ((with_reducible refine ka ?_);((with_reducible refine i5 3 ?_);rw [hx2];refine fI ?_)) | refine GA ?_ | refine GG ?_ | (refine cJ (fun hb=>?_) (fun hb=>?_) <;> try rw [hb]) | ((with_reducible refine tO ?_);refine j7 Tryz.results27 rfl ?_) | refine GS ?_ | fail)
 all_goals first
  | (have h:=oT ‹decide (x.b=2)=true›;have hq:=‹(!decide ((aD t (aC x.l 0)).k=1))=false›;have hB:bT c t x=true:=NT;have hV:bX c t x={ d6 with kind:=x.b,n:=(aD t (aC x.l 0)).n }:=V2;rw [if_pos hB,hB,hV];exact eP { d6 with kind:=x.b,n:=(aD t (aC x.l 0)).n } rfl rfl true)
  | (have h:=oT ‹decide (x.b=2)=true›;have hq:=‹(!decide ((aD t (aC x.l 0)).k=1))=true›;have hB:bT c t x=false:=NT;rw [if_neg (by rw [hB];simp),hB];exact eP d6 rfl rfl false)
  | (have h:=oT ‹decide (x.b=12)=true›;have hq:=‹(!decide ((aD t (aC x.l 0)).k=1))=false›;have hB:bT c t x=true:=NT;have hV:bX c t x={ d6 with kind:=x.b,n:=(aD t (aC x.l 0)).n }:=V2;rw [if_pos hB,hB,hV];exact eP { d6 with kind:=x.b,n:=(aD t (aC x.l 0)).n } rfl rfl true)
  | (have h:=oT ‹decide (x.b=12)=true›;have hq:=‹(!decide ((aD t (aC x.l 0)).k=1))=true›;have hB:bT c t x=false:=NT;rw [if_neg (by rw [hB];simp),hB];exact eP d6 rfl rfl false)
  | (have h:=oT ‹decide (x.b=20)=true›;have hq:=‹(!decide ((aD t (aC x.l 0)).k=1))=false›;have hB:bT c t x=true:=NT;have hV:bX c t x={ d6 with kind:=x.b,n:=(aD t (aC x.l 0)).n }:=V2;rw [if_pos hB,hB,hV];exact eP { d6 with kind:=x.b,n:=(aD t (aC x.l 0)).n } rfl rfl true)
  | (have h:=oT ‹decide (x.b=20)=true›;have hq:=‹(!decide ((aD t (aC x.l 0)).k=1))=true›;have hB:bT c t x=false:=NT;rw [if_neg (by rw [hB];simp),hB];exact eP d6 rfl rfl false)
  | (have h:=oT ‹decide (x.b=21)=true›;have hq:=‹(!decide ((aD t (aC x.l 0)).k=1))=false›;have hB:bT c t x=true:=NT;have hV:bX c t x={ d6 with kind:=x.b,n:=(aD t (aC x.l 0)).n }:=V2;rw [if_pos hB,hB,hV];exact eP { d6 with kind:=x.b,n:=(aD t (aC x.l 0)).n } rfl rfl true)
  | (have h:=oT ‹decide (x.b=21)=true›;have hq:=‹(!decide ((aD t (aC x.l 0)).k=1))=true›;have hB:bT c t x=false:=NT;rw [if_neg (by rw [hB];simp),hB];exact eP d6 rfl rfl false)
  | (have h:=oT ‹decide (x.b=8)=true›;have hq:=‹(!decide ((aD t (aC x.l 0)).k=1))=false›;have hB:bT c t x=true:=NT;have hV:bX c t x={ d6 with kind:=x.b,n:=(aD t (aC x.l 0)).n,m:=x.c }:=(by unfold bX;rw [if_neg aI,if_pos aI]);rw [if_pos hB,hB,hV];exact eP { d6 with kind:=x.b,n:=(aD t (aC x.l 0)).n,m:=x.c } rfl rfl true)
  | (have h:=oT ‹decide (x.b=8)=true›;have hq:=‹(!decide ((aD t (aC x.l 0)).k=1))=true›;have hB:bT c t x=false:=NT;rw [if_neg (by rw [hB];simp),hB];exact eP d6 rfl rfl false)
  | (have h:=oT ‹decide (x.b=3)=true›;have e0:aC (aY t x.l) 0=aD t (aC x.l 0):=cB cN Z2;have hV:bX c t x={ d6 with kind:=x.b,v:=aC (aY t x.l) 0 }:=GL;have hB:bT c t x=true:=zD;rw [if_pos hB,hB,hV];exact eP { d6 with kind:=x.b,v:=aC (aY t x.l) 0 } rfl rfl true)
  | (have h:=oT ‹decide (x.b=6)=true›;have e0:aC (aY t x.l) 0=aD t (aC x.l 0):=cB cN Z2;have hV:bX c t x={ d6 with kind:=x.b,v:=aC (aY t x.l) 0 }:=GL;have hB:bT c t x=true:=zD;rw [if_pos hB,hB,hV];exact eP { d6 with kind:=x.b,v:=aC (aY t x.l) 0 } rfl rfl true)
  | (have h:=oT ‹decide (x.b=7)=true›;have e0:aC (aY t x.l) 0=aD t (aC x.l 0):=cB cN Z2;have hV:bX c t x={ d6 with kind:=x.b,v:=aC (aY t x.l) 0 }:=GL;have hB:bT c t x=true:=zD;rw [if_pos hB,hB,hV];exact eP { d6 with kind:=x.b,v:=aC (aY t x.l) 0 } rfl rfl true)
  | (have h:=oT ‹decide (x.b=10)=true›;have e0:aC (aY t x.l) 0=aD t (aC x.l 0):=cB cN Z2;have hV:bX c t x={ d6 with kind:=x.b,v:=aC (aY t x.l) 0 }:=GL;have hB:bT c t x=true:=zD;rw [if_pos hB,hB,hV];exact eP { d6 with kind:=x.b,v:=aC (aY t x.l) 0 } rfl rfl true)
  | (have h:=oT ‹decide (x.b=11)=true›;have e0:aC (aY t x.l) 0=aD t (aC x.l 0):=cB cN Z2;have hV:bX c t x={ d6 with kind:=x.b,v:=aC (aY t x.l) 0 }:=GL;have hB:bT c t x=true:=zD;rw [if_pos hB,hB,hV];exact eP { d6 with kind:=x.b,v:=aC (aY t x.l) 0 } rfl rfl true)
  | (have h:=oT ‹decide (x.b=13)=true›;have e0:aC (aY t x.l) 0=aD t (aC x.l 0):=cB cN Z2;have hV:bX c t x={ d6 with kind:=x.b,v:=aC (aY t x.l) 0 }:=GL;have hB:bT c t x=true:=zD;rw [if_pos hB,hB,hV];exact eP { d6 with kind:=x.b,v:=aC (aY t x.l) 0 } rfl rfl true)
  | (have h:=oT ‹decide (x.b=14)=true›;have e0:aC (aY t x.l) 0=aD t (aC x.l 0):=cB cN Z2;have hV:bX c t x={ d6 with kind:=x.b,v:=aC (aY t x.l) 0 }:=GL;have hB:bT c t x=true:=zD;rw [if_pos hB,hB,hV];exact eP { d6 with kind:=x.b,v:=aC (aY t x.l) 0 } rfl rfl true)
  | (have h:=oT ‹decide (x.b=9)=true›;have e0:aC (aY t x.l) 0=aD t (aC x.l 0):=cB cN Z2;have e1:aC (aY t x.l) 1=aD t (aC x.l 1):=cB cN (F.l1 (oT ‹decide (x.b=9)=true›));have hV:bX c t x={ d6 with kind:=x.b,v:=aC (aY t x.l) 0,w:=aC (aY t x.l) 1 }:=ZY;have hB:bT c t x=true:=zD;rw [if_pos hB,hB,hV];exact eP { d6 with kind:=x.b,v:=aC (aY t x.l) 0,w:=aC (aY t x.l) 1 } rfl rfl true)
  | (have h:=oT ‹decide (x.b=5)=true›;have hV:bX c t x={ d6 with kind:=x.b,fn:=x.c,args:=aY t x.l }:=ZV;have hB:bT c t x=true:=zD;rw [if_pos hB,hB,hV];exact .tup (.cons (.agg (.cons (.sc _) (.cons (.sc _) (.cons (.sc _) (.cons (.sc _) (.cons (.sc _) (.cons (.sc _) (.cons (.sc _) (.cons (.sc _) (.cons (.sc _) (.cons (.sc _) (.cons (.arr rfl rfl wN) (.cons .emp (.cons (.sc _) (.cons (.sc _) .nil))))))))))))))) (.cons (.sc _) .nil)))
  | (have g:=oT ‹decide ((x.l.length:Int) > 0)=true›;have gn:¬ x.l=[]:=SL;have h:=oT ‹decide (x.b=16)=true›;have hq:=‹(!decide ((aD t (aC x.l 0)).k=1))=false›;have hB:bT c t x=true:=ZW;have hV:bX c t x={ d6 with kind:=x.b,n:=x.c,m:=(aD t (aC x.l 0)).n }:=(by unfold bX;rw [if_neg aI,if_neg aI,if_neg aI,if_neg aI,if_neg aI,if_pos aI,if_neg gn]);rw [if_pos hB,hB,hV];exact eP { d6 with kind:=x.b,n:=x.c,m:=(aD t (aC x.l 0)).n } rfl rfl true)
  | (have g:=oT ‹decide ((x.l.length:Int) > 0)=true›;have gn:¬ x.l=[]:=SL;have h:=oT ‹decide (x.b=16)=true›;have hq:=‹(!decide ((aD t (aC x.l 0)).k=1))=true›;have hB:bT c t x=false:=ZW;rw [if_neg (by rw [hB];simp),hB];exact eP d6 rfl rfl false)
  | (have g:=oF ‹decide ((x.l.length:Int) > 0)=false›;have gn:x.l=[]:=List.eq_nil_of_length_eq_zero aI;have h:=oT ‹decide (x.b=16)=true›;have hV:bX c t x={ d6 with kind:=x.b,n:=x.c,m:=-1 }:=ZR;have hB:bT c t x=true:=(by unfold bT;rw [if_neg aI,if_pos aI];simp [gn]);rw [if_pos hB,hB,hV];exact eP { d6 with kind:=x.b,n:=x.c,m:=-1 } rfl rfl true)
  | (have g:=oT ‹decide ((x.l.length:Int) > 0)=true›;have gn:¬ x.l=[]:=SL;have h:=oT ‹decide (x.b=17)=true›;have hq:=‹(!cS t (aC x.l 0))=false›;have hB:bT c t x=true:=ZT;have hV:bX c t x={ d6 with kind:=x.b,f:=dJ t (aC x.l 0) }:=ZP;rw [if_pos hB,hB,hV];exact eP { d6 with kind:=x.b,f:=dJ t (aC x.l 0) } rfl rfl true)
  | (have g:=oT ‹decide ((x.l.length:Int) > 0)=true›;have gn:¬ x.l=[]:=SL;have h:=oT ‹decide (x.b=17)=true›;have hq:=‹(!cS t (aC x.l 0))=true›;have hB:bT c t x=false:=ZT;rw [if_neg (by rw [hB];simp),hB];exact eP d6 rfl rfl false)
  | (have g:=oF ‹decide ((x.l.length:Int) > 0)=false›;have gn:x.l=[]:=List.eq_nil_of_length_eq_zero aI;have h:=oT ‹decide (x.b=17)=true›;have hV:bX c t x={ d6 with kind:=x.b }:=ZQ;have hB:bT c t x=true:=WL;rw [if_pos hB,hB,hV];exact eP { d6 with kind:=x.b } rfl rfl true)
  | (have h2:=oF ‹decide (x.b=2)=false›;have h12:=oF ‹decide (x.b=12)=false›;have h20:=oF ‹decide (x.b=20)=false›;have h21:=oF ‹decide (x.b=21)=false›;have h8:=oF ‹decide (x.b=8)=false›;have h3:=oF ‹decide (x.b=3)=false›;have h6:=oF ‹decide (x.b=6)=false›;have h7:=oF ‹decide (x.b=7)=false›;have h10:=oF ‹decide (x.b=10)=false›;have h11:=oF ‹decide (x.b=11)=false›;have h13:=oF ‹decide (x.b=13)=false›;have h14:=oF ‹decide (x.b=14)=false›;have h9:=oF ‹decide (x.b=9)=false›;have h5:=oF ‹decide (x.b=5)=false›;have h16:=oF ‹decide (x.b=16)=false›;have h17:=oF ‹decide (x.b=17)=false›;have h15:=oF ‹decide (x.b=15)=false›;have hV:bX c t x={ d6 with kind:=x.b }:=ZO;have hB:bT c t x=true:=zD;rw [if_pos hB,hB,hV];exact eP { d6 with kind:=x.b } rfl rfl true)
  | skip
 have h15:=oT ‹decide (x.b=15)=true›
 obtain ⟨hA,hn⟩:=F.arms h15
 have hA':fP c t=d5 (aC c t.fn).code a:=by simp [fP,hpa]
 have hAl:(fP c t).length=a - gA (aC c t.fn).code a:=by rw [hA'];exact zF ha
 have hAn:∀ i:Nat,i < (fP c t).length→aC (fP c t) (i:Int)=aC (aC c t.fn).code ((a:Int) - ((fP c t).length - i:Int)):=fun i h=>by rw [hA'] at h ⊢;exact IF ha h
 have hpa2:=hpa
 generalize hAs:fP c t=As at *
 refine dB (qP 9 rfl ?_)
 refine dB (kK 117 ?_)
 refine dB (FY 5 11 117 rfl rfl ?_)
 refine dB (qQ 5 11 (m:=10) (p:=11) (s:=[]) rfl rfl rfl rfl rfl fun u=>?_)
 refine cF [3,4,6,8,10,11] rfl ?_
 refine jY 12 (n:=_) (fun n e σ=>∃ (i:Nat) (m:Int) (b:Bool) (u:Value),n=As.length - i∧(m=(As.length:Int) - i∧i≤As.length∧b=(As.take i).all (l8 t))∧e=[(3,_),(4,_),(6,_),(8,_),(10,bv b),(11,iv m)]∧σ=[_,_,_,_,_,some (.box 40 [iv x.b,iv x.c,iv 0,iv 0,iv 0,sv ⟨#[]⟩,iv 0,iv 0,sv ⟨#[]⟩,iv 0,.nils,.d (.sc u),iv 0,sv ⟨#[]⟩]),none,none,none,none,some (bS Tryz.prog 117 [(u,((As.take i).map (lA t)).map Am.enc)]),none]) rfl ⟨0,_,_,u,rfl,⟨by rw [← hAl];simp,Nat.zero_le _,rfl⟩,rfl,rfl⟩ ?_
 rintro n e σ ⟨i,m,b,u,rfl,⟨hm,hi,hb0⟩,rfl,rfl⟩
 have hw:IntKind.i64.wrap (t.pc - m)=(a:Int) - ((As.length:Int) - i):=by rw [hm,hpa2,aL aI aI]
 have h0:0≤IntKind.i64.wrap (t.pc - m):=by rw [hw];omega
 have h1:m > 0→IntKind.i64.wrap (t.pc - m) < ((aC c t.fn).code.length:Int):=fun h=>by rw [hw];omega
 have hlt:m > 0→i < As.length:=fun h=>by omega
 have hxe:m > 0→aC (aC c t.fn).code (IntKind.i64.wrap (t.pc - m))=aC As (i:Int):=fun h=>by rw [hw,hAn i (hlt h)]
 have hF:m > 0→wO t (aC (aC c t.fn).code (IntKind.i64.wrap (t.pc - m))):=fun h=>by rw [hxe h];exact hA i (hlt h)
 refine dB (HN 5 11 (m:=10) rfl hP rfl rfl ?_)
 repeat' (first | ((with_reducible refine kw ?_);first | refine Wg ?_ | refine W0 ?_ | refine W1 ?_ | refine W2 ?_ | refine W3 ?_ | refine W6 ?_ | refine bJ ?_ | (refine aJ ?_;first | refine bB rfl rfl rfl rfl (aB.ret (yB (n:=6) rfl t x.l F.n F.k) ?_) | refine tD harms ?_) | (refine fO ?_;refine cK (aF (el rfl) rfl rfl h0 (h1 (oT ‹decide (m > 0)=true›)) ⟨rfl,by decide⟩) rfl rfl ?_) | (refine aE ?_;refine q8 ?_) | refine eT ?_ | refine gQ ?_ | refine gZ ?_ | refine cW ?_ | refine dH ?_ | refine eV ?_ | refine KS ?_ | (refine vQ ?_;refine ZD ?_)) | refine GX ?_ | (refine bW (fun hb=>?_) (fun hb=>?_) <;> rw [hb]) | refine GN ?_ | ((with_reducible refine kd ?_);first | refine D0 ?_ | refine D1 ?_ | refine D2 ?_ | refine D3 ?_ | refine D6 ?_ | refine iY ?_ | (refine bM ?_;refine dD (JX t _ (hF (oT ‹decide (m > 0)=true›))) ?_) | (refine c7 ?_;refine dC (aF (el rfl) rfl rfl h0 (h1 (oT ‹decide (m > 0)=true›)) ⟨rfl,by decide⟩) rfl rfl rfl rfl ?_) | (refine aV ?_;refine BW ?_) | refine wP ?_ | refine pZ ?_) | refine GA ?_ | refine GG ?_ | (refine cJ (fun hb=>?_) (fun hb=>?_) <;> try rw [hb]) | ((with_reducible refine tO ?_);refine j7 Tryz.results27 rfl ?_) | refine GS ?_ | fail)
 all_goals first
  | (have hm0:=(oT ‹decide (m > 0)=true›);have hl:=hlt hm0;have hx1:=hxe hm0;have hs:l8 t (aC (aC c t.fn).code (IntKind.i64.wrap (t.pc - m)))=(As.take (i + 1)).all (l8 t):=(by rw [gL hl,List.all_append,← hb0,‹b=true›,hx1];simp);refine gE (qQ 5 11 (m:=10) (s:=(((As.take (i + 1)).map (lA t)).map Am.enc)) rfl rfl (n8 (lA t (aC (aC c t.fn).code (IntKind.i64.wrap (t.pc - m)))) hl (by rw [hx1])) rfl rfl fun u2=>?_);refine gE (jM [3,4,6,8,10,11] rfl ?_);refine gU 12 rfl rfl rfl ?_;refine gT ⟨_,?_,i + 1,_,_,u2,rfl,⟨by rw [aL aI aI];omega,by omega,hs⟩,rfl,rfl⟩;omega)
  | (have hm0:=(oT ‹decide (m > 0)=true›);have hl:=hlt hm0;have hx1:=hxe hm0;have hs:false=(As.take (i + 1)).all (l8 t):=(by rw [gL hl,List.all_append,← hb0,‹b=false›];simp);refine gE (qQ 5 11 (m:=10) (s:=(((As.take (i + 1)).map (lA t)).map Am.enc)) rfl rfl (n8 (lA t (aC (aC c t.fn).code (IntKind.i64.wrap (t.pc - m)))) hl (by rw [hx1])) rfl rfl fun u2=>?_);refine gE (jM [3,4,6,8,10,11] rfl ?_);refine gU 12 rfl rfl rfl ?_;refine gT ⟨_,?_,i + 1,_,_,u2,rfl,⟨by rw [aL aI aI];omega,by omega,hs⟩,rfl,rfl⟩;omega)
  | (have hm0:=oF ‹decide (m > 0)=false›;have e:i=As.length:=aI;subst e;rw [List.take_length] at hb0;have hq:(!b)=true:=‹(!b)=true›;have hB:bT c t x=false:=ZU;rw [if_neg (by rw [hB];simp),hB];exact eP d6 rfl rfl false)
  | (have hm0:=oF ‹decide (m > 0)=false›;have e:i=As.length:=aI;subst e;rw [List.take_length] at hb0;have hq:(!b)=false:=‹(!b)=false›;have hB:bT c t x=true:=ZU;have hV:bX c t x={ d6 with kind:=x.b,n:=x.c,arms:=As.map (lA t) }:=(by unfold bX;rw [if_neg aI,if_neg aI,if_neg aI,if_neg aI,if_neg aI,if_neg aI,if_neg aI,if_pos aI,hAs]);rw [if_pos hB,hB,hV];exact .tup (.cons (.agg (.cons (.sc _) (.cons (.sc _) (.cons (.sc _) (.cons (.sc _) (.cons (.sc _) (.cons (.sc _) (.cons (.sc _) (.cons (.sc _) (.cons (.sc _) (.cons (.sc _) (.cons .emp (.cons (.arr rfl (by rw [List.take_length]) GQ) (.cons (.sc _) (.cons (.sc _) .nil))))))))))))))) (.cons (.sc _) .nil)))
theorem HF (c:List Fc) (t:Fm) (a:Nat) (hpa:t.pc=(a:Int)) (hp4:t.pc < 4000) (hf0:0≤t.fn) (hf1:t.fn < (c.length:Int)) (hp0:0≤t.pc) (hp1:t.pc < ((aC c t.fn).code.length:Int)) (x:In) (hx:aN c t=x) (F:oY c t x) :
  bY Tryz.prog 27 [.agg [bC c],t.dv] (.tup [Ak.dv (if bT c t x=true then bX c t x else d6),bv (bT c t x)]) :=
 aB.borrowF (BG c t a hpa hp4 hf0 hf1 hp0 hp1 x hx F) (.cons (.agg (.cons .d .nil)) (.cons (.agg (.cons .d (.cons .d (.cons .d (.cons .d .nil))))) .nil)) (fun r σ0 h=>h)
section
variable {P:Program} {σ:aA} {e:aW} {J:aW→aA→Prop}
theorem PS (k:Nat) {ty:TypeId} {cells:List DV} (hk:σ.look k=some (.box ty cells)) (h:J e (σ.put k (some (.box ty (DV.norms cells))))):SC P e σ J :=
 kL (α:=Unit) (S:=fun _=>σ.put k (some (.box ty (DV.norms cells)))) (E:=fun _=>e) (fun X ι w hh=>by
  obtain ⟨v,hv,ho⟩:=hh.obj k _ hk
  have hlook:∀ j,(σ.put k (some (.box ty (DV.norms cells)))).look j=if j=k then some (.box ty (DV.norms cells)) else σ.look j:=aM hk
  have hb:∀ {j:Nat} {o:aU},(σ.put k (some (.box ty (DV.norms cells)))).look j=some o→∃ o0,σ.look j=some o0∧∀ u b,kV o u b→kV o0 u b:=fun {j o} hj=>by
   rw [hlook] at hj
   split at hj
   ·rename_i e0;subst e0;cases hj;exact ⟨_,hk,fun u b h=>h⟩
   ·exact ⟨o,hj,fun u b h=>h⟩
  refine ⟨(),ι,Comes'.regroup hh (fun _ _ h=>h) (fun id hid=>hh.fresh id (by rw [bV hk] at hid;exact hid)) (fun id o hid=>?_) (fun b ⟨j,o,u,g1,g2,g3⟩=>?_) (fun id id' o o' u u' b g1 g2 g3 g4 g5 g6=>?_),fun _ _=>rfl,iM (fun _ _ h=>h)⟩
  ·rw [hlook] at hid
   split at hid
   ·rename_i e0;subst e0;cases hid
    refine .inr ⟨v,hv,?_⟩
    cases ho with
    | box _ _ b cs hb hl hh2 h1 =>
     refine .box _ _ b cs hb (by rw [kD];exact hl) (fun j d x hd hx=>?_) h1
     rw [oI] at hd
     obtain ⟨d0,hd0,rfl⟩:=Option.map_eq_some_iff.1 hd
     exact (hh2 j d0 x hd0 hx).normed
   ·exact .inl hid
  ·obtain ⟨o0,g4,g5⟩:=hb g1
   exact ⟨j,o0,u,g4,g2,g5 u b g3⟩
  ·obtain ⟨o0,k1,k2⟩:=hb g1
   obtain ⟨o1,k3,k4⟩:=hb g2
   exact hh.inj id id' o0 o1 u u' b k1 k3 g3 g4 (k2 u b g5) (k4 u' b g6)) (fun _=>Nat.le_of_eq (bV hk).symm) (fun _=>h)
end
def gH (u:Tn) (b:Bool):List aR:=u.enc++[db b]
abbrev yA (u:Tn) (b:Bool):=mG 108 (gH u b)
def rU (c:List Fc) (o:Ou) (r:DV) (s:aA):Prop:=r = .tup []∧∃ b0 fv gs,match o with
 | .more ts=>gs.map (·.2)=ts∧s=[some (yA iK false c b0 fv gs)]
 | .turn ts u=>gs.map (·.2)=ts∧s=[some (yA u true c b0 fv gs)]
theorem kJ (post:List aR) (c:List Fc) (t:Fm) (gr:List (Value × Fm)) (hg:gr.length≤1000) :
  aB Tryz.prog 57 [.ptr 0 0] (NV 108 post c t gr) (fun r σ'=>r = .eptr 1 gr.length 4 0∧σ'=NV 108 post c t gr):=by
 have hw:IntKind.i64.wrap ((gr.length:Int) + 1 - 1)=(gr.length:Int):=by rw [aL aI aI];omega
 refine of_body Tryz.func57 rfl rfl (nB rfl) ?_
 rw [Tryz.ntmps57]
 repeat' (first | ((with_reducible refine kw ?_);refine bJ ?_) | refine GN ?_ | ((with_reducible refine kd ?_);first | refine D0 ?_ | refine D1 ?_ | refine D2 ?_ | refine D4 ?_ | refine D6 ?_ | refine iY ?_ | (refine c7 ?_;refine Y9 ?_) | (refine nH ?_;refine dC (yO (sl rfl) rfl rfl) rfl rfl rfl rfl ?_)) | refine GA ?_ | refine GG ?_ | ((with_reducible refine kf ?_);refine aP 3 Tryz.results57 rfl rfl (by show ((aU.box 108 (bC c :: .arr 1::post.map .d)).under 3 && ((aU.arr 63 (d4 gr++[iD t (.arr 2)])).under 3 && ((aU.arr 35 (aS t.slots)).under 3 && true)))=true;rw [wC cN,lL rfl,eB];rfl) ?_) | refine GR ?_ | ((with_reducible refine kr ?_);refine bD rfl rfl ⟨rfl,rfl⟩) | fail)
theorem DI (c:List Fc) (u0:Tn) (q:Bool) (v:Va) (f:Fa) (b0:Nat) (fv:Value) (gs:List (Value × Fm)) :
  aB Tryz.prog 146 [.ptr 0 0,v.dv,f.dv] [some (yA u0 q c b0 fv gs)] (fun r σ'=>∃ b0 fv,r = .tup []∧σ'=[some (yA ⟨true,d6,v,f⟩ true c b0 fv gs)]):=by
 refine of_body Tryz.func146 rfl rfl (nB rfl) ?_
 rw [Tryz.ntmps146]
 refine jZ ?_
 refine dB (HM ?_)
 repeat' (first | ((with_reducible refine kw ?_);first | refine W0 ?_ | refine W1 ?_ | refine W3 ?_ | refine W4 ?_ | (refine aE ?_;refine vR ?_) | refine cW ?_ | refine eV ?_) | refine GA ?_ | refine GG ?_ | ((with_reducible refine kf ?_);refine aP 1 Tryz.results146 rfl rfl rfl ?_) | ((with_reducible refine O3 ?_);refine lQ (PS 0 rfl ?_);refine pK (k:=0) (n:=1) (m:=2) (rows:=gI gs) (l:=gs.map rS) [kZ c] (gH ⟨true,d6,v,f⟩ true) rfl rfl rfl rfl fun b0 fv=>?_) | ((with_reducible refine kr ?_);refine bD rfl rfl ⟨_,_,rfl,rfl⟩) | fail)
 all_goals skip
theorem J8 (c:List Fc) (b0:Nat) (fv:Value) (gs:List (Value × Fm)) (f:Fa) (hlen:gs.length≤1000) (hF:∀ g ∈ gs,gX c g.2) :
  aB Tryz.prog 105 [.ptr 0 0,f.dv] [some (yA iK false c b0 fv gs)] (rU c (dE c f (gs.map (·.2)))):=by
 refine of_body Tryz.func105 rfl rfl (nB rfl) ?_
 rw [Tryz.ntmps105]
 refine jZ ?_
 repeat' (first | ((with_reducible refine kw ?_);first | refine W0 ?_ | refine W1 ?_ | refine W2 ?_ | refine W3 ?_ | refine W4 ?_ | refine W6 ?_ | refine bJ ?_ | refine cW ?_ | refine dH ?_ | refine eV ?_) | refine GN ?_ | ((with_reducible refine kd ?_);first | refine D0 ?_ | refine D1 ?_ | refine D2 ?_ | refine D3 ?_ | refine D4 ?_ | refine D6 ?_ | refine iY ?_ | refine pZ ?_ | refine sU ?_) | refine GA ?_ | refine GG ?_ | (refine cJ (fun hb=>?_) (fun hb=>?_) <;> try rw [hb]) | ((with_reducible refine kf ?_);refine aP 0 Tryz.results105 rfl rfl rfl ?_) | fail)
 refine cF [0,3] rfl ?_
 refine jY 2 (n:=_) (fun n e σ=>∃ (b0:Nat) (fv:Value) (gq:List (Value × Fm)),n=gq.length∧(cT c f (gq.map (·.2))=cT c f (gs.map (·.2))∧gq.length≤1000∧∀ g ∈ gq,gX c g.2)∧e=[(0,_),(3,_)]∧σ=[some (yA iK false c b0 fv gq),_]) rfl ⟨b0,fv,gs,rfl,⟨rfl,hlen,hF⟩,rfl,rfl⟩ ?_
 rintro n e σ ⟨b1,fv1,gq,rfl,⟨hR,hl,hG⟩,rfl,rfl⟩
 rcases gq with _ | ⟨⟨u,t⟩,gr⟩
 ·have hne:decide ((([]:List (Value × Fm)).length:Int) > 0)=false:=rfl
  repeat' (first | ((with_reducible refine kw ?_);first | refine W0 ?_ | refine W1 ?_ | refine W2 ?_ | refine W3 ?_ | refine W4 ?_ | refine W6 ?_ | refine bJ ?_ | (refine aJ ?_;refine bB rfl rfl rfl rfl ((aB.front1 (C:=fun y:Nat × Value=>True) (rr:=fun _ => .tup []) (o:=fun y=>yA ⟨true,d6,g9,f⟩ true c y.1 y.2 []) ((DI c iK false g9 f _ _ []).mono fun r s ⟨b,w,h1,h2⟩=>⟨(b,w),trivial,h1,h2⟩) rfl (fun _=>rfl) rfl (fun _=>rfl)).mono ?_)) | (refine fO ?_;refine H7 ?_) | (refine aE ?_;refine IB ?_) | (refine kT ?_;refine KP ?_) | refine cW ?_ | refine dH ?_ | refine eV ?_) | refine GN ?_ | ((with_reducible refine kd ?_);first | refine D0 ?_ | refine D1 ?_ | (refine dI ?_;refine BU ?_) | refine D2 ?_ | refine D3 ?_ | refine D4 ?_ | refine D6 ?_ | refine iY ?_ | (refine bM ?_;refine dD (AE _ _) ?_) | (refine c7 ?_;refine H6 ?_) | (refine aV ?_;refine H4 ?_) | (refine nH ?_;refine KY ?_) | refine pZ ?_ | (refine j5 ?_;refine KZ ?_) | refine sU ?_) | ((with_reducible refine ka ?_);first | ((with_reducible refine i5 1 ?_);refine dB (kM (k:=0) rfl ?_);refine fI ?_) | ((with_reducible refine QE 11 ?_);refine dB (pK (k:=0) (n:=2) (m:=3) (rows:=gI []) (l:=[]) [kZ c] (gH iK false) rfl rfl rfl rfl fun b0 fv=>?_);refine K3 rfl ?_)) | refine GA ?_ | refine GG ?_ | (refine cJ (fun hb=>?_) (fun hb=>?_) <;> try rw [hb]) | ((with_reducible refine kf ?_);refine aP 1 Tryz.results105 rfl rfl rfl ?_) | ((with_reducible refine kr ?_);refine bD rfl rfl ?_) | fail)
  all_goals skip
  rintro r s ⟨y,-,rfl,rfl⟩
  repeat' (first | ((with_reducible refine kw ?_);first | refine W0 ?_ | refine W1 ?_ | refine W2 ?_ | refine W3 ?_ | refine W4 ?_ | refine W6 ?_ | refine bJ ?_ | (refine aJ ?_;refine bB rfl rfl rfl rfl (skip)) | (refine fO ?_;refine H7 ?_) | (refine aE ?_;refine IB ?_) | (refine kT ?_;refine KP ?_) | refine cW ?_ | refine dH ?_ | refine eV ?_) | refine GN ?_ | ((with_reducible refine kd ?_);first | refine D0 ?_ | refine D1 ?_ | (refine dI ?_;refine BU ?_) | refine D2 ?_ | refine D3 ?_ | refine D4 ?_ | refine D6 ?_ | refine iY ?_ | (refine bM ?_;skip) | (refine c7 ?_;refine H6 ?_) | (refine aV ?_;refine H4 ?_) | (refine nH ?_;refine KY ?_) | refine pZ ?_ | (refine j5 ?_;refine KZ ?_) | refine sU ?_) | refine GA ?_ | refine GG ?_ | (refine cJ (fun hb=>?_) (fun hb=>?_) <;> try rw [hb]) | ((with_reducible refine kf ?_);refine aP 1 Tryz.results105 rfl rfl rfl ?_) | ((with_reducible refine O3 ?_);refine y7 ?_) | ((with_reducible refine kr ?_);refine bD rfl rfl ?_) | fail)
  have e:dE c f (gs.map (·.2)) = .turn [] ⟨true,d6,g9,f⟩:=by unfold dE;rw [← hR];rfl
  rw [e]
  exact ⟨rfl,_,_,[],rfl,rfl⟩
 ·have hne:decide ((((u,t)::gr).length:Int) > 0)=true:=decide_eq_true eS
  have hne2:decide (((gr.length:Int) + 1) > 0)=true:=decide_eq_true aI
  have hg:gr.length≤1000:=by simp at hl;omega
  have F:gX c t:=hG (u,t) eS
  have gl:cH (aC c t.fn) t.pc≥0→cH (aC c t.fn) t.pc < ((aC c t.fn).guards.length:Int):=fun _=>(tG _ _).1
  have ga:cH (aC c t.fn) t.pc≥0→fU (aC c t.fn) t.pc=aC (aC c t.fn).guards (cH (aC c t.fn) t.pc):=fun h=>FE aI
  have hw:IntKind.i64.wrap ((gr.length:Int) + 1 - 1)=(gr.length:Int):=by rw [aL aI aI];omega
  repeat' (first | ((with_reducible refine kw ?_);first | refine W0 ?_ | refine W1 ?_ | refine W2 ?_ | refine W3 ?_ | refine W4 ?_ | refine W6 ?_ | refine bJ ?_ | (refine aJ ?_;refine bB rfl rfl rfl rfl (aB.ret (aB.readsL (kJ (gH iK false) c t gr hg) [0,2,4] rfl (mF (post:=(gH iK false)) rfl rfl rfl) rfl rfl rfl rfl _ (fun _ _=>rfl)) ?_)) | (refine fO ?_;refine H7 ?_) | (refine aE ?_;refine IB ?_) | (refine kT ?_;refine KP ?_) | refine cW ?_ | refine dH ?_ | refine eV ?_) | refine GN ?_ | ((with_reducible refine kd ?_);first | refine D0 ?_ | refine D1 ?_ | (refine dI ?_;refine BU ?_) | refine D2 ?_ | refine D3 ?_ | refine D4 ?_ | refine D6 ?_ | refine iY ?_ | (refine bM ?_;refine dD (AE (aC c t.fn) t.pc) ?_) | (refine c7 ?_;refine H6 ?_) | (refine aV ?_;refine H4 ?_) | (refine nH ?_;refine KY ?_) | refine pZ ?_ | (refine j5 ?_;refine KZ ?_) | refine sU ?_) | ((with_reducible refine ka ?_);first | ((with_reducible refine i5 1 ?_);refine dB (kM (k:=0) rfl ?_);refine fI ?_) | ((with_reducible refine i5 2 ?_);refine dB (f8 3 2 rfl rfl ?_);refine fI ?_)) | refine GA ?_ | refine GG ?_ | (refine cJ (fun hb=>?_) (fun hb=>?_) <;> try rw [hb]) | ((with_reducible refine kf ?_);refine aP 1 Tryz.results105 rfl rfl rfl ?_) | ((with_reducible refine O3 ?_);refine DT (m:=3) (n:=2) (p:=4) (gH iK false) rfl rfl rfl rfl rfl fun b0 fv u=>?_) | ((with_reducible refine kr ?_);refine bD rfl rfl ?_) | fail)
  ·have g1:cH (aC c t.fn) t.pc≥0:=oT ‹decide (cH (aC c t.fn) t.pc≥0)=true›
   have g0:¬ cH (aC c t.fn) t.pc < 0:=by omega
   have gw:IntKind.i64.wrap ((aC (aC c t.fn).guards (cH (aC c t.fn) t.pc)).slot + 1)=(aC (aC c t.fn).guards (cH (aC c t.fn) t.pc)).slot + 1:=by have gg:=F.g g0;rw [ga g1] at gg;exact aL aI aI
   have hR3:dE c f (gs.map (·.2)) = .more (o5 c t f::gr.map (·.2)):=by unfold dE;rw [← hR];simp [cT,g0]
   have hcs:o5 c t f=⟨t.fn,(aC (aC c t.fn).guards (cH (aC c t.fn) t.pc)).at',t.to,(t.slots.set (aC (aC c t.fn).guards (cH (aC c t.fn) t.pc)).slot.toNat ⟨1,f.k,⟨#[]⟩⟩).set (IntKind.i64.wrap ((aC (aC c t.fn).guards (cH (aC c t.fn) t.pc)).slot + 1)).toNat ⟨3,0,f.t⟩⟩:=by rw [gw];rfl
   rw [hR3,hcs]
   exact ⟨rfl,_,_,(_,_)::gr,rfl,rfl⟩
  ·have g0:cH (aC c t.fn) t.pc < 0:=by have:=oF ‹decide (cH (aC c t.fn) t.pc≥0)=false›;omega
   have hR2:cT c f (gr.map (·.2))=cT c f (gs.map (·.2)):=by rw [← hR];simp [cT,g0]
   refine gE (pK (k:=0) (n:=6) (m:=3) (rows:=gI gr) [kZ c] (gH iK false) rfl rfl rfl rfl fun b0 fv=>?_)
   refine gE (jM [0,3] rfl ?_)
   refine gU 2 rfl rfl rfl ?_
   exact gT ⟨_,eS,b0,fv,gr,rfl,⟨hR2,by omega,fun g hg'=>hG g (by simp [hg'])⟩,rfl,rfl⟩
abbrev vS:=(Tn × Bool) × Nat × Value × List (Value × Fm)
def KQ (o:Ou) (y:vS):Prop:=match o with
 | .more ts=>y.2.2.2.map (·.2)=ts∧y.1=(iK,false)
 | .turn ts u=>y.2.2.2.map (·.2)=ts∧y.1=(u,true)
abbrev vS.obj (c:List Fc) (y:vS):aU:=yA y.1.1 y.1.2 c y.2.1 y.2.2.1 y.2.2.2
theorem rU.ex {c:List Fc} {o:Ou} {r:DV} {s:aA} (h:rU c o r s):∃ y:vS,KQ o y∧r = .tup []∧s=[some (y.obj c)]:=by
 obtain ⟨h1,b0,fv,gs,h2⟩:=h
 cases o with
 | more ts=>exact ⟨((iK,false),b0,fv,gs),⟨h2.1,rfl⟩,h1,h2.2⟩
 | turn ts u=>exact ⟨((u,true),b0,fv,gs),⟨h2.1,rfl⟩,h1,h2.2⟩
theorem rU.of {c:List Fc} {o:Ou} {y:vS} (h:KQ o y):rU c o (.tup []) [some (y.obj c)]:=by
 obtain ⟨⟨u,b⟩,b0,fv,gs⟩:=y
 cases o with
 | more ts=>obtain ⟨h1,h2⟩:=h;cases h2;exact ⟨rfl,b0,fv,gs,h1,rfl⟩
 | turn ts u=>obtain ⟨h1,h2⟩:=h;cases h2;exact ⟨rfl,b0,fv,gs,h1,rfl⟩
theorem J7 {L:aA} (c:List Fc) (b0:Nat) (fv:Value) (gs:List (Value × Fm)) (f:Fa) (hlen:gs.length≤1000) (hF:∀ g ∈ gs,gX c g.2) :
  aB Tryz.prog 105 [.ptr 0 0,f.dv] (some (yA iK false c b0 fv gs)::L) (fun r s=>∃ y:vS,KQ (dE c f (gs.map (·.2))) y∧r = .tup []∧s=some (y.obj c)::L) :=
 aB.front1 (o:=fun y=>vS.obj c y) ((J8 c b0 fv gs f hlen hF).mono fun r s h=>h.ex) rfl (fun _=>rfl) rfl (fun _=>rfl)
theorem PR (c:List Fc) (b0:Nat) (fv u:Value) (t:Fm) (gr:List (Value × Fm)) (n:Int) (v:Va) (f:Fa) (hg1:gr.length + 1≤1000) (hG:gX c t) (hGr:∀ g ∈ gr,gX c g.2) (hn:n≥0→n < (t.slots.length:Int)) (hp:0≤t.pc∧t.pc < 4000) :
  aB Tryz.prog 59 [.ptr 0 0,iv n,v.dv,f.dv] [some (yA iK false c b0 fv ((u,t)::gr))] (rU c (jW c t (gr.map (·.2)) n v f)):=by
 have hg:gr.length≤1000:=by omega
 have hR:=fun L=>J7 (L:=L) c b0 fv ((u,t)::gr) f hg1 (fun g h=>by rcases List.mem_cons.1 h with rfl | h;exact hG;exact hGr g h)
 refine of_body Tryz.func59 rfl rfl (nB rfl) ?_
 rw [Tryz.ntmps59]
 refine jZ ?_
 repeat' (first | ((with_reducible refine kw ?_);first | refine W0 ?_ | refine W1 ?_ | (refine f9 ?_;refine KW ?_) | refine W2 ?_ | refine W3 ?_ | refine W4 ?_ | refine W6 ?_ | (refine aJ ?_;first | refine bB rfl rfl rfl rfl ((hR _).mono ?_) | refine bB rfl rfl rfl rfl (aB.ret (aB.readsL (kJ (gH iK false) c (fK t n v) gr hg) [0,3,5] rfl (mF (post:=(gH iK false)) rfl rfl rfl) rfl rfl rfl rfl _ (fun _ _=>rfl)) ?_) | refine bB rfl rfl rfl rfl (aB.ret (aB.readsL (kJ (gH iK false) c t gr hg) [0,3,5] rfl (mF (post:=(gH iK false)) rfl rfl rfl) rfl rfl rfl rfl _ (fun _ _=>rfl)) ?_)) | (refine aE ?_;refine IB ?_) | refine cW ?_) | refine GN ?_ | ((with_reducible refine kd ?_);first | refine D0 ?_ | refine D1 ?_ | (refine dI ?_;refine BU ?_) | refine D3 ?_ | refine D4 ?_ | (refine bM ?_;(refine eM [0,3,5] rfl rfl rfl rfl (aB.readsL (kJ (gH iK false) c t gr hg) [0,3,5] rfl (mF (post:=(gH iK false)) rfl rfl rfl) rfl rfl rfl rfl) rfl ?_)) | (refine c7 ?_;refine dC (eG (el rfl) rfl rfl rfl (sz rfl) (oT ‹decide (n≥0)=true›) (hn (oT ‹decide (n≥0)=true›))) rfl rfl rfl rfl ?_) | (refine aV ?_;refine mW rfl rfl (kY rfl) rfl rfl (sz rfl) (oT ‹decide (n≥0)=true›) (hn (oT ‹decide (n≥0)=true›)) (eH.eq mD) rfl ?_)) | ((with_reducible refine ka ?_);((with_reducible refine i5 3 ?_);refine dB (kM (k:=0) rfl ?_);refine dB (f8 4 3 rfl rfl ?_);refine fI ?_)) | refine GA ?_ | refine GG ?_ | (refine cJ (fun hb=>?_) (fun hb=>?_) <;> try rw [hb]) | ((with_reducible refine kf ?_);refine aP 1 Tryz.results59 rfl rfl rfl ?_) | ((with_reducible refine O3 ?_);refine DT (m:=4) (n:=3) (p:=5) (gH iK false) rfl rfl rfl rfl rfl fun b0 fv u=>?_) | ((with_reducible refine kr ?_);refine bD rfl rfl ?_) | fail)
 ·rintro r s ⟨y,hy,rfl,rfl⟩
  repeat' (first | ((with_reducible refine kw ?_);first | refine W0 ?_ | refine W1 ?_ | refine W2 ?_ | refine W3 ?_ | refine W4 ?_ | refine W6 ?_ | (refine aJ ?_;refine bB rfl rfl rfl rfl (skip)) | refine cW ?_) | refine GN ?_ | ((with_reducible refine kd ?_);first | refine D0 ?_ | refine D1 ?_ | refine D3 ?_ | refine D4 ?_ | (refine bM ?_;skip)) | refine GA ?_ | refine GG ?_ | (refine cJ (fun hb=>?_) (fun hb=>?_) <;> try rw [hb]) | ((with_reducible refine kf ?_);refine aP 1 Tryz.results59 rfl rfl rfl ?_) | ((with_reducible refine O3 ?_);refine y7 ?_) | ((with_reducible refine kr ?_);refine bD rfl rfl ?_) | fail)
  have e:jW c t (gr.map (·.2)) n v f=dE c f (t::gr.map (·.2)):=by unfold jW;rw [if_pos (oT hb)]
  rw [e]
  exact rU.of hy
 ·have h0:=oF ‹decide (f.k≠0)=false›
  have h1:=oT ‹decide (n≥0)=true›
  have hw:IntKind.i64.wrap (t.pc + 1)=t.pc + 1:=aL aI aI
  have e:jW c t (gr.map (·.2)) n v f = .more (dS (fK t n v)::gr.map (·.2)):=by unfold jW;rw [if_neg h0,if_pos h1]
  have e2:dS (fK t n v)=⟨t.fn,IntKind.i64.wrap (t.pc + 1),t.to,t.slots.set n.toNat v⟩:=by rw [hw];rfl
  rw [e,e2]
  exact ⟨rfl,_,_,(_,_)::gr,rfl,rfl⟩
 ·have h0:=oF ‹decide (f.k≠0)=false›
  have h1:=oF ‹decide (n≥0)=false›
  have hw:IntKind.i64.wrap (t.pc + 1)=t.pc + 1:=aL aI aI
  have e:jW c t (gr.map (·.2)) n v f = .more (dS t::gr.map (·.2)):=by unfold jW;rw [if_neg h0,if_neg h1]
  have e2:dS t=⟨t.fn,IntKind.i64.wrap (t.pc + 1),t.to,t.slots⟩:=by rw [hw];rfl
  rw [e,e2]
  exact ⟨rfl,_,_,(_,_)::gr,rfl,rfl⟩
theorem V6 {L:aA} (c:List Fc) (b0:Nat) (fv u:Value) (t:Fm) (gr:List (Value × Fm)) (n:Int) (v:Va) (f:Fa) (hg:gr.length + 1≤1000) (hG:gX c t) (hGr:∀ g ∈ gr,gX c g.2) (hn:n≥0→n < (t.slots.length:Int)) (hp:0≤t.pc∧t.pc < 4000) :
  aB Tryz.prog 59 [.ptr 0 0,iv n,v.dv,f.dv] (some (yA iK false c b0 fv ((u,t)::gr))::L) (fun r s=>∃ y:vS,KQ (jW c t (gr.map (·.2)) n v f) y∧r = .tup []∧s=some (y.obj c)::L) :=
 aB.front1 (o:=fun y=>vS.obj c y) ((PR c b0 fv u t gr n v f hg hG hGr hn hp).mono fun r s h=>h.ex) rfl (fun _=>rfl) rfl (fun _=>rfl)
theorem UD {L:aA} (c:List Fc) (v:Va) (f:Fa) (b0:Nat) (fv:Value) (gs:List (Value × Fm)) :
  aB Tryz.prog 146 [.ptr 0 0,v.dv,f.dv] (some (yA iK false c b0 fv gs)::L) (fun r s=>∃ y:vS,KQ (.turn (gs.map (·.2)) ⟨true,d6,v,f⟩) y∧r = .tup []∧s=some (y.obj c)::L) :=
 aB.front1 (o:=fun y=>vS.obj c y) ((DI c iK false v f b0 fv gs).mono fun r s ⟨b,w,h1,h2⟩=>⟨((_,true),b,w,gs),⟨rfl,rfl⟩,h1,h2⟩) rfl (fun _=>rfl) rfl (fun _=>rfl)
theorem JY (c:List Fc) (b0:Nat) (fv u:Value) (t:Fm) (v:Va) :
  aB Tryz.prog 137 [.ptr 0 0,v.dv] [some (yA iK false c b0 fv ((u,t)::([]:List (Value × Fm))))] (rU c (.turn [] ⟨true,d6,v,kW⟩)):=by
 have hg:(([]:List (Value × Fm))).length≤1000:=by simp
 have hne:decide (((([]:List (Value × Fm))).length:Int)=0)=true:=rfl
 have hw:IntKind.i64.wrap (((([]:List (Value × Fm))).length:Int) + 1 - 1)=((([]:List (Value × Fm))).length:Int):=by rw [aL eS eS];simp
 refine of_body Tryz.func137 rfl rfl (nB rfl) ?_
 rw [Tryz.ntmps137]
 refine jZ ?_
 repeat' (first | ((with_reducible refine kw ?_);first | refine W0 ?_ | refine W1 ?_ | (refine f9 ?_;refine KW ?_) | refine W2 ?_ | refine W3 ?_ | refine W4 ?_ | refine W6 ?_ | refine bJ ?_ | (refine aJ ?_;first | refine bB rfl rfl rfl rfl (aB.ret (aB.readsL (kJ (gH iK false) c t ([]:List (Value × Fm)) hg) [0,2,4] rfl (mF (post:=(gH iK false)) rfl rfl rfl) rfl rfl rfl rfl _ (fun _ _=>rfl)) ?_) | refine bB rfl rfl rfl rfl ((UD c v kW b1 fv1 ([]:List (Value × Fm))).mono ?_)) | (refine kT ?_;refine KP ?_) | refine cW ?_ | refine eV ?_) | refine GN ?_ | ((with_reducible refine kd ?_);first | refine D0 ?_ | refine D1 ?_ | refine D2 ?_ | refine D4 ?_ | refine D6 ?_ | (refine aV ?_;refine NR ?_) | (refine nH ?_;refine KY ?_) | (refine j5 ?_;refine KZ ?_)) | ((with_reducible refine ka ?_);first | ((with_reducible refine i5 1 ?_);refine dB (kM (k:=0) rfl ?_);refine dB (f8 3 2 rfl rfl ?_);refine fI ?_) | ((with_reducible refine i5 4 ?_);refine dB (pK (k:=0) (n:=5) (m:=3) (rows:=gI ([]:List (Value × Fm))) (l:=(([]:List (Value × Fm))).map rS) [kZ c] (gH iK false) rfl rfl rfl rfl fun b1 fv1=>?_);refine fI ?_)) | refine GA ?_ | refine GG ?_ | ((with_reducible refine kf ?_);refine aP 1 Tryz.results137 rfl rfl rfl ?_) | ((with_reducible refine O3 ?_);refine y7 ?_) | ((with_reducible refine kr ?_);refine bD rfl rfl ?_) | fail)
 rintro r s ⟨y,hy,rfl,rfl⟩
 repeat' (first | ((with_reducible refine kw ?_);first | refine W0 ?_ | refine W1 ?_ | (refine f9 ?_;refine KW ?_) | refine W2 ?_ | refine W3 ?_ | refine W4 ?_ | refine W6 ?_ | refine bJ ?_ | (refine aJ ?_;refine bB rfl rfl rfl rfl (skip)) | (refine kT ?_;refine KP ?_) | refine cW ?_ | refine eV ?_) | refine GN ?_ | ((with_reducible refine kd ?_);first | refine D0 ?_ | refine D1 ?_ | refine D2 ?_ | refine D4 ?_ | refine D6 ?_ | (refine aV ?_;refine NR ?_) | (refine nH ?_;refine KY ?_) | (refine j5 ?_;refine KZ ?_)) | refine GA ?_ | refine GG ?_ | ((with_reducible refine kf ?_);refine aP 1 Tryz.results137 rfl rfl rfl ?_) | ((with_reducible refine O3 ?_);refine y7 ?_) | ((with_reducible refine kr ?_);refine bD rfl rfl ?_) | fail)
 all_goals exact rU.of hy
theorem FU (c:List Fc) (b0:Nat) (fv u:Value) (t:Fm) (v:Va) (u2:Value) (t2:Fm) (gr:List (Value × Fm)) (hg1:gr.length + 1≤1000) (hG:gX c t2) (hGr:∀ g ∈ gr,gX c g.2) (hn:t.to≥0→t.to < (t2.slots.length:Int)) (hp:0≤t2.pc∧t2.pc < 4000) :
  aB Tryz.prog 137 [.ptr 0 0,v.dv] [some (yA iK false c b0 fv ((u,t)::((u2,t2)::gr)))] (rU c (.more (dS (if t.to≥0 then fK t2 t.to v else t2)::gr.map (·.2)))):=by
 have hg:(((u2,t2)::gr)).length≤1000:=hg1
 have hne:decide (((((u2,t2)::gr)).length:Int)=0)=false:=decide_eq_false KT
 have hw:IntKind.i64.wrap (((((u2,t2)::gr)).length:Int) + 1 - 1)=((((u2,t2)::gr)).length:Int):=by rw [aL KT KT];omega
 have he:jW c t2 (gr.map (·.2)) t.to v kW = .more (dS (if t.to≥0 then fK t2 t.to v else t2)::gr.map (·.2)):=rfl
 rw [← he]
 refine of_body Tryz.func137 rfl rfl (nB rfl) ?_
 rw [Tryz.ntmps137]
 refine jZ ?_
 repeat' (first | ((with_reducible refine kw ?_);first | refine W0 ?_ | refine W1 ?_ | (refine f9 ?_;refine KW ?_) | refine W2 ?_ | refine W3 ?_ | refine W4 ?_ | refine W6 ?_ | refine bJ ?_ | (refine aJ ?_;first | refine bB rfl rfl rfl rfl (aB.ret (aB.readsL (kJ (gH iK false) c t ((u2,t2)::gr) hg) [0,2,4] rfl (mF (post:=(gH iK false)) rfl rfl rfl) rfl rfl rfl rfl _ (fun _ _=>rfl)) ?_) | refine bB rfl rfl rfl rfl ((V6 c b1 fv1 u2 t2 gr t.to v kW hg1 hG hGr hn hp).mono ?_)) | (refine kT ?_;refine KP ?_) | refine cW ?_ | refine eV ?_) | refine GN ?_ | ((with_reducible refine kd ?_);first | refine D0 ?_ | refine D1 ?_ | refine D2 ?_ | refine D4 ?_ | refine D6 ?_ | (refine aV ?_;refine NR ?_) | (refine nH ?_;refine KY ?_) | (refine j5 ?_;refine KZ ?_)) | ((with_reducible refine ka ?_);first | ((with_reducible refine i5 1 ?_);refine dB (kM (k:=0) rfl ?_);refine dB (f8 3 2 rfl rfl ?_);refine fI ?_) | ((with_reducible refine QE 5 ?_);refine dB (pK (k:=0) (n:=5) (m:=3) (rows:=gI ((u2,t2)::gr)) (l:=(((u2,t2)::gr)).map rS) [kZ c] (gH iK false) rfl rfl rfl rfl fun b1 fv1=>?_)) | ((with_reducible refine QE 5 ?_);refine dB (pK (k:=0) (n:=5) (m:=3) (rows:=gI ((u2,t2)::gr)) (l:=(((u2,t2)::gr)).map rS) [kZ c] (gH iK false) rfl rfl rfl rfl fun b1 fv1=>?_);refine K3 rfl ?_)) | refine GA ?_ | refine GG ?_ | ((with_reducible refine kf ?_);refine aP 1 Tryz.results137 rfl rfl rfl ?_) | ((with_reducible refine O3 ?_);refine y7 ?_) | ((with_reducible refine kr ?_);refine bD rfl rfl ?_) | fail)
 rintro r s ⟨y,hy,rfl,rfl⟩
 repeat' (first | ((with_reducible refine kw ?_);first | refine W0 ?_ | refine W1 ?_ | (refine f9 ?_;refine KW ?_) | refine W2 ?_ | refine W3 ?_ | refine W4 ?_ | refine W6 ?_ | refine bJ ?_ | (refine aJ ?_;refine bB rfl rfl rfl rfl (skip)) | (refine kT ?_;refine KP ?_) | refine cW ?_ | refine eV ?_) | refine GN ?_ | ((with_reducible refine kd ?_);first | refine D0 ?_ | refine D1 ?_ | refine D2 ?_ | refine D4 ?_ | refine D6 ?_ | (refine aV ?_;refine NR ?_) | (refine nH ?_;refine KY ?_) | (refine j5 ?_;refine KZ ?_)) | refine GA ?_ | refine GG ?_ | ((with_reducible refine kf ?_);refine aP 1 Tryz.results137 rfl rfl rfl ?_) | ((with_reducible refine O3 ?_);refine y7 ?_) | ((with_reducible refine kr ?_);refine bD rfl rfl ?_) | fail)
 all_goals exact rU.of hy
end Go.Ab
