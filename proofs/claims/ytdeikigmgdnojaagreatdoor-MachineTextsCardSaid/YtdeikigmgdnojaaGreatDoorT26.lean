import Derived.Test.YtdeikigmgdnojaaGreatDoorT25
/- A part of the proof of one law. -/
set_option maxRecDepth 100000
set_option maxHeartbeats 8000000
set_option linter.unusedVariables false
set_option linter.unusedSimpArgs false
namespace Go.Ab
open Go Go.Ab.Tryz Go.Proofs
section
variable {σ L:aA} {c:List Fc} {b0:Nat} {fv u:Value} {t t':Fm} {gr gs:List (Value × Fm)} {run:TypeId} {post:List aR} {ss:List Va} {e:aW} {J:aW→aA→Prop}
theorem M6 {o:aU} (ho:o.under 1=true) (ho2:o.under 2=true):aB Tryz.prog 174 [.ptr 0 0] (some o::L) (fun r s=>r = .mp (L.length + 1)∧s=some o::(L++[some (.map u4)])):=by
 have hg:∀ i,i < 1→bL [0] (some o::L).length i=i:=fun i hi=>by
  obtain rfl:i=0:=by omega
  rfl
 refine (aB.within (M7 o ho2) [0] ⟨rfl,fun k hk=>?_,by simp,fun i o' k h2 h3=>?_,fun i o' h2=>?_⟩ rfl (args':=[.ptr 0 0]) rfl).mono ?_
 ·simp at hk;subst hk;simp
 ·have hi:=a7 h2
  obtain rfl:i=0:=by simp at hi;exact hi
  simp at h3;subst h3
  cases h2
  show some o=some (o.ren _)
  rw [nF hg o ho]
 ·have hi:=a7 h2
  obtain rfl:i=0:=by simp at hi;exact hi
  cases h2;exact ho
 ·rintro r s ⟨r0,σ0,⟨rfl,rfl⟩,_,rfl,rfl⟩
  refine ⟨?_,?_⟩
  ·show DV.mp (bL [0] (L.length + 1) 1)=_
   simp [bL]
  ·have h1:=nF hg o ho
   have h2:(aU.map u4).ren (bL [0] (some o::L).length) = .map u4:=rfl
   simp only [kC,dX,Option.map_some,List.map_cons,List.map_nil,h1,h2]
   simp
theorem FM {op:Int} {id:Nat} (hop:1≤op∧op≤14) (hl:σ.look id=some (.map u4)):lY Tryz.prog (.int .i64) 241 (.int .i64 op) σ (.mp id)=some (.fn (.func (l5 op)) [.ptr 0 0] [],true):=by
 have h:=zV (P:=Tryz.prog) (k0 := .i64) (vt:=241) (n:=op) (id:=id) (z := .d (.sc .nilFunc)) (l:=BN.map fun p=>(p.1,DV.fn (.func p.2) [.ptr 0 0] [])) (zr rfl) hl
 rw [h,tM (f:=fun g=>DV.fn (.func g) [.ptr 0 0] [])]
 have hs:∃ g,jU BN op=some g:=by
  have h:op=1∨op=2∨op=3∨op=4∨op=5∨op=6∨op=7∨op=8∨op=9∨op=10∨op=11∨op=12∨op=13∨op=14:=by omega
  rcases h with rfl | rfl | rfl | rfl | rfl | rfl | rfl | rfl | rfl | rfl | rfl | rfl | rfl | rfl <;> exact ⟨_,rfl⟩
 obtain ⟨g,hg⟩:=hs
 simp [l5,hg]
theorem SS (post:List aR) (t0:Nat) {m n p:Nat} {f pc tt:Int} (hk:σ.look 0=some (.box run (bC c :: .arr n::post.map .d))) (hn:σ.look n=some (.arr 63 (d4 gr++[[iv f,iv pc,iv tt,.arr p]]))) (hm:σ.look m=some (iB gr)) (hp:σ.look p=some (.arr 35 (aS ss))) (hpn:Nat.beq p n=false) (ht:e.get t0=some (.eptr n gr.length 4 0))
  (h:∀ b0 fv u,J (e.put (some t0) (.d (.sc (pY fv (gr.length * 4 + 0))))) (DZ σ run post c b0 fv u f pc tt ss gr m n p)):SC Tryz.prog e σ J:=by
 have h02:n≠m:=by rintro rfl;rw [hn] at hm;cases hm
 have hp2:p≠m:=by rintro rfl;rw [hp] at hm;cases hm
 have hn0:n≠0:=by rintro rfl;rw [hk] at hn;cases hn
 have hp0:p≠0:=by rintro rfl;rw [hk] at hp;cases hp
 have hm0:m≠0:=by rintro rfl;rw [hk] at hm;cases hm
 have hpn':p≠n:=by intro e;subst e;simp at hpn
 refine lQ (vO (n:=n) (m:=m) (p:=p) (i:=gr.length) (j:=3) (l:=gr.map rS) hm hn hpn hp (s:=ss.map Va.enc) rfl (dV rfl) rfl fun u=>?_)
 rw [mC]
 show SC Tryz.prog e (aA.put (aA.put (aA.put σ m (some (bS Tryz.prog 35 ((u,ss.map Va.enc)::gr.map rS)))) n (some (.arr 63 (d4 gr++[[iv f,iv pc,iv tt,.d (.sc u)]])))) p none) J
 have l1:(σ.put m (some (bS Tryz.prog 35 ((u,ss.map Va.enc)::gr.map rS)))).look n=some (.arr 63 (d4 gr++[[iv f,iv pc,iv tt,.arr p]])):=by rw [aM hm,if_neg h02];exact hn
 have l2:((σ.put m (some (bS Tryz.prog 35 ((u,ss.map Va.enc)::gr.map rS)))).put n (some (.arr 63 (d4 gr++[[iv f,iv pc,iv tt,.d (.sc u)]])))).look p=some (.arr 35 (aS ss)):=by rw [aM l1,if_neg hpn',aM hm,if_neg hp2];exact hp
 refine DR (k:=0) (n:=n) (m:=m) [kZ c] post t0 (rows:=gI ((u,⟨f,pc,tt,ss⟩)::gr)) (es:=d4 gr++[[iv f,iv pc,iv tt,.d (.sc u)]]) ?_ ?_ (fM (u:=u) (t:=⟨f,pc,tt,ss⟩)).symm ?_ ht fun b0 fv=>h b0 fv u
 ·rw [aM l2,if_neg (Ne.symm hp0),aM l1,if_neg (Ne.symm hn0),aM hm,if_neg (Ne.symm hm0)];exact hk
 ·rw [aM l2,if_neg (Ne.symm hpn'),aM l1,if_pos rfl]
 ·rw [aM l2,if_neg (Ne.symm hp2),aM l1,if_neg (Ne.symm h02),aM hm,if_pos rfl];rfl
def nE (c:List Fc) (s:Sp):Ou :=
 if s.dn=true then .turn s.ts ⟨true,d6,s.v,kW⟩ else if s.a.kind≠0 then .turn s.ts ⟨false,s.a,g9,kW⟩
 else if dO s.f=true then .more s.ts else match cT c s.f s.ts with
  | [] => .turn [] ⟨true,d6,g9,s.f⟩
  | ts => .more ts
def jV (c:List Fc):Nat→List Fm→Option (List Fm × Tn)
 | _,[]=>none
 | 0,_=>none
 | n + 1,t::r=>match nE c (cV c t r (aN c t)) with
  | .more ts=>jV c n ts
  | .turn ts u=>some (ts,u)
end
theorem M3 {c:List Fc} {i:Nat} {t:Fm} {r ts:List Fm} {u:Tn} (hi:i < 20000) (h:nE c (cV c t r (aN c t)) = .turn ts u):jV c (20000 - i) (t::r)=some (ts,u):=by
 obtain ⟨k,hk⟩:∃ k,20000 - i=k + 1:=⟨20000 - i - 1,by omega⟩
 rw [hk];simp only [jV,h]
theorem M2 {c:List Fc} {i:Nat} {t:Fm} {r ts:List Fm} (hi:i < 20000) (h:nE c (cV c t r (aN c t)) = .more ts):jV c (20000 - i) (t::r)=jV c (20000 - (i + 1)) ts:=by
 obtain ⟨k,hk⟩:∃ k,20000 - i=k + 1:=⟨20000 - i - 1,by omega⟩
 rw [hk,show 20000 - (i + 1)=k by omega];simp only [jV,h]
abbrev Tn.dv (t:Tn):DV := .agg (t.enc.map .d)
def S0 (c:List Fc) (o:Option (List Fm × Tn)) (r:DV) (σ:aA):Prop :=
 ∃ b0 fv gs,σ=[some (jK c b0 fv gs)]∧match o with
  | some (ts,u)=>gs.map (·.2)=ts∧r = .tup [u.dv,iv 0]
  | none=>r = .tup [iK.dv,iv 7]
theorem PX (c:List Fc) (I:List Fm→Prop) (hI1:∀ t r,I (t::r)→q9 c t r (aN c t)∧∀ u ∈ (cV c t r (aN c t)).ts,gX c u) (hIl:∀ t r,I (t::r)→(cV c t r (aN c t)).ts.length≤1000) (hI2:∀ t r ts,I (t::r)→nE c (cV c t r (aN c t)) = .more ts→I ts) (hI3:¬ I [])
  (b0:Nat) (fv:Value) (gs:List (Value × Fm)) (hgs:I (gs.map (·.2))) :
  aB Tryz.prog 132 [.ptr 0 0] [some (jK c b0 fv gs)] (S0 c (jV c 20000 (gs.map (·.2)))):=by
 refine of_body Tryz.func132 rfl rfl (nB rfl) ?_
 rw [Tryz.ntmps132]
 repeat' (first | ((with_reducible refine kw ?_);first | refine Wg ?_ | refine W0 ?_ | refine W1 ?_ | refine W3 ?_ | refine W2 ?_ | refine W4 ?_ | refine W6 ?_ | refine W7 ?_ | refine bJ ?_ | (refine aJ ?_;refine bB rfl rfl rfl rfl (aB.ret (M6 rfl rfl) ?_)) | (refine aE ?_;refine vR ?_) | refine eT ?_ | refine gQ ?_ | refine dH ?_ | refine eV ?_) | refine GX ?_ | (refine bW (fun hb=>?_) (fun hb=>?_) <;> rw [hb]) | refine GA ?_ | refine GG ?_ | (refine cJ (fun hb=>?_) (fun hb=>?_) <;> try rw [hb]) | ((with_reducible refine kf ?_);refine aP 0 Tryz.results132 rfl rfl rfl ?_) | refine GR ?_ | fail)
 refine cF [0,2,4,10] rfl ?_
 refine jY 3 (n:=_) (fun n e σ=>∃ (i:Nat) (m:Int) (b0:Nat) (fv:Value) (gq:List (Value × Fm)),n=20000 - i∧(m=i∧i≤20000∧I (gq.map (·.2))∧jV c (20000 - i) (gq.map (·.2))=jV c 20000 (gs.map (·.2)))∧e=[(0,_),(2,_),(4,_),(10,iv m)]∧σ=[some (jK c b0 fv gq),_,some (.map u4)]) rfl ⟨0,0,b0,fv,gs,rfl,⟨rfl,Nat.zero_le _,hgs,rfl⟩,rfl,rfl⟩ ?_
 rintro n e σ ⟨i,m,b1,fv1,gq,rfl,⟨rfl,hi,hG,hR⟩,rfl,rfl⟩
 rcases gq with _ | ⟨⟨u0,t⟩,gr⟩
 ·exact absurd hG hI3
 have hG:I (t::gr.map fun (g:Value × Fm)=>g.2):=hG
 obtain ⟨F,hGd⟩:=hI1 t (gr.map fun (g:Value × Fm)=>g.2) hG
 have hg:gr.length≤1000:=by have:=F.n;simp at this;omega
 repeat' (first | ((with_reducible refine kw ?_);first | refine Wg ?_ | refine W0 ?_ | refine W1 ?_ | (refine f9 ?_;refine cK (jA (ag rfl) (sz rfl) rfl rfl (sz rfl) (dV rfl) rfl rfl) rfl rfl ?_) | refine W2 ?_ | refine W3 ?_ | refine W3 ?_ | refine W2 ?_ | refine W4 ?_ | refine W6 ?_ | refine W7 ?_ | refine bJ ?_ | (refine aJ ?_;first | refine bB rfl rfl rfl rfl (aB.ret (aB.readsL (uD [] c t gr hg) [0,3,5] rfl (mF (post:=[]) rfl rfl rfl) rfl rfl rfl rfl _ (fun _ _=>rfl)) ?_) | refine bB rfl rfl rfl rfl (aB.ret (aB.readsL (zS [] c t gr F.f0 F.f1 F.p0 F.p1) [0,3,5] rfl (mF (post:=[]) rfl rfl rfl) rfl rfl rfl rfl _ (fun _ _=>rfl)) ?_) | refine bB rfl rfl rfl rfl ((aB.front1 (C:=fun y:Nat × Value × List (Value × Fm)=>y.2.2.map (·.2)=(cV c t (gr.map (·.2)) (aN c t)).ts) (rr:=fun _=>(cV c t (gr.map (·.2)) (aN c t)).dv) (o:=fun y=>jK c y.1 y.2.1 y.2.2) ((UT c b1 fv1 u1 t gr (aN c t) rfl F).mono fun r s ⟨h1,b,w,q,h2,h3⟩=>⟨(b,w,q),h3,h1,h2⟩) rfl (fun _=>rfl) rfl (fun _=>rfl)).mono ?_)) | (refine aE ?_;refine vR ?_) | refine eT ?_ | refine gQ ?_ | refine dH ?_ | refine eV ?_ | (refine NN ?_;refine cK (GE (mi rfl) rfl rfl rfl (FM F.op rfl)) rfl rfl ?_)) | refine GX ?_ | (refine bW (fun hb=>?_) (fun hb=>?_) <;> rw [hb]) | ((with_reducible refine ka ?_);first | ((with_reducible refine i5 4 ?_);refine dB (kM (k:=0) rfl ?_);refine dB (f8 4 3 rfl rfl ?_);refine fI ?_) | ((with_reducible refine i5 6 ?_);refine dB (SS (m:=4) (n:=3) (p:=5) [] 5 rfl rfl rfl rfl rfl rfl fun b1 fv1 u1=>?_);refine fI ?_)) | refine GA ?_ | refine GG ?_ | (refine cJ (fun hb=>?_) (fun hb=>?_) <;> try rw [hb]) | ((with_reducible refine kf ?_);refine aP 1 Tryz.results132 rfl rfl rfl ?_) | refine GR ?_ | ((with_reducible refine kr ?_);refine bD rfl rfl ?_) | fail)
 rotate_left
 ·have hge:=oF hb
  have e:i=20000:=by omega
  subst e
  rw [← hR]
  exact ⟨_,_,_,rfl,rfl⟩
 have hlt:i < 20000:=by have:=oT hb;omega
 clear hb
 rintro r s ⟨⟨b2,fv2,gs2⟩,hc,rfl,rfl⟩
 have hN:=fun ts h=>hI2 t (gr.map fun (g:Value × Fm)=>g.2) ts hG h
 have hL:=hIl t (gr.map fun (g:Value × Fm)=>g.2) hG
 have hT:=fun ts u (h:nE c (cV c t (gr.map fun (g:Value × Fm)=>g.2) (aN c t)) = .turn ts u)=>M3 hlt h
 have hM:=fun ts (h:nE c (cV c t (gr.map fun (g:Value × Fm)=>g.2) (aN c t)) = .more ts)=>M2 hlt h
 have hR':jV c (20000 - i) (t::gr.map fun (g:Value × Fm)=>g.2)=jV c 20000 (gs.map fun (g:Value × Fm)=>g.2):=hR
 simp only at hc
 generalize cV c t (gr.map fun (g:Value × Fm)=>g.2) (aN c t)=s at *
 have hF2:∀ g ∈ gs2,gX c g.2:=fun g hg=>hGd g.2 (by rw [← hc];exact List.mem_map.2 ⟨g,hg,rfl⟩)
 have hl2:gs2.length≤1000:=by have:=congrArg List.length hc;simp at this;omega
 repeat' (first | ((with_reducible refine kw ?_);first | refine Wg ?_ | refine W0 ?_ | refine W1 ?_ | refine W3 ?_ | refine W2 ?_ | refine W4 ?_ | refine W6 ?_ | refine W7 ?_ | refine bJ ?_ | (refine aJ ?_;refine bB rfl rfl rfl rfl ((aB.front1 (C:=fun y:Nat × Value × List (Value × Fm)=>y.2.2.map (·.2)=cT c s.f (gs2.map (·.2))) (rr:=fun _=>bv (decide (cT c s.f (gs2.map (·.2))≠[]))) (o:=fun y=>jK c y.1 y.2.1 y.2.2) ((UB c b2 fv2 gs2 s.f hl2 hF2).mono fun r s ⟨b,w,q,h1,h2,h3⟩=>⟨(b,w,q),h2,h3,h1⟩) rfl (fun _=>rfl) rfl (fun _=>rfl)).mono ?_)) | (refine aE ?_;refine vR ?_) | refine eT ?_ | refine gQ ?_ | refine dH ?_ | refine eV ?_) | refine GX ?_ | (refine bW (fun hb=>?_) (fun hb=>?_) <;> rw [hb]) | refine GA ?_ | refine GG ?_ | (refine cJ (fun hb=>?_) (fun hb=>?_) <;> try rw [hb]) | ((with_reducible refine kf ?_);refine aP 1 Tryz.results132 rfl rfl rfl ?_) | refine GR ?_ | ((with_reducible refine kr ?_);refine bD rfl rfl ?_) | fail)
 all_goals first
  | (have h0:=‹s.dn=true›;rw [← hR',hT s.ts ⟨true,d6,s.v,kW⟩ (by unfold nE;rw [if_pos h0])];exact ⟨b2,fv2,gs2,rfl,hc,rfl⟩)
  | (have h0:=‹s.dn=false›;have h1:=oT ‹decide (s.a.kind≠0)=true›;rw [← hR',hT s.ts ⟨false,s.a,g9,kW⟩ (by unfold nE;rw [if_neg (by rw [h0];simp),if_pos h1])];exact ⟨b2,fv2,gs2,rfl,hc,rfl⟩)
  | (have h0:=‹s.dn=false›;have h1:=oF ‹decide (s.a.kind≠0)=false›;have hq:=‹(!(decide (s.f.k=0) && (decide (s.f.t=⟨#[]⟩) && true)))=false›;have h2:dO s.f=true:=(by revert hq;show (!(dO s.f))=false→_;cases dO s.f <;> simp);have ho:nE c s = .more s.ts:=(by unfold nE;rw [if_neg (by rw [h0];simp),if_neg h1,if_pos h2]);have hI5:I (gs2.map (·.2)):=(by rw [hc];exact hN _ ho);have hR5:jV c (20000 - (i + 1)) (gs2.map (·.2))=jV c 20000 (gs.map (·.2)):=(by rw [hc,← hM _ ho];exact hR');refine gE (jM [0,2,4,10] rfl ?_);refine gU 3 rfl rfl rfl ?_;exact gT ⟨_,aI,i + 1,_,b2,fv2,gs2,rfl,⟨aL aI aI,by omega,hI5,hR5⟩,rfl,rfl⟩)
  | skip
 have h0:=‹s.dn=false›
 have h1:=oF ‹decide (s.a.kind≠0)=false›
 have hq:=‹(!(decide (s.f.k=0) && (decide (s.f.t=⟨#[]⟩) && true)))=true›
 have h2:dO s.f=false:=by revert hq;show (!(dO s.f))=true→_;cases dO s.f <;> simp
 clear hq
 rintro r s' ⟨⟨b3,fv3,gs3⟩,hc3,rfl,rfl⟩
 simp only at hc3
 repeat' (first | ((with_reducible refine kw ?_);first | refine Wg ?_ | refine W0 ?_ | refine W1 ?_ | refine W3 ?_ | refine W2 ?_ | refine W4 ?_ | refine W6 ?_ | refine W7 ?_ | refine bJ ?_ | (refine aE ?_;refine vR ?_) | refine eT ?_ | refine gQ ?_ | refine dH ?_ | refine eV ?_) | refine GX ?_ | (refine bW (fun hb=>?_) (fun hb=>?_) <;> rw [hb]) | refine GA ?_ | refine GG ?_ | (refine cJ (fun hb=>?_) (fun hb=>?_) <;> try rw [hb]) | ((with_reducible refine kf ?_);refine aP 1 Tryz.results132 rfl rfl rfl ?_) | refine GR ?_ | ((with_reducible refine kr ?_);refine bD rfl rfl ?_) | fail)
 all_goals first
  | (have hq:=‹(!decide (cT c s.f (gs2.map (·.2))≠[]))=true›;have h3:cT c s.f s.ts=[]:=(by rw [← hc];simpa using hq);rw [← hR',hT [] ⟨true,d6,g9,s.f⟩ (by unfold nE;rw [if_neg (by rw [h0];simp),if_neg h1,if_neg (by rw [h2];simp),h3])];exact ⟨b3,fv3,gs3,rfl,by rw [hc3,hc,h3],rfl⟩)
  | (have hq:=‹(!decide (cT c s.f (gs2.map (·.2))≠[]))=false›;have h3:cT c s.f s.ts≠[]:=(by rw [← hc];simpa using hq);have ho:nE c s = .more (cT c s.f s.ts):=(by unfold nE;rw [if_neg (by rw [h0];simp),if_neg h1,if_neg (by rw [h2];simp)];revert h3;cases cT c s.f s.ts <;> simp);have hI5:I (gs3.map (·.2)):=(by rw [hc3,hc];exact hN _ ho);have hR5:jV c (20000 - (i + 1)) (gs3.map (·.2))=jV c 20000 (gs.map (·.2)):=(by rw [hc3,hc,← hM _ ho];exact hR');refine gE (jM [0,2,4,10] rfl ?_);refine gU 3 rfl rfl rfl ?_;exact gT ⟨_,aI,i + 1,_,b3,fv3,gs3,rfl,⟨aL aI aI,by omega,hI5,hR5⟩,rfl,rfl⟩)
section
variable {P:Program} {σ L:aA} {e:aW} {J:aW→aA→Prop}
theorem aB.frozenS {f:FuncId} {args:List DV} {R:DV→aA→Prop} {R':DV→Prop} (h:aB P f args σ R) (hs:∀ r σ',R r σ'→∃ x,cA P σ' r x∧R' x):aB P f args σ (fun r s=>R' r∧s=σ.map fun _=>none):=by
 refine ⟨h.body,fun X ι w vs hh hr=>(h.run X ι w vs hh hr).mono ?_⟩
 rintro en w' ⟨v,r,σ',ι',rfl,hR,hc,hv⟩
 have hl:∀ i,aA.look (σ.map fun _=>none) i=none:=fun i=>by
  unfold aA.look
  rw [List.getElem?_map]
  cases σ[i]? <;> rfl
 have hno:∀ b,¬ g8 ι (σ.map fun _=>none) b:=fun b ⟨i,o,u,g1,_⟩=>by rw [hl] at g1;cases g1
 obtain ⟨x,hx,hx'⟩:=hs r σ' hR
 have:=hx X ι' w' v hc.heap hv
 refine ⟨v,x,_,ι,rfl,⟨hx',rfl⟩,⟨⟨fun _ _ h=>h,hc.frame,⟨fun id hid=>hh.fresh id (by simpa using hid),fun id o ho=>(by rw [hl] at ho;cases ho),fun id id' o o' v v' b ho=>(by rw [hl] at ho;cases ho),fun b hb=>Nat.lt_of_lt_of_le (hh.xlt b hb) hc.frame.size,fun b hb=>absurd hb (hno b),fun g hg=>by
   obtain ⟨g1,g2,g3⟩:=hc.heap.glob g hg
   exact ⟨g1,fun hm=>hm.elim (fun h=>g2 (.inl h)) (hno g),g3⟩⟩,fun b _ hb=>absurd hb (hno b)⟩,fun _ _=>rfl,by simp⟩,?_⟩
 exact this.mono (fun _ _ h=>by cases h) (a8.refl X w') (fun b _ hb=>hb.elim (fun h=>h) (fun h=>absurd h (hno b)))
theorem aB.at1 {α:Sort _} {f:FuncId} {args args':List DV} {o0:aU} {o:α→Option aU} {rr:α→DV} {C:α→Prop} (h:aB P f args [some o0] (fun r s=>∃ y,C y∧r=rr y∧s=[o y])) (k:Nat) (hk:σ.look k=some o0) (h0:o0.under 0=true) (h01:o0.under 1=true) (h1:∀ y q,o y=some q→q.under 0=true) (ha:DV.unders 1 args=true) (ha':DV.rens (bL [k] σ.length) args=args') (hr:∀ y,(rr y).under 0=true) :
  aB P f args' σ (fun r s=>∃ y,C y∧r=rr y∧s=σ.put k (o y)):=by
 have hlt:=a7 hk
 have hg:∀ i,i < 0→bL [k] σ.length i=i:=fun i hi=>by omega
 refine (aB.within h [k] ⟨rfl,fun j hj=>?_,by simp,fun i o' j h2 h3=>?_,fun i o' h2=>?_⟩ ha ha').mono ?_
 ·simp at hj;subst hj;exact hlt
 ·have hi:=a7 h2
  obtain rfl:i=0:=by simp at hi;exact hi
  simp at h3;subst h3
  cases h2
  rw [hk,nF hg o0 h0]
 ·have hi:=a7 h2
  obtain rfl:i=0:=by simp at hi;exact hi
  cases h2;exact h01
 ·rintro r s ⟨r0,σ0,⟨y,hc,rfl,rfl⟩,_,rfl,rfl⟩
  refine ⟨y,hc,x8 hg _ (hr y),?_⟩
  have hq:(o y).map (aU.ren (bL [k] σ.length))=o y:=by
   cases ho:o y with
   | none=>rfl
   | some q=>simp [nF hg q (h1 y q ho)]
  simp only [kC,dX,hq,List.map_nil,List.append_nil]
  rw [aA.put_eq,if_pos hlt]
theorem PH {A:aA} {n:Nat} {a b:Option aU} (h:A.length=n):aA.put (aA.put (A++([a]++[b])) n none) (n + 1) none=A++[none,none]:=by
 subst h
 have e1:aA.put (A++([a]++[b])) A.length none=A++([none]++[b]):=by
  rw [aA.put_eq,if_pos eS,List.set_append_right _ _ (Nat.le_refl _),Nat.sub_self];rfl
 rw [e1,aA.put_eq,if_pos eS,List.set_append_right _ _ aI,Nat.add_sub_cancel_left];rfl
theorem aAx {k:Nat} {run:TypeId} {c:List Fc} (post:List aR) (hk:σ.look k=some (.box run (bC c :: .nils::post.map .d)))
  (h:∀ b0 fv,J e (σ.put k (some (mG run post c b0 fv []))++[none,none])):SC Tryz.prog e σ J:=by
 have hlt:=a7 hk
 refine lQ (FY k 1 63 hk rfl ?_)
 refine lQ (kK 35 ?_)
 have l0:aA.look (σ++[some (.arr 63 [])]) k=some (.box run (bC c :: .nils::post.map .d)):=by rw [eZ,if_pos hlt];exact hk
 have e1:(σ++[some (aU.arr 63 [])]).put k (some (.box run ((bC c :: .nils::post.map .d).set 1 (.arr σ.length))))=σ.put k (some (.box run (bC c :: .arr σ.length::post.map .d)))++[some (.arr 63 [])]:=by
  rw [aA.put_eq,aA.put_eq,if_pos KT,if_pos hlt,List.set_append_left _ _ hlt];rfl
 rw [e1,List.append_assoc]
 have hl:(σ.put k (some (.box run (bC c :: .arr σ.length::post.map .d)))).length=σ.length:=bV hk
 have g1:aA.look (σ.put k (some (.box run (bC c :: .arr σ.length::post.map .d)))++([some (.arr 63 [])]++[some (bS Tryz.prog 35 [])])) k=some (.box run (bC c :: .arr σ.length::post.map .d)):=by
  rw [eZ,hl,if_pos hlt,aM hk,if_pos rfl]
 have g2:aA.look (σ.put k (some (.box run (bC c :: .arr σ.length::post.map .d)))++([some (.arr 63 [])]++[some (bS Tryz.prog 35 [])])) σ.length=some (.arr 63 []):=by
  rw [eZ,hl,if_neg (Nat.lt_irrefl _),Nat.sub_self];rfl
 have g3:aA.look (σ.put k (some (.box run (bC c :: .arr σ.length::post.map .d)))++([some (.arr 63 [])]++[some (bS Tryz.prog 35 [])])) (σ.length + 1)=some (bS Tryz.prog 35 []):=by
  rw [eZ,hl,if_neg aI,Nat.add_sub_cancel_left];rfl
 refine pK (k:=k) (n:=σ.length) (m:=σ.length + 1) [kZ c] post (rows:=gI []) g1 g2 rfl g3 fun b0 fv=>?_
 have pe:∀ (τ:aA) (i:Nat) (o:Option aU),i < τ.length→τ.put i o=τ.set i o:=fun τ i o hi=>by rw [aA.put_eq,if_pos hi]
 have e2:aA.put (aA.put (aA.put (σ.put k (some (.box run (bC c :: .arr σ.length::post.map .d)))++([some (.arr 63 [])]++[some (bS Tryz.prog 35 [])])) k (some (sK Tryz.prog run 63 35 [kZ c] post b0 fv (gI []) []))) σ.length none) (σ.length + 1) none=σ.put k (some (mG run post c b0 fv []))++[none,none]:=by
  rw [pe _ k _ (by rw [List.length_append,hl];omega),pe σ k _ hlt,pe σ k _ hlt,List.set_append_left _ _ (by simpa using hlt),List.set_set]
  exact PH eS
 rw [e2]
 exact h b0 fv
end
def iC (o:Option (List Fm × Tn)):List Fm × Tn × Int:=match o with
 | none=>([],iK,7)
 | some (ts,u)=>if u.done=true then ([],u,0) else (ts.reverse,u,0)
abbrev dZ (p:List Fm × Tn × Int):DV := .tup [lv (p.1.map Fm.enc),p.2.1.dv,iv p.2.2]
theorem yF {P:Program} {σ:aA} {a b d x y z:DV} (h1:cA P σ a x) (h2:cA P σ b y) (h3:cA P σ d z):cA P σ (.tup [a,b,d]) (.tup [x,y,z]) := .tup (.cons h1 (.cons h2 (.cons h3 .nil)))
theorem oQ {P:Program} {σ:aA} (l:List aR):cA P σ (.agg (l.map .d)) (.agg (l.map .d)) := .agg (kO l)
theorem E7 (c:List Fc) (b0:Nat) (fv:Value) (gs:List (Value × Fm)) (hT:aB Tryz.prog 132 [.ptr 0 0] [some (jK c b0 fv gs)] (fun r s=>∃ y:Nat × Value × List (Value × Fm),True∧r = .tup [iK.dv,iv 7]∧s=[some (jK c y.1 y.2.1 y.2.2)])) :
  aB Tryz.prog 85 [.ptr 0 0] [some (jK c b0 fv gs)] (fun r σ'=>cA Tryz.prog σ' r (dZ ([],iK,7))):=by
 refine fW Tryz.func85 rfl rfl (nB rfl) ?_
 rw [Tryz.ntmps85]
 repeat' (first | ((with_reducible refine kw ?_);first | refine W0 ?_ | refine W6 ?_ | refine bJ ?_ | (refine aJ ?_;refine bB rfl rfl rfl rfl ((aB.front1 (C:=fun y:Nat × Value × List (Value × Fm)=>True) (rr:=fun _ => .tup [iK.dv,iv 7]) (o:=fun y=>jK c y.1 y.2.1 y.2.2) hT rfl (fun _=>rfl) rfl (fun _=>rfl)).mono ?_)) | (refine aE ?_;refine vR ?_) | refine iZ ?_ | refine dH ?_ | refine eV ?_) | refine GA ?_ | refine GG ?_ | ((with_reducible refine tO ?_);refine j7 Tryz.results85 rfl ?_) | refine GS ?_ | fail)
 rintro r s ⟨⟨b1,fv1,g1⟩,hc,rfl,rfl⟩
 have e0:decide ((7:Int)≠0)=true:=rfl
 repeat' (first | ((with_reducible refine kw ?_);first | refine W0 ?_ | refine W6 ?_ | refine bJ ?_ | (refine aE ?_;refine vR ?_) | refine iZ ?_ | refine dH ?_ | refine eV ?_) | refine GA ?_ | refine GG ?_ | ((with_reducible refine tO ?_);refine j7 Tryz.results85 rfl ?_) | refine GS ?_ | fail)
 all_goals exact yF .d (oQ iK.enc) .sc
theorem E8 (c:List Fc) (b0:Nat) (fv:Value) (gs:List (Value × Fm)) (ts:List Fm) (u:Tn) (hT:aB Tryz.prog 132 [.ptr 0 0] [some (jK c b0 fv gs)] (fun r s=>∃ y:Nat × Value × List (Value × Fm),y.2.2.map (·.2)=ts∧r = .tup [u.dv,iv 0]∧s=[some (jK c y.1 y.2.1 y.2.2)])) :
  aB Tryz.prog 85 [.ptr 0 0] [some (jK c b0 fv gs)] (fun r σ'=>cA Tryz.prog σ' r (dZ (if u.done=true then ([],u,0) else (ts.reverse,u,0)))):=by
 refine fW Tryz.func85 rfl rfl (nB rfl) ?_
 rw [Tryz.ntmps85]
 repeat' (first | ((with_reducible refine kw ?_);first | refine W0 ?_ | refine W1 ?_ | refine W2 ?_ | refine W6 ?_ | refine bJ ?_ | (refine aJ ?_;refine bB rfl rfl rfl rfl ((aB.front1 (C:=fun y:Nat × Value × List (Value × Fm)=>y.2.2.map (·.2)=ts) (rr:=fun _ => .tup [u.dv,iv 0]) (o:=fun y=>jK c y.1 y.2.1 y.2.2) hT rfl (fun _=>rfl) rfl (fun _=>rfl)).mono ?_)) | (refine aE ?_;refine vR ?_) | refine iZ ?_ | refine dH ?_) | refine GN ?_ | ((with_reducible refine kd ?_);first | refine D0 ?_ | refine D1 ?_ | refine D2 ?_ | refine D3 ?_ | refine D4 ?_ | refine iY ?_ | (refine aV ?_;refine NR ?_)) | refine GA ?_ | refine GG ?_ | (refine cJ (fun hb=>?_) (fun hb=>?_) <;> try rw [hb]) | ((with_reducible refine tO ?_);refine j7 Tryz.results85 rfl ?_) | refine GS ?_ | fail)
 rintro r s ⟨⟨b1,fv1,g1⟩,hc,rfl,rfl⟩
 simp only at hc
 have e0:decide ((0:Int)≠0)=false:=rfl
 repeat' (first | ((with_reducible refine kw ?_);first | refine W0 ?_ | refine W1 ?_ | refine W2 ?_ | refine W6 ?_ | refine bJ ?_ | (refine aE ?_;refine vR ?_) | refine iZ ?_ | refine dH ?_) | refine GN ?_ | ((with_reducible refine kd ?_);first | refine D0 ?_ | refine D1 ?_ | refine D2 ?_ | refine D3 ?_ | refine D4 ?_ | refine iY ?_ | (refine aV ?_;refine NR ?_)) | ((with_reducible refine ka ?_);((with_reducible refine i5 6 ?_);refine dB (kM (k:=0) rfl ?_);refine fI ?_)) | refine GA ?_ | refine GG ?_ | (refine cJ (fun hb=>?_) (fun hb=>?_) <;> try rw [hb]) | ((with_reducible refine tO ?_);refine j7 Tryz.results85 rfl ?_) | refine GS ?_ | fail)
 all_goals first
  | (have hq:=‹u.done=true›;rw [if_pos (by first | rfl | exact hq)];exact yF .d (oQ u.enc) .sc)
  | (have hq:=‹u.done=false›;rw [if_neg (by first | (rw [hq];simp;done) | (simp;done))];refine yF ?_ (oQ u.enc) .sc;rw [← hc];rw [List.map_reverse,List.map_map];exact BK (m:=4) rfl rfl)
theorem CL (c:List Fc) (I:List Fm→Prop) (hI1:∀ t r,I (t::r)→q9 c t r (aN c t)∧∀ u ∈ (cV c t r (aN c t)).ts,gX c u) (hIl:∀ t r,I (t::r)→(cV c t r (aN c t)).ts.length≤1000) (hI2:∀ t r ts,I (t::r)→nE c (cV c t r (aN c t)) = .more ts→I ts) (hI3:¬ I [])
  (b0:Nat) (fv:Value) (gs:List (Value × Fm)) (hgs:I (gs.map (·.2))) :
  aB Tryz.prog 85 [.ptr 0 0] [some (jK c b0 fv gs)] (fun r s=>r=dZ (iC (jV c 20000 (gs.map (·.2))))∧s=[none]):=by
 have hT:=PX c I hI1 hIl hI2 hI3 b0 fv gs hgs
 refine (aB.frozenS (R:=fun r σ'=>cA Tryz.prog σ' r (dZ (iC (jV c 20000 (gs.map (·.2)))))) (R':=fun r=>r=dZ (iC (jV c 20000 (gs.map (·.2))))) ?_ fun r σ' h=>⟨_,h,rfl⟩)
 clear hI1 hIl hI2 hI3 hgs
 generalize jV c 20000 (gs.map (·.2))=o at *
 rcases o with _ | ⟨ts,u⟩
 ·exact E7 c b0 fv gs (hT.mono fun r s ⟨b,w,q,h1,h2⟩=>⟨(b,w,q),trivial,h2,h1⟩)
 ·exact E8 c b0 fv gs ts u (hT.mono fun r s ⟨b,w,q,h1,h2,h3⟩=>⟨(b,w,q),h2,h3,h1⟩)
theorem M5 (c:List Fc) (fn:Int) (args:List Va) (hf0:0≤fn) (hf1:fn < (c.length:Int)) (hs0:0≤(aC c fn).slots) (hs1:(aC c fn).slots≤200) (hle:args.length≤(aC c fn).slots.toNat) (I:List Fm→Prop) (hI1:∀ t r,I (t::r)→q9 c t r (aN c t)∧∀ u ∈ (cV c t r (aN c t)).ts,gX c u) (hIl:∀ t r,I (t::r)→(cV c t r (aN c t)).ts.length≤1000) (hI2:∀ t r ts,I (t::r)→nE c (cV c t r (aN c t)) = .more ts→I ts) (hI3:¬ I []) (hI:I [eW c fn (-1) args]) :
  bY Tryz.prog 45 [.agg [bC c],iv fn,lv (args.map Va.enc)] (dZ (iC (jV c 20000 [eW c fn (-1) args]))):=by
 have hE:=fun b0 fv u=>CL c I hI1 hIl hI2 hI3 b0 fv [(u,eW c fn (-1) args)] hI
 clear hI1 hIl hI2 hI3 hI
 refine of_body Tryz.func45 rfl rfl (nB rfl) ?_
 rw [Tryz.ntmps45]
 repeat' (first | ((with_reducible refine kw ?_);first | refine W0 ?_ | refine W3 ?_ | refine bJ ?_ | (refine aJ ?_;first | refine bB rfl rfl rfl rfl ((aB.at1 (C:=fun y:Nat × Value × Value=>True) (rr:=fun _ => .tup []) (o:=fun y=>some (jK c y.1 y.2.1 [(y.2.2,eW c fn (-1) args)])) ((V5 c fn (-1) args hf0 hf1 hs0 hs1 hle b0 fv [] (Nat.zero_le _)).mono fun r s ⟨b,w,u,h1,h2⟩=>⟨(b,w,u),trivial,h1,h2⟩) 2 rfl rfl rfl (fun y q h=>by cases h;rfl) rfl rfl (fun _=>rfl)).mono ?_) | refine bB rfl rfl rfl rfl (aB.ret ((aB.at1 (C:=fun y:Unit=>True) (rr:=fun _=>dZ (iC (jV c 20000 [eW c fn (-1) args]))) (o:=fun y=>none) ((hE b1 fv1 u1).mono fun r s ⟨h1,h2⟩=>⟨(),trivial,h1,h2⟩) 2 rfl rfl rfl (fun y q h=>by cases h) rfl rfl (fun _=>rfl)).mono fun r s ⟨_,_,h1,h2⟩=>⟨h1,h2⟩) ?_)) | (refine aE ?_;refine vR ?_) | refine iZ ?_ | refine cW ?_ | refine dH ?_ | refine eV ?_) | ((with_reducible refine ka ?_);((with_reducible refine i5 2 ?_);refine dB (aAx (k:=2) [] rfl fun b0 fv=>?_);refine fI ?_)) | refine GA ?_ | refine GG ?_ | ((with_reducible refine kf ?_);refine aP 0 Tryz.results45 rfl rfl rfl ?_) | refine GR ?_ | ((with_reducible refine kr ?_);refine aG rfl ?_) | fail)
 rintro r s ⟨⟨b1,fv1,u1⟩,-,rfl,rfl⟩
 repeat' (first | ((with_reducible refine kw ?_);first | refine W0 ?_ | refine W3 ?_ | refine bJ ?_ | (refine aJ ?_;first | refine bB rfl rfl rfl rfl ((aB.at1 (C:=fun y:Nat × Value × Value=>True) (rr:=fun _ => .tup []) (o:=fun y=>some (jK c y.1 y.2.1 [(y.2.2,eW c fn (-1) args)])) ((V5 c fn (-1) args hf0 hf1 hs0 hs1 hle b0 fv [] (Nat.zero_le _)).mono fun r s ⟨b,w,u,h1,h2⟩=>⟨(b,w,u),trivial,h1,h2⟩) 2 rfl rfl rfl (fun y q h=>by cases h;rfl) rfl rfl (fun _=>rfl)).mono ?_) | refine bB rfl rfl rfl rfl (aB.ret ((aB.at1 (C:=fun y:Unit=>True) (rr:=fun _=>dZ (iC (jV c 20000 [eW c fn (-1) args]))) (o:=fun y=>none) ((hE b1 fv1 u1).mono fun r s ⟨h1,h2⟩=>⟨(),trivial,h1,h2⟩) 2 rfl rfl rfl (fun y q h=>by cases h) rfl rfl (fun _=>rfl)).mono fun r s ⟨_,_,h1,h2⟩=>⟨h1,h2⟩) ?_)) | (refine aE ?_;refine vR ?_) | refine iZ ?_ | refine cW ?_ | refine dH ?_ | refine eV ?_) | refine GA ?_ | refine GG ?_ | ((with_reducible refine kf ?_);refine aP 0 Tryz.results45 rfl rfl rfl ?_) | refine GR ?_ | ((with_reducible refine kr ?_);refine aG rfl ?_) | fail)
 all_goals (generalize iC _=p;obtain ⟨l,u,n⟩:=p;rfl)
def bH (v:Va):Bool:=cQ v.k v.n v.s
def lT (c:List Fc) (fn:Int) (args:List Va):Bool:=((decide (fn≥0) && decide (fn < (c.length:Int))) && decide ((args.length:Int)=(aC c fn).params)) && !(args.any fun v=>!bH v)
theorem DB (v:Va):bY Tryz.prog 82 [v.dv] (bv (!bH v)):=by
 refine of_body Tryz.func82 rfl rfl (nB rfl) ?_
 rw [Tryz.ntmps82]
 repeat' (first | ((with_reducible refine kw ?_);first | refine W3 ?_ | refine bJ ?_ | (refine aJ ?_;refine tD (l7 v.k v.n v.s) ?_) | refine gQ ?_ | refine cW ?_) | refine GA ?_ | refine GG ?_ | ((with_reducible refine kf ?_);refine aP 0 Tryz.results82 rfl rfl rfl ?_) | refine GR ?_ | ((with_reducible refine kr ?_);refine aG rfl ?_) | fail)
 all_goals first | rfl | skip
theorem EV (c:List Fc) (fn:Int) (args:List Va):bY Tryz.prog 44 [.agg [bC c],iv fn,lv (args.map Va.enc)] (bv (lT c fn args)):=by
 refine aB.assume rfl fun hok _=>?_
 have hlen:=dK (hok (.agg [bC c]) eS (.lst (c.map Fc.enc)) eS)
 simp only [List.length_map] at hlen
 refine of_body Tryz.func44 rfl rfl (nB rfl) ?_
 rw [Tryz.ntmps44]
 repeat' (first | ((with_reducible refine kw ?_);first | refine Wg ?_ | refine W0 ?_ | refine W1 ?_ | refine W2 ?_ | refine W6 ?_ | refine bJ ?_ | (refine aJ ?_;refine bB rfl rfl rfl rfl (aB.ret (TZ args 82 [] [] (fun v=>!bH v) _ (fun i _=>bY.at (DB (aC args (i:Int))) rfl rfl ⟨rfl,rfl⟩)) ?_)) | refine wR ?_ | refine eT ?_ | refine gQ ?_ | refine gZ ?_ | refine cW ?_) | refine GX ?_ | (refine bW (fun hb=>?_) (fun hb=>?_) <;> rw [hb]) | refine GA ?_ | refine GG ?_ | ((with_reducible refine kf ?_);refine aP 0 Tryz.results44 rfl rfl rfl ?_) | refine GR ?_ | ((with_reducible refine kr ?_);refine aG rfl ?_) | fail)
 all_goals (simp only [lT, *,b6,b8,b7,b5];rfl)
def mB (c:List Fc) (fn:Int) (args:List Va):List Fm × Tn × Int :=
 if cC c≠0 then ([],iK,cC c) else if lT c fn args=false then ([],iK,2) else iC (jV c 20000 [eW c fn (-1) args])
theorem K1 (c:List Fc) (fn:Int) (args:List Va) (hS:cC c=0→lT c fn args=true→bY Tryz.prog 45 [.agg [bC c],iv fn,lv (args.map Va.enc)] (dZ (iC (jV c 20000 [eW c fn (-1) args])))) :
  bY Tryz.prog 15 [.agg [bC c],iv fn,lv (args.map Va.enc)] (dZ (mB c fn args)):=by
 refine of_body Tryz.func15 rfl rfl (nB rfl) ?_
 rw [Tryz.ntmps15]
 repeat' (first | ((with_reducible refine kw ?_);first | refine W0 ?_ | refine W3 ?_ | refine W6 ?_ | refine bJ ?_ | (refine aJ ?_;first | refine tD (oA c) ?_ | refine tD (EV c fn args) ?_ | refine bB rfl rfl rfl rfl (bY.at (hS (Decidable.not_not.1 (oF ‹decide (cC c≠0)=false›)) (by first | assumption | simpa using ‹(!lT c fn args)=false›)) rfl rfl ?_)) | (refine aE ?_;refine vR ?_) | refine gQ ?_ | refine iZ ?_ | refine cW ?_ | refine dH ?_ | refine eV ?_) | refine GA ?_ | refine GG ?_ | (refine cJ (fun hb=>?_) (fun hb=>?_) <;> try rw [hb]) | ((with_reducible refine kf ?_);refine aP 0 Tryz.results15 rfl rfl rfl ?_) | refine GR ?_ | ((with_reducible refine kr ?_);refine aG rfl ?_) | fail)
 all_goals first
  | (have h1:=oT ‹decide (cC c≠0)=true›;rw [mB,if_pos h1];rfl)
  | (have h1:=oF ‹decide (cC c≠0)=false›;have h2:lT c fn args=false:=(by simpa using ‹(!lT c fn args)=true›);rw [mB,if_neg h1,if_pos h2];rfl)
  | (have h1:=oF ‹decide (cC c≠0)=false›;have h2:lT c fn args=true:=(by simpa using ‹(!lT c fn args)=false›);rw [mB,if_neg h1,if_neg (by rw [h2];simp)];generalize iC _=p;obtain ⟨l,u,n⟩:=p;rfl)
end Go.Ab
