import Derived.Test.YtdeikigmgdnojaaGreatDoorA41
import Derived.Test.YtdeikigmgdnojaaGreatDoorA35
import Derived.Test.YtdeikigmgdnojaaGreatDoorA36
/- A part of the proof of one law. -/
set_option maxRecDepth 100000
set_option maxHeartbeats 8000000
set_option linter.unusedVariables false
set_option linter.unusedSimpArgs false
namespace Go.Ab
open Go Go.Ab.Tryz Go.Proofs
theorem J1 {σ:aA} {n:Nat} (hn:σ.length=n) (fs:List Fm) (hl:fs.length≤24) (hs:∀ t ∈ fs,t.slots.length≤1000) {t:Fm} {r:List Fm} (hr:fs.reverse=t::r) :
  aB Tryz.prog 41 [lv (fs.map Fm.enc)] σ (fun x s=>x = .arr (n + 3)∧∃ y:Value × List (Value × Fm),y.2.map (·.2)=r∧s=σ++[some (iB ((y.1,t)::y.2)),none,none,some (.arr 63 (d4 ((y.1,t)::y.2)))]):=by
 subst hn
 refine aB.shift (J2 fs aI hs) rfl fun r0 σ0 ⟨h1,gs,h2,h3⟩=>?_
 subst h1 h3
 rw [hr] at h2
 refine ⟨?_,?_⟩
 ·show DV.arr (bL [] σ.length 3)=_
  simp [bL,Nat.add_comm]
 ·rcases gs with _ | ⟨⟨u,t'⟩,gr⟩
  ·cases h2
  ·simp only [List.map_cons,List.cons.injEq] at h2
   obtain ⟨rfl,h2⟩:=h2
   refine ⟨(u,gr),h2,?_⟩
   simp only [List.map_cons,List.map_nil,Option.map_some,Option.map_none]
   rw [show (aU.arr 63 (d4 ((u,t')::gr))).ren (bL [] σ.length) = .arr 63 (d4 ((u,t')::gr)) from lH]
   rfl
theorem MR (c:List Fc) (t:Fm) (a:Nat) (hpa:t.pc=(a:Int)) (hp4:t.pc < 4000) (hf0:0≤t.fn) (hf1:t.fn < (c.length:Int)) (hp0:0≤t.pc) (hp1:t.pc < ((aC c t.fn).code.length:Int)) (x:In) (hx:aN c t=x) (F:oY c t x) (hB:bT c t x=true) :
  aB Tryz.prog 27 [.agg [bC c],t.dv] [] (fun r σ'=>Fr σ' r (.tup [Ak.dv (bX c t x),bv true])):=by
 have:=BG c t a hpa hp4 hf0 hf1 hp0 hp1 x hx F
 rw [hB,if_pos rfl] at this
 exact this
def PD (c:List Fc) (o:Ou):Option (List Fm × Tn):=match o with
 | .more ts=>sQ c 20000 ts
 | .turn ts u=>some (ts,u)
theorem MV {c:List Fc} {o:Ou} {y:vS} (hG:∀ ts,o = .more ts→eK c ts) (h:KQ o y):K0 c (PD c o) 0 y:=by
 cases o with
 | more ts =>
  obtain ⟨h1,h2⟩:=h
  exact .inl ⟨h2,by rw [h1];exact hG ts rfl,by rw [h1];rfl⟩
 | turn ts u =>
  obtain ⟨h1,h2⟩:=h
  exact .inr ⟨u,h2,by rw [h1];rfl⟩
theorem PU {c:List Fc} {t:Fm} {r:List Fm} {n:Int} {v:Va} {f:Fa} (hf:f.k≠0):jW c t r n v f=dE c f (t::r):=by unfold jW;rw [if_pos hf]
theorem RO {f:Fa} (h:zA f):dO f=decide (f.k=0):=by
 unfold dO
 by_cases h0:f.k=0
 ·unfold zA gW at h
  rw [if_pos (.inl h0)] at h
  rw [h];simp
 ·simp [h0]
theorem MS (c:List Fc) (hc:dR c) (fs:List Fm) (t:Fm) (r:List Fm) (hgb:d9 c fs=true) (hr:fs.reverse=t::r) (R:N1 c (t::r)) (a:An) :
  bY Tryz.prog 25 [.agg [bC c],lv (fs.map Fm.enc),a.dv] (dZ (iG c t r a)):=by
 have G:=R.g
 have F:=G.top
 have h10:=(R.top t r rfl).1
 have hB0:=(R.top t r rfl).2
 have hlen:fs.length=r.length + 1:=by have:=congrArg List.length hr;simpa using this
 have hfl:fs.length≤24:=by have:=G.n;simp at this;omega
 have hmem:∀ x,x ∈ fs↔x ∈ t::r:=fun x=>by rw [← hr,List.mem_reverse]
 have hfs:∀ x ∈ fs,x.slots.length≤1000:=fun x hx=>by
  have Fx:=G.fr x ((hmem x).1 hx)
  have:=Fx.sl
  have:=(hc.fs _ (dM Fx.f0 Fx.f1)).hd.s1
  omega
 have I0:=vG hc F
 have A0:=I0.ask h10
 have hp:0≤t.pc∧t.pc < 4000:=⟨F.p0,by have:=F.p1;have:=(oB hc F).hd.n1;omega⟩
 have hw:IntKind.i64.wrap (t.pc + 1)=t.pc + 1:=aL aI aI
 have hgo:=rC hc F (by rw [h10];rfl)
 have hAF0:=lB hc F h10
 have hxa0:(aN c t).a≥0→(aN c t).a < (t.slots.length:Int):=fun _=>by rw [F.sl];exact (I0.a2 aI).2
 have hx00:(aN c t).b=15→(0:Int) < ((aN c t).l.length:Int):=fun h=>by
  have:=(A0.lo aI).1
  rw [h] at this
  have h':(1:Int)≤_:=this
  omega
 have hxb0:(aN c t).b=15→0≤aC (aN c t).l 0∧aC (aN c t).l 0 < (t.slots.length:Int):=fun h=>by
  rw [F.sl];exact I0.l1 aI _ (dM aI (hx00 h))
 obtain ⟨x,hx2⟩:∃ x,aN c t=x:=⟨_,rfl⟩
 have hx3:aC (aC c t.fn).code t.pc=x:=hx2
 rw [hx2] at h10 hB0 hAF0 hxa0 hx00 hxb0
 have hB:=hB0
 have hAF:=hAF0
 have hxa:=hxa0
 have hx0:=hx00
 have hxb:=hxb0
 have hok:(!d9 c fs)=false:=by rw [hgb];rfl
 have hkl:(bX c t x).kind=15→(bX c t x).arms.length≤4000:=fun hk=>by
  have e:(bX c t x).arms.length≤(fP c t).length:=by
   unfold bX
   repeat' split
   all_goals simp
  have hq:(fP c t).length≤4000:=by
   show (d5 (aC c t.fn).code t.pc.toNat).length≤4000
   unfold d5
   rw [List.length_take,List.length_drop]
   have:=(oB hc F).hd.n1
   omega
  omega
 refine of_body Tryz.func25 rfl rfl (nB rfl) ?_
 rw [Tryz.ntmps25]
 repeat' (first | ((with_reducible refine kw ?_);first | refine Wg ?_ | refine W0 ?_ | refine W1 ?_ | refine W3 ?_ | refine W2 ?_ | refine W6 ?_ | refine bJ ?_ | (refine aJ ?_;first | refine tD (t7 c hc fs) ?_ | refine bB rfl rfl rfl rfl (aB.ret (aB.readsL (kJ (gH iK false) c t gr hgl) [7,6,8] rfl (FL (post:=(gH iK false)) rfl rfl rfl rfl) rfl rfl rfl rfl _ (fun _ _=>rfl)) ?_) | refine tD (PP (bX c t x) a) ?_) | (refine aE ?_;refine q8 ?_) | refine eT ?_ | refine gQ ?_ | refine iZ ?_ | refine cW ?_ | refine dH ?_ | refine eV ?_) | refine GX ?_ | (refine bW (fun hb=>?_) (fun hb=>?_) <;> rw [hb]) | refine GN ?_ | ((with_reducible refine kd ?_);first | refine D0 ?_ | refine D1 ?_ | (refine dI ?_;refine BU ?_) | refine D3 ?_ | refine D2 ?_ | refine D4 ?_ | refine iY ?_ | (refine bM ?_;first | refine LP rfl rfl rfl rfl rfl rfl (J1 (n:=3) rfl fs hfl hfs hr) rfl (fun y hy=>?_) | refine eM [8] rfl rfl rfl rfl (fun σ2 hσ=>aB.borrowF (MR c t t.pc.toNat (by have:=F.p0;omega) hp.2 F.f0 F.f1 F.p0 F.p1 x hx2 hAF hB) (.cons (.agg (.cons .d .nil)) (.cons (.agg (.cons .d (.cons .d (.cons .d (.cons (nN (hσ 8 eS)) .nil))))) .nil)) (fun r σ0 h=>h)) rfl ?_) | (refine c7 ?_;first | refine dC (eG (el rfl) rfl rfl rfl (sz rfl) (hxb (oT ‹decide (x.b=15)=true›)).1 (hxb' (oT ‹decide (x.b=15)=true›))) rfl rfl rfl rfl ?_ | refine dC (aF (el rfl) rfl rfl F.f0 F.f1 ⟨rfl,by decide⟩) rfl rfl rfl rfl ?_ | refine dC (aF (el rfl) rfl rfl F.p0 F.p1 ⟨rfl,by decide⟩) rfl rfl rfl rfl ?_ | refine dC (aF (el rfl) rfl rfl cN (hx0 (oT ‹decide (x.b=15)=true›)) ⟨rfl,by decide⟩) rfl rfl rfl rfl ?_) | (refine aV ?_;first | refine mW rfl rfl (kY rfl) rfl rfl (sz rfl) (hxb (oT ‹decide (x.b=15)=true›)).1 (hxb' (oT ‹decide (x.b=15)=true›)) (eH.eq mD) rfl ?_ | refine gV rfl rfl (kY rfl) rfl rfl rfl rfl rfl (eH.eq mD) rfl ?_) | refine wP ?_ | refine GI ?_ | refine pZ ?_ | refine sU ?_) | ((with_reducible refine ka ?_);first | ((with_reducible refine i5 4 ?_);refine dB (PS 7 rfl ?_);obtain ⟨u,gr⟩:=y;have hgr:gr.map (·.2)=r:=hy;clear hy;subst hgr;have hgl:gr.length≤1000:=(by have:=G.n;simp at this;omega);refine dB (f8 3 6 rfl rfl ?_);refine fI ?_) | ((with_reducible refine i5 9 ?_);rw [hx3];refine tN ?_)) | refine GA ?_ | refine GG ?_ | (refine cJ (fun hb=>?_) (fun hb=>?_) <;> try rw [hb]) | ((with_reducible refine kf ?_);refine aP 0 Tryz.results25 rfl rfl rfl ?_) | refine GR ?_ | ((with_reducible refine kr ?_);refine aG rfl ?_) | fail)
 ·have h0:tH (bX c t x) a=false:=by rw [← DK];simpa using ‹(!uZ (bX c t x) a)=true›
  rw [iG,hx2,if_pos (by rw [i3,h0];decide),i3,h0];rfl
 refine ⟨?_⟩
 have hfine:tH (bX c t x) a=true:=by rw [← DK];simpa using ‹(!uZ (bX c t x) a)=false›
 have h0:¬ i3 (bX c t x) a≠0:=by rw [i3,hfine];decide
 obtain ⟨hav,hfo,hix⟩:=xG hkl h0
 have hnk:=RO hfo
 by_cases hf:a.f.k=0
 ·have hf1:decide (a.f.k=0)=true:=decide_eq_true hf
  have hz:dO a.f=true:=by rw [hnk];exact hf1
  obtain ⟨t',ht'⟩:∃ t',dS (if x.a≥0 then fK t x.a a.v else t)=t':=⟨_,rfl⟩
  have e1:t'.fn=t.fn∧t'.pc=t.pc + 1∧t'.to=t.to∧t'.slots.length=t.slots.length∧∀ v ∈ t'.slots,bH v=true:=by
   subst ht'
   split
   ·exact ⟨rfl,rfl,rfl,List.length_set,VE F.vv hav⟩
   ·exact ⟨rfl,rfl,rfl,rfl,F.vv⟩
  obtain ⟨f1,f2,f3,f4,f5⟩:=e1
  have hxb':x.b=15→aC x.l 0 < (t'.slots.length:Int):=fun h=>by rw [f4];exact (hxb h).2
  have hset:∀ {σ:aA},σ.look 7=some (.box 108 (bC c :: .arr 6::(gH iK false).map .d))→σ.look 6=some (.arr 63 (d4 gr++[iD t (.arr 8)]))→σ.look 8=some (.arr 35 (aS t.slots)) →
    aB Tryz.prog 59 [.ptr 7 0,iv x.a,a.v.dv,a.f.dv] σ (fun r s=>r = .tup []∧s=(σ.put 6 (some (.arr 63 (d4 gr++[iD t' (.arr 8)])))).put 8 (some (.arr 35 (aS t'.slots)))):=fun h1 h2 h3=>by
   have:=MY (m:=x.a) (v:=a.v) (f:=a.f) hgl hf hxa hp h1 h2 h3 rfl
   rw [ht'] at this
   exact this
  have hres:∀ S:List Va,S.length=t'.slots.length→(∀ v ∈ S,bH v=true)→eK c ((⟨t'.fn,t'.pc,t'.to,S⟩:Fm)::gr.map (·.2)):=fun S hS hV=>G.head (t':=⟨t'.fn,t'.pc,t'.to,S⟩) f1 f3 ⟨by show 0≤t'.fn;rw [f1];exact F.f0,by show t'.fn < _;rw [f1];exact F.f1,by show 0≤t'.pc;rw [f2];omega,by show t'.pc < ((aC c t'.fn).code.length:Int);rw [f1,f2];exact hgo,by show (S.length:Int)=(aC c t'.fn).slots;rw [hS,f4,f1];exact F.sl,hV⟩
  repeat' (first | ((with_reducible refine kw ?_);first | refine Wg ?_ | refine W0 ?_ | refine W1 ?_ | refine W3 ?_ | refine W2 ?_ | refine W6 ?_ | refine bJ ?_ | (refine aJ ?_;refine bB rfl rfl rfl rfl (aB.ret (hset rfl rfl rfl) ?_)) | (refine aE ?_;refine q8 ?_) | refine eT ?_ | refine gQ ?_ | refine iZ ?_ | refine cW ?_ | refine dH ?_ | refine eV ?_) | refine GX ?_ | (refine bW (fun hb=>?_) (fun hb=>?_) <;> rw [hb]) | refine GN ?_ | ((with_reducible refine kd ?_);first | refine D0 ?_ | refine D1 ?_ | (refine dI ?_;refine BU ?_) | refine D3 ?_ | refine D2 ?_ | refine D4 ?_ | refine iY ?_ | (refine bM ?_;skip) | (refine c7 ?_;first | refine dC (eG (el rfl) rfl rfl rfl (sz rfl) (hxb (oT ‹decide (x.b=15)=true›)).1 (hxb' (oT ‹decide (x.b=15)=true›))) rfl rfl rfl rfl ?_ | refine dC (aF (el rfl) rfl rfl cN (hx0 (oT ‹decide (x.b=15)=true›)) ⟨rfl,by decide⟩) rfl rfl rfl rfl ?_) | (refine aV ?_;first | refine mW rfl rfl (kY rfl) rfl rfl (sz rfl) (hxb (oT ‹decide (x.b=15)=true›)).1 (hxb' (oT ‹decide (x.b=15)=true›)) (eH.eq mD) rfl ?_ | refine gV rfl rfl (kY rfl) rfl rfl rfl rfl rfl (eH.eq mD) rfl ?_) | refine wP ?_ | refine GI ?_ | refine pZ ?_ | refine sU ?_) | ((with_reducible refine ka ?_);((with_reducible refine i5 12 ?_);refine tN ?_)) | refine GA ?_ | refine GG ?_ | (refine cJ (fun hb=>?_) (fun hb=>?_) <;> try rw [hb]) | ((with_reducible refine kf ?_);refine aP 0 Tryz.results25 rfl rfl rfl ?_) | refine GR ?_ | ((with_reducible refine kr ?_);refine aG rfl ?_) | fail)
  ·refine ⟨?_⟩
   refine dB (yE (k:=7) (m:=3) (n:=6) (p:=8) (gH iK false) rfl rfl rfl rfl rfl fun b3 fv3 u3=>?_)
   repeat' (first | ((with_reducible refine kw ?_);first | refine Wg ?_ | refine W0 ?_ | refine W1 ?_ | refine W3 ?_ | refine W2 ?_ | refine W6 ?_ | refine bJ ?_ | (refine aJ ?_;refine bB rfl rfl rfl rfl (aB.ret ((aB.at1 (C:=fun y:Unit=>True) (rr:=fun _=>dZ (oL (sQ c 20000 ((⟨t'.fn,t'.pc,t'.to,t'.slots.set (aC x.l 0).toNat ⟨1,a.ix,⟨#[]⟩⟩⟩:Fm)::gr.map fun (g:Value × Fm)=>g.2)))) (o:=fun y=>none) ((DL c hc (sQ c 20000 ((⟨t'.fn,t'.pc,t'.to,t'.slots.set (aC x.l 0).toNat ⟨1,a.ix,⟨#[]⟩⟩⟩:Fm)::gr.map fun (g:Value × Fm)=>g.2)) (((iK,false),b3,fv3,(u3,⟨t'.fn,t'.pc,t'.to,t'.slots.set (aC x.l 0).toNat ⟨1,a.ix,⟨#[]⟩⟩⟩)::gr)) (.inl ⟨rfl,hres _ eS (VE f5 hix),rfl⟩)).mono fun r s ⟨h1,h2⟩=>⟨(),trivial,h1,h2⟩) 7 rfl rfl rfl (fun y q h=>by cases h) rfl rfl (fun _=>rfl)).mono fun r s ⟨_,_,h1,h2⟩=>⟨h1,h2⟩) ?_)) | (refine aE ?_;refine q8 ?_) | refine eT ?_ | refine gQ ?_ | refine iZ ?_ | refine cW ?_ | refine dH ?_ | refine eV ?_) | refine GX ?_ | (refine bW (fun hb=>?_) (fun hb=>?_) <;> rw [hb]) | refine GN ?_ | ((with_reducible refine kd ?_);first | refine D0 ?_ | refine D1 ?_ | (refine dI ?_;refine BU ?_) | refine D3 ?_ | refine D2 ?_ | refine D4 ?_ | refine iY ?_ | (refine bM ?_;skip) | (refine c7 ?_;first | refine dC (eG (el rfl) rfl rfl rfl (sz rfl) (hxb (oT ‹decide (x.b=15)=true›)).1 (hxb' (oT ‹decide (x.b=15)=true›))) rfl rfl rfl rfl ?_ | refine dC (aF (el rfl) rfl rfl cN (hx0 (oT ‹decide (x.b=15)=true›)) ⟨rfl,by decide⟩) rfl rfl rfl rfl ?_) | (refine aV ?_;first | refine mW rfl rfl (kY rfl) rfl rfl (sz rfl) (hxb (oT ‹decide (x.b=15)=true›)).1 (hxb' (oT ‹decide (x.b=15)=true›)) (eH.eq mD) rfl ?_ | refine gV rfl rfl (kY rfl) rfl rfl rfl rfl rfl (eH.eq mD) rfl ?_) | refine wP ?_ | refine GI ?_ | refine pZ ?_ | refine sU ?_) | refine GA ?_ | refine GG ?_ | (refine cJ (fun hb=>?_) (fun hb=>?_) <;> try rw [hb]) | ((with_reducible refine kf ?_);refine aP 0 Tryz.results25 rfl rfl rfl ?_) | refine GR ?_ | ((with_reducible refine kr ?_);refine aG rfl ?_) | fail)
   have hG':=hres (t'.slots.set (aC x.l 0).toNat ⟨1,a.ix,⟨#[]⟩⟩) eS (VE f5 hix)
   have e:dS (iV t x a)=(⟨t'.fn,t'.pc,t'.to,t'.slots.set (aC x.l 0).toNat ⟨1,a.ix,⟨#[]⟩⟩⟩:Fm):=by
    rw [← ht'];unfold iV;simp only;rw [if_pos (oT ‹decide (x.b=15)=true›)];split <;> rfl
   rw [iG,hx2,if_neg h0,if_neg (by rw [hz];simp),e,s7 hc hG']
   generalize oL _=p
   obtain ⟨l,u,n⟩:=p
   rfl
  ·refine ⟨?_⟩
   refine dB (yE (k:=7) (m:=3) (n:=6) (p:=8) (gH iK false) rfl rfl rfl rfl rfl fun b3 fv3 u3=>?_)
   repeat' (first | ((with_reducible refine kw ?_);first | refine Wg ?_ | refine W0 ?_ | refine W1 ?_ | refine W3 ?_ | refine W2 ?_ | refine W6 ?_ | refine bJ ?_ | (refine aJ ?_;refine bB rfl rfl rfl rfl (aB.ret ((aB.at1 (C:=fun y:Unit=>True) (rr:=fun _=>dZ (oL (sQ c 20000 ((⟨t'.fn,t'.pc,t'.to,t'.slots⟩:Fm)::gr.map fun (g:Value × Fm)=>g.2)))) (o:=fun y=>none) ((DL c hc (sQ c 20000 ((⟨t'.fn,t'.pc,t'.to,t'.slots⟩:Fm)::gr.map fun (g:Value × Fm)=>g.2)) (((iK,false),b3,fv3,(u3,⟨t'.fn,t'.pc,t'.to,t'.slots⟩)::gr)) (.inl ⟨rfl,hres _ eS (f5),rfl⟩)).mono fun r s ⟨h1,h2⟩=>⟨(),trivial,h1,h2⟩) 7 rfl rfl rfl (fun y q h=>by cases h) rfl rfl (fun _=>rfl)).mono fun r s ⟨_,_,h1,h2⟩=>⟨h1,h2⟩) ?_)) | (refine aE ?_;refine q8 ?_) | refine eT ?_ | refine gQ ?_ | refine iZ ?_ | refine cW ?_ | refine dH ?_ | refine eV ?_) | refine GX ?_ | (refine bW (fun hb=>?_) (fun hb=>?_) <;> rw [hb]) | refine GN ?_ | ((with_reducible refine kd ?_);first | refine D0 ?_ | refine D1 ?_ | (refine dI ?_;refine BU ?_) | refine D3 ?_ | refine D2 ?_ | refine D4 ?_ | refine iY ?_ | (refine bM ?_;skip) | (refine c7 ?_;first | refine dC (eG (el rfl) rfl rfl rfl (sz rfl) (hxb (oT ‹decide (x.b=15)=true›)).1 (hxb' (oT ‹decide (x.b=15)=true›))) rfl rfl rfl rfl ?_ | refine dC (aF (el rfl) rfl rfl cN (hx0 (oT ‹decide (x.b=15)=true›)) ⟨rfl,by decide⟩) rfl rfl rfl rfl ?_) | (refine aV ?_;first | refine mW rfl rfl (kY rfl) rfl rfl (sz rfl) (hxb (oT ‹decide (x.b=15)=true›)).1 (hxb' (oT ‹decide (x.b=15)=true›)) (eH.eq mD) rfl ?_ | refine gV rfl rfl (kY rfl) rfl rfl rfl rfl rfl (eH.eq mD) rfl ?_) | refine wP ?_ | refine GI ?_ | refine pZ ?_ | refine sU ?_) | refine GA ?_ | refine GG ?_ | (refine cJ (fun hb=>?_) (fun hb=>?_) <;> try rw [hb]) | ((with_reducible refine kf ?_);refine aP 0 Tryz.results25 rfl rfl rfl ?_) | refine GR ?_ | ((with_reducible refine kr ?_);refine aG rfl ?_) | fail)
   have hG':=hres (t'.slots) eS (f5)
   have e:dS (iV t x a)=(⟨t'.fn,t'.pc,t'.to,t'.slots⟩:Fm):=by
    rw [← ht'];unfold iV;simp only;rw [if_neg (oF ‹decide (x.b=15)=false›)]
   rw [iG,hx2,if_neg h0,if_neg (by rw [hz];simp),e,s7 hc hG']
   generalize oL _=p
   obtain ⟨l,u,n⟩:=p
   rfl
 ·have hf1:decide (a.f.k=0)=false:=decide_eq_false hf
  have hz:dO a.f=false:=by rw [hnk];exact hf1
  have hgl1:gr.length + 1≤1000:=by have:=G.n;simp at this;omega
  have hGt:gX c t:=m4 hc F.w
  have hGr:∀ g ∈ gr,gX c g.2:=fun g hg=>m4 hc (G.fr g.2 (List.mem_cons_of_mem _ (List.mem_map.2 ⟨g,hg,rfl⟩))).w
  have hRG:=pH hc hfo _ G.n G.fr (.inr G.ch)
  have hO:jW c t (gr.map (·.2)) x.a a.v a.f=dE c a.f (t::gr.map (·.2)):=PU hf
  have hoG:∀ ts,jW c t (gr.map (·.2)) x.a a.v a.f = .more ts→eK c ts:=fun ts h=>by
   rw [hO] at h
   unfold dE at h
   split at h
   ·cases h
   ·rename_i hne
    cases h
    exact hRG.resolve_left hne
  refine dB (yE (k:=7) (m:=3) (n:=6) (p:=8) (gH iK false) rfl rfl rfl rfl rfl fun b3 fv3 u3=>?_)
  repeat' (first | ((with_reducible refine kw ?_);first | refine Wg ?_ | refine W0 ?_ | refine W1 ?_ | refine W3 ?_ | refine W2 ?_ | refine W6 ?_ | refine bJ ?_ | (refine aJ ?_;refine bB rfl rfl rfl rfl ((aB.at1 (C:=fun y:vS=>KQ (jW c t (gr.map fun (g:Value × Fm)=>g.2) x.a a.v a.f) y) (rr:=fun _ => .tup []) (o:=fun y=>some (y.obj c)) ((PR c b3 fv3 u3 t gr x.a a.v a.f hgl1 hGt hGr hxa hp).mono fun r s h=>h.ex) 7 rfl rfl rfl (fun y q h=>by cases h;rfl) rfl rfl (fun _=>rfl)).mono ?_)) | (refine aE ?_;refine q8 ?_) | refine eT ?_ | refine gQ ?_ | refine iZ ?_ | refine cW ?_ | refine dH ?_ | refine eV ?_) | refine GX ?_ | (refine bW (fun hb=>?_) (fun hb=>?_) <;> rw [hb]) | refine GN ?_ | ((with_reducible refine kd ?_);first | refine D0 ?_ | refine D1 ?_ | (refine dI ?_;refine BU ?_) | refine D3 ?_ | refine D2 ?_ | refine D4 ?_ | refine iY ?_ | (refine bM ?_;skip) | (refine c7 ?_;first | refine dC (eG (el rfl) rfl rfl rfl (sz rfl) (hxb (oT ‹decide (x.b=15)=true›)).1 (hxb' (oT ‹decide (x.b=15)=true›))) rfl rfl rfl rfl ?_ | refine dC (aF (el rfl) rfl rfl cN (hx0 (oT ‹decide (x.b=15)=true›)) ⟨rfl,by decide⟩) rfl rfl rfl rfl ?_) | (refine aV ?_;first | refine mW rfl rfl (kY rfl) rfl rfl (sz rfl) (hxb (oT ‹decide (x.b=15)=true›)).1 (hxb' (oT ‹decide (x.b=15)=true›)) (eH.eq mD) rfl ?_ | refine gV rfl rfl (kY rfl) rfl rfl rfl rfl rfl (eH.eq mD) rfl ?_) | refine wP ?_ | refine GI ?_ | refine pZ ?_ | refine sU ?_) | refine GA ?_ | refine GG ?_ | (refine cJ (fun hb=>?_) (fun hb=>?_) <;> try rw [hb]) | ((with_reducible refine kf ?_);refine aP 0 Tryz.results25 rfl rfl rfl ?_) | refine GR ?_ | ((with_reducible refine kr ?_);refine aG rfl ?_) | fail)
  rintro _ _ ⟨y,hy,rfl,rfl⟩
  repeat' (first | ((with_reducible refine kw ?_);first | refine Wg ?_ | refine W0 ?_ | refine W1 ?_ | refine W3 ?_ | refine W2 ?_ | refine W6 ?_ | refine bJ ?_ | (refine aJ ?_;refine bB rfl rfl rfl rfl (aB.ret ((aB.at1 (C:=fun y:Unit=>True) (rr:=fun _=>dZ (oL (PD c (jW c t (gr.map fun (g:Value × Fm)=>g.2) x.a a.v a.f)))) (o:=fun y=>none) ((DL c hc (PD c (jW c t (gr.map fun (g:Value × Fm)=>g.2) x.a a.v a.f)) (y) (MV hoG hy)).mono fun r s ⟨h1,h2⟩=>⟨(),trivial,h1,h2⟩) 7 rfl rfl rfl (fun y q h=>by cases h) rfl rfl (fun _=>rfl)).mono fun r s ⟨_,_,h1,h2⟩=>⟨h1,h2⟩) ?_)) | (refine aE ?_;refine q8 ?_) | refine eT ?_ | refine gQ ?_ | refine iZ ?_ | refine cW ?_ | refine dH ?_ | refine eV ?_) | refine GX ?_ | (refine bW (fun hb=>?_) (fun hb=>?_) <;> rw [hb]) | refine GN ?_ | ((with_reducible refine kd ?_);first | refine D0 ?_ | refine D1 ?_ | (refine dI ?_;refine BU ?_) | refine D3 ?_ | refine D2 ?_ | refine D4 ?_ | refine iY ?_ | (refine bM ?_;skip) | (refine c7 ?_;first | refine dC (eG (el rfl) rfl rfl rfl (sz rfl) (hxb (oT ‹decide (x.b=15)=true›)).1 (hxb' (oT ‹decide (x.b=15)=true›))) rfl rfl rfl rfl ?_ | refine dC (aF (el rfl) rfl rfl cN (hx0 (oT ‹decide (x.b=15)=true›)) ⟨rfl,by decide⟩) rfl rfl rfl rfl ?_) | (refine aV ?_;first | refine mW rfl rfl (kY rfl) rfl rfl (sz rfl) (hxb (oT ‹decide (x.b=15)=true›)).1 (hxb' (oT ‹decide (x.b=15)=true›)) (eH.eq mD) rfl ?_ | refine gV rfl rfl (kY rfl) rfl rfl rfl rfl rfl (eH.eq mD) rfl ?_) | refine wP ?_ | refine GI ?_ | refine pZ ?_ | refine sU ?_) | refine GA ?_ | refine GG ?_ | (refine cJ (fun hb=>?_) (fun hb=>?_) <;> try rw [hb]) | ((with_reducible refine kf ?_);refine aP 0 Tryz.results25 rfl rfl rfl ?_) | refine GR ?_ | ((with_reducible refine kr ?_);refine aG rfl ?_) | fail)
  all_goals
   rw [iG,hx2,if_neg h0,if_pos hz]
   have e:oL (PD c (jW c t (gr.map (·.2)) x.a a.v a.f))=if cT c a.f (t::gr.map (·.2))=[] then ([],⟨true,d6,g9,a.f⟩,0) else iC (jV c 20000 (cT c a.f (t::gr.map (·.2)))):=by
    rw [hO]
    unfold dE
    cases hr2:cT c a.f (t::gr.map (·.2)) with
    | nil=>rfl
    | cons q ts =>
     rw [if_neg eS,s7 hc (by rw [← hr2];exact hRG.resolve_left (by rw [hr2];simp))]
     rfl
   rw [← e]
   generalize oL _=p
   obtain ⟨l,u,n⟩:=p
   rfl
theorem PK (c:List Fc) (hc:dR c) (fs:List Fm) (hgb:d9 c fs=false) (a:An) :
  bY Tryz.prog 25 [.agg [bC c],lv (fs.map Fm.enc),a.dv] (dZ ([],iK,2)):=by
 have hok:(!d9 c fs)=true:=by rw [hgb];rfl
 refine of_body Tryz.func25 rfl rfl (nB rfl) ?_
 rw [Tryz.ntmps25]
 repeat' (first | ((with_reducible refine kw ?_);first | refine W0 ?_ | refine W3 ?_ | refine bJ ?_ | (refine aJ ?_;refine tD (t7 c hc fs) ?_) | (refine aE ?_;refine q8 ?_) | refine gQ ?_ | refine cW ?_ | refine dH ?_ | refine eV ?_) | refine GA ?_ | refine GG ?_ | ((with_reducible refine kf ?_);refine aP 0 Tryz.results25 rfl rfl rfl ?_) | refine GR ?_ | ((with_reducible refine kr ?_);refine aG rfl ?_) | fail)
 all_goals rfl
theorem MT (c:List Fc) (h1:cC c=0) (fs:List Fm) (a:An):bY Tryz.prog 25 [.agg [bC c],lv (fs.map Fm.enc),a.dv] (dZ (v6 c fs a)):=by
 have hc:=eL h1
 unfold v6
 rw [if_neg (by simpa using h1)]
 cases h2:d9 c fs with
 | false=>rw [if_pos rfl];exact PK c hc fs h2 a
 | true =>
  rw [if_neg eS]
  have R:=FV h2
  cases hr:fs.reverse with
  | nil=>rw [hr] at R;exact absurd R.g.ch (by intro h;exact h)
  | cons t r=>rw [hr] at R;exact MS c hc fs t r h2 hr R a
def pW (c:List Fc) (fs:List Fm):Ak × Int :=
 if cC c≠0 then (d6,cC c) else if d9 c fs=false then (d6,2) else (bX c (aC fs (iA ((fs.length:Int) - 1))) (aN c (aC fs (iA ((fs.length:Int) - 1)))),0)
def CY (c:List Fc) (fs:List Fm):Bool:=decide (cC c=0) && d9 c fs
theorem xL {c:List Fc} {fs:List Fm} (h:d9 c fs=true) (hl:fs.length≤24):∃ t r,fs.reverse=t::r∧N1 c (t::r)∧aC fs (iA ((fs.length:Int) - 1))=t∧1≤fs.length:=by
 have R:=FV h
 cases hr:fs.reverse with
 | nil=>rw [hr] at R;exact absurd R.g.ch (by intro h;exact h)
 | cons t r =>
  rw [hr] at R
  have e:fs=r.reverse++[t]:=by rw [← List.reverse_reverse fs,hr,List.reverse_cons]
  have hlen:fs.length=r.length + 1:=by rw [e];simp
  refine ⟨t,r,rfl,R,?_,by omega⟩
  rw [show iA ((fs.length:Int) - 1)=(fs.length:Int) - 1 from aL aI aI,hlen]
  have e2:((r.length + 1:Nat):Int) - 1=(r.length:Int):=by omega
  rw [e2,bK aI]
  subst e
  simp
theorem xH {c:List Fc} {fs:List Fm} (h:d9 c fs=true):fs.length≤24∧1≤fs.length:=by
 unfold d9 at h
 by_cases h0:(fs.length:Int)=0
 ·rw [decide_eq_true h0] at h;simp at h
 by_cases h1:(fs.length:Int) > 24
 ·rw [decide_eq_true h1] at h;simp at h
 omega
theorem AT (c:List Fc) (fs:List Fm):bY Tryz.prog 23 [.agg [bC c],lv (fs.map Fm.enc)] (bv (CY c fs)):=by
 refine of_body Tryz.func23 rfl rfl (nB rfl) ?_
 rw [Tryz.ntmps23]
 repeat' (first | ((with_reducible refine kw ?_);first | refine Wg ?_ | refine W0 ?_ | refine W3 ?_ | refine W6 ?_ | refine bJ ?_ | (refine aJ ?_;first | refine tD (oA c) ?_ | refine tD (wF c (eL (oT ‹decide (cC c=0)=true›)) fs) ?_) | refine eT ?_ | refine cW ?_) | refine GX ?_ | (refine bW (fun hb=>?_) (fun hb=>?_) <;> rw [hb]) | refine GA ?_ | refine GG ?_ | ((with_reducible refine kf ?_);refine aP 0 Tryz.results23 rfl rfl rfl ?_) | refine GR ?_ | ((with_reducible refine kr ?_);refine aG rfl ?_) | fail)
 all_goals first
  | (refine dG ?_;show bv _=bv _;simp only [CY, *,b6,b8];done)
theorem PW (c:List Fc) (fs:List Fm) (hg:fs.length≤24∧1≤fs.length) :
  aB Tryz.prog 56 [.ptr 0 0] [some (.box 112 [bC c,lv (fs.map Fm.enc)])] (fun r σ'=>r = .iptr (aC fs (IntKind.i64.wrap ((fs.length:Int) - 1))).enc 0∧σ'=[some (.box 112 [bC c,lv (fs.map Fm.enc)])]):=by
 refine of_body Tryz.func56 rfl rfl (nB rfl) ?_
 rw [Tryz.ntmps56]
 repeat' (first | ((with_reducible refine kw ?_);refine bJ ?_) | refine GN ?_ | ((with_reducible refine kd ?_);first | refine D0 ?_ | refine D1 ?_ | refine D2 ?_ | refine D4 ?_ | refine D6 ?_ | refine iY ?_ | (refine c7 ?_;refine dC (aF (el rfl) rfl rfl (by rw [aL aI aI];omega) (by rw [aL aI aI];omega) ⟨rfl,by decide⟩) rfl rfl rfl rfl ?_) | refine BT ?_) | refine GA ?_ | refine GG ?_ | ((with_reducible refine kf ?_);refine aP 1 Tryz.results56 rfl rfl rfl ?_) | refine GR ?_ | ((with_reducible refine kr ?_);refine bD rfl rfl ⟨?_,rfl⟩) | fail)
 all_goals rfl
theorem JF {P:Program} {σ:aA} {l:List aR}:cA P σ (.iptr l 0) (.iptr l 0):=fun X ι w v hh hr=>by
 cases hr with
 | iptr _ _ b o vs hM hb hc hrel=>exact .iptr _ _ b o vs (fun h=>hM (.inl h)) hb hc (fun j x hx=>(hrel j x hx).mono (a8.refl (bQ X ι σ) w) (fun b _ hb => .inl hb))
theorem zB (c:List Fc) (fs:List Fm) (h:cC c≠0∨(cC c=0∧d9 c fs=false)):bY Tryz.prog 22 [.agg [bC c],lv (fs.map Fm.enc)] (.tup [Ak.dv (pW c fs).1,iv (pW c fs).2]):=by
 rcases h with h | ⟨h,hgb⟩
 ·have hb0:decide (cC c≠0)=true:=decide_eq_true h
  rw [pW,if_pos h]
  refine of_body Tryz.func22 rfl rfl (nB rfl) ?_
  rw [Tryz.ntmps22]
  repeat' (first | ((with_reducible refine kw ?_);first | refine W0 ?_ | refine W3 ?_ | refine W6 ?_ | refine bJ ?_ | (refine aJ ?_;refine tD (oA c) ?_) | (refine aE ?_;refine vR ?_) | refine gQ ?_ | refine cW ?_ | refine dH ?_ | refine eV ?_) | refine GA ?_ | refine GG ?_ | ((with_reducible refine kf ?_);refine aP 0 Tryz.results22 rfl rfl rfl ?_) | refine GR ?_ | ((with_reducible refine kr ?_);refine aG rfl ?_) | fail)
  all_goals rfl
 ·have hb0:decide (cC c≠0)=false:=decide_eq_false (by simpa using h)
  have hok:(!d9 c fs)=true:=by rw [hgb];rfl
  rw [pW,if_neg (by simpa using h),if_pos hgb]
  refine of_body Tryz.func22 rfl rfl (nB rfl) ?_
  rw [Tryz.ntmps22]
  repeat' (first | ((with_reducible refine kw ?_);first | refine W0 ?_ | refine W3 ?_ | refine W6 ?_ | refine bJ ?_ | (refine aJ ?_;first | refine tD (oA c) ?_ | refine tD (wF c (eL h) fs) ?_) | (refine aE ?_;refine vR ?_) | refine gQ ?_ | refine cW ?_ | refine dH ?_ | refine eV ?_) | refine GA ?_ | refine GG ?_ | ((with_reducible refine kf ?_);refine aP 0 Tryz.results22 rfl rfl rfl ?_) | refine GR ?_ | ((with_reducible refine kr ?_);refine aG rfl ?_) | fail)
  all_goals rfl
theorem ES (c:List Fc) (fs:List Fm) (h:cC c=0) (hgb:d9 c fs=true):bY Tryz.prog 22 [.agg [bC c],lv (fs.map Fm.enc)] (.tup [Ak.dv (pW c fs).1,iv (pW c fs).2]):=by
 have hc:=eL h
 have hb0:decide (cC c≠0)=false:=decide_eq_false (by simpa using h)
 have hok:(!d9 c fs)=false:=by rw [hgb];rfl
 obtain ⟨t,r,hr,R,ht,hl1⟩:=xL hgb (xH hgb).1
 have F:=R.g.top
 have h10:=(R.top t r rfl).1
 have hB:=(R.top t r rfl).2
 rw [pW,if_neg (by simpa using h),if_neg (by rw [hgb];simp),ht]
 have ht2:aC fs (IntKind.i64.wrap ((fs.length:Int) - 1))=t:=ht
 have htop:=PW c fs (xH hgb)
 rw [ht2] at htop
 refine of_body Tryz.func22 rfl rfl (nB rfl) ?_
 rw [Tryz.ntmps22]
 repeat' (first | ((with_reducible refine kw ?_);first | refine W0 ?_ | refine W3 ?_ | refine W6 ?_ | refine bJ ?_ | (refine aJ ?_;first | refine tD (oA c) ?_ | refine tD (wF c (eL h) fs) ?_ | refine bB rfl rfl rfl rfl (aB.ret (aB.reads (htop) [2] rfl ⟨⟨rfl,rfl,rfl⟩,trivial⟩ rfl rfl rfl) ?_) | refine bB rfl rfl rfl rfl ((aB.borrowE (R':=fun r=>∃ a',(bT c t (aN c t)=true→a'=bX c t (aN c t))∧r = .tup [Ak.dv a',bv (bT c t (aN c t))]) (wB c t [ld (fs.map Fm.enc)] t.pc.toNat (by have:=F.p0;omega) F.f0 F.f1 F.p0 F.p1 (aN c t) rfl (lB hc F h10)) (.cons (cA.box rfl (.cons .d (.cons .d .nil))) (.cons JF .nil)) (fun r σ0 ⟨a',h1,h2⟩=>⟨_,h2,a',h1,rfl⟩)).mono ?_)) | (refine aE ?_;refine vR ?_) | refine gQ ?_ | refine iZ ?_ | refine cW ?_ | refine dH ?_ | refine eV ?_) | refine GA ?_ | refine GG ?_ | ((with_reducible refine kf ?_);refine aP 0 Tryz.results22 rfl rfl rfl ?_) | refine GR ?_ | ((with_reducible refine kr ?_);refine aG rfl ?_) | (rintro _ _ ⟨⟨a',ha,rfl⟩,rfl⟩;obtain rfl:=ha hB;clear ha) | fail)
 all_goals rfl
theorem wS (c:List Fc) (fs:List Fm):bY Tryz.prog 22 [.agg [bC c],lv (fs.map Fm.enc)] (.tup [Ak.dv (pW c fs).1,iv (pW c fs).2]):=by
 by_cases h:cC c=0
 ·cases hg:d9 c fs with
  | true=>exact ES c fs h hg
  | false=>exact zB c fs (.inr ⟨h,hg⟩)
 ·exact zB c fs (.inl h)
theorem MB (c:List Fc) (fs:List Fm) (a:An) (hs:∀ t ∈ fs,t.slots.length * 32≤140737488351232) (hr:fX c=false) (hc:cC c=30):bY Tryz.prog 4 [.agg [bC c],lv (fs.map Fm.enc),a.dv] (bv true):=by
 have h1:=GJ c (jT fs) a
 have h2:=oP c
 have h3:=wS c (jT fs)
 have h4:=AT c (jT fs)
 rw [v6,if_pos (by rw [hc];decide),hc] at h1
 rw [hr] at h2
 rw [pW,if_pos (by rw [hc];decide),hc] at h3
 rw [CY,hc,show (decide ((30:Int)=0) && d9 c (jT fs))=false from rfl] at h4
 refine of_body Tryz.func4 rfl rfl (nB rfl) ?_
 rw [Tryz.ntmps4]
 repeat' (first | ((with_reducible refine kw ?_);first | refine Wg ?_ | refine W0 ?_ | refine W3 ?_ | refine W6 ?_ | refine bJ ?_ | (refine aJ ?_;first | refine bB rfl rfl rfl rfl ((aB.borrowE (R':=fun r=>∃ b,r=bv b) (qU c) (.cons (.agg (.cons .d .nil)) .nil) (fun r σ0 h=>⟨r,by obtain ⟨⟨b,rfl⟩,_⟩:=h;exact Fr.sc _,h.1⟩)).mono ?_) | refine tD p8 ?_ | refine tD (FB fs hs) ?_ | refine tD h1 ?_ | refine tD h2 ?_ | refine tD h3 ?_ | refine tD h4 ?_ | refine tD (l4 iK) ?_ | refine tD (pL d6) ?_) | (refine aE ?_;refine q8 ?_) | refine eT ?_ | refine gQ ?_ | refine iZ ?_ | refine gZ ?_ | refine cW ?_ | refine dH ?_ | refine eV ?_) | refine nP cN ?_ | refine GX ?_ | refine GA ?_ | refine GG ?_ | refine qG cN ?_ | refine nP cN ?_ | (refine cJ (fun hb=>?_) (fun hb=>?_) <;> try rw [hb]) | ((with_reducible refine kf ?_);refine aP 0 Tryz.results4 rfl rfl rfl ?_) | refine GR ?_ | ((with_reducible refine kr ?_);refine aG rfl ?_) | (rintro _ _ ⟨⟨b,rfl⟩,rfl⟩) | fail)
 all_goals first | rfl | skip
theorem OY (c:List Fc) (fs:List Fm) (a:An) (hs:∀ t ∈ fs,t.slots.length * 32≤140737488351232) (hr:fX c=true) (hc:cC c=0) (hg:d9 c (jT fs)=false):bY Tryz.prog 4 [.agg [bC c],lv (fs.map Fm.enc),a.dv] (bv true):=by
 have h1:=GJ c (jT fs) a
 have h2:=oP c
 have h3:=wS c (jT fs)
 have h4:=AT c (jT fs)
 have h5:=MT c hc (jT fs) a
 have h6:=t7 c (eL hc) (jT fs)
 rw [v6,if_neg (by simpa using hc),if_pos hg] at h1 h5
 rw [hr] at h2
 rw [pW,if_neg (by simpa using hc),if_pos hg] at h3
 rw [CY,hg,b7] at h4
 rw [hg] at h6
 refine of_body Tryz.func4 rfl rfl (nB rfl) ?_
 rw [Tryz.ntmps4]
 repeat' (first | ((with_reducible refine kw ?_);first | refine Wg ?_ | refine W0 ?_ | refine W3 ?_ | refine W6 ?_ | refine ZH ?_ | refine bJ ?_ | (refine aJ ?_;first | refine bB rfl rfl rfl rfl ((aB.borrowE (R':=fun r=>∃ b,r=bv b) (qU c) (.cons (.agg (.cons .d .nil)) .nil) (fun r σ0 h=>⟨r,by obtain ⟨⟨b,rfl⟩,_⟩:=h;exact Fr.sc _,h.1⟩)).mono ?_) | refine tD p8 ?_ | refine tD (FB fs hs) ?_ | refine tD h1 ?_ | refine tD h2 ?_ | refine tD h3 ?_ | refine tD h4 ?_ | refine tD h5 ?_ | refine tD h6 ?_ | refine tD (l4 iK) ?_ | refine tD (pL d6) ?_ | refine tD (nX []) ?_) | (refine aE ?_;refine q8 ?_) | refine eT ?_ | refine gQ ?_ | refine iZ ?_ | refine cW ?_ | refine dH ?_ | refine eV ?_) | refine nP cN ?_ | refine GX ?_ | refine GA ?_ | refine GG ?_ | refine qG cN ?_ | refine qF cN ?_ | refine nP cN ?_ | (refine cJ (fun hb=>?_) (fun hb=>?_) <;> try rw [hb]) | ((with_reducible refine kf ?_);refine aP 0 Tryz.results4 rfl rfl rfl ?_) | refine GR ?_ | ((with_reducible refine kr ?_);refine aG rfl ?_) | (rintro _ _ ⟨⟨b,rfl⟩,rfl⟩) | fail)
 all_goals first | rfl | skip
theorem RL (c:List Fc) (fs:List Fm) (a:An) (hs:∀ t ∈ fs,t.slots.length * 32≤140737488351232) (hr:fX c=true) (hc:cC c=0) (hg:d9 c (jT fs)=true):bY Tryz.prog 4 [.agg [bC c],lv (fs.map Fm.enc),a.dv] (bv true):=by
 have hl:=xH hg
 have h1:=GJ c (jT fs) a
 have h2:=oP c
 have h3:=wS c (jT fs)
 have h4:=AT c (jT fs)
 have h5:=MT c hc (jT fs) a
 have h6:=t7 c (eL hc) (jT fs)
 rw [hr] at h2
 rw [pW,if_neg (by simpa using hc),if_neg (by rw [hg];simp)] at h3
 rw [CY,hg,hc,show (decide ((0:Int)=0) && true)=true from rfl] at h4
 rw [hg] at h6
 have hi:0≤IntKind.i64.wrap (((jT fs).length:Int) - 1)∧IntKind.i64.wrap (((jT fs).length:Int) - 1) < ((jT fs).length:Int):=by rw [aL aI aI];omega
 have h7:∃ k,bY Tryz.prog 22 [.agg [bC c],lv ((jT fs).map Fm.enc)] (.tup [Ak.dv k,iv 0])∧bY Tryz.prog 27 [.agg [bC c],(aC (jT fs) (IntKind.i64.wrap (((jT fs).length:Int) - 1))).dv] (.tup [Ak.dv k,bv true]):=by
  obtain ⟨t,r,hr',R,ht,hl1⟩:=xL hg hl.1
  have F:=R.g.top
  have hB:=(R.top t r rfl).2
  have ht2:aC (jT fs) (IntKind.i64.wrap (((jT fs).length:Int) - 1))=t:=ht
  refine ⟨_,h3,?_⟩
  rw [ht2]
  have:=HF c t t.pc.toNat (by have:=F.p0;omega) (by have:=F.p1;have:=(oB (eL hc) F).hd.n1;omega) F.f0 F.f1 F.p0 F.p1 (aN c t) rfl (lB (eL hc) F (R.top t r rfl).1)
  rw [hB,if_pos rfl] at this
  exact this
 obtain ⟨k,h7,h8⟩:=h7
 clear h3
 revert h1 h5
 generalize v6 c (jT fs) a=p
 obtain ⟨l,u,n⟩:=p
 intro h1 h5
 refine of_body Tryz.func4 rfl rfl (nB rfl) ?_
 rw [Tryz.ntmps4]
 repeat' (first | ((with_reducible refine kw ?_);first | refine Wg ?_ | refine W0 ?_ | refine W3 ?_ | refine W6 ?_ | refine ZH ?_ | refine bJ ?_ | (refine aJ ?_;first | refine bB rfl rfl rfl rfl ((aB.borrowE (R':=fun r=>∃ b,r=bv b) (qU c) (.cons (.agg (.cons .d .nil)) .nil) (fun r σ0 h=>⟨r,by obtain ⟨⟨b,rfl⟩,_⟩:=h;exact Fr.sc _,h.1⟩)).mono ?_) | refine tD p8 ?_ | refine tD (FB fs hs) ?_ | refine tD h1 ?_ | refine tD h2 ?_ | refine tD h7 ?_ | refine tD h4 ?_ | refine tD h5 ?_ | refine tD h6 ?_ | refine tD (l4 u) ?_ | refine tD (pL k) ?_ | refine tD (nX l) ?_) | (refine aE ?_;refine q8 ?_) | refine eT ?_ | refine gQ ?_ | refine iZ ?_ | refine cW ?_ | refine dH ?_) | refine nP cN ?_ | refine pX cN ?_ | refine GX ?_ | (refine bW (fun hb=>?_) (fun hb=>?_) <;> rw [hb]) | refine GN ?_ | ((with_reducible refine kd ?_);first | refine D0 ?_ | refine D3 ?_ | refine D6 ?_ | refine iY ?_ | (refine bM ?_;refine dD h8 ?_) | (refine c7 ?_;refine dC (aF (el rfl) rfl rfl hi.1 hi.2 ⟨rfl,by decide⟩) rfl rfl rfl rfl ?_) | (refine aV ?_;refine BW ?_) | refine wP ?_ | refine BT ?_ | refine pZ ?_) | refine GA ?_ | refine GG ?_ | refine qF cN ?_ | refine nP cN ?_ | refine pX cN ?_ | (refine cJ (fun hb=>?_) (fun hb=>?_) <;> try rw [hb]) | ((with_reducible refine kf ?_);refine aP 0 Tryz.results4 rfl rfl rfl ?_) | refine GR ?_ | ((with_reducible refine kr ?_);refine aG rfl ?_) | (rintro _ _ ⟨⟨b,rfl⟩,rfl⟩) | fail)
 all_goals first
  | (exfalso;simp at *;done)
  | rfl
  | skip
theorem MM (c:List Fc) (fs:List Fm) (a:An) (hs:∀ t ∈ fs,t.slots.length * 32≤140737488351232):bY Tryz.prog 4 [.agg [bC c],lv (fs.map Fm.enc),a.dv] (bv true):=by
 refine aB.assume rfl fun hok _=>?_
 have hL:=QF (hok (.agg [bC c]) eS (.lst (c.map Fc.enc)) eS)
 by_cases h:cC c=0
 ·have hr:=(rP hL).1 h
  cases hg:d9 c (jT fs) with
  | false=>exact OY c fs a hs hr h hg
  | true=>exact RL c fs a hs hr h hg
 ·refine MB c fs a hs ?_ (CC h)
  cases hq:fX c with
  | false=>rfl
  | true=>exact absurd ((rP hL).2 hq) h
end Go.Ab
