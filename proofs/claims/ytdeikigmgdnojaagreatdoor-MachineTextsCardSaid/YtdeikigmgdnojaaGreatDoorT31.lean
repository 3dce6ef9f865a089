import Derived.Test.YtdeikigmgdnojaaGreatDoorT30
/- A part of the proof of one law. -/
set_option maxRecDepth 100000
set_option maxHeartbeats 8000000
set_option linter.unusedVariables false
set_option linter.unusedSimpArgs false
namespace Go.Ab
open Go Go.Ab.Tryz Go.Proofs
theorem XN {P:Program} {nt:Nat} {e:aW} {σ:aA} {Q:Exit→aW→aA→Prop} (h:AC P nt .ret e σ Q):AC P nt .ret e σ Q:=h
theorem LH (vs:List Va) (hl:vs.length≤1000) :
  aB Tryz.prog 138 [lv (vs.map Va.enc)] [] (fun r s=>r = .arr 0∧s=[some (.arr 35 (aS vs))]):=by
 refine fW Tryz.func138 rfl rfl (nB rfl) ?_
 rw [Tryz.ntmps138]
 repeat' (first | ((with_reducible refine kw ?_);first | refine W0 ?_ | refine bJ ?_ | (refine vQ ?_;refine cK (fY (el rfl) (sl rfl) rfl rfl rfl (ap rfl) rfl (iI eS) (g7 KT cN)) rfl rfl ?_)) | ((with_reducible refine ka ?_);first | ((with_reducible refine i5 1 ?_);refine fI ?_;refine IC rfl rfl rfl (sl rfl) (fun b hn=>?_)) | ((with_reducible refine i5 3 ?_);refine fI ?_;refine N7 rfl rfl (el rfl) rfl ?_) | ((with_reducible refine XN ?_);refine dB (DS 2 35 rfl ?_);refine QB ?_)) | refine GA ?_ | refine GG ?_ | (refine cJ (fun hb=>?_) (fun hb=>?_) <;> try rw [hb]) | ((with_reducible refine tO ?_);refine j7 Tryz.results138 rfl ?_) | refine GS ?_ | fail)
 ·obtain rfl:vs=[]:=List.map_eq_nil_iff.1 (hn hb)
  exact ⟨rfl,rfl⟩
 ·exact ⟨rfl,rfl⟩
theorem LG {σ:aA} {n:Nat} (hn:σ.length=n) (vs:List Va) (hl:vs.length≤1000) :
  aB Tryz.prog 138 [lv (vs.map Va.enc)] σ (fun r s=>r = .arr n∧s=σ++[some (.arr 35 (aS vs))]):=by
 subst hn
 refine aB.shiftR (LH vs hl) rfl ⟨?_,?_⟩
 ·show DV.arr (bL [] σ.length 0)=_
  simp [bL]
 ·simp only [List.map_cons,List.map_nil,Option.map_some,fL]
theorem HX {gr:List (Value × Fm)} {r:List DV} {tl:List (List DV)} {n:Nat} (h:n=gr.length):(d4 gr++(r::tl))[n]? = some r:=by
 subst h
 rw [List.getElem?_append_right (by rw [f6];exact Nat.le_refl _),f6,Nat.sub_self];rfl
theorem HY {gr:List (Value × Fm)} {r r':List DV} {tl:List (List DV)}:(d4 gr++(r::tl)).set gr.length r'=d4 gr++(r'::tl):=by
 rw [List.set_append_right _ _ (by rw [f6];exact Nat.le_refl _),f6,Nat.sub_self];rfl
theorem BO {P:Program} {e:aW} {σ:aA} {n:Nat} {x y:Operand} {t u el:TypeId} {sz id:Nat} {fs:List Fm} (ht:dU P t=some (el,sz)) (hx:e.ev x=some (.arr id)) (hy:e.ev y=some (lv (fs.map Fm.enc))) (hl:σ.look id=some (.arr el (List.replicate ((fs.length:Int)).toNat [iv 0,iv 0,iv 0,.nils]))) (hsz:sz=4) :
  Ev P (.call { callee := .builtin .copy,args:=#[x,y],argTypes:=#[t,u] }) e σ n (.d (.sc (.int .i64 (fs.length:Int)))) (σ.put id (some (.arr el (aO (fs.map Fm.enc))))):=by
 subst hsz
 have:=ND (P:=P) (n:=n) (u:=u) ht hx hy hl (iI eS)
 have e1:((fs.length:Int)).toNat=fs.length:=by omega
 rw [e1] at this
 simpa [aO,List.take_of_length_le] using this
theorem GC {P:Program} {e:aW} {σ:aA} {n id:Nat} {x:Operand} {ty el el':TypeId} {fs:List Fm} (ht:P.underlying ty=some (.slice el)) (hx:e.ev x=some (.arr id)) (hl:σ.look id=some (.arr el' (aO (fs.map Fm.enc)))):Ev P (.call { callee := .builtin .len,args:=#[x],argTypes:=#[ty] }) e σ n (.d (.sc (.int .i64 fs.length))) σ:=by
 have:=yN (P:=P) (n:=n) ht hx hl
 simpa [aO] using this
theorem YQ {gq:List (Value × Fm)} {Z:List (List aR)}:eJ 2 [some (.arr 63 (d4 gq++aO Z)),some (iB gq),none]=true:=by
 have h:(aU.arr 63 (d4 gq++aO Z)).under 2=true:=by
  have:d4 gq++aO Z=aO (gI gq++Z):=by simp [d4,aO]
  rw [this]
  simp only [aU.under,aO,List.all_map,List.all_eq_true]
  intro r _
  exact fB 2 r
 unfold eJ
 simp only [List.take,List.all_cons,h]
 rfl
theorem IW (fs:List Fm) (hn:fs.length≤24) (hs:∀ t ∈ fs,t.slots.length≤1000) :
  aB Tryz.prog 96 [lv (fs.map Fm.enc)] [] (fun r s=>r = .arr 0∧∃ gs,gs.map (·.2)=fs.reverse∧s=[some (.arr 63 (d4 gs)),some (iB gs)]):=by
 refine fW Tryz.func96 rfl rfl (nB rfl) ?_
 rw [Tryz.ntmps96]
 repeat' (first | ((with_reducible refine kw ?_);first | refine W0 ?_ | refine W1 ?_ | refine W2 ?_ | refine W6 ?_ | refine bJ ?_ | (refine fO ?_;refine WE ?_) | (refine aE ?_;refine WB ?_) | (refine kT ?_;refine cK (GC (sl rfl) rfl rfl) rfl rfl ?_) | refine gZ ?_ | (refine NO ?_;refine WF ?_) | (refine cK (BO (el rfl) rfl rfl rfl rfl) rfl rfl ?_)) | refine GA ?_ | refine GG ?_ | ((with_reducible refine tO ?_);refine j7 Tryz.results96 rfl ?_) | refine GS ?_ | fail)
 refine dB (kK 35 ?_)
 refine cF [0,3,12,13] rfl ?_
 refine jY 2 (n:=_) (fun n e σ=>∃ (i:Nat) (m:Int) (gq:List (Value × Fm)),n=fs.length - i∧(m=i∧i≤fs.length∧gq.map (·.2)=(fs.take i).reverse)∧e=[(0,_),(3,_),(12,_),(13,iv m)]∧σ=[some (.arr 63 (d4 gq++aO ((fs.drop i).map Fm.enc))),some (iB gq)]) rfl ⟨0,0,[],rfl,⟨rfl,Nat.zero_le _,rfl⟩,rfl,rfl⟩ ?_
 rintro n e σ ⟨i,m,gq,rfl,⟨rfl,hi,hg⟩,rfl,rfl⟩
 have hgl:gq.length=i:=by have:=congrArg List.length hg;simp at this;omega
 have hti:(i:Int).toNat=gq.length:=by omega
 by_cases hlt:i < fs.length
 ·have hb:decide ((i:Int) < (fs.length:Int))=true:=decide_eq_true aI
  have hd:fs.drop i=aC fs (i:Int)::fs.drop (i + 1):=by rw [bK hlt];exact List.drop_eq_getElem_cons hlt
  have hlen2:(i:Int) < ((d4 gq++aO ((aC fs (i:Int)::fs.drop (i + 1)).map Fm.enc)).length:Int):=by simp [f6,aO];omega
  rw [hd]
  repeat' (first | ((with_reducible refine kw ?_);first | refine W0 ?_ | refine W1 ?_ | refine W2 ?_ | refine W6 ?_ | refine bJ ?_ | (refine aJ ?_;refine bB rfl rfl rfl rfl (aB.ret (LG (n:=2) rfl (aC fs (i:Int)).slots (by have:=hs (aC fs (i:Int)) (by rw [bK aI];exact List.getElem_mem _);omega)) ?_)) | (refine fO ?_;refine WE ?_) | (refine aE ?_;refine WB ?_) | (refine kT ?_;refine cK (GC (sl rfl) rfl rfl) rfl rfl ?_) | refine gZ ?_ | (refine NO ?_;refine WF ?_) | (refine cK (BO (el rfl) rfl rfl rfl rfl) rfl rfl ?_)) | refine GA ?_ | refine GG ?_ | ((with_reducible refine tO ?_);refine j7 Tryz.results96 rfl ?_) | refine GS ?_ | fail)
  have hset:∀ R:List DV,(d4 gq++aO ((aC fs (i:Int)::fs.drop (i + 1)).map Fm.enc)).set (i:Int).toNat R=d4 gq++(R::aO ((fs.drop (i + 1)).map Fm.enc)):=fun R=>by rw [hti];exact HY
  rw [hset]
  refine gE (vO (n:=0) (m:=1) (p:=2) (i:=gq.length) (j:=3) (l:=gq.map rS) rfl rfl rfl rfl (s:=(aC fs (i:Int)).slots.map Va.enc) rfl (HX rfl) rfl fun u=>?_)
  rw [HY]
  refine gE (jM [0,3,12,13] rfl ?_)
  have hu:=@YQ ((u,aC fs (i:Int))::gq) ((fs.drop (i + 1)).map Fm.enc)
  rw [fM,List.append_assoc] at hu
  refine gU 2 rfl rfl hu ?_
  refine gT ⟨_,?_,i + 1,_,(u,aC fs (i:Int))::gq,rfl,⟨aL aI aI,by omega,?_⟩,rfl,?_⟩
  ·omega
  ·rw [gL hlt,List.reverse_append,List.map_cons,hg];rfl
  ·have e:d4 ((u,aC fs (i:Int))::gq)++aO ((fs.drop (i + 1)).map Fm.enc)=d4 gq++(iD (aC fs (i:Int)) (.d (.sc u))::aO ((fs.drop (i + 1)).map Fm.enc)):=by rw [fM,List.append_assoc];rfl
   rw [e];rfl
 ·have hb:decide ((i:Int) < (fs.length:Int))=false:=decide_eq_false aI
  repeat' (first | ((with_reducible refine kw ?_);first | refine W0 ?_ | refine W1 ?_ | refine W2 ?_ | refine W6 ?_ | refine bJ ?_ | (refine fO ?_;refine WE ?_) | (refine aE ?_;refine WB ?_) | (refine kT ?_;refine cK (GC (sl rfl) rfl rfl) rfl rfl ?_) | refine gZ ?_ | (refine NO ?_;refine WF ?_) | (refine cK (BO (el rfl) rfl rfl rfl rfl) rfl rfl ?_)) | refine GA ?_ | refine GG ?_ | ((with_reducible refine tO ?_);refine j7 Tryz.results96 rfl ?_) | refine GS ?_ | fail)
  have e:i=fs.length:=by omega
  subst e
  refine ⟨rfl,gq,by rw [hg,List.take_length],?_⟩
  rw [List.drop_length]
  show [some (aU.arr 63 (d4 gq++[])),_]=_
  rw [List.append_nil]
theorem RE (c:List Fc) (hc:dR c) (b0:Nat) (fv:Value) (gs:List (Value × Fm)) (G:eK c (gs.map (·.2))) :
  aB Tryz.prog 85 [.ptr 0 0] [some (jK c b0 fv gs)] (fun r s=>r=dZ (iC (jV c 20000 (gs.map (·.2))))∧s=[none]) :=
 CL c (eK c) (fun t r G=>⟨sR hc G,fun u hu=>m4 hc ((BM hc G).2 u hu)⟩) (fun t r G=>(BM hc G).1) (fun t r ts G h=>by rw [FR hc G] at h;exact rN hc G h) (fun G=>G.ch) b0 fv gs G
def tK (c:List Fc) (t:Fm):Bool:=decide (t.fn < 0) || (decide (t.fn≥(c.length:Int)) || (decide (t.pc < 0) || (decide (t.pc≥((aC c t.fn).code.length:Int)) || (decide ((t.slots.length:Int)≠(aC c t.fn).slots) || t.slots.any fun v=>!bH v))))
def uT (c:List Fc) (t n:Fm):Bool:=decide ((aN c t).op≠7) || (decide ((aN c t).b≠n.fn) || decide ((aN c t).a≠n.to))
def rF (c:List Fc) (t:Fm):Bool:=decide ((aN c t).op≠10) || !bT c t (aN c t)
def jN (c:List Fc) (fs:List Fm) (i:Nat):Bool:=tK c (aC fs (i:Int)) || (bif decide ((i:Int) < iA ((fs.length:Int) - 1)) then uT c (aC fs (i:Int)) (aC fs (iA ((i:Int) + 1))) else rF c (aC fs (i:Int)))
def d9 (c:List Fc) (fs:List Fm):Bool:=bif decide ((fs.length:Int)=0) || (decide ((fs.length:Int) > 24) || decide ((aC fs 0).to≠-1)) then false else fN fs.length (fun i=>!jN c fs i)
theorem uQ {c:List Fc} {t:Fm}:tK c t=false↔jS c t:=by
 unfold tK
 simp only [Bool.or_eq_false_iff,dF,List.any_eq_false,b0,Bool.not_eq_false]
 constructor
 ·rintro ⟨h1,h2,h3,h4,h5,h6⟩
  exact ⟨by omega,by omega,by omega,by omega,by omega,fun v hv=>by simpa using h6 v hv⟩
 ·intro F
  have:=F.f0;have:=F.f1;have:=F.p0;have:=F.p1;have:=F.sl
  exact ⟨by omega,by omega,by omega,by omega,by omega,fun v hv=>by simp [F.vv v hv]⟩
theorem BE (v:Va):bY Tryz.prog 94 [v.dv] (bv (!bH v)):=by
 refine of_body Tryz.func94 rfl rfl (nB rfl) ?_
 rw [Tryz.ntmps94]
 repeat' (first | ((with_reducible refine kw ?_);first | refine W3 ?_ | refine bJ ?_ | (refine aJ ?_;refine tD (l7 v.k v.n v.s) ?_) | refine gQ ?_ | refine cW ?_) | refine GA ?_ | refine GG ?_ | ((with_reducible refine kf ?_);refine aP 0 Tryz.results94 rfl rfl rfl ?_) | refine GR ?_ | ((with_reducible refine kr ?_);refine aG rfl ?_) | fail)
 all_goals first | rfl | skip
theorem JD (c:List Fc) (t:Fm) (hf0:0≤t.fn) (hf1:t.fn < (c.length:Int)) (hp0:0≤t.pc) (hp1:t.pc < ((aC c t.fn).code.length:Int)) :
  aB Tryz.prog 95 [.ptr 0 0,t.dv] [some (.box 112 [bC c,.nils])] (fun r σ'=>r=(aN c t).dv∧σ'=[some (.box 112 [bC c,.nils])]):=by
 refine of_body Tryz.func95 rfl rfl (nB rfl) ?_
 rw [Tryz.ntmps95]
 repeat' (first | ((with_reducible refine kw ?_);first | refine cW ?_ | refine dH ?_) | refine GN ?_ | ((with_reducible refine kd ?_);first | refine D0 ?_ | refine D1 ?_ | refine D2 ?_ | refine D3 ?_ | refine D4 ?_ | (refine c7 ?_;first | refine dC (aF (el rfl) rfl rfl hf0 hf1 ⟨rfl,by decide⟩) rfl rfl rfl rfl ?_ | refine dC (aF (el rfl) rfl rfl hp0 hp1 ⟨rfl,by decide⟩) rfl rfl rfl rfl ?_) | (refine aV ?_;refine BW ?_)) | refine GA ?_ | refine GG ?_ | ((with_reducible refine kf ?_);refine aP 1 Tryz.results95 rfl rfl rfl ?_) | refine GR ?_ | ((with_reducible refine kr ?_);refine bD rfl rfl ⟨?_,rfl⟩) | fail)
 all_goals rfl
theorem rD {c:List Fc} {fs:List Fm} {i:Nat} (h0:¬ (fs.length:Int)=0∧¬ (fs.length:Int) > 24∧(aC fs 0).to=-1) (hi:i < fs.length) (h:jN c fs i=true):d9 c fs=false:=by
 unfold d9
 rw [decide_eq_false h0.1,decide_eq_false h0.2.1,decide_eq_false (by simpa using h0.2.2)]
 exact eD hi (by rw [h];rfl)
theorem zM {c:List Fc} {fs:List Fm} (h0:¬ (fs.length:Int)=0∧¬ (fs.length:Int) > 24∧(aC fs 0).to=-1) (h:∀ j,j < fs.length→jN c fs j=false):d9 c fs=true:=by
 unfold d9
 rw [decide_eq_false h0.1,decide_eq_false h0.2.1,decide_eq_false (by simpa using h0.2.2)]
 exact dN.2 fun i hi=>by rw [h i hi];rfl
theorem wF (c:List Fc) (hc:dR c) (fs:List Fm):bY Tryz.prog 53 [.agg [bC c],lv (fs.map Fm.enc)] (bv (d9 c fs)):=by
 refine aB.assume rfl fun hok _=>?_
 have hlen:=dK (hok (lv (fs.map Fm.enc)) eS)
 simp only [List.length_map] at hlen
 have hlc:=dK (hok (.agg [bC c]) eS (.lst (c.map Fc.enc)) eS)
 simp only [List.length_map] at hlc
 refine of_body Tryz.func53 rfl rfl (nB rfl) ?_
 rw [Tryz.ntmps53]
 repeat' (first | ((with_reducible refine kw ?_);first | refine Wg ?_ | refine W0 ?_ | refine W1 ?_ | refine W2 ?_ | refine W3 ?_ | refine W6 ?_ | refine bJ ?_ | (refine fO ?_;refine Y6 ?_) | (refine aE ?_;refine q8 ?_) | refine eT ?_ | refine gQ ?_ | refine iZ ?_ | refine gZ ?_ | refine cW ?_ | refine dH ?_ | refine eV ?_) | refine GX ?_ | (refine bW (fun hb=>?_) (fun hb=>?_) <;> rw [hb]) | refine GN ?_ | refine GD ?_ | (refine kX (fun hb=>?_) (fun hb=>?_) <;> rw [hb]) | ((with_reducible refine kd ?_);first | refine D0 ?_ | refine D1 ?_ | refine D2 ?_ | refine D6 ?_ | (refine c7 ?_;refine Y4 ?_) | refine uF ?_ | refine BT ?_) | refine GA ?_ | refine GG ?_ | (refine cJ (fun hb=>?_) (fun hb=>?_) <;> try rw [hb]) | ((with_reducible refine kf ?_);refine aP 0 Tryz.results53 rfl rfl rfl ?_) | refine GR ?_ | ((with_reducible refine kr ?_);refine aG rfl ?_) | fail)
 all_goals first
  | (refine dG ?_;show bv _=bv _;simp only [d9, *,b2,b3,b4,cond_true,cond_false,b5,b6,b7,b8,c1,c2,b9,c0];done)
  | skip
 have h0:¬ (fs.length:Int)=0∧¬ (fs.length:Int) > 24∧(aC fs 0).to=-1:=⟨(oF ‹decide ((fs.length:Int)=0)=false›),(oF ‹decide ((fs.length:Int) > 24)=false›),by have:=(oF ‹decide ((aC fs 0).to≠-1)=false›);exact Decidable.not_not.1 this⟩
 refine cF [1,2,5,30,31,32] rfl ?_
 refine fS 2 (n:=_) (fun n e σ=>∃ (i:Nat) (m:Int),n=fs.length - i∧(m=i∧i≤fs.length∧(∀ j,j < i→jN c fs j=false))∧e=[(1,_),(2,_),(5,_),(30,_),(31,_),(32,iv m)]∧σ=_) rfl ⟨0,0,rfl,⟨rfl,Nat.zero_le _,fun j h=>by omega⟩,rfl,rfl⟩ ?_
 rintro n e σ ⟨i,m,rfl,⟨rfl,hi,hall⟩,rfl,rfl⟩
 have hn1:=h0.1
 have hn2:=h0.2.1
 repeat' (first | ((with_reducible refine kw ?_);first | refine Wg ?_ | refine W0 ?_ | refine W1 ?_ | refine W2 ?_ | refine W3 ?_ | refine W6 ?_ | refine bJ ?_ | (refine aJ ?_;first | refine bB rfl rfl rfl rfl (aB.ret (aB.reads (JD c (aC fs (i:Int)) F.f0 F.f1 F.p0 F.p1) [1] rfl ⟨⟨rfl,rfl,rfl⟩,trivial⟩ rfl rfl rfl) ?_) | refine bB rfl rfl rfl rfl ((aB.borrowE (R':=fun r=>∃ a',(bT c (aC fs (i:Int)) (aN c (aC fs (i:Int)))=true→a'=bX c (aC fs (i:Int)) (aN c (aC fs (i:Int))))∧r = .tup [Ak.dv a',bv (bT c (aC fs (i:Int)) (aN c (aC fs (i:Int))))]) (wB c (aC fs (i:Int)) [ld []] (aC fs (i:Int)).pc.toNat (by have:=F.p0;omega) F.f0 F.f1 F.p0 F.p1 (aN c (aC fs (i:Int))) rfl (lB hc F (by have h:=(oF ‹decide ((aN c (aC fs (i:Int))).op≠10)=false›);exact Decidable.not_not.1 h))) (.cons (cA.box rfl (.cons .d (.cons .nils .nil))) (.cons (cA.box rfl (kO (Fm.enc (aC fs (i:Int))))) .nil)) (fun r σ0 ⟨a',h1,h2⟩=>⟨_,h2,a',h1,rfl⟩)).mono ?_)) | (refine fO ?_;refine Y6 ?_) | (refine aE ?_;refine q8 ?_) | refine eT ?_ | refine gQ ?_ | refine iZ ?_ | refine gZ ?_ | refine cW ?_ | refine dH ?_ | refine eV ?_) | refine GX ?_ | (refine bW (fun hb=>?_) (fun hb=>?_) <;> rw [hb]) | refine GN ?_ | refine GD ?_ | (refine kX (fun hb=>?_) (fun hb=>?_) <;> rw [hb]) | ((with_reducible refine kd ?_);first | refine D0 ?_ | refine D1 ?_ | refine D2 ?_ | refine D6 ?_ | (refine bM ?_;refine eM [] rfl rfl rfl rfl (fun σ2 _=>TZ (aC fs (i:Int)).slots 94 [] [] (fun v=>!bH v) σ2 (fun j _=>bY.at (BE (aC (aC fs (i:Int)).slots (j:Int))) rfl rfl ⟨rfl,rfl⟩)) rfl ?_) | (refine c7 ?_;refine Y4 ?_) | refine uF ?_ | refine BT ?_) | ((with_reducible refine ka ?_);((with_reducible refine i5 9 ?_);have F:jS c (aC fs (i:Int)):=uQ.1 (by simp only [tK, *,b9,c0]);refine fI ?_)) | refine GA ?_ | refine GG ?_ | (refine cJ (fun hb=>?_) (fun hb=>?_) <;> try rw [hb]) | ((with_reducible refine kf ?_);refine aP 0 Tryz.results53 rfl rfl rfl ?_) | refine GR ?_ | ((with_reducible refine kr ?_);refine aG rfl ?_) | (rintro _ _ ⟨⟨a',ha,rfl⟩,rfl⟩) | fail)
 all_goals first
  | (have hlt:=(oT ‹decide ((i:Int) < (fs.length:Int))=true›);have hB:jN c fs i=true:=ZJ;exact dG (by show bv false=bv (d9 c fs);rw [rD h0 (i:=i) aI hB]))
  | (have hlt:=(oT ‹decide ((i:Int) < (fs.length:Int))=true›);have hB:jN c fs i=false:=ZJ;refine ⟨_,_,?_,aW.pick_get _ [1,2,5,30,31,32],⟨rfl,rfl⟩,i + 1,_,rfl,⟨aL aI aI,by omega,fun j hj=>by rcases Nat.lt_succ_iff_lt_or_eq.1 hj with h | rfl;exact hall j h;exact hB⟩,rfl,rfl⟩;omega)
  | (refine dG ?_;show bv _=bv _;rw [zM h0 (fun j hj=>hall j (by have:=oF ‹decide ((i:Int) < (fs.length:Int))=false›;omega))])
  | skip
section
variable {σ L:aA} {c:List Fc} {b0:Nat} {fv u:Value} {t t':Fm} {gr gs:List (Value × Fm)} {run:TypeId} {post:List aR} {ss:List Va} {e:aW} {J:aW→aA→Prop}
theorem FL {k n p:Nat} (h0:σ.look k=some (.box run (bC c :: .arr n::post.map .d))) (h1:σ.look n=some (.arr 63 (d4 gr++[iD t (.arr p)]))) (h2:σ.look p=some (.arr 35 (aS t.slots))) (hd:lC [k,n,p]=true):gR σ (bL [k,n,p] σ.length) 3 [k,n,p] (NV run post c t gr):=by
 have b:∀ {k:Nat} {o:aU},σ.look k=some o→Nat.blt k σ.length=true:=fun h=>by simpa using a7 h
 refine ⟨⟨b h0,wC cN,?_⟩,⟨b h1,lL rfl,?_⟩,⟨b h2,eB,?_⟩,trivial⟩
 ·rw [qA,h0];rfl
 ·rw [yR,h1];rfl
 ·rw [fL,h2]
def UQ (σ:aA) (k:Nat) (run:TypeId) (post:List aR) (c:List Fc) (b0:Nat) (fv u:Value) (f pc tt:Int) (ss:List Va) (gr:List (Value × Fm)) (m n p:Nat):aA :=
 aA.put (aA.put (aA.put (aA.put (aA.put (aA.put σ m (some (bS Tryz.prog 35 ((u,ss.map Va.enc)::gr.map rS)))) n (some (.arr 63 (d4 gr++[[iv f,iv pc,iv tt,.d (.sc u)]])))) p none) k (some (mG run post c b0 fv ((u,⟨f,pc,tt,ss⟩)::gr)))) n none) m none
theorem yE (post:List aR) {k m n p:Nat} {f pc tt:Int} (hk:σ.look k=some (.box run (bC c :: .arr n::post.map .d))) (hn:σ.look n=some (.arr 63 (d4 gr++[[iv f,iv pc,iv tt,.arr p]]))) (hm:σ.look m=some (iB gr)) (hp:σ.look p=some (.arr 35 (aS ss))) (hpn:Nat.beq p n=false)
  (h:∀ b0 fv u,J e (UQ σ k run post c b0 fv u f pc tt ss gr m n p)):SC Tryz.prog e σ J:=by
 have h02:n≠m:=by rintro rfl;rw [hn] at hm;cases hm
 have hp2:p≠m:=by rintro rfl;rw [hp] at hm;cases hm
 have hn0:n≠k:=by rintro rfl;rw [hk] at hn;cases hn
 have hp0:p≠k:=by rintro rfl;rw [hk] at hp;cases hp
 have hm0:m≠k:=by rintro rfl;rw [hk] at hm;cases hm
 have hpn':p≠n:=by intro e;subst e;simp at hpn
 refine lQ (vO (n:=n) (m:=m) (p:=p) (i:=gr.length) (j:=3) (l:=gr.map rS) hm hn hpn hp (s:=ss.map Va.enc) rfl (dV rfl) rfl fun u=>?_)
 rw [mC]
 show SC Tryz.prog e (aA.put (aA.put (aA.put σ m (some (bS Tryz.prog 35 ((u,ss.map Va.enc)::gr.map rS)))) n (some (.arr 63 (d4 gr++[[iv f,iv pc,iv tt,.d (.sc u)]])))) p none) J
 have l1:(σ.put m (some (bS Tryz.prog 35 ((u,ss.map Va.enc)::gr.map rS)))).look n=some (.arr 63 (d4 gr++[[iv f,iv pc,iv tt,.arr p]])):=by rw [aM hm,if_neg h02];exact hn
 have l2:((σ.put m (some (bS Tryz.prog 35 ((u,ss.map Va.enc)::gr.map rS)))).put n (some (.arr 63 (d4 gr++[[iv f,iv pc,iv tt,.d (.sc u)]])))).look p=some (.arr 35 (aS ss)):=by rw [aM l1,if_neg hpn',aM hm,if_neg hp2];exact hp
 refine pK (k:=k) (n:=n) (m:=m) [kZ c] post (rows:=gI ((u,⟨f,pc,tt,ss⟩)::gr)) (es:=d4 gr++[[iv f,iv pc,iv tt,.d (.sc u)]]) ?_ ?_ (fM (u:=u) (t:=⟨f,pc,tt,ss⟩)).symm ?_ fun b0 fv=>h b0 fv u
 ·rw [aM l2,if_neg (Ne.symm hp0),aM l1,if_neg (Ne.symm hn0),aM hm,if_neg (Ne.symm hm0)];exact hk
 ·rw [aM l2,if_neg (Ne.symm hpn'),aM l1,if_pos rfl]
 ·rw [aM l2,if_neg (Ne.symm hp2),aM l1,if_neg (Ne.symm h02),aM hm,if_pos rfl];rfl
end
structure N1 (c:List Fc) (ts:List Fm):Prop where
 g:eK c ts
 top:∀ t r,ts=t::r→(aN c t).op=10∧bT c t (aN c t)=true
theorem FV {c:List Fc} {fs:List Fm} (h:d9 c fs=true):N1 c fs.reverse:=by
 unfold d9 at h
 cases hq:(decide ((fs.length:Int)=0) || (decide ((fs.length:Int) > 24) || decide ((aC fs 0).to≠-1))) with
 | true=>rw [hq] at h;cases h
 | false =>
  rw [hq] at h
  simp only [Bool.or_eq_false_iff,dF] at hq
  obtain ⟨h1,h2,h3⟩:=hq
  have h':∀ i,i < fs.length→jN c fs i=false:=fun i hi=>by simpa using dN.1 h i hi
  have w1:iA ((fs.length:Int) - 1)=(fs.length:Int) - 1:=aL aI aI
  have hF:∀ i,i < fs.length→jS c (aC fs (i:Int)):=fun i hi=>by
   have:=h' i hi
   unfold jN at this
   rw [Bool.or_eq_false_iff] at this
   exact uQ.1 this.1
  have hL:∀ i,i + 1 < fs.length→SZ c (aC fs ((i + 1:Nat):Int)) (aC fs (i:Int)):=fun i hi=>by
   have:=h' i aI
   unfold jN at this
   rw [Bool.or_eq_false_iff,w1,decide_eq_true (show (i:Int) < (fs.length:Int) - 1 by omega),show iA ((i:Int) + 1)=((i + 1:Nat):Int) from (aL aI aI).trans aI] at this
   have:=this.2
   simp only [cond_true,uT,Bool.or_eq_false_iff,dF,ne_eq,Decidable.not_not] at this
   exact this
  have hC:∀ k,k < fs.length→vA c ((fs.take (k + 1)).reverse):=by
   intro k
   induction k with
   | zero =>
    intro hk
    rw [gL hk]
    show (aC fs 0).to=-1
    exact Decidable.not_not.1 h3
   | succ k ih =>
    intro hk
    have hk':k < fs.length:=by omega
    have e:=gL (l:=fs) hk'
    have i1:=ih hk'
    rw [gL hk,List.reverse_append]
    rw [e,List.reverse_append] at i1 ⊢
    exact ⟨hL k hk,i1⟩
  have hn:0 < fs.length:=by omega
  have hc:=hC (fs.length - 1) aI
  rw [show fs.length - 1 + 1=fs.length by omega,List.take_length] at hc
  refine ⟨⟨by simp;omega,fun t ht=>?_,hc⟩,fun t r e=>?_⟩
  ·obtain ⟨i,hi,rfl⟩:=List.getElem_of_mem (List.mem_reverse.1 ht)
   have:=hF i hi
   rwa [bK hi] at this
  ·have ht:t=aC fs ((fs.length - 1:Nat):Int):=by
    have:=congrArg (fun l=>l[0]?) e
    simp only [List.getElem?_cons_zero] at this
    rw [List.getElem?_reverse hn] at this
    rw [bK aI]
    have h5:=(List.getElem?_eq_some_iff.1 this).2
    simpa using h5.symm
   have:=h' (fs.length - 1) aI
   unfold jN at this
   rw [Bool.or_eq_false_iff,w1,decide_eq_false (show ¬ (((fs.length - 1:Nat):Int) < (fs.length:Int) - 1) by omega),← ht] at this
   have:=this.2
   simp only [cond_false,rF,Bool.or_eq_false_iff,dF,ne_eq,Decidable.not_not,Bool.not_eq_false'] at this
   exact this
def iV (t:Fm) (x:In) (a:An):Fm :=
 let t1:=if x.a≥0 then fK t x.a a.v else t
 if x.b=15 then fK t1 (aC x.l 0) ⟨1,a.ix,⟨#[]⟩⟩ else t1
def iG (c:List Fc) (t:Fm) (r:List Fm) (a:An):List Fm × Tn × Int :=
 if i3 (bX c t (aN c t)) a≠0 then ([],iK,i3 (bX c t (aN c t)) a)
 else if dO a.f=false then (if cT c a.f (t::r)=[] then ([],⟨true,d6,g9,a.f⟩,0) else iC (jV c 20000 (cT c a.f (t::r))))
 else iC (jV c 20000 (dS (iV t (aN c t) a)::r))
theorem IV {σ:aA} {n:Nat} (hn:σ.length=n) (fs:List Fm) (hl:fs.length≤24) (hs:∀ t ∈ fs,t.slots.length≤1000) {t:Fm} {r:List Fm} (hr:fs.reverse=t::r) :
  aB Tryz.prog 96 [lv (fs.map Fm.enc)] σ (fun x s=>x = .arr n∧∃ y:Value × List (Value × Fm),y.2.map (·.2)=r∧s=σ++[some (.arr 63 (d4 ((y.1,t)::y.2))),some (iB ((y.1,t)::y.2))]):=by
 subst hn
 refine aB.shift (IW fs hl hs) rfl fun r0 σ0 ⟨h1,gs,h2,h3⟩=>?_
 subst h1 h3
 rw [hr] at h2
 have e:(aU.arr 63 (d4 gs)).ren (bL [] σ.length) = .arr 63 (d4 gs):=lH
 refine ⟨?_,?_⟩
 ·show DV.arr (bL [] σ.length 0)=_
  simp [bL]
 ·rcases gs with _ | ⟨⟨u,t'⟩,gr⟩
  ·cases h2
  ·simp only [List.map_cons,List.cons.injEq] at h2
   obtain ⟨rfl,h2⟩:=h2
   refine ⟨(u,gr),h2,?_⟩
   simp only [List.map_cons,List.map_nil,Option.map_some]
   rw [show (aU.arr 63 (d4 ((u,t')::gr))).ren (bL [] σ.length) = .arr 63 (d4 ((u,t')::gr)) from lH]
   rfl
theorem LP {P:Program} {nt i:Nat} {e:aW} {σ:aA} {α:Type} {K:aW→aA→Prop} {seen:List Nat} {lt:List dQ} {rest:List (Nat × Oper)} {ops:Array Oper} {dst:Option Nat} {ty:TypeId} {pos:String} {after:Array Edge} {gd:Option (Nat × Bool)} {f:Operand} {args:Array Operand} {ts:Array TypeId} {g:FuncId} {first cap xs ys:List DV} {x:DV} {τ:α→aA} {C:α→Prop} (hw:aT ops ⟨dst,.call { callee := .value f,args,argTypes:=ts },ty,pos,after,gd⟩ e=some true)
  (hf:e.ev f=some (.fn (.func g) first cap)) (hx:args.toList.mapM e.ev=some xs) (hy:DV.norms (first++xs++cap)=ys) (hok:PC lt (bN ⟨dst,.call { callee := .value f,args,argTypes:=ts },ty,pos,after,gd⟩)=true) (hl:j9 ops [i] (rest.map (·.1))=true)
  (hc:aB P g ys σ fun r σ'=>r=x∧∃ y,C y∧σ'=σ++τ y) (hb:(lt.all fun a=>a.R.all fun id=>Nat.blt id σ.length)=true)
  (k:∀ y,C y→bO P nt ops K (i::seen) lt rest (e.put dst x) (σ++τ y)):bR P nt ops K seen lt ((i,⟨dst,.call { callee := .value f,args,argTypes:=ts },ty,pos,after,gd⟩)::rest) e σ:=by
 refine GW (fun r σ'=>r=x∧∃ y,C y∧σ'=σ++τ y) hw hf hx hy hok hl hc ?_ ?_
 ·rintro _ _ ⟨_,y,_,rfl⟩ a h1 _ id h2
  exact xP (List.all_eq_true.1 (List.all_eq_true.1 hb a h1) id h2)
 ·rintro _ _ ⟨rfl,y,hC,rfl⟩;exact k y hC
theorem xG {k:Ak} {a:An} (hk:k.kind=15→k.arms.length≤4000) (h:¬ i3 k a≠0):bH a.v=true∧zA a.f∧bH ⟨1,a.ix,⟨#[]⟩⟩=true:=by
 have hf:tH k a=true:=by
  unfold i3 at h
  cases hq:tH k a with
  | true=>rfl
  | false=>rw [hq] at h;exact absurd cN h
 have key:xE k a=true∧(0≤a.ix∧a.ix≤4000):=by
  unfold tH at hf
  by_cases h0:a.f.k=0
  ·rw [decide_eq_true h0] at hf
   simp only [cond_true,c5,dT] at hf
   refine ⟨hf.1,hf.2.1,?_⟩
   have:=hf.2.2.1
   unfold zU at this
   by_cases h15:k.kind=15
   ·have hl:=hk h15
    rw [decide_eq_false (by simpa using h15)] at this
    simp only [cond_false] at this
    by_cases h1:k.n=1
    ·rw [decide_eq_true h1] at this;simp only [cond_true] at this;omega
    ·rw [decide_eq_false h1] at this
     simp only [cond_false] at this
     rw [show iA ((k.arms.length:Int) - 1)=(k.arms.length:Int) - 1 from aL aI aI] at this
     omega
   ·rw [decide_eq_true h15] at this;simp only [cond_true] at this;omega
  ·rw [decide_eq_false h0] at hf
   simp only [cond_false] at hf
   by_cases h2:a.f.k=2
   ·rw [decide_eq_true h2] at hf
    simp only [cond_true,c5,dT] at hf
    exact ⟨hf.1,by omega,by omega⟩
   ·rw [decide_eq_false h2] at hf
    simp only [cond_false,c5,dT] at hf
    exact ⟨hf.1,by omega,by omega⟩
 obtain ⟨k1,k2,k3⟩:=key
 unfold xE at k1
 simp only [c5] at k1
 exact ⟨k1.2.1,k1.2.2,YS aI aI⟩
theorem VE {S:List Va} {n:Nat} {w:Va} (h:∀ v ∈ S,bH v=true) (hw:bH w=true):∀ v ∈ S.set n w,bH v=true:=fun v hv=>by
 rcases List.mem_or_eq_of_mem_set hv with h1 | rfl
 ·exact h v h1
 ·exact hw
theorem JR (c:List Fc) (hc:dR c) (fs:List Fm) (t:Fm) (r:List Fm) (hr:fs.reverse=t::r) (R:N1 c (t::r)) (a:An) :
  bY Tryz.prog 54 [.agg [bC c],lv (fs.map Fm.enc),a.dv] (dZ (iG c t r a)):=by
 have G:=R.g
 have F:=G.top
 have h10:=(R.top t r rfl).1
 have hB:=(R.top t r rfl).2
 have hlen:fs.length=r.length + 1:=by have:=congrArg List.length hr;simpa using this
 have hfl:fs.length≤24:=by have:=G.n;simp at this;omega
 have hmem:∀ x,x ∈ fs↔x ∈ t::r:=fun x=>by rw [← hr,List.mem_reverse]
 have hfs:∀ x ∈ fs,x.slots.length≤1000:=fun x hx=>by
  have Fx:=G.fr x ((hmem x).1 hx)
  have:=Fx.sl
  have:=(hc.fs _ (dM Fx.f0 Fx.f1)).hd.s1
  omega
 have I:=vG hc F
 have A:=I.ask h10
 have hxa:(aN c t).a≥0→(aN c t).a < (t.slots.length:Int):=fun _=>by rw [F.sl];exact (I.a2 aI).2
 have hx0:(aN c t).b=15→(0:Int) < ((aN c t).l.length:Int):=fun h=>by
  have:=(A.lo aI).1
  rw [h] at this
  have h':(1:Int)≤_:=this
  omega
 have hxb:(aN c t).b=15→0≤aC (aN c t).l 0∧aC (aN c t).l 0 < (t.slots.length:Int):=fun h=>by
  rw [F.sl];exact I.l1 aI _ (dM aI (hx0 h))
 have hp:0≤t.pc∧t.pc < 4000:=⟨F.p0,by have:=F.p1;have:=(oB hc F).hd.n1;omega⟩
 have hw:IntKind.i64.wrap (t.pc + 1)=t.pc + 1:=aL aI aI
 have hgo:=rC hc F (by rw [h10];rfl)
 have hfv:¬ i3 (bX c t (aN c t)) a≠0→bH a.v=true∧zA a.f∧bH ⟨1,a.ix,⟨#[]⟩⟩=true:=fun h=>xG (fun hk=>by
  have e:(bX c t (aN c t)).arms.length≤(fP c t).length:=by
   unfold bX
   repeat' split
   all_goals simp
  have hq:(fP c t).length≤4000:=by
   show (d5 (aC c t.fn).code t.pc.toNat).length≤4000
   unfold d5
   rw [List.length_take,List.length_drop]
   have:=(oB hc F).hd.n1
   omega
  omega) h
 refine of_body Tryz.func54 rfl rfl (nB rfl) ?_
 rw [Tryz.ntmps54]
 repeat' (first | ((with_reducible refine kw ?_);first | refine W0 ?_ | refine W1 ?_ | (refine f9 ?_;refine KW ?_) | refine W3 ?_ | refine W2 ?_ | refine W4 ?_ | refine W6 ?_ | refine W7 ?_ | refine bJ ?_ | (refine aJ ?_;first | refine bB rfl rfl rfl rfl ((aB.at1 (C:=fun y:Nat × Value × Value=>True) (rr:=fun y => .d (.sc (pY y.2.1 (gr.length * 4 + 0)))) (o:=fun y=>some (jK c y.1 y.2.1 ((y.2.2,t)::gr))) ((YK c b0 fv u t gr hgl).mono fun r s ⟨b,w,q,h1,h2⟩=>⟨(b,w,q),trivial,h1,h2⟩) 5 rfl rfl rfl (fun y q h=>by cases h;rfl) rfl rfl (fun _=>rfl)).mono ?_) | refine bB rfl rfl rfl rfl ((aB.borrowE (R':=fun r=>∃ a',(bT c t (aN c t)=true→a'=bX c t (aN c t))∧r = .tup [Ak.dv a',bv (bT c t (aN c t))]) (wB c t _ t.pc.toNat (by have:=F.p0;omega) F.f0 F.f1 F.p0 F.p1 (aN c t) rfl (lB hc F h10)) (AF (k:=5) (post:=[]) rfl) (fun r σ0 ⟨a',h1,h2⟩=>⟨_,h2,a',h1,rfl⟩)).mono ?_) | refine tD (OW (bX c t (aN c t)) a) ?_) | (refine aE ?_;refine IB ?_) | refine gQ ?_ | refine iZ ?_ | refine cW ?_ | refine dH ?_ | refine eV ?_) | refine GN ?_ | ((with_reducible refine kd ?_);first | refine D0 ?_ | refine D1 ?_ | (refine dI ?_;refine BU ?_) | refine D3 ?_ | refine D2 ?_ | refine D4 ?_ | refine iY ?_ | (refine bM ?_;refine LP rfl rfl rfl rfl rfl rfl (IV (n:=3) rfl fs hfl hfs hr) rfl (fun y hy=>?_)) | (refine c7 ?_;refine SW ?_) | (refine aV ?_;refine H5 ?_) | refine GI ?_ | refine sU ?_) | ((with_reducible refine ka ?_);first | ((with_reducible refine i5 2 ?_);refine dB (pK (k:=5) (n:=3) (m:=4) (rows:=gI ((y.1,t)::y.2)) (l:=((y.1,t)::y.2).map rS) [kZ c] [] rfl rfl rfl rfl fun b0 fv=>?_);obtain ⟨u,gr⟩:=y;have hgr:gr.map (·.2)=r:=hy;clear hy;subst hgr;have hgl:gr.length≤1000:=(by have:=G.n;simp at this;omega);refine fI ?_) | ((with_reducible refine i5 11 ?_);refine dB (wJ (k:=5) 10 gr.length 4 0 rfl qN rfl ?_);refine dB (f8 8 7 rfl rfl ?_);refine fI ?_)) | refine GA ?_ | refine GG ?_ | (refine cJ (fun hb=>?_) (fun hb=>?_) <;> try rw [hb]) | ((with_reducible refine kf ?_);refine aP 0 Tryz.results54 rfl rfl rfl ?_) | refine GR ?_ | ((with_reducible refine kr ?_);refine aG rfl ?_) | (rintro _ _ ⟨⟨a',ha,rfl⟩,rfl⟩;obtain rfl:=ha hB;clear ha) | (rintro _ _ ⟨⟨b1,fv1,u1⟩,-,rfl,rfl⟩) | fail)
 ·have h0:=oT ‹decide (i3 (bX c t (aN c t)) a≠0)=true›
  rw [iG,if_pos h0];rfl
 ·have h0:¬ i3 (bX c t (aN c t)) a≠0:=oF ‹decide (i3 (bX c t (aN c t)) a≠0)=false›
  have hv:=hfv h0
  have hz:dO a.f=false:=by have hq:=‹(!(decide (a.f.k=0) && (decide (a.f.t=⟨#[]⟩) && true)))=true›;revert hq;show (!(dO a.f))=true→_;cases dO a.f <;> simp
  have hgl1:((u1,t)::gr).length≤1000:=by have:=G.n;simp at this ⊢;omega
  have hGd:∀ (u:Value),∀ g ∈ (u,t)::gr,gX c g.2:=fun u g hg=>m4 hc (G.fr g.2 (by
   rcases List.mem_cons.1 hg with rfl | hg
   ·simp
   ·exact List.mem_cons_of_mem _ (List.mem_map.2 ⟨g,hg,rfl⟩))).w
  have hRG:=pH hc hv.2.1 _ G.n G.fr (.inr G.ch)
  repeat' (first | ((with_reducible refine kw ?_);first | refine W0 ?_ | refine W1 ?_ | (refine f9 ?_;refine KW ?_) | refine W3 ?_ | refine W2 ?_ | refine W4 ?_ | refine W6 ?_ | refine W7 ?_ | refine bJ ?_ | (refine aJ ?_;refine bB rfl rfl rfl rfl ((aB.at1 (C:=fun y:Nat × Value × List (Value × Fm)=>y.2.2.map (·.2)=cT c a.f (t::gr.map fun (g:Value × Fm)=>g.2)) (rr:=fun _=>bv (decide (cT c a.f (t::gr.map fun (g:Value × Fm)=>g.2)≠[]))) (o:=fun y=>some (jK c y.1 y.2.1 y.2.2)) ((UB c b1 fv1 ((u1,t)::gr) a.f hgl1 (hGd u1)).mono fun r s ⟨b,w,q,h1,h2,h3⟩=>⟨(b,w,q),h2,h3,h1⟩) 5 rfl rfl rfl (fun y q h=>by cases h;rfl) rfl rfl (fun _=>rfl)).mono ?_)) | (refine aE ?_;refine IB ?_) | refine gQ ?_ | refine iZ ?_ | refine cW ?_ | refine dH ?_ | refine eV ?_) | refine GN ?_ | ((with_reducible refine kd ?_);first | refine D0 ?_ | refine D1 ?_ | (refine dI ?_;refine BU ?_) | refine D3 ?_ | refine D2 ?_ | refine D4 ?_ | refine iY ?_ | (refine bM ?_;skip) | (refine c7 ?_;refine SW ?_) | (refine aV ?_;refine H5 ?_) | refine GI ?_ | refine sU ?_) | refine GA ?_ | refine GG ?_ | (refine cJ (fun hb=>?_) (fun hb=>?_) <;> try rw [hb]) | ((with_reducible refine kf ?_);refine aP 0 Tryz.results54 rfl rfl rfl ?_) | refine GR ?_ | ((with_reducible refine kr ?_);refine aG rfl ?_) | fail)
  rintro _ _ ⟨⟨b2,fv2,g2⟩,hr2,rfl,rfl⟩
  simp only at hr2
  by_cases hn:cT c a.f (t::gr.map fun (g:Value × Fm)=>g.2)=[]
  ·have hne:(!decide (cT c a.f (t::gr.map fun (g:Value × Fm)=>g.2)≠[]))=true:=by simp [hn]
   repeat' (first | ((with_reducible refine kw ?_);first | refine W0 ?_ | refine W1 ?_ | (refine f9 ?_;refine KW ?_) | refine W3 ?_ | refine W2 ?_ | refine W4 ?_ | refine W6 ?_ | refine W7 ?_ | refine bJ ?_ | (refine aJ ?_;refine bB rfl rfl rfl rfl (skip)) | (refine aE ?_;refine IB ?_) | refine gQ ?_ | refine iZ ?_ | refine cW ?_ | refine dH ?_ | refine eV ?_) | refine GN ?_ | ((with_reducible refine kd ?_);first | refine D0 ?_ | refine D1 ?_ | (refine dI ?_;refine BU ?_) | refine D3 ?_ | refine D2 ?_ | refine D4 ?_ | refine iY ?_ | (refine bM ?_;skip) | (refine c7 ?_;refine SW ?_) | (refine aV ?_;refine H5 ?_) | refine GI ?_ | refine sU ?_) | refine GA ?_ | refine GG ?_ | (refine cJ (fun hb=>?_) (fun hb=>?_) <;> try rw [hb]) | ((with_reducible refine kf ?_);refine aP 0 Tryz.results54 rfl rfl rfl ?_) | refine GR ?_ | ((with_reducible refine kr ?_);refine aG rfl ?_) | fail)
   rw [iG,if_neg h0,if_pos hz,if_pos hn];rfl
  ·have hne:(!decide (cT c a.f (t::gr.map fun (g:Value × Fm)=>g.2)≠[]))=false:=by simp [hn]
   have hGs:eK c (g2.map (·.2)):=by rw [hr2];exact hRG.resolve_left hn
   repeat' (first | ((with_reducible refine kw ?_);first | refine W0 ?_ | refine W1 ?_ | (refine f9 ?_;refine KW ?_) | refine W3 ?_ | refine W2 ?_ | refine W4 ?_ | refine W6 ?_ | refine W7 ?_ | refine bJ ?_ | (refine aJ ?_;refine bB rfl rfl rfl rfl (aB.ret ((aB.at1 (C:=fun y:Unit=>True) (rr:=fun _=>dZ (iC (jV c 20000 (g2.map (·.2))))) (o:=fun y=>none) ((RE c hc b2 fv2 (g2) (hGs)).mono fun r s ⟨h1,h2⟩=>⟨(),trivial,h1,h2⟩) 5 rfl rfl rfl (fun y q h=>by cases h) rfl rfl (fun _=>rfl)).mono fun r s ⟨_,_,h1,h2⟩=>⟨h1,h2⟩) ?_)) | (refine aE ?_;refine IB ?_) | refine gQ ?_ | refine iZ ?_ | refine cW ?_ | refine dH ?_ | refine eV ?_) | refine GN ?_ | ((with_reducible refine kd ?_);first | refine D0 ?_ | refine D1 ?_ | (refine dI ?_;refine BU ?_) | refine D3 ?_ | refine D2 ?_ | refine D4 ?_ | refine iY ?_ | (refine bM ?_;skip) | (refine c7 ?_;refine SW ?_) | (refine aV ?_;refine H5 ?_) | refine GI ?_ | refine sU ?_) | refine GA ?_ | refine GG ?_ | (refine cJ (fun hb=>?_) (fun hb=>?_) <;> try rw [hb]) | ((with_reducible refine kf ?_);refine aP 0 Tryz.results54 rfl rfl rfl ?_) | refine GR ?_ | ((with_reducible refine kr ?_);refine aG rfl ?_) | fail)
   rw [iG,if_neg h0,if_pos hz,if_neg hn,← hr2]
   generalize iC (jV c 20000 (g2.map (·.2)))=p
   obtain ⟨l,u,n⟩:=p
   rfl
 ·have h0:¬ i3 (bX c t (aN c t)) a≠0:=oF ‹decide (i3 (bX c t (aN c t)) a≠0)=false›
  obtain ⟨hav,hfo,hix⟩:=hfv h0
  have hz:dO a.f=true:=by have hq:=‹(!(decide (a.f.k=0) && (decide (a.f.t=⟨#[]⟩) && true)))=false›;revert hq;show (!(dO a.f))=false→_;cases dO a.f <;> simp
  have hres:∀ S:List Va,S.length=t.slots.length→(∀ v ∈ S,bH v=true)→eK c ((⟨t.fn,IntKind.i64.wrap (t.pc + 1),t.to,S⟩:Fm)::gr.map (·.2)):=fun S hS hV=>G.head rfl rfl ⟨F.f0,F.f1,by show 0≤IntKind.i64.wrap (t.pc + 1);rw [hw];omega,by show IntKind.i64.wrap (t.pc + 1) < _;rw [hw];exact hgo,by show (S.length:Int)=_;rw [hS];exact F.sl,hV⟩
  repeat' (first | ((with_reducible refine kw ?_);first | refine W0 ?_ | refine W1 ?_ | (refine f9 ?_;refine KW ?_) | refine W3 ?_ | refine W2 ?_ | refine W4 ?_ | refine W6 ?_ | refine W7 ?_ | refine bJ ?_ | (refine aJ ?_;first | refine bB rfl rfl rfl rfl (aB.ret (aB.readsL (zS [] c t gr F.f0 F.f1 F.p0 F.p1) [5,7,9] rfl (FL (post:=[]) rfl rfl rfl rfl) rfl rfl rfl rfl _ (fun _ _=>rfl)) ?_) | refine bB rfl rfl rfl rfl (aB.ret ((aB.at1 (C:=fun y:Unit=>True) (rr:=fun _=>dZ (iC (jV c 20000 ((⟨t.fn,IntKind.i64.wrap (t.pc + 1),t.to,t.slots⟩:Fm)::gr.map fun (g:Value × Fm)=>g.2)))) (o:=fun y=>none) ((RE c hc b3 fv3 ((u3,⟨t.fn,IntKind.i64.wrap (t.pc + 1),t.to,t.slots⟩)::gr) (hres (t.slots) eS (F.vv))).mono fun r s ⟨h1,h2⟩=>⟨(),trivial,h1,h2⟩) 5 rfl rfl rfl (fun y q h=>by cases h) rfl rfl (fun _=>rfl)).mono fun r s ⟨_,_,h1,h2⟩=>⟨h1,h2⟩) ?_) | refine bB rfl rfl rfl rfl (aB.ret ((aB.at1 (C:=fun y:Unit=>True) (rr:=fun _=>dZ (iC (jV c 20000 ((⟨t.fn,IntKind.i64.wrap (t.pc + 1),t.to,t.slots.set (aN c t).a.toNat a.v⟩:Fm)::gr.map fun (g:Value × Fm)=>g.2)))) (o:=fun y=>none) ((RE c hc b3 fv3 ((u3,⟨t.fn,IntKind.i64.wrap (t.pc + 1),t.to,t.slots.set (aN c t).a.toNat a.v⟩)::gr) (hres (t.slots.set (aN c t).a.toNat a.v) eS (VE F.vv hav))).mono fun r s ⟨h1,h2⟩=>⟨(),trivial,h1,h2⟩) 5 rfl rfl rfl (fun y q h=>by cases h) rfl rfl (fun _=>rfl)).mono fun r s ⟨_,_,h1,h2⟩=>⟨h1,h2⟩) ?_) | refine bB rfl rfl rfl rfl (aB.ret ((aB.at1 (C:=fun y:Unit=>True) (rr:=fun _=>dZ (iC (jV c 20000 ((⟨t.fn,IntKind.i64.wrap (t.pc + 1),t.to,(t.slots.set (aN c t).a.toNat a.v).set (aC (aN c t).l 0).toNat ⟨1,a.ix,⟨#[]⟩⟩⟩:Fm)::gr.map fun (g:Value × Fm)=>g.2)))) (o:=fun y=>none) ((RE c hc b3 fv3 ((u3,⟨t.fn,IntKind.i64.wrap (t.pc + 1),t.to,(t.slots.set (aN c t).a.toNat a.v).set (aC (aN c t).l 0).toNat ⟨1,a.ix,⟨#[]⟩⟩⟩)::gr) (hres ((t.slots.set (aN c t).a.toNat a.v).set (aC (aN c t).l 0).toNat ⟨1,a.ix,⟨#[]⟩⟩) eS (VE (VE F.vv hav) hix))).mono fun r s ⟨h1,h2⟩=>⟨(),trivial,h1,h2⟩) 5 rfl rfl rfl (fun y q h=>by cases h) rfl rfl (fun _=>rfl)).mono fun r s ⟨_,_,h1,h2⟩=>⟨h1,h2⟩) ?_) | refine bB rfl rfl rfl rfl (aB.ret ((aB.at1 (C:=fun y:Unit=>True) (rr:=fun _=>dZ (iC (jV c 20000 ((⟨t.fn,IntKind.i64.wrap (t.pc + 1),t.to,t.slots.set (aC (aN c t).l 0).toNat ⟨1,a.ix,⟨#[]⟩⟩⟩:Fm)::gr.map fun (g:Value × Fm)=>g.2)))) (o:=fun y=>none) ((RE c hc b3 fv3 ((u3,⟨t.fn,IntKind.i64.wrap (t.pc + 1),t.to,t.slots.set (aC (aN c t).l 0).toNat ⟨1,a.ix,⟨#[]⟩⟩⟩)::gr) (hres (t.slots.set (aC (aN c t).l 0).toNat ⟨1,a.ix,⟨#[]⟩⟩) eS (VE F.vv hix))).mono fun r s ⟨h1,h2⟩=>⟨(),trivial,h1,h2⟩) 5 rfl rfl rfl (fun y q h=>by cases h) rfl rfl (fun _=>rfl)).mono fun r s ⟨_,_,h1,h2⟩=>⟨h1,h2⟩) ?_)) | (refine aE ?_;refine IB ?_) | refine gQ ?_ | refine iZ ?_ | refine cW ?_ | refine dH ?_ | refine eV ?_) | refine GN ?_ | ((with_reducible refine kd ?_);first | refine D0 ?_ | refine D1 ?_ | (refine dI ?_;refine BU ?_) | refine D3 ?_ | refine D2 ?_ | refine D4 ?_ | refine iY ?_ | (refine bM ?_;skip) | (refine c7 ?_;refine SW ?_) | (refine aV ?_;refine H5 ?_) | refine GI ?_ | refine sU ?_) | ((with_reducible refine ka ?_);first | ((with_reducible refine i5 11 ?_);refine dB (wJ (k:=5) 10 gr.length 4 0 rfl qN rfl ?_);refine dB (f8 8 7 rfl rfl ?_);refine fI ?_) | ((with_reducible refine i5 17 ?_);refine dB (yE (k:=5) (m:=8) (n:=7) (p:=9) [] rfl rfl rfl rfl rfl fun b3 fv3 u3=>?_);refine fI ?_)) | refine GA ?_ | refine GG ?_ | (refine cJ (fun hb=>?_) (fun hb=>?_) <;> try rw [hb]) | ((with_reducible refine kf ?_);refine aP 0 Tryz.results54 rfl rfl rfl ?_) | refine GR ?_ | ((with_reducible refine kr ?_);refine aG rfl ?_) | fail)
  ·have e:dS (iV t (aN c t) a)=(⟨t.fn,IntKind.i64.wrap (t.pc + 1),t.to,(t.slots.set (aN c t).a.toNat a.v).set (aC (aN c t).l 0).toNat ⟨1,a.ix,⟨#[]⟩⟩⟩:Fm):=by rw [hw];unfold iV;simp only;rw [if_pos (oT ‹decide ((aN c t).b=15)=true›),if_pos (oT ‹decide ((aN c t).a≥0)=true›)];rfl
   rw [iG,if_neg h0,if_neg (by rw [hz];simp),e]
   generalize iC _=p
   obtain ⟨l,u,n⟩:=p
   rfl
  ·have e:dS (iV t (aN c t) a)=(⟨t.fn,IntKind.i64.wrap (t.pc + 1),t.to,t.slots.set (aN c t).a.toNat a.v⟩:Fm):=by rw [hw];unfold iV;simp only;rw [if_neg (oF ‹decide ((aN c t).b=15)=false›),if_pos (oT ‹decide ((aN c t).a≥0)=true›)];rfl
   rw [iG,if_neg h0,if_neg (by rw [hz];simp),e]
   generalize iC _=p
   obtain ⟨l,u,n⟩:=p
   rfl
  ·have e:dS (iV t (aN c t) a)=(⟨t.fn,IntKind.i64.wrap (t.pc + 1),t.to,t.slots.set (aC (aN c t).l 0).toNat ⟨1,a.ix,⟨#[]⟩⟩⟩:Fm):=by rw [hw];unfold iV;simp only;rw [if_pos (oT ‹decide ((aN c t).b=15)=true›),if_neg (oF ‹decide ((aN c t).a≥0)=false›)];rfl
   rw [iG,if_neg h0,if_neg (by rw [hz];simp),e]
   generalize iC _=p
   obtain ⟨l,u,n⟩:=p
   rfl
  ·have e:dS (iV t (aN c t) a)=(⟨t.fn,IntKind.i64.wrap (t.pc + 1),t.to,t.slots⟩:Fm):=by rw [hw];unfold iV;simp only;rw [if_neg (oF ‹decide ((aN c t).b=15)=false›),if_neg (oF ‹decide ((aN c t).a≥0)=false›)];rfl
   rw [iG,if_neg h0,if_neg (by rw [hz];simp),e]
   generalize iC _=p
   obtain ⟨l,u,n⟩:=p
   rfl
def v6 (c:List Fc) (fs:List Fm) (a:An):List Fm × Tn × Int :=
 if cC c≠0 then ([],iK,cC c) else if d9 c fs=false then ([],iK,2) else match fs.reverse with
  | []=>([],iK,0)
  | t::r=>iG c t r a
theorem JQ (c:List Fc) (fs:List Fm) (a:An) (h1:cC c=0) (h2:d9 c fs=true):bY Tryz.prog 54 [.agg [bC c],lv (fs.map Fm.enc),a.dv] (dZ (v6 c fs a)):=by
 have hc:=eL h1
 have R:=FV h2
 unfold v6
 rw [if_neg (by simpa using h1),if_neg (by rw [h2];simp)]
 cases hr:fs.reverse with
 | nil=>rw [hr] at R;exact absurd R.g.ch (by intro h;exact h)
 | cons t r=>rw [hr] at R;exact JR c hc fs t r hr R a
theorem GJ (c:List Fc) (fs:List Fm) (a:An):bY Tryz.prog 21 [.agg [bC c],lv (fs.map Fm.enc),a.dv] (dZ (v6 c fs a)):=by
 refine of_body Tryz.func21 rfl rfl (nB rfl) ?_
 rw [Tryz.ntmps21]
 repeat' (first | ((with_reducible refine kw ?_);first | refine W0 ?_ | refine W3 ?_ | refine W6 ?_ | refine bJ ?_ | (refine aJ ?_;first | refine tD (oA c) ?_ | refine tD (wF c (eL (Decidable.not_not.1 (oF ‹decide (cC c≠0)=false›))) fs) ?_ | refine bB rfl rfl rfl rfl (bY.at (JQ c fs a (Decidable.not_not.1 (oF ‹decide (cC c≠0)=false›)) (by simpa using ‹(!d9 c fs)=false›)) rfl rfl ?_)) | (refine aE ?_;refine vR ?_) | refine gQ ?_ | refine iZ ?_ | refine cW ?_ | refine dH ?_ | refine eV ?_) | refine GA ?_ | refine GG ?_ | (refine cJ (fun hb=>?_) (fun hb=>?_) <;> try rw [hb]) | ((with_reducible refine kf ?_);refine aP 0 Tryz.results21 rfl rfl rfl ?_) | refine GR ?_ | ((with_reducible refine kr ?_);refine aG rfl ?_) | fail)
 all_goals first
  | (have h1:=oT ‹decide (cC c≠0)=true›;rw [v6,if_pos h1];rfl)
  | (have h1:=oF ‹decide (cC c≠0)=false›;have h2:d9 c fs=false:=(by simpa using ‹(!d9 c fs)=true›);rw [v6,if_neg h1,if_pos h2];rfl)
  | (generalize v6 c fs a=p;obtain ⟨l,u,n⟩:=p;rfl)
theorem uH (c:List Fc) (fn:Int) (args:List Va):bY Tryz.prog 15 [.agg [bC c],iv fn,lv (args.map Va.enc)] (dZ (mB c fn args)) :=
 K1 c fn args fun h1 h2=>by
  have hc:=eL h1
  obtain ⟨f0,f1,f2,f3⟩:=uI.1 h2
  have hs:0≤(aC c fn).slots∧(aC c fn).slots≤200∧args.length≤(aC c fn).slots.toNat:=by
   have hd:=(hc.fs _ (dM f0 f1)).hd
   have:=hd.p0;have:=hd.s0;have:=hd.s1;omega
  exact M5 c fn args f0 f1 hs.1 hs.2.1 hs.2.2 (eK c) (fun t r G=>⟨sR hc G,fun u hu=>m4 hc ((BM hc G).2 u hu)⟩) (fun t r G=>(BM hc G).1) (fun t r ts G h=>by rw [FR hc G] at h;exact rN hc G h) (fun G=>G.ch) (sE hc h2)
structure Cs where
 c:List Fc
 fn:Int
 args:List Va
 ans:List An
abbrev Cs.dv (x:Cs):DV := .agg [bC x.c,iv x.fn,lv (x.args.map Va.enc),lv (x.ans.map An.enc)]
def pM:List Fc:=[⟨⟨#[109,97,105,110]⟩,0,1,[⟨1,0,0,0,⟨1,5,⟨#[]⟩⟩,[]⟩,⟨10,-1,3,0,g9,[0]⟩,⟨8,-1,0,0,g9,[]⟩],[]⟩]
theorem KB:bY Tryz.prog 42 [] (.agg [bC pM]):=by
 refine of_body Tryz.func42 rfl rfl (nB rfl) ?_
 rw [Tryz.ntmps42]
 repeat' (first | ((with_reducible refine kw ?_);first | refine W3 ?_ | (refine aE ?_;refine vR ?_) | refine dH ?_ | refine eV ?_ | refine KS ?_) | refine GA ?_ | refine GG ?_ | ((with_reducible refine kf ?_);refine aP 0 Tryz.results42 rfl rfl rfl ?_) | refine GR ?_ | ((with_reducible refine kr ?_);refine aG rfl ?_) | fail)
 all_goals rfl
end Go.Ab
