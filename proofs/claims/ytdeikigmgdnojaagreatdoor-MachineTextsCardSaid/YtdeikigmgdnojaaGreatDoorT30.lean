import Derived.Test.YtdeikigmgdnojaaGreatDoorT29
import Derived.Test.YtdeikigmgdnojaaGreatDoorT16
import Derived.Lib.SliceRun
/- A part of the proof of one law. -/
set_option maxRecDepth 100000
set_option maxHeartbeats 8000000
set_option linter.unusedVariables false
set_option linter.unusedSimpArgs false
namespace Go.Ab
open Go
section
variable {c:List Fc} {f:Fc} {x:In} {a:Nat}
end
section
variable {c:List Fc} {f:Fc}
end
end Go.Ab
namespace Go.Ab
open Go Go.Ab.Tryz Go.Proofs
theorem uI {c:List Fc} {fn:Int} {args:List Va}:lT c fn args=true↔0≤fn∧fn < (c.length:Int)∧(args.length:Int)=(aC c fn).params∧args.all bH=true:=by
 unfold lT
 simp only [c5,dT,b0,List.any_eq_false,List.all_eq_true,b0,Bool.not_eq_false]
 constructor
 ·rintro ⟨⟨⟨h0,h1⟩,h2⟩,h3⟩;exact ⟨h0,h1,h2,fun x hx=>by simpa using h3 x hx⟩
 ·rintro ⟨h0,h1,h2,h3⟩;exact ⟨⟨⟨h0,h1⟩,h2⟩,fun x hx=>by simpa using h3 x hx⟩
def A8 (k:Int):Bool:=decide (k≥1) && decide (k≤21)
def sN (k:Int):Bool:=bif decide (k=1) then true else bif decide (k=2) then true else bif decide (k=6) then true else bif decide (k=9) then true else bif decide (k=10) then true else bif decide (k=13) then true else decide (k=15)
def zU (a:Ak):Int:=bif decide (a.kind≠15) then 0 else bif decide (a.n=1) then (a.arms.length:Int) else iA ((a.arms.length:Int) - 1)
def zE (a:Ak) (i:Int):Int :=
 bif decide (a.kind=4) then 1 else bif decide (a.kind=6) then 1 else bif decide (a.kind=10) then 1 else bif decide (a.kind=5) then 5 else bif decide (a.kind=8) then 4 else bif decide (a.kind=12) then 6
 else bif decide (a.kind=15) then (bif decide (i < (a.arms.length:Int)) && decide ((aC a.arms i).op=1) then 1 else 0) else 0
abbrev An.dv (x:An):DV := .agg (x.enc.map .d)
def xE (a:Ak) (x:An):Bool:=A8 a.kind && (cQ x.v.k x.v.n x.v.s && gW x.f.k x.f.t)
def tH (a:Ak) (x:An):Bool :=
 bif decide (x.f.k=0) then xE a x && (decide (x.ix≥0) && (decide (x.ix≤zU a) && decide (x.v.k=zE a x.ix)))
 else bif decide (x.f.k=2) then xE a x && ((sN a.kind || decide (a.kind=17)) && (m6 x.v && decide (x.ix=0)))
 else xE a x && (m6 x.v && decide (x.ix=0))
def i3 (a:Ak) (x:An):Int:=bif tH a x then 0 else 10
theorem MI (a:Ak) :
  bY Tryz.prog 139 [a.dv] (bv (A8 a.kind)):=by
 refine of_body Tryz.func139 rfl rfl (nB rfl) ?_
 rw [Tryz.ntmps139]
 repeat' (first | ((with_reducible refine kw ?_);first | refine Wg ?_ | refine W0 ?_ | refine W1 ?_ | refine W2 ?_ | refine W6 ?_ | refine bJ ?_ | refine eT ?_ | refine cW ?_) | refine GX ?_ | (refine bW (fun hb=>?_) (fun hb=>?_) <;> rw [hb]) | refine GA ?_ | refine GG ?_ | ((with_reducible refine kf ?_);refine aP 0 Tryz.results139 rfl rfl rfl ?_) | refine GR ?_ | ((with_reducible refine kr ?_);refine aG rfl ?_) | fail)
 all_goals (refine dG ?_;show bv _=bv _;(try dsimp only [A8] at *);first | (simp only [*,b2,b3,b4,cond_true,cond_false,b5,b6,b7,b8,c1,c2,b9,c0];done) | (simp_all only [b2,b3,b4,cond_true,cond_false,b5,b6,b7,b8,c1,c2,b9,c0];done) | (simp_all [b2,b3,b4,cond_true,cond_false,b5,b6,b7,b8,c1,c2,b9,c0];done))
theorem FH (a:Ak) :
  bY Tryz.prog 143 [a.dv] (bv (sN a.kind)):=by
 refine of_body Tryz.func143 rfl rfl (nB rfl) ?_
 rw [Tryz.ntmps143]
 repeat' (first | ((with_reducible refine kw ?_);first | refine W1 ?_ | refine W2 ?_ | refine W6 ?_ | refine bJ ?_ | refine cW ?_) | refine GA ?_ | refine GG ?_ | (refine cJ (fun hb=>?_) (fun hb=>?_) <;> try rw [hb]) | ((with_reducible refine kf ?_);refine aP 0 Tryz.results143 rfl rfl rfl ?_) | refine GR ?_ | ((with_reducible refine kr ?_);refine aG rfl ?_) | fail)
 all_goals (refine dG ?_;show bv _=bv _;(try dsimp only [sN] at *);first | (simp only [*,b2,b3,b4,cond_true,cond_false,b5,b6,b7,b8,c1,c2,b9,c0];done) | (simp_all only [b2,b3,b4,cond_true,cond_false,b5,b6,b7,b8,c1,c2,b9,c0];done) | (simp_all [b2,b3,b4,cond_true,cond_false,b5,b6,b7,b8,c1,c2,b9,c0];done))
theorem O4 (a:Ak) :
  bY Tryz.prog 141 [a.dv] (iv (zU a)):=by
 refine of_body Tryz.func141 rfl rfl (nB rfl) ?_
 rw [Tryz.ntmps141]
 repeat' (first | ((with_reducible refine kw ?_);first | refine W1 ?_ | refine W2 ?_ | refine W6 ?_ | refine bJ ?_ | refine gZ ?_ | refine cW ?_) | refine GA ?_ | refine GG ?_ | (refine cJ (fun hb=>?_) (fun hb=>?_) <;> try rw [hb]) | ((with_reducible refine kf ?_);refine aP 0 Tryz.results141 rfl rfl rfl ?_) | refine GR ?_ | ((with_reducible refine kr ?_);refine aG rfl ?_) | fail)
 all_goals (refine dG ?_;show iv _=iv _;(try dsimp only [zU] at *);first | (simp only [*,b2,b3,b4,cond_true,cond_false,b5,b6,b7,b8,c1,c2,b9,c0];done) | (simp_all only [b2,b3,b4,cond_true,cond_false,b5,b6,b7,b8,c1,c2,b9,c0];done) | (simp_all [b2,b3,b4,cond_true,cond_false,b5,b6,b7,b8,c1,c2,b9,c0];done))
theorem BZ (a:Ak) (i:Int) (hi:0≤i) :
  bY Tryz.prog 142 [a.dv,iv i] (iv (zE a i)):=by
 refine of_body Tryz.func142 rfl rfl (nB rfl) ?_
 rw [Tryz.ntmps142]
 repeat' (first | ((with_reducible refine kw ?_);first | refine Wg ?_ | refine W0 ?_ | refine W1 ?_ | refine W2 ?_ | refine W6 ?_ | refine bJ ?_ | (refine fO ?_;refine cK (aF (el rfl) rfl rfl hi (oT ‹decide (i < (a.arms.length:Int))=true›) ⟨rfl,by decide⟩) rfl rfl ?_) | refine eT ?_ | refine gZ ?_ | refine cW ?_) | refine GX ?_ | (refine bW (fun hb=>?_) (fun hb=>?_) <;> rw [hb]) | refine GA ?_ | refine GG ?_ | (refine cJ (fun hb=>?_) (fun hb=>?_) <;> try rw [hb]) | ((with_reducible refine kf ?_);refine aP 0 Tryz.results142 rfl rfl rfl ?_) | refine GR ?_ | ((with_reducible refine kr ?_);refine aG rfl ?_) | fail)
 all_goals (refine dG ?_;show iv _=iv _;(try dsimp only [zE] at *);first | (simp only [*,b2,b3,b4,cond_true,cond_false,b5,b6,b7,b8,c1,c2,b9,c0];done) | (simp_all only [b2,b3,b4,cond_true,cond_false,b5,b6,b7,b8,c1,c2,b9,c0];done) | (simp_all [b2,b3,b4,cond_true,cond_false,b5,b6,b7,b8,c1,c2,b9,c0];done))
theorem OW (a:Ak) (x:An) :
  bY Tryz.prog 97 [a.dv,x.dv] (iv (i3 a x)):=by
 refine of_body Tryz.func97 rfl rfl (nB rfl) ?_
 rw [Tryz.ntmps97]
 repeat' (first | ((with_reducible refine kw ?_);first | refine Wg ?_ | refine W0 ?_ | refine W1 ?_ | refine W3 ?_ | refine W2 ?_ | refine W6 ?_ | refine W8 ?_ | refine bJ ?_ | (refine aJ ?_;first | refine tD (MI a) ?_ | refine tD (l7 x.v.k x.v.n x.v.s) ?_ | refine tD (yQ x.f.k x.f.t) ?_ | refine tD (FH a) ?_) | refine eT ?_ | refine gQ ?_ | refine cW ?_ | refine eV ?_) | refine GX ?_ | (refine bW (fun hb=>?_) (fun hb=>?_) <;> rw [hb]) | refine GN ?_ | refine GD ?_ | (refine kX (fun hb=>?_) (fun hb=>?_) <;> rw [hb]) | ((with_reducible refine kd ?_);first | refine D0 ?_ | refine D1 ?_ | refine D3 ?_ | refine D2 ?_ | refine D6 ?_ | refine iY ?_ | (refine bM ?_;first | refine dD (O4 a) ?_ | refine dD (BZ a x.ix (oT ‹decide (x.ix≥0)=true›)) ?_) | refine uF ?_) | refine GA ?_ | refine GG ?_ | (refine cJ (fun hb=>?_) (fun hb=>?_) <;> try rw [hb]) | ((with_reducible refine kf ?_);refine aP 0 Tryz.results97 rfl rfl rfl ?_) | refine GR ?_ | ((with_reducible refine kr ?_);refine aG rfl ?_) | fail)
 all_goals (refine dG ?_;show iv _=iv _;(try dsimp only [i3,tH,xE,m6] at *);first | (simp only [*,b2,b3,b4,cond_true,cond_false,b5,b6,b7,b8,c1,c2,b9,c0];done) | (simp_all only [b2,b3,b4,cond_true,cond_false,b5,b6,b7,b8,c1,c2,b9,c0];done) | (simp_all [b2,b3,b4,cond_true,cond_false,b5,b6,b7,b8,c1,c2,b9,c0];done))
end Go.Ab
namespace Go.Ab
open Go
section
variable {P:Program} {nt:Nat} {Q:Exit→aW→aA→Prop} {e:aW} {σ:aA}
theorem JO {w:World} {M:Nat→Prop} {es:List (List aR)} {v:Value} (h:dL w M (.lst es) v):∃ A n c,v = .slice A n c∧(A.isNone=true→es=[]):=by
 cases h with
 | emp A c=>exact ⟨A,0,c,rfl,fun _=>rfl⟩
 | lst b o n c size es vs hn=>exact ⟨_,_,_,rfl,fun h=>by cases h⟩
theorem IC {id t a b:Nat} {ty sl el ry ty2:TypeId} {p1 p2:String} {f1 f2:Array Edge} {es:List (List aR)} (ht:e.get t=some (.d (.lst es))) (ha:fQ nt (some a)=true) (hb:fQ nt (some b)=true) (hu:P.underlying sl=some (.slice el))
  (k:∀ c:Bool,(c=true→es=[])→Q .normal ((e.put (some a) (.d (.lst es))).put (some b) (.d (.sc (.bool c)))) σ) :
  AC P nt (.region id #[⟨some a,.move (.tmp t),ty,p1,f1,none⟩,⟨some b,.binOp .eql sl (.tmp a) (.const (.slice none 0 0)) ry,ty2,p2,f2,none⟩] false) e σ Q:=by
 have ha':a < nt:=by simpa [fQ] using ha
 have hb':b < nt:=by simpa [fQ] using hb
 refine ⟨fun X w0 ι0 σ0 ι ac w hst=>?_⟩
 refine wp_region ?_
 have hr:List.range (Array.size #[(⟨some a,.move (.tmp t),ty,p1,f1,none⟩:Oper),⟨some b,.binOp .eql sl (.tmp a) (.const (.slice none 0 0)) ry,ty2,p2,f2,none⟩])=[0,1]:=rfl
 rw [hr]
 have hs:r9 P nt (⟨some a,.move (.tmp t),ty,p1,f1,none⟩:Oper) e σ (fun e' σ'=>e'=e.put (some a) (.d (.lst es))∧σ'=σ):=by
  refine ⟨by simpa [i0] using ha',?_⟩
  simp [aZ,aK,aW.ev,ht]
 simp only [wpOps]
 refine .inl (yL hst hs fun e' σ' ι' a' w' ⟨he,hσ⟩ hst'=>?_)
 subst he hσ
 have key:Oper.wp P (⟨some b,.binOp .eql sl (.tmp a) (.const (.slice none 0 0)) ry,ty2,p2,f2,none⟩:Oper) a' w' (fun x x_1=>∃ ι' e' σ',Q Exit.normal e' σ'∧St P X nt w0 ι0 σ0 ι' e' σ' x x_1) (fun ex a' w'=>∃ ι' e' σ',Q ex e' σ'∧St P X nt w0 ι0 σ0 ι' e' σ' a' w'):=?_
 exact .inl key
 have hv:=hst'.env.get a (.d (.lst es)) (by simp [aW.get_put])
 obtain ⟨A,n,c,hv',hA⟩:∃ A n c,a'.tmps.getD a undef = .slice A n c∧(A.isNone=true→es=[]):=by
  generalize a'.tmps.getD a undef=v at hv
  cases hv with
  | d h=>exact JO h
 have hex:(execOp a'.eval (⟨some b,.binOp .eql sl (.tmp a) (.const (.slice none 0 0)) ry,ty2,p2,f2,none⟩:Oper)).run P w' = .ok (.value (.bool A.isNone)) w':=by
  have:=Lib.run_eql_slice_nil (P:=P) w' sl el A n c 0 0 hu
  have hg:(eqGuard .eql sl (.tmp a) (.const (.slice none 0 0)) (.slice A n c) (.slice none 0 0)).run P w' = .ok () w':=by simp [eqGuard]
  simp [execOp,Act.eval,hv',this,hg]
 unfold Oper.wp
 rw [hex]
 exact ⟨ι',_,_,k A.isNone hA,hst'.put (fun t ht=>by cases ht;exact hb') (.d (.sc _ rfl))⟩
theorem N7 {id a sz:Nat} {sl el ty:TypeId} {p1:String} {f1:Array Edge} {rest:List Oper} (ha:fQ nt (some a)=true) (hops:rest.all (i0 nt)=true) (hu:dU P sl=some (el,sz)) (hz:((P.info? el).bind (·.zero)).isSome=true)
  (h:WS P nt ((⟨some a,.buildSlice sl 0 #[],ty,p1,f1,none⟩:Oper)::rest).toArray rest (e.put (some a) .nils) σ (Q .normal)) :
  AC P nt (.region id ((⟨some a,.buildSlice sl 0 #[],ty,p1,f1,none⟩:Oper)::rest).toArray false) e σ Q:=by
 have ha':a < nt:=by simpa [fQ] using ha
 obtain ⟨hu',inf,hinf,rfl⟩:=fE hu
 rw [hinf] at hz
 refine ⟨fun X w0 ι0 σ0 ι ac w hst=>?_⟩
 refine wp_region ?_
 rw [List.range_eq_range']
 have hsz:Array.size ((⟨some a,.buildSlice sl 0 #[],ty,p1,f1,none⟩:Oper)::rest).toArray=rest.length + 1:=by simp
 rw [hsz,List.range'_succ]
 obtain ⟨cells,hrun,-⟩:=qO (P:=P) (w:=w) (parts:=#[]) (ρ:=ac.eval) (len:=0) hu' hinf hz rfl (fun p hp=>by simp at hp) (by omega)
 have hcm:=Comes'.push hst.comes.heap (.cells cells el)
 have hst2:=(hst.step (⟨hcm,fun i hi=>rfl,Nat.le_refl _⟩:fA P X ι σ σ w ι _)).put (o:=some a) (fun t ht=>by cases ht;exact ha') (.nils (some ⟨w.heap.size,0,none⟩))
 have hex:(execOp ac.eval (⟨some a,.buildSlice sl 0 #[],ty,p1,f1,none⟩:Oper)).run P w = .ok (.value (.slice (some ⟨w.heap.size,0,none⟩) 0 0)) { w with heap:=w.heap.push (.cells cells el) }:=by
  simp only [execOp,Sem.run_bind,hrun,Result.andThen_ok,Sem.run_pure]
 have key:Oper.wp P (⟨some a,.buildSlice sl 0 #[],ty,p1,f1,none⟩:Oper) ac w (wpOps P ((⟨some a,.buildSlice sl 0 #[],ty,p1,f1,none⟩:Oper)::rest).toArray (fun ex a' w'=>∃ ι' e' σ',Q ex e' σ'∧St P X nt w0 ι0 σ0 ι' e' σ' a' w') (List.range' 1 rest.length)) (fun ex a' w'=>∃ ι' e' σ',Q ex e' σ'∧St P X nt w0 ι0 σ0 ι' e' σ' a' w'):=by
  unfold Oper.wp
  rw [hex]
  exact rM (K:=Q .normal) (fun j o t hj ht=>by
   rw [List.getElem?_toArray] at hj
   cases j with
   | zero=>simp at hj;subst hj;cases ht;exact ha'
   | succ j =>
    have:=(List.all_eq_true.1 hops) o (List.mem_of_getElem? (by simpa using hj))
    simpa [i0,ht] using this) (fun e' σ' ι' a' w' hk hst'=>⟨ι',e',σ',hk,hst'⟩) rest 1 _ σ ι _ _ (fun j=>by rw [List.getElem?_toArray,Nat.add_comm];rfl) hst2 h.h
 simp only [wpOps]
 exact .inl key
end
end Go.Ab
