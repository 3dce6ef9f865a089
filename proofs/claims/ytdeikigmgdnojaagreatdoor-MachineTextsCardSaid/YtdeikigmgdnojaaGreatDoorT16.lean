import Derived.Test.YtdeikigmgdnojaaGreatDoorT15
import Derived.Scope
/- A part of the proof of one law. -/
set_option maxRecDepth 100000
set_option maxHeartbeats 8000000
set_option linter.unusedVariables false
set_option linter.unusedSimpArgs false
namespace Go.Ab
open Go Go.Ab.Tryz Go.Proofs
theorem wl (n:Nat) (h:(n:Int)≤140737488355328):IntKind.i64.wrap ((n:Int) - 1)=(n:Int) - 1:=aL aI aI
theorem rH (fs:List Fc) (f:Fc) (n m:Int) :
  bY Tryz.prog 171 [.agg [lv (fs.map Fc.enc),sv f.name,iv f.params,iv f.slots,lv (f.code.map In.enc),lv (f.guards.map Gd.enc)],iv n,iv m] (bv (nM fs n m)):=by
 refine aB.assume rfl fun hok _=>?_
 have hl:=dK (hok (.agg [lv (fs.map Fc.enc),sv f.name,iv f.params,iv f.slots,lv (f.code.map In.enc),lv (f.guards.map Gd.enc)]) eS (.lst (fs.map Fc.enc)) eS)
 simp only [List.length_map] at hl
 have hw:=wl fs.length hl
 refine of_body Tryz.func171 rfl rfl (nB rfl) ?_
 rw [Tryz.ntmps171]
 repeat' (first | ((with_reducible refine kw ?_);first | refine Wg ?_ | refine W0 ?_ | refine W1 ?_ | refine W2 ?_ | refine W6 ?_ | refine bJ ?_ | (refine aJ ?_;refine tD (gP _ _ _) ?_) | (refine fO ?_;refine cK (aF (el rfl) rfl rfl VR VR ⟨rfl,by decide⟩) rfl rfl ?_) | refine eT ?_ | refine gZ ?_ | refine cW ?_) | refine GX ?_ | (refine bW (fun hb=>?_) (fun hb=>?_) <;> rw [hb]) | refine GA ?_ | refine GG ?_ | ((with_reducible refine kf ?_);refine aP 0 Tryz.results171 rfl rfl rfl ?_) | refine GR ?_ | ((with_reducible refine kr ?_);refine aG rfl ?_) | fail)
 all_goals (refine dG ?_;first | (simp_all only [nM,bI,List.length_map,dT,dF,gt_iff_lt,ge_iff_le,b0,b1,b2,b3,b4,true_or,or_true,false_or,or_false,true_and,and_true,and_false,false_and,and_self,or_self,if_true,if_false,ite_true,ite_false,not_true_eq_false,not_false_eq_true,b5,b6,b7,b8,c1,c2,b9,c0,c3,c4,decide_true,decide_false,reduceCtorEq,ne_eq];first | done | rfl) | (simp_all [DV.norm,DV.norms,bG,aH,nM,bI,List.length_map];first | done | omega))
theorem MC (fs:List Fc) (f:Fc) (g:Gd) :
  bY Tryz.prog 129 [.agg [lv (fs.map Fc.enc),sv f.name,iv f.params,iv f.slots,lv (f.code.map In.enc),lv (f.guards.map Gd.enc)],.agg [iv g.fr,iv g.to,iv g.at',iv g.slot]] (bv (o9 f g)):=by
 refine of_body Tryz.func129 rfl rfl (nB rfl) ?_
 rw [Tryz.ntmps129]
 repeat' (first | ((with_reducible refine kw ?_);first | refine Wg ?_ | refine W0 ?_ | refine W1 ?_ | refine W2 ?_ | refine W3 ?_ | refine W6 ?_ | refine bJ ?_ | (refine aJ ?_;first | refine tD (gP _ _ _) ?_ | refine tD (oC fs f _ _) ?_) | refine eT ?_ | refine gZ ?_ | refine cW ?_) | refine GX ?_ | (refine bW (fun hb=>?_) (fun hb=>?_) <;> rw [hb]) | refine GA ?_ | refine GG ?_ | ((with_reducible refine kf ?_);refine aP 0 Tryz.results129 rfl rfl rfl ?_) | refine GR ?_ | ((with_reducible refine kr ?_);refine aG rfl ?_) | fail)
 all_goals (refine dG ?_;first | (simp_all only [o9,bI,List.length_map,Bool.and_assoc,dT,dF,gt_iff_lt,ge_iff_le,b0,b1,b2,b3,b4,true_or,or_true,false_or,or_false,true_and,and_true,and_false,false_and,and_self,or_self,if_true,if_false,ite_true,ite_false,not_true_eq_false,not_false_eq_true,b5,b6,b7,b8,c1,c2,b9,c0,c3,c4,decide_true,decide_false,reduceCtorEq,ne_eq];first | done | rfl) | (simp_all [DV.norm,DV.norms,bG,aH,o9,bI,List.length_map,Bool.and_assoc];first | done | omega))
end Go.Ab
namespace Go.Ab
variable {P:Program} {σ:aA}
def gR (σ:aA) (g:Nat→Nat) (n:Nat):List Nat→aA→Prop
 | [],[]=>True
 | k::fs,some o::σs=>(Nat.blt k σ.length=true∧o.under n=true∧σ.look k=some (o.ren g))∧gR σ g n fs σs
 | _,_=>False
theorem gR.get {g:Nat→Nat} {n:Nat}:∀ {fs:List Nat} {σs:aA},gR σ g n fs σs→fs.length=σs.length∧(∀ k ∈ fs,k < σ.length)∧∀ i,i < σs.length→∃ o k,σs[i]? = some (some o)∧fs[i]? = some k∧o.under n=true∧σ.look k=some (o.ren g)
 | [],[],_=>⟨rfl,(by intro k hk;cases hk),(by intro i hi;exact absurd hi (Nat.not_lt_zero i))⟩
 | k::fs,some o::σs,h=>by
  obtain ⟨⟨h1,h2,h3⟩,h4⟩:=h
  obtain ⟨e1,e2,e3⟩:=gR.get h4
  refine ⟨by simp [e1],fun j hj=>?_,fun i hi=>?_⟩
  ·rcases List.mem_cons.1 hj with rfl | hj
   ·simpa using h1
   ·exact e2 j hj
  ·cases i with
   | zero=>exact ⟨o,k,rfl,rfl,h2,h3⟩
   | succ i =>
    obtain ⟨o',k',f1,f2,f3⟩:=e3 i (by simpa using hi)
    exact ⟨o',k',by simpa using f1,by simpa using f2,f3⟩
 | [],_::_,h=>by simp [gR] at h
 | _::_,[],h=>by simp [gR] at h
 | _::_,none::_,h=>by simp [gR] at h
theorem gR.lies {fs:List Nat} {σs:aA} (h:gR σ (bL fs σ.length) σs.length fs σs) (hn:lC fs=true):SY σs σ fs:=by
 obtain ⟨e1,e2,e3⟩:=h.get
 refine ⟨e1,e2,m5 hn,fun i o k h1 h2=>?_,fun i o h1=>?_⟩
 ·obtain ⟨x,hx,rfl⟩:=Option.bind_eq_some_iff.1 h1
  obtain ⟨o',k',f1,f2,_,f4⟩:=e3 i (List.getElem?_eq_some_iff.1 hx).1
  rw [f1] at hx;cases hx
  rw [f2] at h2;cases h2
  exact f4
 ·obtain ⟨x,hx,rfl⟩:=Option.bind_eq_some_iff.1 h1
  obtain ⟨o',k',f1,f2,f3,_⟩:=e3 i (List.getElem?_eq_some_iff.1 hx).1
  rw [f1] at hx;cases hx
  exact f3
theorem qS {k:Nat} {x:aU} (h:σ.look k=some x):List.set σ k (some x)=σ:=by
 obtain ⟨y,hy,hh⟩:=Option.bind_eq_some_iff.1 h
 cases hh
 apply List.ext_getElem?
 intro j
 rw [List.getElem?_set]
 split
 ·subst_vars
  rw [hy];simp [(List.getElem?_eq_some_iff.1 hy).1]
 ·rfl
theorem tR {g:Nat→Nat} {n:Nat}:∀ {fs:List Nat} {σs:aA},gR σ g n fs σs→dX g σ fs σs=σ
 | [],[],_=>by simp [dX]
 | k::fs,some o::σs,h=>by
  simp only [dX,Option.map_some]
  rw [qS h.1.2.2]
  exact tR h.2
 | [],_::_,h=>by simp [gR] at h
 | _::_,[],h=>by simp [gR] at h
 | _::_,none::_,h=>by simp [gR] at h
theorem aB.reads {f:FuncId} {args args':List DV} {σs:aA} {x x':DV} (h:aB P f args σs (fun r σ'=>r=x∧σ'=σs)) (fs:List Nat) (hn:lC fs=true) (hl:gR σ (bL fs σ.length) σs.length fs σs) (hu:DV.unders σs.length args=true)
  (ha:DV.rens (bL fs σ.length) args=args') (hx:x.ren (bL fs σ.length)=x'):aB P f args' σ (fun r σ'=>r=x'∧σ'=σ) :=
 (aB.within h fs (hl.lies hn) hu ha).mono fun r σ' ⟨r0,σ0,⟨h1,h2⟩,_,h3,h4⟩=>by
  subst h1 h2
  refine ⟨by rw [h3,hx],?_⟩
  rw [h4,kC];exact tR hl
end Go.Ab
namespace Go.Ab
open Go Go.Ab.Tryz Go.Proofs
theorem C0 (fs:List Fc) (f:Fc) (n what:Int) :
  aB Tryz.prog 170 [iv n,.ptr 0 0,.ptr 1 0] [some (.box 154 (aH (GV fs f))),some (.box 3 [iv what])] (fun r σ'=>r=bv (!cP f n what)∧σ'=[some (.box 154 (aH (GV fs f))),some (.box 3 [iv what])]):=by
 refine of_body Tryz.func170 rfl rfl (nB rfl) ?_
 rw [Tryz.ntmps170]
 repeat' (first | ((with_reducible refine kw ?_);first | refine W0 ?_ | refine W3 ?_ | refine W2 ?_ | refine bJ ?_ | (refine aJ ?_;refine tD (oC fs f _ _) ?_) | refine gQ ?_) | refine GA ?_ | refine GG ?_ | ((with_reducible refine kf ?_);refine aP 2 Tryz.results170 rfl rfl rfl ?_) | refine GR ?_ | ((with_reducible refine kr ?_);refine bD rfl rfl ⟨?_,rfl⟩) | fail)
 all_goals (refine dG ?_;rfl)
theorem L8 (fs:List Fc) (f:Fc) (g:Gd) :
  aB Tryz.prog 128 [.agg [iv g.fr,iv g.to,iv g.at',iv g.slot],.ptr 0 0] [some (.box 154 (aH (GV fs f)))] (fun r σ'=>r=bv (!o9 f g)∧σ'=[some (.box 154 (aH (GV fs f)))]):=by
 refine of_body Tryz.func128 rfl rfl (nB rfl) ?_
 rw [Tryz.ntmps128]
 repeat' (first | ((with_reducible refine kw ?_);first | refine W3 ?_ | refine bJ ?_ | (refine aJ ?_;refine tD (MC fs f g) ?_) | refine gQ ?_ | refine cW ?_) | refine GA ?_ | refine GG ?_ | ((with_reducible refine kf ?_);refine aP 1 Tryz.results128 rfl rfl rfl ?_) | refine GR ?_ | ((with_reducible refine kr ?_);refine bD rfl rfl ⟨?_,rfl⟩) | fail)
 all_goals (refine dG ?_;rfl)
theorem IT (f g:Fc) :
  aB Tryz.prog 79 [g.dv,.ptr 0 0] [some (.box 77 (aH f.dv))] (fun r σ'=>r=bv (decide (g.name=f.name))∧σ'=[some (.box 77 (aH f.dv))]):=by
 refine of_body Tryz.func79 rfl rfl (nB rfl) ?_
 rw [Tryz.ntmps79]
 repeat' (first | ((with_reducible refine kw ?_);first | refine W1 ?_ | refine W2 ?_ | refine W6 ?_ | refine bJ ?_ | refine cW ?_) | refine GA ?_ | refine GG ?_ | ((with_reducible refine kf ?_);refine aP 1 Tryz.results79 rfl rfl rfl ?_) | refine GR ?_ | ((with_reducible refine kr ?_);refine bD rfl rfl ⟨?_,rfl⟩) | fail)
 all_goals (refine dG ?_;rfl)
end Go.Ab
namespace Go.Ab
variable {P:Program} {σ:aA}
abbrev G8 {α:Type} (f:α→List aR) (l:List (Int × α)):List (Value × Bool × List aR):=v7 (l.map fun p=>(p.1,(true,f p.2)))
theorem kO:∀ (l:List aR),jX P σ (l.map .d) (l.map .d)
 | [] => .nil
 | _::l => .cons cA.d (kO l)
theorem cA.tab {α:Type} {f:α→List aR} {l:List (Int × α)} {id:Nat} (hl:σ.look id=some (.map (v7 (l.map fun p=>(p.1,DV.agg ((f p.2).map .d)))))):cA P σ (.mp id) (.d (.mp (G8 f l))):=by
 refine cA.map hl (by simp) fun i k d h=>?_
 obtain ⟨q1,hq1,he⟩:=List.getElem?_map ▸ h |> Option.map_eq_some_iff.1
 obtain ⟨p,hp,hq⟩:=(List.getElem?_map (f:=fun p:Int × α=>(p.1,DV.agg ((f p.2).map .d))) ▸ hq1) |> Option.map_eq_some_iff.1
 subst hq
 cases he
 refine ⟨true,f p.2,?_,.inl ⟨rfl,_,rfl,kO _⟩⟩
 simp [v7,List.getElem?_map,hp]
theorem xO {α:Type} {f:α→List aR} {z:α} {k0:IntKind} {vt:TypeId} {n:Int} {l:List (Int × α)} (hz:iT P vt=some (.agg ((f z).map .d))) :
  lY P (.int k0) vt (.int .i64 n) σ (.d (.mp (G8 f l)))=some (.agg ((f ((jU l n).getD z)).map .d),(jU l n).isSome):=by
 obtain ⟨r,h1,h2⟩:=uP (k0:=k0) (n:=n) (l.map fun p=>(p.1,(true,f p.2))) 0
 simp only [lY,h1]
 rw [tM (f:=fun x=>(true,f x))] at h2
 cases hg:jU l n with
 | none=>rw [hg] at h2;simp only [Option.map_none] at h2;subst h2;simp [hz]
 | some d =>
  rw [hg] at h2;simp only [Option.map_some] at h2
  obtain ⟨j,k',e1,e2⟩:=h2
  subst e1
  simp only [Nat.zero_add,v7,List.getElem?_map] at e2 ⊢
  rw [Option.map_eq_some_iff] at e2
  obtain ⟨p,hp,he⟩:=e2
  have h3:f p.2=f d:=by have:=congrArg (fun q=>q.2.2) he;simpa using this
  simp [hp,KL,h3]
end Go.Ab
namespace Go.Ab
open Go Go.Ab.Tryz Go.Proofs
abbrev In.dv (x:In):DV := .agg [iv x.op,iv x.a,iv x.b,iv x.c,iv x.v.k,iv x.v.n,sv x.v.s,lv (uS x.l)]
abbrev Fo.enc (x:Fo):List aR:=[ds x.name,di x.a,di x.b,di x.c,di x.lo,di x.hi,db x.arms,db x.val,db x.goes,db x.may]
abbrev As.enc (x:As):List aR:=[di x.lo,di x.hi,di x.c]
theorem G4:bY Tryz.prog 167 [] (.d (.mp (G8 Fo.enc o8))):=aB.frozen CX (fun r σ' ⟨h1,h2⟩=>by subst h1 h2;exact cA.tab rfl)
theorem K9:bY Tryz.prog 205 [] (.d (.mp (G8 As.enc sX))):=aB.frozen OC (fun r σ' ⟨h1,h2⟩=>by subst h1 h2;exact cA.tab rfl)
def nR (fs:List Fc) (f:Fc) (x:In):Bool :=
 bif decide (x.b=5) then nM fs x.c x.l.length
 else bif decide (x.b=17) && (decide ((x.l.length:Int)=1) && !cP f (iA (aC x.l 0 + 1)) 1) then false
 else (jU sX x.b).isSome && (bI x.l.length (uJ x.b).lo (uJ x.b).hi && bI x.c 0 (uJ x.b).c)
theorem K7 (fs:List Fc) (f:Fc) (x:In) :
  bY Tryz.prog 172 [GV fs f,x.dv] (bv (nR fs f x)):=by
 refine of_body Tryz.func172 rfl rfl (nB rfl) ?_
 rw [Tryz.ntmps172]
 repeat' (first | ((with_reducible refine kw ?_);first | refine Wg ?_ | refine W0 ?_ | refine W1 ?_ | refine W2 ?_ | refine W3 ?_ | refine W6 ?_ | refine bJ ?_ | (refine aJ ?_;first | refine tD K9 ?_ | refine tD (rH fs f _ _) ?_ | refine tD (gP _ _ _) ?_ | refine tD (oC fs f _ _) ?_) | refine eT ?_ | refine gZ ?_ | refine cW ?_) | refine GX ?_ | (refine bW (fun hb=>?_) (fun hb=>?_) <;> rw [hb]) | refine GN ?_ | refine GD ?_ | (refine kX (fun hb=>?_) (fun hb=>?_) <;> rw [hb]) | ((with_reducible refine kd ?_);first | refine D0 ?_ | refine D1 ?_ | refine D2 ?_ | refine D3 ?_ | refine D6 ?_ | refine iY ?_ | (refine bM ?_;first | refine dD K9 ?_ | refine dD (rH fs f _ _) ?_ | refine dD (gP _ _ _) ?_ | refine dD (oC fs f _ _) ?_) | (refine c7 ?_;refine dC (aF (el rfl) rfl rfl VR VR ⟨rfl,by decide⟩) rfl rfl rfl rfl ?_) | (refine aV ?_;refine QX ?_) | refine uF ?_ | refine KV ?_ | refine wP ?_ | refine BT ?_ | refine pZ ?_ | (refine LX ?_;refine dC (EG (mi rfl) rfl rfl rfl (xO (z:=YY) (f:=As.enc) (l:=sX) rfl)) rfl rfl rfl rfl ?_)) | refine GA ?_ | refine GG ?_ | (refine cJ (fun hb=>?_) (fun hb=>?_) <;> try rw [hb]) | ((with_reducible refine kf ?_);refine aP 0 Tryz.results172 rfl rfl rfl ?_) | refine GR ?_ | ((with_reducible refine kr ?_);refine aG rfl ?_) | fail)
 all_goals (refine dG ?_;show bv _=bv _;(try dsimp only [nR,uJ,bI,iA] at *);first | (simp only [*,b2,b3,b4,cond_true,cond_false,b5,b6,b7,b8,c1,c2,b9,c0];done) | (simp_all only [b2,b3,b4,cond_true,cond_false,b5,b6,b7,b8,c1,c2,b9,c0];done) | (simp_all [b2,b3,b4,cond_true,cond_false,b5,b6,b7,b8,c1,c2,b9,c0];done))
def oE (f : Fc) (x : In) : Bool :=
  !(jU o8 x.op).isSome || (!cP f x.a (gS x.op).a || (!cP f x.b (gS x.op).b || (!cP f x.c (gS x.op).c || (!bI x.l.length (gS x.op).lo (gS x.op).hi ||
    ((!(gS x.op).val && !(decide (x.v.k = 0) && (decide (x.v.n = 0) && decide (x.v.s = ⟨#[]⟩)))) || !cQ x.v.k x.v.n x.v.s)))))
def iO (fs:List Fc) (f:Fc) (x:In):Bool :=
 bif oE f x then false
 else bif x.l.any (fun n=>!cP f n (bif (gS x.op).arms then 3 else 1)) then false
 else bif decide (x.op=3) then bI x.b 5 6 else bif decide (x.op=4) then bI x.b 9 19 else bif decide (x.op=7) then nM fs x.b x.l.length
 else bif decide (x.op=10) then nR fs f x
 else bif decide (x.op=11) then ((decide (x.a=2) && decide ((x.l.length:Int)=2)) || ((decide (x.a=1) || decide (x.a=3)) && decide ((x.l.length:Int)=1)))
 else bif decide (x.op=14) then cP f (iA (x.a + 1)) 1 else true
theorem MH (fs:List Fc) (f:Fc) (x:In) :
  bY Tryz.prog 124 [GV fs f,x.dv] (bv (iO fs f x)):=by
 refine of_body Tryz.func124 rfl rfl (nB rfl) ?_
 rw [Tryz.ntmps124]
 repeat' (first | ((with_reducible refine kw ?_);first | refine Wg ?_ | refine W0 ?_ | refine W1 ?_ | refine W2 ?_ | refine W3 ?_ | refine W7 ?_ | refine W6 ?_ | refine bJ ?_ | (refine aJ ?_;first | refine tD G4 ?_ | refine tD (rH fs f _ _) ?_ | refine tD (K7 fs f x) ?_ | refine tD (l7 _ _ _) ?_ | refine tD (gP _ _ _) ?_ | refine tD (oC fs f _ _) ?_ | refine bB rfl rfl rfl rfl (aB.ret (TY x.l 170 [] [.ptr 0 0,.ptr 3 0] (fun n=>!cP f n 1) _ (fun i _=>aB.reads (C0 fs f (aC x.l i) 1) [0,3] rfl ⟨⟨rfl,rfl,rfl⟩,⟨rfl,rfl,rfl⟩,trivial⟩ rfl rfl rfl)) ?_) | refine bB rfl rfl rfl rfl (aB.ret (TY x.l 170 [] [.ptr 0 0,.ptr 3 0] (fun n=>!cP f n 3) _ (fun i _=>aB.reads (C0 fs f (aC x.l i) 3) [0,3] rfl ⟨⟨rfl,rfl,rfl⟩,⟨rfl,rfl,rfl⟩,trivial⟩ rfl rfl rfl)) ?_)) | (refine aE ?_;refine p5 ?_) | refine eT ?_ | refine gQ ?_ | refine gZ ?_ | refine cW ?_ | refine dH ?_ | refine N3 ?_ | refine eV ?_) | refine GX ?_ | (refine bW (fun hb=>?_) (fun hb=>?_) <;> rw [hb]) | refine GN ?_ | ((with_reducible refine kd ?_);first | refine D0 ?_ | refine D1 ?_ | refine D2 ?_ | refine iY ?_ | (refine bM ?_;first | refine dD G4 ?_ | refine dD (rH fs f _ _) ?_ | refine dD (K7 fs f x) ?_ | refine dD (l7 _ _ _) ?_ | refine dD (gP _ _ _) ?_ | refine dD (oC fs f _ _) ?_) | (refine aV ?_;refine P5 ?_) | refine wP ?_ | refine pZ ?_ | (refine LX ?_;refine dC (EG (mi rfl) rfl rfl rfl (xO (z:=WA) (f:=Fo.enc) (l:=o8) rfl)) rfl rfl rfl rfl ?_)) | refine GA ?_ | refine GG ?_ | (refine cJ (fun hb=>?_) (fun hb=>?_) <;> try rw [hb]) | ((with_reducible refine kf ?_);refine aP 0 Tryz.results124 rfl rfl rfl ?_) | refine GR ?_ | ((with_reducible refine kr ?_);refine aG rfl ?_) | fail)
 all_goals (refine dG ?_;show bv _=bv _;(try dsimp only [iO,oE,gS,bI,iA] at *);first | (simp only [*,b2,b3,b4,cond_true,cond_false,b5,b6,b7,b8,c1,c2,b9,c0];done) | (simp_all only [b2,b3,b4,cond_true,cond_false,b5,b6,b7,b8,c1,c2,b9,c0];done) | (simp_all [b2,b3,b4,cond_true,cond_false,b5,b6,b7,b8,c1,c2,b9,c0];done))
def gA (l:List In):Nat→Nat
 | 0=>0
 | i + 1=>if (aC l (i:Int)).op=11 then gA l i else i + 1
def d5 (l:List In) (a:Nat):List In:=(l.drop (gA l a)).take (a - gA l a)
theorem n7 (l:List In):∀ a,gA l a≤a
 | 0=>Nat.le_refl _
 | i + 1=>by
  unfold gA
  split
  ·exact Nat.le_succ_of_le (n7 l i)
  ·exact Nat.le_refl _
theorem B3 {l:List In} {i:Nat} (h0:0 < i) (h:(aC l ((i:Int) - 1)).op=11):gA l (i - 1)=gA l i:=by
 cases i with
 | zero=>omega
 | succ i=>simp only [gA];rw [if_pos (by rw [← h];congr 2;omega)];rfl
theorem wV {l:List In} {i:Nat} (h0:0 < i) (h:(aC l ((i:Int) - 1)).op≠11):gA l i=i:=by
 cases i with
 | zero=>omega
 | succ i=>simp only [gA];rw [if_neg (by intro h';apply h;rw [← h'];congr 2;omega)]
theorem GP (l:List In) (a:Nat) (ha:a≤l.length) :
  bY Tryz.prog 125 [lv (l.map In.enc),iv (a:Int)] (lv ((d5 l a).map In.enc)):=by
 refine aB.assume rfl fun hok _=>?_
 have hlen:=dK (hok (lv (l.map In.enc)) eS)
 simp only [List.length_map] at hlen
 refine of_body Tryz.func125 rfl rfl (nB rfl) ?_
 rw [Tryz.ntmps125]
 repeat' (first | ((with_reducible refine kw ?_);first | refine Wg ?_ | refine W0 ?_ | refine W1 ?_ | refine W2 ?_ | refine W6 ?_ | refine bJ ?_ | (refine fO ?_;refine ZC ?_) | refine eT ?_ | (refine BS ?_;refine ZA ?_)) | refine GX ?_ | (refine bW (fun hb=>?_) (fun hb=>?_) <;> rw [hb]) | refine GA ?_ | refine GG ?_ | (refine cJ (fun hb=>?_) (fun hb=>?_) <;> try rw [hb]) | ((with_reducible refine kf ?_);refine aP 0 Tryz.results125 rfl rfl rfl ?_) | refine GR ?_ | ((with_reducible refine kr ?_);refine aG rfl ?_) | fail)
 refine cF [0,1,5] rfl ?_
 refine i2 (n:=_) (fun n e σ=>∃ (i:Nat) (m:Int),n=i + 1∧(m=i∧i≤a∧gA l i=gA l a)∧e=[(0,_),(1,_),(5,iv m)]∧σ=_) ⟨a,(a:Int),rfl,⟨rfl,Nat.le_refl _,rfl⟩,rfl,rfl⟩ ?_
 rintro n e σ ⟨i,m,rfl,⟨rfl,hi,hall⟩,rfl,rfl⟩
 have hw1:IntKind.i64.wrap ((i:Int) - 1)=(i:Int) - 1:=aL aI aI
 repeat' (first | ((with_reducible refine kw ?_);first | refine Wg ?_ | refine W0 ?_ | refine W1 ?_ | refine W2 ?_ | refine W6 ?_ | refine bJ ?_ | (refine fO ?_;refine ZC ?_) | refine eT ?_ | (refine BS ?_;refine ZA ?_)) | refine GX ?_ | (refine bW (fun hb=>?_) (fun hb=>?_) <;> rw [hb]) | refine GA ?_ | refine GG ?_ | (refine cJ (fun hb=>?_) (fun hb=>?_) <;> try rw [hb]) | ((with_reducible refine kf ?_);refine aP 0 Tryz.results125 rfl rfl rfl ?_) | refine GR ?_ | ((with_reducible refine kr ?_);refine aG rfl ?_) | fail)
 all_goals first
  | (have hp:=oT ‹decide ((i:Int) > 0)=true›;have h11:=oT ‹decide ((aC l (IntKind.i64.wrap ((i:Int) - 1))).op=11)=true›;rw [hw1] at h11;have hgo:=B3 (l:=l) (i:=i) aI h11;refine ⟨_,_,?_,aW.pick_get _ [0,1,5],i - 1,_,rfl,⟨by rw [hw1];omega,by omega,by rw [hgo];exact hall⟩,rfl,rfl⟩;omega)
  | (have hp:=oT ‹decide ((i:Int) > 0)=true›;have h11:=oF ‹decide ((aC l (IntKind.i64.wrap ((i:Int) - 1))).op=11)=false›;rw [hw1] at h11;have e:=wV (l:=l) (i:=i) aI h11;rw [hall] at e;refine dG ?_;show lv _=lv _;simp [d5,e,List.map_take,List.map_drop])
  | (have hp:=oF ‹decide ((i:Int) > 0)=false›;have e:i=0:=aI;subst e;have e:gA l a=0:=hall.symm;refine dG ?_;show lv _=lv _;simp [d5,e,List.map_take,List.map_drop])
end Go.Ab
namespace Go.Ab
open Go
section
variable {P:Program} {X:Nat→Prop} {ι:bZ} {σ:aA} {w:World} {M:Nat→Prop}
theorem fA.takeT {ι0:bZ} {σ0:aA} {w0:World} {m:Nat} (hc:fA P X ι0 σ0 σ w0 ι w) (h0:∀ id,m≤id→ι0 id=none) (hm:σ0.length≤m) (hb:∀ i o,i < m→σ.look i=some o→o.under m=true) :
  fA P X ι0 σ0 (σ.take m) w0 (ι.upto m) w:=by
 have hM:∀ b,g8 (ι.upto m) (σ.take m) b→g8 ι σ b:=by
  rintro b ⟨i,o,v,h1,h2,h3⟩
  obtain ⟨h4,h5⟩:=fR h1
  exact ⟨i,o,v,h5,by simpa [bZ.upto,h4] using h2,h3⟩
 refine ⟨⟨fun id v hv=>?_,hc.frame,⟨fun id hid=>?_,fun i o hi=>?_,fun i i' o o' v v' b h1 h2 h3 h4 h5 h6=>?_,hc.heap.xlt,fun b hb'=>hc.heap.apart b (hM b hb'),fun g hg=>by
   obtain ⟨g1,g2,g3⟩:=hc.heap.glob g hg
   exact ⟨g1,fun hm=>g2 (hm.imp (fun h=>h) (hM g)),g3⟩⟩,fun b hb' hm'=>hc.muts b hb' (hM b hm')⟩,fun i hi=>?_,?_⟩
 ·have hlt:id < m:=by
   rcases Nat.lt_or_ge id m with h | h
   ·exact h
   ·rw [h0 id h] at hv;cases hv
  simp [bZ.upto,hlt,hc.inj _ _ hv]
 ·rw [List.length_take] at hid
  unfold bZ.upto
  split
  ·exact hc.heap.fresh id (by omega)
  ·rfl
 ·obtain ⟨h1,h2⟩:=fR hi
  obtain ⟨v,hv,hr⟩:=hc.heap.obj i o h2
  refine ⟨v,by simp [bZ.upto,h1,hv],?_⟩
  have:=hr.upto (hb i o h1 h2)
  refine bE.mono (fun _ _ h=>h) (a8.refl (bQ X ι σ) w) (fun b _ hb=>hb.imp (fun h=>h) (hM b)) this (fun _ _=>rfl)
 ·obtain ⟨a1,a2⟩:=fR h1
  obtain ⟨b1,b2⟩:=fR h2
  exact hc.heap.inj i i' o o' v v' b a2 b2 (by simpa [bZ.upto,a1] using h3) (by simpa [bZ.upto,b1] using h4) h5 h6
 ·have hlt:i < m:=Nat.lt_of_lt_of_le hi hm
  simp [bZ.upto,hlt,hc.keep i hi]
 ·rw [List.length_take]
  exact Nat.le_min.2 ⟨hm,hc.len⟩
end
section
variable {P:Program} {X:Nat→Prop} {nt:Nat} {ι:bZ} {σ:aA} {e:aW} {w:World} {Q:Exit→aW→aA→Prop}
def I3 (m:Nat) (e:aW):Bool:=e.all fun p=>p.2.under m
theorem CM {m:Nat}:∀ {e:aW},I3 m e=true→∀ t d,e.get t=some d→d.under m=true
 | [],_,t,d,h=>by simp [aW.get] at h
 | (s,x)::e,hu,t,d,h=>by
  simp only [I3,List.all_cons,Bool.and_eq_true] at hu
  by_cases hs:s=t
  ·have:(aW.get ((s,x)::e) t)=some x:=by simp [aW.get,hs]
   rw [this] at h;cases h;exact hu.1
  ·have:(aW.get ((s,x)::e) t)=aW.get e t:=by simp [aW.get,hs]
   rw [this] at h;exact CM hu.2 t d h
theorem jR {m i:Nat} {o:aU} (ho:eJ m σ=true) (hi:i < m) (h:σ.look i=some o):o.under m=true:=by
 have h4:aA.look (σ.take m) i=some o:=by
  unfold aA.look at h ⊢
  rw [List.getElem?_take,if_pos hi];exact h
 unfold aA.look at h4
 obtain ⟨x,hx1,hx2⟩:=Option.bind_eq_some_iff.1 h4
 have:=List.all_eq_true.1 ho x (List.mem_of_getElem? hx1)
 subst hx2
 exact this
theorem St.trim {w0:World} {ι0:bZ} {σ0:aA} {a:Act} {m:Nat} (h:St P X nt w0 ι0 σ0 ι e σ a w) (h0:∀ id,m≤id→ι0 id=none) (hm:σ0.length≤m) (ho:eJ m σ=true) (he:I3 m e=true):St P X nt w0 ι0 σ0 (ι.upto m) e (σ.take m) a w:=by
 refine ⟨h.size,h.defers,⟨fun t d ht=>?_⟩,h.comes.takeT h0 hm (fun i o hi hl=>jR ho hi hl)⟩
 have h3:=(h.env.get t d ht).upto (CM he t d ht)
 refine aX.mono (fun _ _ h=>h) (a8.refl _ w) (fun b hb' hm'=>?_) h3
 rcases hm' with hm' | ⟨i,o,u,g1,g2,g3⟩
 ·exact .inl hm'
 ·obtain ⟨g4,g5⟩:=fR g1
  exact .inr ⟨i,o,u,g5,by simpa [bZ.upto,g4] using g2,g3⟩
theorem bU.loopT {c:Code} (m:Nat) (J:Nat→aW→aA→Prop) {n:Nat} (hs:σ.length=m) (h0:J n e σ)
  (round:∀ n e σ,J n e σ→bU P nt c e σ (qV (fun e' σ'=>∃ n' e'',n' < n∧e''.sub e'∧(I3 m e''=true∧eJ m σ'=true)∧J n' e'' (σ'.take m)) Q)):bU P nt (.loop c) e σ Q:=by
 intro X w0 ι0 σ0 ι a w hst b k cs
 have hm:σ0.length≤m:=by rw [← hs];exact hst.comes.len
 have hf:∀ id,m≤id→ι0 id=none:=fun id hid=>by
  cases hv:ι0 id with
  | none=>rfl
  | some v =>
   have h1:=hst.comes.inj id v hv
   have h2:=hst.comes.heap.fresh id (by omega)
   rw [h1] at h2;cases h2
 have key:∀ n e σ ι a w,J n e σ→St P X nt w0 ι0 σ0 ι e σ a w →
   ∃ ex a' w',(∃ ι' e' σ',Q ex e' σ'∧St P X nt w0 ι0 σ0 ι' e' σ' a' w')∧Arrives P (lone (b.at a (.code c :: .inLoop c::k)) cs w) b k cs ex a' w':=by
  intro n
  induction n using Nat.strongRecOn with
  | _ n ih =>
   intro e σ ι a w hJ hst
   obtain ⟨ex,a₁,w₁,⟨ι',e',σ',hq,hst'⟩,harr⟩:=round n e σ hJ X w0 ι0 σ0 ι a w hst b (.inLoop c::k) cs
   cases ex with
   | normal =>
    obtain ⟨n',e'',hlt,hsub,⟨hu,ho⟩,hJ'⟩:=hq
    obtain ⟨ex₂,a₂,w₂,hq₂,harr₂⟩:=ih n' hlt e'' (σ'.take m) (ι'.upto m) a₁ w₁ hJ' ((hst'.weaken hsub).trim hf hm ho hu)
    exact ⟨ex₂,a₂,w₂,hq₂,.of_steps (Steps.trans harr (.one step_inLoop)) harr₂⟩
   | exit id=>exact ⟨_,a₁,w₁,⟨ι',e',σ',hq,hst'⟩,.pass (x := .inLoop c) rfl (fun _ _ => .inl (by simp)) harr⟩
   | goto l=>exact ⟨_,a₁,w₁,⟨ι',e',σ',hq,hst'⟩,.pass (x := .inLoop c) rfl (fun _ _ => .inl (by simp)) harr⟩
   | ret=>exact ⟨_,a₁,w₁,⟨ι',e',σ',hq,hst'⟩,.pass (x := .inLoop c) rfl (fun _ _ => .inl (by simp)) harr⟩
   | panic ch=>exact ⟨_,a₁,w₁,⟨ι',e',σ',hq,hst'⟩,.pass (x := .inLoop c) rfl (fun _ _ => .inl (by simp)) harr⟩
   | outgrown=>exact ⟨_,a₁,w₁,⟨ι',e',σ',hq,hst'⟩,.pass (x := .inLoop c) rfl (fun _ _ => .inl (by simp)) harr⟩
 obtain ⟨ex,a',w',hq,harr⟩:=key n e σ ι a w h0 hst
 exact ⟨ex,a',w',hq,.of_steps (.one step_loop) harr⟩
theorem fS {c:Code} (m:Nat) (J:Nat→aW→aA→Prop) {n:Nat} (hs:σ.length=m) (h0:J n e σ)
  (round:∀ n e σ,J n e σ→AC P nt c e σ (qV (fun e' σ'=>∃ n' e'',n' < n∧e''.sub e'∧(I3 m e''=true∧eJ m σ'=true)∧J n' e'' (σ'.take m)) Q)):AC P nt (.loop c) e σ Q:=⟨bU.loopT m J hs h0 fun n e σ h=>(round n e σ h).h⟩
end
end Go.Ab
namespace Go.Ab
open Go Go.Ab.Tryz Go.Proofs
def jC (f:Fc):Bool:=!jD f.name || (!bI f.params 0 5 || (!bI f.slots f.params 200 || (!bI f.code.length 1 4000 || decide ((f.guards.length:Int) > 400))))
def iJ (fs:List Fc) (f:Fc) (i:Nat):Bool:=!iO fs f (aC f.code (i:Int)) || ((decide ((aC f.code (i:Int)).op=10) && decide ((aC f.code (i:Int)).b=15)) && decide (((d5 f.code i).length:Int) > 4))
def r4 (fs:List Fc) (f:Fc):Bool :=
 bif jC f then false else bif fN f.code.length (fun i=>!iJ fs f i) then (!(gS (aC f.code (iA ((f.code.length:Int) - 1))).op).goes && !(f.guards.any fun g=>!o9 f g)) else false
theorem OX (fs:List Fc) (f:Fc):bY Tryz.prog 80 [GV fs f] (bv (r4 fs f)):=by
 refine aB.assume rfl fun hok _=>?_
 have hlen:=dK (hok (GV fs f) eS (.lst (f.code.map In.enc)) eS)
 simp only [List.length_map] at hlen
 have hw:=wl f.code.length hlen
 refine of_body Tryz.func80 rfl rfl (nB rfl) ?_
 rw [Tryz.ntmps80]
 repeat' (first | ((with_reducible refine kw ?_);first | refine Wg ?_ | refine W0 ?_ | refine W1 ?_ | refine W2 ?_ | refine W3 ?_ | refine W6 ?_ | refine bJ ?_ | (refine aJ ?_;first | refine tD (FG f.name) ?_ | refine tD (gP _ _ _) ?_) | (refine aE ?_;refine KX ?_) | refine eT ?_ | refine gQ ?_ | refine gZ ?_ | refine cW ?_ | refine dH ?_ | refine N3 ?_) | refine GX ?_ | (refine bW (fun hb=>?_) (fun hb=>?_) <;> rw [hb]) | refine GA ?_ | refine GG ?_ | (refine cJ (fun hb=>?_) (fun hb=>?_) <;> try rw [hb]) | ((with_reducible refine kf ?_);refine aP 0 Tryz.results80 rfl rfl rfl ?_) | refine GR ?_ | ((with_reducible refine kr ?_);refine aG rfl ?_) | fail)
 all_goals first | (refine dG ?_;show bv _=bv _;(try dsimp only [r4,jC,bI,iA] at *);first | (simp only [*,b2,b3,b4,cond_true,cond_false,b5,b6,b7,b8,c1,c2,b9,c0];done) | (simp_all only [b2,b3,b4,cond_true,cond_false,b5,b6,b7,b8,c1,c2,b9,c0];done) | (simp_all [b2,b3,b4,cond_true,cond_false,b5,b6,b7,b8,c1,c2,b9,c0];done)) | skip
 refine cF [1,3,46,47,48] rfl ?_
 refine fS 1 (n:=_) (fun n e σ=>∃ (i:Nat) (m:Int),n=f.code.length - i + 1∧(m=i∧i≤f.code.length∧fN i (fun i=>!iJ fs f i)=true)∧e=[(1,_),(3,_),(46,_),(47,_),(48,iv m)]∧σ=_) rfl ⟨0,0,rfl,⟨rfl,Nat.zero_le _,rfl⟩,rfl,rfl⟩ ?_
 rintro n e σ ⟨i,m,rfl,⟨rfl,hi,hall⟩,rfl,rfl⟩
 repeat' (first | ((with_reducible refine kw ?_);first | refine Wg ?_ | refine W0 ?_ | refine W1 ?_ | refine W2 ?_ | refine W3 ?_ | refine W6 ?_ | refine bJ ?_ | (refine aJ ?_;first | refine tD (gP _ _ _) ?_ | refine tD (MH fs f (aC f.code (i:Int))) ?_ | refine bB rfl rfl rfl rfl (bY.at (GP f.code i aI) rfl rfl ?_) | refine tD (OZ _) ?_ | refine bB rfl rfl rfl rfl (aB.ret (XI f.guards 128 [] [.ptr 0 0] (fun g=>!o9 f g) _ (fun i _=>aB.reads (L8 fs f (aC f.guards i)) [0] rfl ⟨⟨rfl,rfl,rfl⟩,trivial⟩ rfl rfl rfl)) ?_)) | (refine fO ?_;refine cK (aF (el rfl) rfl rfl ZZ ZZ ⟨rfl,by decide⟩) rfl rfl ?_) | (refine aE ?_;refine KX ?_) | refine eT ?_ | refine gQ ?_ | refine gZ ?_ | refine cW ?_ | refine dH ?_ | refine N3 ?_) | refine GX ?_ | (refine bW (fun hb=>?_) (fun hb=>?_) <;> rw [hb]) | refine GA ?_ | refine GG ?_ | (refine cJ (fun hb=>?_) (fun hb=>?_) <;> try rw [hb]) | ((with_reducible refine kf ?_);refine aP 0 Tryz.results80 rfl rfl rfl ?_) | refine GR ?_ | ((with_reducible refine kr ?_);refine aG rfl ?_) | fail)
 all_goals first
  | (have hlt:=oT ‹decide ((i:Int) < (f.code.length:Int))=true›;have hs:=eD (n:=f.code.length) (p:=fun i=>!iJ fs f i) (i:=i) aI (by show (!iJ fs f i)=false;simp only [iJ, *,b2,b3,b4,cond_true,cond_false,b5,b6,b7,b8,c1,c2,b9,c0]);clear hw;(refine dG ?_;show bv _=bv _;(try dsimp only [r4,jC,bI,iA] at *);first | (simp only [*,b2,b3,b4,cond_true,cond_false,b5,b6,b7,b8,c1,c2,b9,c0];done) | (simp_all only [b2,b3,b4,cond_true,cond_false,b5,b6,b7,b8,c1,c2,b9,c0];done) | (simp_all [b2,b3,b4,cond_true,cond_false,b5,b6,b7,b8,c1,c2,b9,c0];done)))
  | (have hlt:=oT ‹decide ((i:Int) < (f.code.length:Int))=true›;have hs:=fH (p:=fun i=>!iJ fs f i) (i:=i) hall (by show (!iJ fs f i)=true;simp only [iJ, *,b2,b3,b4,cond_true,cond_false,b5,b6,b7,b8,c1,c2,b9,c0]);refine ⟨_,_,?_,aW.pick_get _ [1,3,46,47,48],⟨rfl,rfl⟩,i + 1,_,rfl,⟨aL aI aI,by omega,hs⟩,rfl,rfl⟩;omega)
  | (have hge:=oF ‹decide ((i:Int) < (f.code.length:Int))=false›;have hs:=gC (n:=f.code.length) aI hi hall;clear hw;(refine dG ?_;show bv _=bv _;(try dsimp only [r4,jC,bI,iA] at *);first | (simp only [*,b2,b3,b4,cond_true,cond_false,b5,b6,b7,b8,c1,c2,b9,c0];done) | (simp_all only [b2,b3,b4,cond_true,cond_false,b5,b6,b7,b8,c1,c2,b9,c0];done) | (simp_all [b2,b3,b4,cond_true,cond_false,b5,b6,b7,b8,c1,c2,b9,c0];done)))
end Go.Ab
namespace Go.Ab
open Go
section
variable {P:Program} {nt:Nat} {σ:aA} {e:aW} {Q:Exit→aW→aA→Prop}
def BC (Q:Exit→aW→aA→Prop):Exit→aW→aA→Prop
 | .goto _,_,_=>False
 | ex,e,σ=>Q ex e σ
theorem bU.scope {c:Code} (h:bU P nt c e σ (BC Q)):bU P nt (.scope c) e σ Q:=fun X w0 ι0 σ0 ι a w hst=>by
 refine wp_scope_straight (wp_mono (h X w0 ι0 σ0 ι a w hst) ?_)
 rintro ex a' w' ⟨ι',e',σ',h1,h2⟩
 cases ex with
 | goto l=>exact h1.elim
 | _=>exact ⟨ι',e',σ',h1,h2⟩
theorem sW {c:Code} (h:AC P nt c e σ (BC Q)):AC P nt (.scope c) e σ Q:=⟨bU.scope h.h⟩
theorem DH (h:Q .ret e σ):BC Q .ret e σ:=h
theorem R2 {α:Type} {f:α→List aR} {ls:List α} {n:Nat} {t el:TypeId} {x:Operand} {hi:Option Operand} {h sz:Nat} (ht:dU P t=some (el,sz)) (hx:e.ev x=some (.d (.lst (ls.map f)))) (hh:eX e (ls.map f).length (ls.map f).length hi=some h) (ha:(ls.map f).all (fun c=>c.length == sz)=true) :
  Ev P (.slice t x none hi none) e σ n (.d (.lst ((ls.take h).map f))) σ:=by
 have:=NE (P:=P) (σ:=σ) (n:=n) (lo:=none) (l:=0) ht hx hh rfl ha
 simpa [List.map_take] using this
end
end Go.Ab
namespace Go.Ab
open Go Go.Ab.Tryz Go.Proofs
def lK (fs:List Fc) (i:Nat):Bool:=!((fs.take i).any (fun g=>decide (g.name=(aC fs (i:Int)).name)) || !r4 fs (aC fs (i:Int)))
def cC (fs:List Fc):Int:=bif bI fs.length 1 16 && fN fs.length (lK fs) then 0 else 30
theorem oA (fs:List Fc):bY Tryz.prog 43 [.agg [lv (fs.map Fc.enc)]] (iv (cC fs)):=by
 refine aB.assume rfl fun hok _=>?_
 have hlen:=dK (hok (.agg [lv (fs.map Fc.enc)]) eS (.lst (fs.map Fc.enc)) eS)
 simp only [List.length_map] at hlen
 refine of_body Tryz.func43 rfl rfl (nB rfl) ?_
 rw [Tryz.ntmps43]
 repeat' (first | ((with_reducible refine kw ?_);first | refine Wg ?_ | refine W0 ?_ | refine W1 ?_ | refine W2 ?_ | refine W3 ?_ | refine W6 ?_ | refine bJ ?_ | (refine aJ ?_;refine tD (gP _ _ _) ?_) | (refine aE ?_;refine KX ?_) | refine eT ?_ | refine gQ ?_ | refine gZ ?_ | refine cW ?_ | refine dH ?_ | refine N3 ?_ | refine eV ?_) | refine GX ?_ | (refine bW (fun hb=>?_) (fun hb=>?_) <;> rw [hb]) | refine GA ?_ | ((with_reducible refine ka ?_);first | refine sW ?_ | refine sV ?_) | refine GG ?_ | (refine cJ (fun hb=>?_) (fun hb=>?_) <;> try rw [hb]) | ((with_reducible refine kf ?_);refine aP 0 Tryz.results43 rfl rfl rfl ?_) | refine GR ?_ | ((with_reducible refine kr ?_);refine aG rfl ?_) | (with_reducible refine DH ?_) | refine GO ?_ ?_ | exact GB | fail)
 refine cF [1,3,12,13,14] rfl ?_
 refine fS 1 (n:=_) (fun n e σ=>∃ (i:Nat) (m:Int),n=fs.length - i + 1∧(m=i∧i≤fs.length∧(0 < i→bI fs.length 1 16=true)∧fN i (lK fs)=true)∧e=[(1,_),(3,bv (bI fs.length 1 16)),(12,_),(13,_),(14,iv m)]∧σ=_) rfl ⟨0,0,rfl,⟨by simp,Nat.zero_le _,by omega,rfl⟩,rfl,rfl⟩ ?_
 rintro n e σ ⟨i,m,rfl,⟨rfl,hi,hok0,hall⟩,rfl,rfl⟩
 repeat' (first | ((with_reducible refine kw ?_);first | refine Wg ?_ | refine W0 ?_ | refine W1 ?_ | refine W2 ?_ | refine W3 ?_ | refine W6 ?_ | refine bJ ?_ | (refine aJ ?_;first | refine tD (gP _ _ _) ?_ | refine bB rfl rfl rfl rfl (aB.ret (XH (fs.take i) 79 [] [.ptr 1 0] (fun g=>decide (g.name=(aC fs (i:Int)).name)) _ (fun j _=>aB.reads (IT (aC fs (i:Int)) (aC (fs.take i) j)) [1] rfl ⟨⟨rfl,rfl,rfl⟩,trivial⟩ rfl rfl rfl)) ?_) | refine tD (OX fs (aC fs (i:Int))) ?_) | (refine fO ?_;refine WD ?_) | (refine aE ?_;refine KX ?_) | refine eT ?_ | refine gQ ?_ | refine gZ ?_ | refine cW ?_ | refine dH ?_ | (refine BS ?_;refine cK (R2 (el rfl) rfl (OF rfl SK SK) eS) rfl rfl ?_) | refine N3 ?_ | refine eV ?_) | refine GX ?_ | (refine bW (fun hb=>?_) (fun hb=>?_) <;> rw [hb]) | refine GA ?_ | ((with_reducible refine ka ?_);first | refine sW ?_ | refine sV ?_) | refine GG ?_ | (refine cJ (fun hb=>?_) (fun hb=>?_) <;> try rw [hb]) | ((with_reducible refine kf ?_);refine aP 0 Tryz.results43 rfl rfl rfl ?_) | refine GR ?_ | ((with_reducible refine kr ?_);refine aG rfl ?_) | (with_reducible refine DH ?_) | refine GO ?_ ?_ | exact GB | fail)
 all_goals first
  | (exfalso;exact absurd hb cN)
  | (refine dG ?_;show iv _=iv _;have hw:bI (fs.length:Int) 1 16=false:=(by simpa using ‹(!bI (fs.length:Int) 1 16)=true›);simp only [cC,hw,b8,cond_false])
  | (have hlt:=oT ‹decide ((i:Int) < (fs.length:Int))=true›;have hs:=eD (n:=fs.length) (p:=lK fs) (i:=i) aI ZL;refine dG ?_;show iv _=iv _;simp only [cC,hs,b7,cond_false])
  | (have hlt:=oT ‹decide ((i:Int) < (fs.length:Int))=true›;have hs:=fH (p:=lK fs) (i:=i) hall ZL;have hw:bI (fs.length:Int) 1 16=true:=(by simpa using ‹(!bI (fs.length:Int) 1 16)=false›);refine ⟨_,_,?_,aW.pick_get _ [1,3,12,13,14],⟨rfl,rfl⟩,i + 1,_,rfl,⟨aL aI aI,by omega,fun _=>hw,hs⟩,rfl,rfl⟩;omega)
  | (have hge:=oF ‹decide ((i:Int) < (fs.length:Int))=false›;have hs:=gC (n:=fs.length) aI hi hall;have hw:bI (fs.length:Int) 1 16=true:=(by simpa using ‹(!bI (fs.length:Int) 1 16)=false›);refine dG ?_;show iv _=iv _;simp only [cC,hs,hw,Bool.and_self,cond_true])
def MD (pc:Int) (g:Gd):Bool:=decide (g.fr≤pc) && decide (pc < g.to)
abbrev Gd0:Gd:=⟨0,0,0,0⟩
def cH (f:Fc) (pc:Int):Int:=j8 (MD pc) f.guards
def fU (f:Fc) (pc:Int):Gd:=if cH f pc < 0 then Gd0 else aC f.guards (cH f pc)
theorem tG {α:Type} (p:α→Bool):∀ l:List α,j8 p l < l.length∧-1≤j8 p l
 | []=>by simp [j8]
 | x::l=>by
  have:=tG p l
  simp only [j8,List.length_cons]
  split
  ·omega
  ·split <;> omega
theorem JA (g:Gd) (pc:Int) :
  aB Tryz.prog 179 [.agg [iv g.fr,iv g.to,iv g.at',iv g.slot],.ptr 0 0] [some (.box 3 [iv pc])] (fun r σ'=>r=bv (MD pc g)∧σ'=[some (.box 3 [iv pc])]):=by
 refine of_body Tryz.func179 rfl rfl (nB rfl) ?_
 rw [Tryz.ntmps179]
 repeat' (first | ((with_reducible refine kw ?_);first | refine Wg ?_ | refine W0 ?_ | refine W1 ?_ | refine W2 ?_ | refine W6 ?_ | refine bJ ?_ | refine eT ?_ | refine cW ?_) | refine GX ?_ | (refine bW (fun hb=>?_) (fun hb=>?_) <;> rw [hb]) | refine GA ?_ | refine GG ?_ | ((with_reducible refine kf ?_);refine aP 1 Tryz.results179 rfl rfl rfl ?_) | refine GR ?_ | ((with_reducible refine kr ?_);refine bD rfl rfl ⟨?_,rfl⟩) | fail)
 all_goals (refine dG ?_;show bv _=bv _;simp only [MD, *,b6,b8])
theorem TW (f:Fc) (pc:Int) :
  bY Tryz.prog 144 [f.dv,iv pc] (.tup [(fU f pc).dv,bv (!decide (cH f pc < 0))]):=by
 have hf:=tG (MD pc) f.guards
 refine of_body Tryz.func144 rfl rfl (nB rfl) ?_
 rw [Tryz.ntmps144]
 repeat' (first | ((with_reducible refine kw ?_);first | refine W0 ?_ | refine W1 ?_ | refine W2 ?_ | refine W3 ?_ | refine W6 ?_ | refine bJ ?_ | (refine aJ ?_;refine bB rfl rfl rfl rfl (aB.ret (T0 f.guards 179 [] [.ptr 1 0] (MD pc) _ (fun i _=>aB.reads (JA (aC f.guards i) pc) [1] rfl ⟨⟨rfl,rfl,rfl⟩,trivial⟩ rfl rfl rfl)) ?_)) | (refine fO ?_;refine cK (aF (el rfl) rfl rfl (by simp only [List.length_map,dF] at *;omega) (by simp only [List.length_map,dF] at *;omega) ⟨rfl,by decide⟩) rfl rfl ?_) | (refine aE ?_;refine KX ?_) | refine cW ?_ | refine dH ?_ | refine N3 ?_ | refine eV ?_) | refine GA ?_ | refine GG ?_ | (refine cJ (fun hb=>?_) (fun hb=>?_) <;> try rw [hb]) | ((with_reducible refine kf ?_);refine aP 0 Tryz.results144 rfl rfl rfl ?_) | refine GR ?_ | ((with_reducible refine kr ?_);refine aG rfl ?_) | fail)
 all_goals (refine dG ?_;have hb':decide (cH f pc < 0)=_:=hb;simp only [fU,hb',oT,oF,if_true,b2,b3];first | (rw [if_pos (oT hb')];rfl) | (rw [if_neg (oF hb')];rfl))
def vH (op:Int):Bool:=bif decide (op=5) then true else bif decide (op=8) then true else bif decide (op=9) then true else bif decide (op=12) then true else decide (op=14)
def kF (f:Fc) (n:Int):Bool:=decide (n≥0) && decide (n < (f.code.length:Int))
def fG (f:Fc) (n m:Int):Bool:=decide (n≥0) && decide (n≤iA (f.slots - m))
def lJ (f:Fc) (l:List Int):Bool:=fN l.length (fun i=>fG f (aC l (i:Int)) 1)
def zJ (fs:List Fc) (f:Fc) (n:Int) (l:List Int):Bool:=(decide (n≥0) && decide (n < (fs.length:Int))) && (decide ((l.length:Int)=(aC fs n).params) && lJ f l)
theorem oO (op:Int) :
  bY Tryz.prog 47 [iv op] (bv (vH op)):=by
 refine of_body Tryz.func47 rfl rfl (nB rfl) ?_
 rw [Tryz.ntmps47]
 repeat' (first | ((with_reducible refine kw ?_);first | refine W0 ?_ | refine W6 ?_ | refine bJ ?_) | refine GA ?_ | refine GG ?_ | (refine cJ (fun hb=>?_) (fun hb=>?_) <;> try rw [hb]) | ((with_reducible refine kf ?_);refine aP 0 Tryz.results47 rfl rfl rfl ?_) | refine GR ?_ | ((with_reducible refine kr ?_);refine aG rfl ?_) | fail)
 all_goals (first | (refine dG ?_;rfl) | (refine dG ?_;show bv _=bv _;(try dsimp only [vH] at *);first | (simp only [*,b2,b3,b4,cond_true,cond_false,b5,b6,b7,b8,c1,c2,b9,c0];done) | (simp_all only [b2,b3,b4,cond_true,cond_false,b5,b6,b7,b8,c1,c2,b9,c0];done) | (simp_all [b2,b3,b4,cond_true,cond_false,b5,b6,b7,b8,c1,c2,b9,c0];done)))
theorem hZ (fs:List Fc) (f:Fc) (n:Int) :
  bY Tryz.prog 49 [GV fs f,iv n] (bv (kF f n)):=by
 refine of_body Tryz.func49 rfl rfl (nB rfl) ?_
 rw [Tryz.ntmps49]
 repeat' (first | ((with_reducible refine kw ?_);first | refine Wg ?_ | refine W0 ?_ | refine W1 ?_ | refine W2 ?_ | refine W6 ?_ | refine bJ ?_ | refine eT ?_ | refine gZ ?_ | refine cW ?_) | refine GX ?_ | (refine bW (fun hb=>?_) (fun hb=>?_) <;> rw [hb]) | refine GA ?_ | refine GG ?_ | ((with_reducible refine kf ?_);refine aP 0 Tryz.results49 rfl rfl rfl ?_) | refine GR ?_ | ((with_reducible refine kr ?_);refine aG rfl ?_) | fail)
 all_goals (first | (refine dG ?_;rfl) | (refine dG ?_;show bv _=bv _;(try dsimp only [kF,List.length_map] at *);first | (simp only [*,b2,b3,b4,cond_true,cond_false,b5,b6,b7,b8,c1,c2,b9,c0];done) | (simp_all only [b2,b3,b4,cond_true,cond_false,b5,b6,b7,b8,c1,c2,b9,c0];done) | (simp_all [b2,b3,b4,cond_true,cond_false,b5,b6,b7,b8,c1,c2,b9,c0];done)))
theorem gJ (fs:List Fc) (f:Fc) (n m:Int) :
  bY Tryz.prog 50 [GV fs f,iv n,iv m] (bv (fG f n m)):=by
 refine of_body Tryz.func50 rfl rfl (nB rfl) ?_
 rw [Tryz.ntmps50]
 repeat' (first | ((with_reducible refine kw ?_);first | refine Wg ?_ | refine W0 ?_ | refine W1 ?_ | refine W2 ?_ | refine W6 ?_ | refine bJ ?_ | refine eT ?_ | refine cW ?_) | refine GX ?_ | (refine bW (fun hb=>?_) (fun hb=>?_) <;> rw [hb]) | refine GA ?_ | refine GG ?_ | ((with_reducible refine kf ?_);refine aP 0 Tryz.results50 rfl rfl rfl ?_) | refine GR ?_ | ((with_reducible refine kr ?_);refine aG rfl ?_) | fail)
 all_goals (first | (refine dG ?_;rfl) | (refine dG ?_;show bv _=bv _;(try dsimp only [fG,iA] at *);first | (simp only [*,b2,b3,b4,cond_true,cond_false,b5,b6,b7,b8,c1,c2,b9,c0];done) | (simp_all only [b2,b3,b4,cond_true,cond_false,b5,b6,b7,b8,c1,c2,b9,c0];done) | (simp_all [b2,b3,b4,cond_true,cond_false,b5,b6,b7,b8,c1,c2,b9,c0];done)))
theorem lI (fs:List Fc) (f:Fc) (l:List Int):bY Tryz.prog 90 [GV fs f,lv (uS l)] (bv (lJ f l)):=by
 refine aB.assume rfl fun hok _=>?_
 have hlen:=dK (hok (lv (uS l)) eS)
 simp only [List.length_map] at hlen
 refine of_body Tryz.func90 rfl rfl (nB rfl) ?_
 rw [Tryz.ntmps90]
 repeat' (first | ((with_reducible refine kw ?_);first | refine W0 ?_ | refine W6 ?_ | refine bJ ?_ | refine gZ ?_ | refine cW ?_) | refine GN ?_ | ((with_reducible refine kd ?_);first | refine D0 ?_ | refine D3 ?_ | refine D2 ?_ | refine KV ?_) | refine GA ?_ | refine GG ?_ | (refine cJ (fun hb=>?_) (fun hb=>?_) <;> try rw [hb]) | ((with_reducible refine kf ?_);refine aP 0 Tryz.results90 rfl rfl rfl ?_) | refine GR ?_ | ((with_reducible refine kr ?_);refine aG rfl ?_) | fail)
 refine cF [1,2,5] rfl ?_
 refine i2 (n:=_) (fun n e σ=>∃ (i:Nat) (m:Int),n=l.length - i + 1∧(m=i∧i≤l.length∧fN i (fun i=>fG f (aC l (i:Int)) 1)=true)∧e=[(1,_),(2,_),(5,iv m)]∧σ=_) ⟨0,0,rfl,⟨rfl,Nat.zero_le _,rfl⟩,rfl,rfl⟩ ?_
 rintro n e σ ⟨i,m,rfl,⟨rfl,hi,hall⟩,rfl,rfl⟩
 repeat' (first | ((with_reducible refine kw ?_);first | refine W0 ?_ | refine W6 ?_ | refine bJ ?_ | refine gZ ?_ | refine cW ?_) | refine GN ?_ | ((with_reducible refine kd ?_);first | refine D0 ?_ | refine D3 ?_ | refine D2 ?_ | (refine bM ?_;refine dD (gJ fs f _ _) ?_) | (refine c7 ?_;refine dC (aF (el rfl) rfl rfl VV VV ⟨rfl,by decide⟩) rfl rfl rfl rfl ?_) | refine KV ?_) | refine GA ?_ | refine GG ?_ | (refine cJ (fun hb=>?_) (fun hb=>?_) <;> try rw [hb]) | ((with_reducible refine kf ?_);refine aP 0 Tryz.results90 rfl rfl rfl ?_) | refine GR ?_ | ((with_reducible refine kr ?_);refine aG rfl ?_) | fail)
 all_goals first
  | (have hlt:=oT ‹decide ((i:Int) < (l.length:Int))=true›;have hs:=eD (n:=l.length) (p:=fun i=>fG f (aC l (i:Int)) 1) (i:=i) aI (by simpa using ‹(!fG f (aC l (i:Int)) 1)=true›);refine dG ?_;show bv _=bv _;simp only [lJ,hs])
  | (have hlt:=oT ‹decide ((i:Int) < (l.length:Int))=true›;have hs:=fH (p:=fun i=>fG f (aC l (i:Int)) 1) (i:=i) hall (by simpa using ‹(!fG f (aC l (i:Int)) 1)=false›);refine ⟨_,_,?_,aW.pick_get _ [1,2,5],i + 1,_,rfl,⟨aL aI aI,by omega,hs⟩,rfl,rfl⟩;omega)
  | (have hge:=oF ‹decide ((i:Int) < (l.length:Int))=false›;have hs:=gC (n:=l.length) aI hi hall;refine dG ?_;show bv _=bv _;simp only [lJ,hs])
theorem oN (fs:List Fc) (f:Fc) (n:Int) (l:List Int) :
  bY Tryz.prog 91 [GV fs f,iv n,lv (uS l)] (bv (zJ fs f n l)):=by
 refine of_body Tryz.func91 rfl rfl (nB rfl) ?_
 rw [Tryz.ntmps91]
 repeat' (first | ((with_reducible refine kw ?_);first | refine Wg ?_ | refine W0 ?_ | refine W1 ?_ | refine W2 ?_ | refine W3 ?_ | refine W6 ?_ | refine bJ ?_ | (refine aJ ?_;refine tD (lI fs f l) ?_) | (refine fO ?_;refine cK (aF (el rfl) rfl rfl VV VV ⟨rfl,by decide⟩) rfl rfl ?_) | refine eT ?_ | refine gZ ?_ | refine cW ?_) | refine GX ?_ | (refine bW (fun hb=>?_) (fun hb=>?_) <;> rw [hb]) | refine GA ?_ | refine GG ?_ | ((with_reducible refine kf ?_);refine aP 0 Tryz.results91 rfl rfl rfl ?_) | refine GR ?_ | ((with_reducible refine kr ?_);refine aG rfl ?_) | fail)
 all_goals (first | (refine dG ?_;rfl) | (refine dG ?_;show bv _=bv _;(try dsimp only [zJ,List.length_map] at *);first | (simp only [*,b2,b3,b4,cond_true,cond_false,b5,b6,b7,b8,c1,c2,b9,c0];done) | (simp_all only [b2,b3,b4,cond_true,cond_false,b5,b6,b7,b8,c1,c2,b9,c0];done) | (simp_all [b2,b3,b4,cond_true,cond_false,b5,b6,b7,b8,c1,c2,b9,c0];done)))
theorem x6 (f:Fc) (a:Nat) (ha:a≤f.code.length) :
  bY Tryz.prog 63 [f.dv,iv (a:Int)] (iv ((a - gA f.code a:Nat):Int)):=by
 refine aB.assume rfl fun hok _=>?_
 have hlen:=dK (hok f.dv eS (.lst (f.code.map In.enc)) eS)
 simp only [List.length_map] at hlen
 refine of_body Tryz.func63 rfl rfl (nB rfl) ?_
 rw [Tryz.ntmps63]
 repeat' (first | ((with_reducible refine kw ?_);first | refine Wg ?_ | refine W0 ?_ | refine W1 ?_ | refine W2 ?_ | refine W6 ?_ | refine bJ ?_ | (refine fO ?_;refine ZB ?_) | refine eT ?_ | refine cW ?_) | refine GX ?_ | (refine bW (fun hb=>?_) (fun hb=>?_) <;> rw [hb]) | refine GA ?_ | refine GG ?_ | (refine cJ (fun hb=>?_) (fun hb=>?_) <;> try rw [hb]) | ((with_reducible refine kf ?_);refine aP 0 Tryz.results63 rfl rfl rfl ?_) | refine GR ?_ | ((with_reducible refine kr ?_);refine aG rfl ?_) | fail)
 refine cF [1,2,5] rfl ?_
 refine i2 (n:=_) (fun n e σ=>∃ (i:Nat) (m:Int),n=a - i + 1∧(m=i∧i≤a∧gA f.code (a - i)=gA f.code a)∧e=[(1,_),(2,_),(5,iv m)]∧σ=_) ⟨0,0,rfl,⟨rfl,Nat.zero_le _,rfl⟩,rfl,rfl⟩ ?_
 rintro n e σ ⟨i,m,rfl,⟨rfl,hi,hall⟩,rfl,rfl⟩
 have hw1:IntKind.i64.wrap ((a:Int) - (i:Int))=((a - i:Nat):Int):=(by rw [aL aI aI];omega)
 have hw2:IntKind.i64.wrap (((a - i:Nat):Int) - 1)=((a - i:Nat):Int) - 1:=aL aI aI
 repeat' (first | ((with_reducible refine kw ?_);first | refine Wg ?_ | refine W0 ?_ | refine W1 ?_ | refine W2 ?_ | refine W6 ?_ | refine bJ ?_ | (refine fO ?_;refine ZB ?_) | refine eT ?_ | refine cW ?_) | refine GX ?_ | (refine bW (fun hb=>?_) (fun hb=>?_) <;> rw [hb]) | refine GA ?_ | refine GG ?_ | (refine cJ (fun hb=>?_) (fun hb=>?_) <;> try rw [hb]) | ((with_reducible refine kf ?_);refine aP 0 Tryz.results63 rfl rfl rfl ?_) | refine GR ?_ | ((with_reducible refine kr ?_);refine aG rfl ?_) | fail)
 all_goals first
  | (have hp:=oT ‹decide (IntKind.i64.wrap ((a:Int) - (i:Int)) > 0)=true›;rw [hw1] at hp;have h11:=oT ‹decide ((aC f.code (IntKind.i64.wrap (IntKind.i64.wrap ((a:Int) - (i:Int)) - 1))).op=11)=true›;rw [hw1,hw2] at h11;have hgo:=B3 (l:=f.code) (i:=a - i) aI h11;refine ⟨_,_,?_,aW.pick_get _ [1,2,5],i + 1,_,rfl,⟨aL aI aI,by omega,by rw [← hall,← hgo];congr 1⟩,rfl,rfl⟩;omega)
  | (have hp:=oT ‹decide (IntKind.i64.wrap ((a:Int) - (i:Int)) > 0)=true›;rw [hw1] at hp;have h11:=oF ‹decide ((aC f.code (IntKind.i64.wrap (IntKind.i64.wrap ((a:Int) - (i:Int)) - 1))).op=11)=false›;rw [hw1,hw2] at h11;have e:=wV (l:=f.code) (i:=a - i) aI h11;rw [hall] at e;refine dG ?_;show iv _=iv _;rw [e];congr 1;omega)
  | (have hp:=oF ‹decide (IntKind.i64.wrap ((a:Int) - (i:Int)) > 0)=false›;rw [hw1] at hp;have e:a - i=0:=aI;rw [e] at hall;have e2:gA f.code a=0:=hall.symm;refine dG ?_;show iv _=iv _;rw [e2];congr 1;omega)
theorem AE (f:Fc) (pc:Int) :
  bY Tryz.prog 145 [f.dv,iv pc] (iv (cH f pc)):=by
 refine aB.assume rfl fun hok _=>?_
 have hlen:=dK (hok f.dv eS (.lst (f.guards.map Gd.enc)) eS)
 simp only [List.length_map] at hlen
 refine of_body Tryz.func145 rfl rfl (nB rfl) ?_
 rw [Tryz.ntmps145]
 repeat' (first | ((with_reducible refine kw ?_);first | refine Wg ?_ | refine W0 ?_ | refine W1 ?_ | refine W2 ?_ | refine W6 ?_ | refine bJ ?_ | (refine fO ?_;refine WD ?_) | refine eT ?_ | refine gZ ?_ | refine cW ?_) | refine GX ?_ | (refine bW (fun hb=>?_) (fun hb=>?_) <;> rw [hb]) | refine GA ?_ | refine GG ?_ | (refine cJ (fun hb=>?_) (fun hb=>?_) <;> try rw [hb]) | ((with_reducible refine kf ?_);refine aP 0 Tryz.results145 rfl rfl rfl ?_) | refine GR ?_ | ((with_reducible refine kr ?_);refine aG rfl ?_) | fail)
 refine cF [1,2,5] rfl ?_
 refine i2 (n:=_) (fun n e σ=>∃ (i:Nat) (m:Int),n=f.guards.length - i + 1∧(m=i∧i≤f.guards.length∧(f.guards.take i).any (MD pc)=false)∧e=[(1,_),(2,_),(5,iv m)]∧σ=_) ⟨0,0,rfl,⟨rfl,Nat.zero_le _,rfl⟩,rfl,rfl⟩ ?_
 rintro n e σ ⟨i,m,rfl,⟨rfl,hi,hall⟩,rfl,rfl⟩
 repeat' (first | ((with_reducible refine kw ?_);first | refine Wg ?_ | refine W0 ?_ | refine W1 ?_ | refine W2 ?_ | refine W6 ?_ | refine bJ ?_ | (refine fO ?_;refine WD ?_) | refine eT ?_ | refine gZ ?_ | refine cW ?_) | refine GX ?_ | (refine bW (fun hb=>?_) (fun hb=>?_) <;> rw [hb]) | refine GA ?_ | refine GG ?_ | (refine cJ (fun hb=>?_) (fun hb=>?_) <;> try rw [hb]) | ((with_reducible refine kf ?_);refine aP 0 Tryz.results145 rfl rfl rfl ?_) | refine GR ?_ | ((with_reducible refine kr ?_);refine aG rfl ?_) | fail)
 all_goals first
  | (have hlt:=oT ‹decide ((i:Int) < (f.guards.length:Int))=true›;have hs:=m3 (l:=f.guards) (p:=MD pc) (i:=i) aI hall ZX;refine dG ?_;show iv _=iv _;simp only [cH,hs])
  | (have hlt:=oT ‹decide ((i:Int) < (f.guards.length:Int))=true›;have hs:=mU (l:=f.guards) (p:=MD pc) (i:=i) aI hall ZX;refine ⟨_,_,?_,aW.pick_get _ [1,2,5],i + 1,_,rfl,⟨aL aI aI,by omega,hs⟩,rfl,rfl⟩;omega)
  | (have hge:=oF ‹decide ((i:Int) < (f.guards.length:Int))=false›;have hs:=iN (o3 (l:=f.guards) (p:=MD pc) aI hall);refine dG ?_;show iv _=iv _;simp only [cH,hs])
def x7 (fs:List Fc) (f:Fc) (x:In) (a:Nat):Bool :=
 bif decide (x.b=5) then zJ fs f x.c x.l
 else bif decide (x.b=8) then decide (x.c≥0) && (decide (x.c≤2) && (decide ((x.l.length:Int)=1) && lJ f x.l))
 else bif decide (x.b=15) then decide (x.c≥0) && (decide (x.c≤1) && (decide ((x.l.length:Int)=1) && (lJ f x.l && decide (((a - gA f.code a:Nat):Int)≤4))))
 else bif decide (x.b=16) then decide (x.c≥0) && (decide (x.c≤1) && (decide ((x.l.length:Int)≤1) && lJ f x.l))
 else bif decide (x.b=17) then decide (x.c=0) && (decide ((x.l.length:Int)=0) || (decide ((x.l.length:Int)=1) && fG f (aC x.l 0) 2))
 else bif decide (x.b=1) || (decide (x.b=4) || (decide (x.b=18) || decide (x.b=19))) then decide (x.c=0) && decide ((x.l.length:Int)=0)
 else bif decide (x.b=9) then decide (x.c=0) && (decide ((x.l.length:Int)=2) && lJ f x.l)
 else decide (x.b≥1) && (decide (x.b≤21) && (decide (x.c=0) && (decide ((x.l.length:Int)=1) && lJ f x.l)))
theorem wI (fs:List Fc) (f:Fc) (x:In) (a:Nat) (ha:a≤f.code.length) :
  bY Tryz.prog 92 [GV fs f,x.dv,iv (a:Int)] (bv (x7 fs f x a)):=by
 refine of_body Tryz.func92 rfl rfl (nB rfl) ?_
 rw [Tryz.ntmps92]
 repeat' (first | ((with_reducible refine kw ?_);first | refine Wg ?_ | refine W0 ?_ | refine W1 ?_ | refine W2 ?_ | refine W3 ?_ | refine W6 ?_ | refine bJ ?_ | (refine aJ ?_;first | refine tD (oN fs f _ x.l) ?_ | refine tD (lI fs f x.l) ?_ | refine tD (x6 f a ha) ?_ | refine tD (gJ fs f _ _) ?_) | refine eT ?_ | refine gZ ?_ | refine cW ?_) | refine GX ?_ | (refine bW (fun hb=>?_) (fun hb=>?_) <;> rw [hb]) | refine GN ?_ | refine GD ?_ | (refine kX (fun hb=>?_) (fun hb=>?_) <;> rw [hb]) | ((with_reducible refine kd ?_);first | refine D0 ?_ | refine D1 ?_ | refine D2 ?_ | refine D3 ?_ | refine D6 ?_ | refine iY ?_ | (refine bM ?_;first | refine dD (oN fs f _ x.l) ?_ | refine dD (lI fs f x.l) ?_ | refine dD (x6 f a ha) ?_ | refine dD (gJ fs f _ _) ?_) | (refine c7 ?_;refine WC ?_) | refine uF ?_ | refine BT ?_) | refine GA ?_ | refine GG ?_ | (refine cJ (fun hb=>?_) (fun hb=>?_) <;> try rw [hb]) | ((with_reducible refine kf ?_);refine aP 0 Tryz.results92 rfl rfl rfl ?_) | refine GR ?_ | ((with_reducible refine kr ?_);refine aG rfl ?_) | fail)
 all_goals (refine dG ?_;show bv _=bv _;(try dsimp only [x7,List.length_map] at *);first | (simp only [*,b2,b3,b4,cond_true,cond_false,b5,b6,b7,b8,c1,c2,b9,c0];done) | (simp_all only [b2,b3,b4,cond_true,cond_false,b5,b6,b7,b8,c1,c2,b9,c0];done) | (simp_all [b2,b3,b4,cond_true,cond_false,b5,b6,b7,b8,c1,c2,b9,c0];done))
end Go.Ab
