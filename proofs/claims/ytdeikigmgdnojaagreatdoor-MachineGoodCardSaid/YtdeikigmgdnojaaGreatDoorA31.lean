import Derived.Test.YtdeikigmgdnojaaGreatDoorA30
/- A part of the proof of one law. -/
set_option maxRecDepth 100000
set_option maxHeartbeats 8000000
set_option linter.unusedVariables false
set_option linter.unusedSimpArgs false
namespace Go.Ab
open Go Go.Ab.Tryz Go.Proofs
section
variable {P:Program} {nt:Nat} {σ σ' L:aA} {e:aW} {c:List Fc} {t:Fm} {gr:List (Value × Fm)}
theorem F9 {a b:Nat} (h:a≤b):∀ d:DV,d.under a=true→d.under b=true:=by
 intro d
 induction d using DV.rec (motive_2:=fun l=>DV.unders a l=true→DV.unders b l=true) with
 | nil=>rfl
 | cons x l h1 h2=>rename_i h;simp only [DV.unders,c5] at h ⊢;exact ⟨h1 h.1,h2 h.2⟩
 | fn f a b h1 h2=>intro h;simp only [DV.under,c5] at h ⊢;exact ⟨h1 h.1,h2 h.2⟩
 | agg cs h1=>intro h;simp only [DV.under] at h ⊢;exact h1 h
 | tup cs h1=>intro h;simp only [DV.under] at h ⊢;exact h1 h
 | ifc t x h1=>intro h;simp only [DV.under] at h ⊢;exact h1 h
 | ptr id o=>intro h;simp only [DV.under,dT] at h ⊢;omega
 | eptr id i s o=>intro h;simp only [DV.under,dT] at h ⊢;omega
 | arr id=>intro h;simp only [DV.under,dT] at h ⊢;omega
 | mp id=>intro h;simp only [DV.under,dT] at h ⊢;omega
 | _=>intro h;rfl
theorem ED {a b:Nat} {l:List DV} (hl:DV.unders a l=true) (h:a≤b):DV.unders b l=true:=by
 induction l with
 | nil=>rfl
 | cons x l ih=>simp only [DV.unders,c5] at hl ⊢;exact ⟨F9 h x hl.1,ih hl.2⟩
theorem aB.convE {α:Type} {S:α→aA} {f:FuncId} {args args':List DV} {R R':DV→aA→Prop} (hl:args.length=args'.length) (pre:SC P (iL 0 args) σ (fun e1 σ1=>∃ y:α,(∀ i d,args'[i]? = some d→e1.get i=some d)∧σ1=S y)) (h:∀ y,aB P f args' (S y) R)
  (post:∀ r σ2,R r σ2→SC P [(0,r)] σ2 (fun e3 σ3=>∃ r3,e3.get 0=some r3∧r3.under σ.length=true∧eJ σ.length σ3=true∧R' r3 (σ3.take σ.length))) (hb:j0 P f=true):aB P f args σ R':=by
 refine ⟨hb,fun X ι w vs hh hr=>?_⟩
 have hst:St P X args.length w ι σ ι (iL 0 args) σ { tmps:=vs.toArray,defers:=[] } w:=by
  refine ⟨by simpa using hr.len,rfl,⟨fun t d ht=>?_⟩,fA.refl hh⟩
  obtain ⟨_,h2⟩:=mV _ _ _ _ ht
  rw [Nat.sub_zero] at h2
  have hlt:t < vs.length:=by rw [hr.len];exact (List.getElem?_eq_some_iff.1 h2).1
  have hg:vs.toArray.getD t undef=vs[t]:=by simp [Array.getD,hlt]
  simp only [hg]
  exact hr.get t d _ h2 (List.getElem?_eq_getElem hlt)
 obtain ⟨ι1,e1,σ1,⟨y,he,rfl⟩,hs1⟩:=pre.h X args.length w ι σ ι _ w hst
 have hr1:cM ι1 w (bQ X ι1 (S y)) args' vs:=⟨by rw [hr.len,hl],fun i d v hd hv=>by
  have:=hs1.env.get i d (he i d hd)
  have hi:=(List.getElem?_eq_some_iff.1 hv).1
  have hg:vs.toArray.getD i undef=vs[i]:=by simp [Array.getD,hi]
  simp only [hg] at this
  rw [(List.getElem?_eq_some_iff.1 hv).2] at this
  exact this⟩
 refine ((h y).run X ι1 w vs hs1.comes.heap hr1).mono ?_
 rintro en w' ⟨v,r,σ2,ι2,rfl,hR,hc,hv⟩
 have hst2:St P X 1 w ι σ ι2 [(0,r)] σ2 { tmps:=#[v],defers:=[] } w':=⟨rfl,rfl,⟨fun t d ht=>by
  simp only [aW.get] at ht
  split at ht
  ·rename_i e0;subst e0;cases ht;exact hv
  ·cases ht⟩,hs1.comes.trans hc⟩
 obtain ⟨ι3,e3,σ3,⟨r3,h1,h2,h3,h4⟩,hs3⟩:=(post r σ2 hR).h X 1 w ι σ ι2 _ w' hst2
 have hv3:aX ι3 w' (bQ X ι3 σ3) r3 v:=hs3.env.get 0 r3 h1
 refine ⟨v,r3,_,_,rfl,h4,hs3.comes.take hh.fresh (Nat.le_refl _) (fun i o hi ho=>jR h3 hi ho),?_⟩
 refine aX.mono (fun _ _ h=>h) (a8.refl _ w') (fun b hb' hm'=>?_) (hv3.upto h2)
 rcases hm' with hm' | ⟨i,o,u,g1,g2,g3⟩
 ·exact .inl hm'
 obtain ⟨g4,g5⟩:=fR g1
 exact .inr ⟨i,o,u,g5,by simpa [bZ.upto,g4] using g2,g3⟩
def oR (σ:aA) (o:Option aU) (m n p:Nat):aA:=aA.put (aA.put (aA.put (aA.put σ 0 o) m none) n none) p none
theorem RG {f:FuncId} {xs:List DV} {o:Ou} {m n p:Nat} (hk:σ.look 0=some (.box 108 (bC c :: .arr n::(gH iK false).map .d))) (hn:σ.look n=some (.arr 63 (d4 gr++[iD t (.arr p)]))) (hm:σ.look m=some (iB gr)) (hp:σ.look p=some (.arr 35 (aS t.slots))) (hpn:Nat.beq p n=false)
  (h:∀ b0 fv u,aB Tryz.prog f (.ptr 0 0::xs) [some (yA iK false c b0 fv ((u,t)::gr))] (rU c o)) (hx:DV.unders 0 xs=true) :
  aB Tryz.prog f (.ptr 0 0::xs) σ (fun r s=>∃ y:vS,KQ o y∧r = .tup []∧s=oR σ (some (y.obj c)) m n p):=by
 have h02:n≠m:=by rintro rfl;rw [hn] at hm;cases hm
 have hp2:p≠m:=by rintro rfl;rw [hp] at hm;cases hm
 have hn0:n≠0:=by rintro rfl;rw [hk] at hn;cases hn
 have hp0:p≠0:=by rintro rfl;rw [hk] at hp;cases hp
 have hm0:m≠0:=by rintro rfl;rw [hk] at hm;cases hm
 have hpn':p≠n:=by intro e;subst e;simp at hpn
 have hn':σ.look n=some (.arr 63 (d4 gr++[[iv t.fn,iv t.pc,iv t.to,.arr p]])):=hn
 have shut:∀ b0 fv u,DZ σ 108 (gH iK false) c b0 fv u t.fn t.pc t.to t.slots gr m n p=oR σ (some (yA iK false c b0 fv ((u,t)::gr))) m n p:=fun b0 fv u=>by
  have g0:∀ (o1:Option aU),(σ.put m o1).length=σ.length:=fun o1=>bV hm
  have pl:∀ (τ:aA) (k:Nat) (o1:Option aU),k < τ.length→(τ.put k o1).length=τ.length∧∀ j,(τ.put k o1).look j=if j=k then o1 else τ.look j:=fun τ k o1 hk1=>⟨by rw [aA.length_put,if_pos hk1],aA.look_put (Nat.le_of_lt hk1)⟩
  have lm:=a7 hm;have ln:=a7 hn;have lp:=a7 hp;have lk:=a7 hk
  unfold DZ oR
  obtain ⟨a1,a2⟩:=pl σ m (some (bS Tryz.prog 35 ((u,t.slots.map Va.enc)::gr.map rS))) lm
  obtain ⟨b1,b2⟩:=pl _ n (some (.arr 63 (d4 gr++[[iv t.fn,iv t.pc,iv t.to,.d (.sc u)]]))) (a1 ▸ ln)
  obtain ⟨c1,c2⟩:=pl _ p none (b1 ▸ a1 ▸ lp)
  obtain ⟨d1,d2⟩:=pl _ 0 (some (mG 108 (gH iK false) c b0 fv ((u,⟨t.fn,t.pc,t.to,t.slots⟩)::gr))) (c1 ▸ b1 ▸ a1 ▸ lk)
  obtain ⟨e1,e2⟩:=pl _ n none (d1 ▸ c1 ▸ b1 ▸ a1 ▸ ln)
  obtain ⟨f1,f2⟩:=pl _ m none (e1 ▸ d1 ▸ c1 ▸ b1 ▸ a1 ▸ lm)
  obtain ⟨a1',a2'⟩:=pl σ 0 (some (yA iK false c b0 fv ((u,t)::gr))) lk
  obtain ⟨b1',b2'⟩:=pl _ m none (a1' ▸ lm)
  obtain ⟨c1',c2'⟩:=pl _ n none (b1' ▸ a1' ▸ ln)
  obtain ⟨d1',d2'⟩:=pl _ p none (c1' ▸ b1' ▸ a1' ▸ lp)
  refine qK aI fun j=>?_
  rw [f2,e2,d2,c2,b2,a2,d2',c2',b2',a2']
  by_cases j1:j=p
  ·subst j1;rw [if_neg hp2,if_neg hpn',if_neg hp0,if_pos rfl,if_pos rfl]
  by_cases j2:j=m
  ·subst j2;rw [if_pos rfl,if_neg j1,if_neg (Ne.symm h02),if_pos rfl]
  by_cases j3:j=n
  ·subst j3;rw [if_neg j2,if_pos rfl,if_neg j1,if_pos rfl]
  rw [if_neg j2,if_neg j3,if_neg j1,if_neg j3,if_neg j2]
  by_cases j4:j=0
  ·rw [if_pos j4,if_neg j1,if_neg j3,if_neg j2]
  ·rw [if_neg j4,if_neg j1,if_neg j3,if_neg j2]
 have look:∀ (o1:Option aU) j,(oR σ o1 m n p).look j=if j=p∨j=n∨j=m then none else if j=0 then o1 else σ.look j:=fun o1 j=>by
  have pl:∀ (τ:aA) (k:Nat) (o1:Option aU),k < τ.length→(τ.put k o1).length=τ.length∧∀ j,(τ.put k o1).look j=if j=k then o1 else τ.look j:=fun τ k o1 hk1=>⟨by rw [aA.length_put,if_pos hk1],aA.look_put (Nat.le_of_lt hk1)⟩
  have lm:=a7 hm;have ln:=a7 hn;have lp:=a7 hp;have lk:=a7 hk
  obtain ⟨a1',a2'⟩:=pl σ 0 o1 lk
  obtain ⟨b1',b2'⟩:=pl _ m none (a1' ▸ lm)
  obtain ⟨c1',c2'⟩:=pl _ n none (b1' ▸ a1' ▸ ln)
  obtain ⟨d1',d2'⟩:=pl _ p none (c1' ▸ b1' ▸ a1' ▸ lp)
  unfold oR
  rw [d2',c2',b2',a2']
  by_cases j1:j=p
  ·simp [j1]
  by_cases j2:j=n
  ·simp [j2]
  by_cases j3:j=m
  ·simp [j3]
  simp [j1,j2,j3]
 have slen:∀ o1,(oR σ o1 m n p).length=σ.length:=fun o1=>by
  have pl:∀ (τ:aA) (k:Nat) (o1:Option aU),k < τ.length→(τ.put k o1).length=τ.length:=fun τ k o1 hk1=>by rw [aA.length_put,if_pos hk1]
  have lm:=a7 hm;have ln:=a7 hn;have lp:=a7 hp;have lk:=a7 hk
  unfold oR
  have a1:=pl σ 0 o1 lk
  have b1:=pl _ m none (a1 ▸ lm)
  have c1:=pl _ n none (b1 ▸ a1 ▸ ln)
  have d1:=pl _ p none (c1 ▸ b1 ▸ a1 ▸ lp)
  omega
 have hcall:=(h 0 .nilFunc .nilFunc).body
 refine aB.closed hcall fun hu ha=>?_
 refine aB.convE (α:=Nat × Value × Value) (S:=fun y=>oR σ (some (yA iK false c y.1 y.2.1 ((y.2.2,t)::gr))) m n p) (args' := .ptr 0 0::xs) rfl
  (DT (m:=m) (n:=n) (p:=p) (gH iK false) hk hn' hm hp hpn fun b0 fv u=>⟨(b0,fv,u),fun i d hd=>by simpa using sC (.ptr 0 0::xs) 0 i d hd,shut b0 fv u⟩)
  (R:=fun r s=>∃ y:vS,KQ o y∧r = .tup []∧s=oR σ (some (y.obj c)) m n p) (fun ⟨b0,fv,u⟩=>?_) ?_ hcall
 ·refine ((aB.at1 (C:=fun y:vS=>KQ o y) (rr:=fun _ => .tup []) (o:=fun y=>some (y.obj c)) ((h b0 fv u).mono fun r s h=>by
   obtain ⟨y,h1,h2,h3⟩:=h.ex
   exact ⟨y,h1,h2,h3⟩) 0 (by rw [look,if_neg aI,if_pos rfl]) rfl rfl (fun y q h=>by cases h;rfl) (by
    show (DV.under 1 (.ptr 0 0) && DV.unders 1 xs)=true
    rw [c5];exact ⟨rfl,ED hx (Nat.zero_le _)⟩) (args' := .ptr 0 0::xs) (by
    show DV.ren _ (.ptr 0 0)::DV.rens _ xs=_
    rw [rK (n:=0) (fun i hi=>by omega) xs hx];rfl) (fun _=>rfl))).mono ?_
  rintro r s ⟨y,h1,h2,h3⟩
  refine ⟨y,h1,h2,?_⟩
  rw [h3]
  refine qK ?_ fun j=>?_
  ·rw [aA.length_put,if_pos (by rw [slen];exact a7 hk),slen,slen]
  ·rw [aA.look_put (by rw [slen];exact Nat.le_of_lt (a7 hk)),look,look]
   by_cases j1:j=0
   ·subst j1;rw [if_pos rfl,if_neg aI,if_pos rfl]
   ·rw [if_neg j1,if_neg j1,if_neg j1]
 ·rintro r s ⟨y,h1,rfl,rfl⟩
  refine y7 ⟨_,rfl,rfl,?_,?_⟩
  ·unfold eJ
   rw [List.all_eq_true]
   intro x hx'
   rw [List.take_of_length_le (by rw [slen];exact Nat.le_refl _)] at hx'
   cases x with
   | none=>rfl
   | some q =>
    obtain ⟨j,hj⟩:=List.mem_iff_getElem?.1 hx'
    have hl:(oR σ (some (y.obj c)) m n p).look j=some q:=by unfold aA.look;rw [hj];rfl
    rw [look] at hl
    split at hl
    ·cases hl
    split at hl
    ·cases hl;rfl
    ·exact jR hu (a7 hl) hl
  ·exact ⟨y,h1,rfl,by rw [List.take_of_length_le (by rw [slen];exact Nat.le_refl _)]⟩
theorem F1 {o:Option aU} {m n p id:Nat} (l0:0 < σ.length) (lm:m < σ.length) (ln:n < σ.length) (lp:p < σ.length) (h:id ∉ [0,m,n,p]):(oR σ o m n p).look id=σ.look id:=by
 simp only [List.mem_cons,List.not_mem_nil,or_false,not_or] at h
 obtain ⟨h0,h1,h2,h3⟩:=h
 have pl:∀ (τ:aA) (k:Nat) (o1:Option aU),k < τ.length→(τ.put k o1).length=τ.length∧∀ j,(τ.put k o1).look j=if j=k then o1 else τ.look j:=fun τ k o1 hk1=>⟨by rw [aA.length_put,if_pos hk1],aA.look_put (Nat.le_of_lt hk1)⟩
 obtain ⟨a1',a2'⟩:=pl σ 0 o l0
 obtain ⟨b1',b2'⟩:=pl _ m none (a1' ▸ lm)
 obtain ⟨c1',c2'⟩:=pl _ n none (b1' ▸ a1' ▸ ln)
 obtain ⟨d1',d2'⟩:=pl _ p none (c1' ▸ b1' ▸ a1' ▸ lp)
 unfold oR
 rw [d2',c2',b2',a2',if_neg h3,if_neg h2,if_neg h1,if_neg h0]
theorem WZ {i:Nat} {K:aW→aA→Prop} {seen:List Nat} {lt:List dQ} {rest:List (Nat × Oper)} {ops:Array Oper} {dst:Option Nat} {ty:TypeId} {pos:String} {after:Array Edge} {gd:Option (Nat × Bool)} {fo:Operand} {args:Array Operand} {ts:Array TypeId} {g:FuncId} {first cap ys xs:List DV} {o:Ou} (m n p:Nat) (hw:aT ops ⟨dst,.call { callee := .value fo,args,argTypes:=ts },ty,pos,after,gd⟩ e=some true)
  (hf:e.ev fo=some (.fn (.func g) first cap)) (hx:args.toList.mapM e.ev=some ys) (hy:DV.norms (first++ys++cap) = .ptr 0 0::xs) (hok:PC lt (bN ⟨dst,.call { callee := .value fo,args,argTypes:=ts },ty,pos,after,gd⟩)=true) (hl:j9 ops [i] (rest.map (·.1))=true)
  (hk:σ.look 0=some (.box 108 (bC c :: .arr n::(gH iK false).map .d))) (hn:σ.look n=some (.arr 63 (d4 gr++[iD t (.arr p)]))) (hm:σ.look m=some (iB gr)) (hp:σ.look p=some (.arr 35 (aS t.slots))) (hpn:Nat.beq p n=false)
  (h:∀ b0 fv u,aB Tryz.prog g (.ptr 0 0::xs) [some (yA iK false c b0 fv ((u,t)::gr))] (rU c o)) (hxu:DV.unders 0 xs=true)
  (hR:T5 ops i lt (bN ⟨dst,.call { callee := .value fo,args,argTypes:=ts },ty,pos,after,gd⟩) [0,m,n,p]=true)
  (k:∀ y:vS,KQ o y→bO Tryz.prog nt ops K (i::seen) lt rest (e.put dst (.tup [])) (oR σ (some (y.obj c)) m n p)):bR Tryz.prog nt ops K seen lt ((i,⟨dst,.call { callee := .value fo,args,argTypes:=ts },ty,pos,after,gd⟩)::rest) e σ :=
 Q6 [0,m,n,p] hw hf hx hy hok hl (RG hk hn hm hp hpn h hxu) hR (fun r s ⟨y,h1,h2,h3⟩ id hid=>by rw [h3];exact F1 (a7 hk) (a7 hm) (a7 hn) (a7 hp) hid) (fun r s ⟨y,h1,h2,h3⟩=>by subst h2 h3;exact k y h1)
theorem SR {J:aW→aA→Prop} (post:List aR) {m n p:Nat} {u:Value} {f pc tt:Int} {ss:List Va} (hk:σ.look 0=some (.box 108 (bC c :: .arr n::post.map .d))) (hn:σ.look n=some (.arr 63 ((d4 gr++[[iv t.fn,iv t.pc,iv t.to,.d (.sc u)]])++[[iv f,iv pc,iv tt,.arr p]]))) (hm:σ.look m=some (bS Tryz.prog 35 ((u,t.slots.map Va.enc)::gr.map rS))) (hp:σ.look p=some (.arr 35 (aS ss))) (hpn:Nat.beq p n=false)
  (h:∀ b0 fv u',J e (DZ σ 108 post c b0 fv u' f pc tt ss ((u,t)::gr) m n p)):SC Tryz.prog e σ J :=
 DT (gr:=(u,t)::gr) post hk (by rw [fM];exact hn) hm hp hpn h
theorem LO {i:Nat} {K:aW→aA→Prop} {seen:List Nat} {lt:List dQ} {rest:List (Nat × Oper)} {ops:Array Oper} {dst:Option Nat} {ty:TypeId} {pos:String} {after:Array Edge} {gd:Option (Nat × Bool)} {f:Operand} {args:Array Operand} {ts:Array TypeId} {g:FuncId} {first cap xs ys:List DV} {x:DV} {τ:aA} (hw:aT ops ⟨dst,.call { callee := .value f,args,argTypes:=ts },ty,pos,after,gd⟩ e=some true)
  (hf:e.ev f=some (.fn (.func g) first cap)) (hx:args.toList.mapM e.ev=some xs) (hy:DV.norms (first++xs++cap)=ys) (hok:PC lt (bN ⟨dst,.call { callee := .value f,args,argTypes:=ts },ty,pos,after,gd⟩)=true) (hl:j9 ops [i] (rest.map (·.1))=true)
  (hc:aB P g ys σ fun r σ'=>r=x∧σ'=σ++τ) (hb:(lt.all fun a=>a.R.all fun id=>Nat.blt id σ.length)=true)
  (k:bO P nt ops K (i::seen) lt rest (e.put dst x) (σ++τ)):bR P nt ops K seen lt ((i,⟨dst,.call { callee := .value f,args,argTypes:=ts },ty,pos,after,gd⟩)::rest) e σ:=by
 refine GW (fun r σ'=>r=x∧σ'=σ++τ) hw hf hx hy hok hl hc ?_ ?_
 ·rintro _ _ ⟨_,rfl⟩ a h1 _ id h2
  exact xP (List.all_eq_true.1 (List.all_eq_true.1 hb a h1) id h2)
 ·rintro _ _ ⟨rfl,rfl⟩;exact k
theorem z8 {n:Nat} (hn:σ.length=n) (c:List Fc) (fn tt:Int) (args:List Va) (hf0:0≤fn) (hf1:fn < (c.length:Int)) (hs0:0≤(aC c fn).slots) (hs1:(aC c fn).slots≤200) (hle:args.length≤(aC c fn).slots.toNat) :
  aB Tryz.prog 51 [.agg [bC c],iv fn,iv tt,lv (args.map Va.enc)] σ (fun r s=>r = .agg (iD (eW c fn tt args) (.arr (n + 2)))∧s=σ++[some (.box 24 [bC c]),some (.box 63 (iD (eW c fn tt args) (.arr (n + 2)))),some (.arr 35 (aS (eW c fn tt args).slots))]):=by
 subst hn
 have e:bL [] σ.length 2=σ.length + 2:=by simp [bL,Nat.add_comm]
 refine aB.shiftR (JZ c fn tt args hf0 hf1 hs0 hs1 hle) rfl ⟨?_,?_⟩
 ·simp only [DV.ren,DV.rens,iD,e]
 ·simp only [List.map_cons,List.map_nil,Option.map_some,fL]
  simp only [aU.ren,DV.ren,DV.rens,iD,e]
def B5 (t:Fm) (r:List Fm) (v:Va):Ou:=match r with
 | [] => .turn [] ⟨true,d6,v,kW⟩
 | u::r => .more (dS (if t.to≥0 then fK u t.to v else u)::r)
theorem UC (c:List Fc) (b0:Nat) (fv u:Value) (t:Fm) (v:Va) (gr:List (Value × Fm)) (hg:gr.length≤1000) (hG:∀ g ∈ gr,gX c g.2) (hr:∀ u q,gr.map (·.2)=u::q→(t.to≥0→t.to < (u.slots.length:Int))∧0≤u.pc∧u.pc < 4000) :
  aB Tryz.prog 137 [.ptr 0 0,v.dv] [some (yA iK false c b0 fv ((u,t)::gr))] (rU c (B5 t (gr.map (·.2)) v)):=by
 cases gr with
 | nil=>exact JY c b0 fv u t v
 | cons g gr =>
  obtain ⟨u2,t2⟩:=g
  obtain ⟨h1,h2⟩:=hr t2 (gr.map (·.2)) rfl
  exact FU c b0 fv u t v u2 t2 gr (by simpa using hg) (hG (u2,t2) eS) (fun g hg'=>hG g (by simp [hg'])) h1 h2
end
end Go.Ab
