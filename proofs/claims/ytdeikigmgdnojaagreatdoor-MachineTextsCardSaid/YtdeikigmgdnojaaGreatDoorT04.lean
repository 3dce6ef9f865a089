import Derived.Test.YtdeikigmgdnojaaGreatDoorT03
/- A part of the proof of one law. -/
set_option maxRecDepth 100000
set_option maxHeartbeats 8000000
set_option linter.unusedVariables false
set_option linter.unusedSimpArgs false
namespace Go.Ab
mutual
def DV.under (m:Nat):DV→Bool
 | .d _=>true
 | .nils=>true
 | .ptr id _=>decide (id < m)
 | .iptr _ _=>true
 | .eptr id _ _ _=>decide (id < m)
 | .arr id=>decide (id < m)
 | .mp id=>decide (id < m)
 | .fn _ a b=>DV.unders m a && DV.unders m b
 | .agg cs=>DV.unders m cs
 | .tup cs=>DV.unders m cs
 | .ifc _ x=>DV.under m x
def DV.unders (m:Nat):List DV→Bool
 | []=>true
 | x::xs=>DV.under m x && DV.unders m xs
end
mutual
def DV.norm:DV→DV
 | .nils => .d (.lst [])
 | .agg cs => .agg (DV.norms cs)
 | .tup cs => .tup (DV.norms cs)
 | .d x => .d x
 | .ptr id o => .ptr id o
 | .iptr cs o => .iptr cs o
 | .eptr id i s o => .eptr id i s o
 | .arr id => .arr id
 | .mp id => .mp id
 | .fn f a b => .fn f a b
 | .ifc t x => .ifc t x
def DV.norms:List DV→List DV
 | []=>[]
 | x::xs=>DV.norm x::DV.norms xs
end
def aU.under (m:Nat):aU→Bool
 | .box _ cs=>DV.unders m cs
 | .arr _ es=>es.all (DV.unders m)
 | .map es=>es.all fun p=>DV.under m p.2
 | .deep _ _=>true
theorem fB (m:Nat) (l:List aR):DV.unders m (l.map DV.d)=true:=by
 induction l with
 | nil=>rfl
 | cons x l ih=>simp [DV.unders,DV.under,ih]
theorem kD (l:List DV):(DV.norms l).length=l.length:=by
 induction l with
 | nil=>rfl
 | cons x l ih=>simp [DV.norms,ih]
theorem oI (l:List DV) (i:Nat):(DV.norms l)[i]? = (l[i]?).map DV.norm:=by
 induction l generalizing i with
 | nil=>simp [DV.norms]
 | cons x l ih =>
  cases i with
  | zero=>simp [DV.norms]
  | succ i=>simpa [DV.norms] using ih i
theorem d7 {m:Nat} {l:List DV} (h:DV.unders m l=true) {i:Nat} {x:DV} (hx:l[i]? = some x):DV.under m x=true:=by
 induction l generalizing i with
 | nil=>simp at hx
 | cons y l ih =>
  simp only [DV.unders,Bool.and_eq_true] at h
  cases i with
  | zero=>simp at hx;subst hx;exact h.1
  | succ i=>exact ih h.2 (by simpa using hx)
def bZ.upto (ι:bZ) (m:Nat):bZ:=fun id=>if id < m then ι id else none
section
variable {P:Program} {X:Nat→Prop} {ι:bZ} {σ:aA} {w:World} {M:Nat→Prop}
theorem aX.normed {d:DV} {v:Value} (h:aX ι w M d v):aX ι w M d.norm v:=by
 induction h with
 | nils A=>exact .d (.emp A 0)
 | agg cs vs hl h ih =>
  refine .agg _ vs (by rw [kD];exact hl) (fun i x y hx hy=>?_)
  rw [oI] at hx
  cases hc:cs[i]? with
  | none=>simp [hc] at hx
  | some z=>simp [hc] at hx;subst hx;exact ih i z y hc hy
 | tup cs vs hl h ih =>
  refine .tup _ vs (by rw [kD];exact hl) (fun i x y hx hy=>?_)
  rw [oI] at hx
  cases hc:cs[i]? with
  | none=>simp [hc] at hx
  | some z=>simp [hc] at hx;subst hx;exact ih i z y hc hy
 | d h=>exact .d h
 | ptr id off b h=>exact .ptr id off b h
 | iptr cs off b o vs a b' c d=>exact .iptr cs off b o vs a b' c d
 | eptr id i sz off b o n c h=>exact .eptr id i sz off b o n c h
 | arr id v h hv=>exact .arr id v h hv
 | mp id v h hv=>exact .mp id v h hv
 | fn f first cap fi ca h1 h2 hf hc=>exact .fn f first cap fi ca h1 h2 hf hc
 | ifc t x v h=>exact .ifc t x v h
theorem aX.upto {d:DV} {v:Value} {m:Nat} (h:aX ι w M d v) (hb:d.under m=true):aX (ι.upto m) w M d v:=by
 induction h with
 | nils A=>exact .nils A
 | agg cs vs hl h ih=>exact .agg _ vs hl (fun i x y hx hy=>ih i x y hx hy (d7 (by simpa [DV.under] using hb) hx))
 | tup cs vs hl h ih=>exact .tup _ vs hl (fun i x y hx hy=>ih i x y hx hy (d7 (by simpa [DV.under] using hb) hx))
 | d h=>exact .d h
 | ptr id off b h=>exact .ptr id off b (by simp [DV.under] at hb;simp [bZ.upto,hb,h])
 | iptr cs off b o vs a b' c d=>exact .iptr cs off b o vs a b' c d
 | eptr id i sz off b o n c h=>exact .eptr id i sz off b o n c (by simp [DV.under] at hb;simp [bZ.upto,hb,h])
 | arr id v h hv=>exact .arr id v (by simp [DV.under] at hb;simp [bZ.upto,hb,h]) hv
 | mp id v h hv=>exact .mp id v (by simp [DV.under] at hb;simp [bZ.upto,hb,h]) hv
 | fn f first cap fi ca h1 h2 hf hc ih1 ih2 =>
  simp only [DV.under,Bool.and_eq_true] at hb
  exact .fn f first cap fi ca h1 h2 (fun i x y hx hy=>ih1 i x y hx hy (d7 hb.1 hx)) (fun i x y hx hy=>ih2 i x y hx hy (d7 hb.2 hx))
 | ifc t x v h ih=>exact .ifc t x v (ih (by simpa [DV.under] using hb))
theorem bE.upto {o:aU} {v:Value} {m:Nat} (h:bE P ι w M v o) (hb:o.under m=true):bE P (ι.upto m) w M v o:=by
 cases h with
 | box ty cells b cs h1 hl h h2=>exact .box ty cells b cs h1 hl (fun j x y hx hy=>(h j x y hx hy).upto (d7 (by simpa [aU.under] using hb) hx)) h2
 | nil elem A=>exact .nil elem A
 | arr elem es b o c cs h1 hc hn hm hs hcl h =>
  refine .arr elem es b o c cs h1 hc hn hm hs hcl (fun i j e x y he hx hy=>(h i j e x y he hx hy).upto ?_)
  have:=List.all_eq_true.1 (show es.all (DV.unders m)=true by simpa [aU.under] using hb) e (List.mem_of_getElem? he)
  exact d7 this hx
 | map es r ms clock hh hl hk h =>
  refine .map es r ms clock hh hl hk (fun i m' k d h1 h2=>(h i m' k d h1 h2).upto ?_)
  exact List.all_eq_true.1 (show es.all (fun p=>DV.under m p.2)=true from hb) (k,d) (List.mem_of_getElem? h2)
 | deep T bs v h hs hlt=>exact .deep T bs _ h hs hlt
theorem fR {m i:Nat} {o:aU} (h:aA.look (σ.take m) i=some o):i < m∧σ.look i=some o:=by
 unfold aA.look at h ⊢
 rw [List.getElem?_take] at h
 split at h
 ·rename_i hl;exact ⟨hl,h⟩
 ·simp at h
theorem fA.take {ι0:bZ} {σ0:aA} {w0:World} {m:Nat} (hc:fA P X ι0 σ0 σ w0 ι w) (h0:∀ id,σ0.length≤id→ι0 id=none) (hm:σ0.length≤m) (hb:∀ i o,i < m→σ.look i=some o→o.under m=true) :
  fA P X ι0 σ0 (σ.take m) w0 (ι.upto m) w:=by
 have hM:∀ b,g8 (ι.upto m) (σ.take m) b→g8 ι σ b:=by
  rintro b ⟨i,o,v,h1,h2,h3⟩
  obtain ⟨h4,h5⟩:=fR h1
  exact ⟨i,o,v,h5,by simpa [bZ.upto,h4] using h2,h3⟩
 refine ⟨⟨fun id v hv=>?_,hc.frame,⟨fun id hid=>?_,fun i o hi=>?_,fun i i' o o' v v' b h1 h2 h3 h4 h5 h6=>?_,hc.heap.xlt,fun b hb'=>hc.heap.apart b (hM b hb'),fun g hg=>by
   obtain ⟨g1,g2,g3⟩:=hc.heap.glob g hg
   exact ⟨g1,fun hm=>g2 (hm.imp (fun h=>h) (hM g)),g3⟩⟩,fun b hb' hm'=>hc.muts b hb' (hM b hm')⟩,fun i hi=>?_,?_⟩
 ·have hlt:id < m:=by
   rcases Nat.lt_or_ge id σ0.length with h | h
   ·omega
   ·rw [h0 id h] at hv;cases hv
  simp [bZ.upto,hlt,hc.inj _ _ hv]
 ·rw [List.length_take] at hid
  unfold bZ.upto
  split
  ·exact hc.heap.fresh id (by omega)
  ·rfl
 ·obtain ⟨h1,h2⟩:=fR hi
  obtain ⟨v,hv,hr⟩:=hc.heap.obj i o h2
  refine ⟨v,by simp [bZ.upto,h1,hv],?_⟩
  have:=hr.upto (hb i o h1 h2)
  refine bE.mono (fun _ _ h=>h) (a8.refl (bQ X ι σ) w) (fun b _ hb=>hb.imp (fun h=>h) (hM b)) this (fun _ _=>rfl)
 ·obtain ⟨a1,a2⟩:=fR h1
  obtain ⟨b1,b2⟩:=fR h2
  exact hc.heap.inj i i' o o' v v' b a2 b2 (by simpa [bZ.upto,a1] using h3) (by simpa [bZ.upto,b1] using h4) h5 h6
 ·have hlt:i < m:=Nat.lt_of_lt_of_le hi hm
  simp [bZ.upto,hlt,hc.keep i hi]
 ·rw [List.length_take]
  exact Nat.le_min.2 ⟨hm,hc.len⟩
def iL:Nat→List DV→aW
 | _,[]=>[]
 | k,x::xs=>(k,x)::iL (k + 1) xs
theorem mV:∀ (xs:List DV) (k t:Nat) (d:DV),(iL k xs).get t=some d→k≤t∧xs[t - k]? = some d
 | [],k,t,d,h=>by simp [iL,aW.get] at h
 | x::xs,k,t,d,h=>by
  simp only [iL,aW.get] at h
  split at h
  ·rename_i hk;subst hk;cases h;exact ⟨Nat.le_refl _,by simp⟩
  ·rename_i hk
   obtain ⟨h1,h2⟩:=mV xs (k + 1) t d h
   refine ⟨by omega,?_⟩
   rw [show t - k=(t - (k + 1)) + 1 by omega]
   simpa using h2
def Fin (P:Program) (fn:Func) (n:Nat) (R:DV→aA→Prop) (ex:Exit) (e:aW) (σ:aA):Prop :=
 (ex = .normal∨ex = .ret)∧∃ r m,DJ P fn e σ=some r∧n≤m∧r.norm.under m=true∧(∀ i o,i < m→σ.look i=some o→o.under m=true)∧R r.norm (σ.take m)
theorem aB.of_body {f:FuncId} {fn:Func} {c:Code} {args:List DV} {R:DV→aA→Prop} (hf:P.funcs[f]? = some fn) (hb:fn.body=some c) (hn:(fn.name == "runtime.NumGoroutine")=false) (hl:args.length≤fn.ntmps)
  (h:bU P fn.ntmps c (iL 0 args) σ (Fin P fn σ.length R)):aB P f args σ R:=by
 refine ⟨by simp [j0,hf,hb,hn],fun X ι w vs hh hr=>?_⟩
 refine calls_of_wp hf hb ?_
 have hvs:vs.toArray.size=args.length:=by simpa using hr.len
 have hst:St P X fn.ntmps w ι σ ι (iL 0 args) σ { tmps:=vs.toArray++Array.replicate (fn.ntmps - vs.toArray.size) undef,defers:=[] } w:=by
  refine ⟨?_,rfl,⟨fun t d ht=>?_⟩,fA.refl hh⟩
  ·simp only [Array.size_append,Array.size_replicate,hvs]
   omega
  ·obtain ⟨_,h2⟩:=mV _ _ _ _ ht
   rw [Nat.sub_zero] at h2
   have hlt:t < vs.length:=by rw [hr.len];exact (List.getElem?_eq_some_iff.1 h2).1
   have hg:(vs.toArray++Array.replicate (fn.ntmps - vs.toArray.size) undef).getD t undef=vs[t]:=by
    rw [Array.getD_eq_getD_getElem?,Array.getElem?_append,if_pos (by simpa using hlt)]
    simp [hlt]
   simp only [hg]
   exact hr.get t d _ h2 (List.getElem?_eq_getElem hlt)
 refine wp_mono (h X w ι σ ι _ w hst) ?_
 rintro ex a' w' ⟨ι',e',σ',⟨hex,r,m,hres,hm,hbelow,hobj,hR⟩,hst'⟩
 have key:a'.defers=[]∧∃ v,(results fn a'.tmps).run P w' = .ok v w'∧(∃ v' r σ' ι',Ending.returned v = .returned v'∧R r σ'∧fA P X ι σ σ' w ι' w'∧aX ι' w' (bQ X ι' σ') r v'):=by
  obtain ⟨v,h1,h2⟩:=AB hst'.env hst'.comes.heap hres
  refine ⟨hst'.defers,v,h1,v,_,_,_,rfl,hR,hst'.comes.take hh.fresh hm hobj,?_⟩
  have h3:=h2.normed.upto hbelow
  refine aX.mono (fun _ _ h=>h) (a8.refl _ w') (fun b hb' hm'=>?_) h3
  rcases hm' with hm' | ⟨i,o,u,g1,g2,g3⟩
  ·exact .inl hm'
  obtain ⟨g4,g5⟩:=fR g1
  exact .inr ⟨i,o,u,g5,by simpa [bZ.upto,g4] using g2,g3⟩
 rcases hex with rfl | rfl
 ·exact key
 ·exact key
end
end Go.Ab
namespace Go.Ab
def aW.pick (e:aW):List Nat→aW
 | []=>[]
 | t::ts=>match e.get t with
  | some d=>(t,d)::aW.pick e ts
  | none=>aW.pick e ts
theorem aW.pick_get (e:aW) (ts:List Nat):(e.pick ts).sub e:=by
 intro t d h
 induction ts with
 | nil=>simp [aW.pick,aW.get] at h
 | cons s ts ih =>
  simp only [aW.pick] at h
  split at h
  ·rename_i x hx
   simp only [aW.get] at h
   split at h
   ·rename_i hst;subst hst;cases h;exact hx
   ·exact ih h
  ·exact ih h
def mO:Op→Bool
 | .call { callee := .value _,.. }=>false
 | _=>true
section
variable {P:Program} {X:Nat→Prop} {nt:Nat} {Q:Exit→aW→aA→Prop} {e e':aW} {σ σ':aA} {ops:Array Oper} {o:Oper} {rest:List Oper} {K:aW→aA→Prop} {c:Code} {d:DV}
theorem bU.keep (ks:List Nat) (h:e.pick ks=e') (k:bU P nt c e' σ Q):bU P nt c e σ Q:=by
 subst h
 exact bU.weaken (aW.pick_get e ks) k
theorem EB (hp:mO o.op=true) (hd:i0 nt o=true) (h:aZ P o.op e σ σ.length=some (some d,σ')) (k:K (e.put o.dst d) σ'):r9 P nt o e σ K:=by
 refine ⟨hd,?_⟩
 have key:(match aZ P o.op e σ σ.length with
  | some (some d,σ')=>K (e.put o.dst d) σ'
  | some (none,σ')=>o.dst=none∧K e σ'
  | none=>False):=by rw [h];exact k
 cases hop:o.op with
 | call cc =>
  obtain ⟨callee,args,ts⟩:=cc
  cases callee with
  | value f=>rw [hop] at hp;simp [mO] at hp
  | _=>rw [hop] at key;exact key
 | _=>rw [hop] at key;exact key
theorem F6 (hp:mO o.op=true) (hd:o.dst=none) (h:aZ P o.op e σ σ.length=some (none,σ')) (k:K e σ'):r9 P nt o e σ K:=by
 refine ⟨by simp [i0,hd],?_⟩
 have key:(match aZ P o.op e σ σ.length with
  | some (some d,σ')=>K (e.put o.dst d) σ'
  | some (none,σ')=>o.dst=none∧K e σ'
  | none=>False):=by rw [h];exact ⟨hd,k⟩
 cases hop:o.op with
 | call cc =>
  obtain ⟨callee,args,ts⟩:=cc
  cases callee with
  | value f=>rw [hop] at hp;simp [mO] at hp
  | _=>rw [hop] at key;exact key
 | _=>rw [hop] at key;exact key
theorem yK {f:Operand} {args:Array Operand} {ts:Array TypeId} {g:FuncId} {first cap xs:List DV} (ho:o.op = .call { callee := .value f,args,argTypes:=ts }) (hd:i0 nt o=true) (hf:e.ev f=some (.fn (.func g) first cap))
  (hx:args.toList.mapM e.ev=some xs) (k:aB P g (first++xs++cap) σ fun r σ'=>K (e.put o.dst r) σ'):r9 P nt o e σ K:=by
 refine ⟨hd,?_⟩
 rw [ho]
 simp only [hf,hx]
 exact k
theorem u9 (hg:o.guard=none) (k:r9 P nt o e σ fun e' σ'=>eC P nt ops rest e' σ' K):eC P nt ops (o::rest) e σ K:=by
 simp only [eC,aT,hg]
 exact ⟨fun _=>k,fun h=>by cases h⟩
theorem EO (hg:o.guard=none) (hp:mO o.op=true) (hd:i0 nt o=true) (h:aZ P o.op e σ σ.length=some (some d,σ')) (k:eC P nt ops rest (e.put o.dst d) σ' K):eC P nt ops (o::rest) e σ K :=
 u9 hg (EB hp hd h k)
theorem sT (hg:o.guard=none) (hp:mO o.op=true) (hd:o.dst=none) (h:aZ P o.op e σ σ.length=some (none,σ')) (k:eC P nt ops rest e σ' K):eC P nt ops (o::rest) e σ K :=
 u9 hg (F6 hp hd h k)
theorem EN {j t:Nat} {want b:Bool} (hg:o.guard=some (j,want)) (hj:(ops[j]?).bind (·.dst)=some t) (hb:e.get t=some (.d (.sc (.bool b))))
  (k1:b=want→r9 P nt o e σ fun e' σ'=>eC P nt ops rest e' σ' K) (k2:b = !want→eC P nt ops rest (e.del o.dst) σ K):eC P nt ops (o::rest) e σ K:=by
 simp only [eC,aT,hg,hj,hb]
 exact ⟨fun h=>k1 (by simpa using h),fun h=>k2 (by cases b <;> cases want <;> simp_all)⟩
end
def fQ (nt:Nat):Option Nat→Bool
 | some t=>Nat.blt t nt
 | none=>true
def I7 (k:Nat):DV→Option DV
 | .ptr id off=>some (.ptr id (off + k))
 | .iptr cs off=>some (.iptr cs (off + k))
 | .eptr id i sz off=>some (.eptr id i sz (off + k))
 | _=>none
def wY (σ:aA):DV→Option (List DV)
 | .ptr id off=>match σ.look id with
  | some (.box _ cells)=>some (cells.drop off)
  | _=>none
 | .iptr cs off=>some ((cs.drop off).map .d)
 | _=>none
def PA:DV→Option DV
 | .ptr id off=>some (.ptr id off)
 | .iptr cs off=>some (.iptr cs off)
 | .eptr id i sz off=>some (.eptr id i sz off)
 | .fn (.func f) first cap=>some (.fn (.func f) first cap)
 | _=>none
section
variable {P:Program} {X:Nat→Prop} {nt:Nat} {Q:Exit→aW→aA→Prop} {e e':aW} {σ σ':aA} {ops:Array Oper} {dst:Option Nat} {ty:TypeId} {pos:String} {after:Array Edge} {rest:List Oper} {K:aW→aA→Prop} {d d':DV}
theorem GZ {op:Op} {g:Option (Nat × Bool)} (h:fQ nt dst=true):i0 nt ⟨dst,op,ty,pos,after,g⟩=true:=by
 unfold i0
 cases dst with
 | none=>rfl
 | some t=>simpa [fQ,Nat.blt_eq] using h
theorem PM {op:Op} (hp:mO op=true) (hd:fQ nt dst=true) (h:aZ P op e σ σ.length=some (some d,σ')) (k:eC P nt ops rest (e.put dst d) σ' K) :
  eC P nt ops (⟨dst,op,ty,pos,after,none⟩::rest) e σ K:=EO rfl hp (GZ hd) h k
theorem RR {f:Operand} {args:Array Operand} {ts:Array TypeId} {g:FuncId} {first cap xs ys:List DV} (hd:fQ nt dst=true) (hf:e.ev f=some (.fn (.func g) first cap)) (hx:args.toList.mapM e.ev=some xs) (hy:DV.norms (first++xs++cap)=ys)
  (k:aB P g ys σ fun r σ'=>eC P nt ops rest (e.put dst r) σ' K):eC P nt ops (⟨dst,.call { callee := .value f,args,argTypes:=ts },ty,pos,after,none⟩::rest) e σ K:=by
 refine u9 rfl (yK rfl (GZ hd) hf hx ?_)
 subst hy
 refine ⟨k.body,fun X ι w vs h1 h2=>k.run X ι w vs h1 ⟨by rw [kD];exact h2.len,fun i x y hx hy=>?_⟩⟩
 rw [oI] at hx
 obtain ⟨z,hc,rfl⟩:=Option.map_eq_some_iff.1 hx
 exact (h2.get i z y hc hy).normed
theorem HH {op:Op} {j t:Nat} {want b:Bool} (hj:(ops[j]?).bind (·.dst)=some t) (hb:e.get t=some (.d (.sc (.bool b))))
  (k1:b=want→eC P nt ops (⟨dst,op,ty,pos,after,none⟩::rest) e σ K) (k2:b = !want→eC P nt ops rest (e.del dst) σ K):eC P nt ops (⟨dst,op,ty,pos,after,some (j,want)⟩::rest) e σ K:=by
 refine EN (o:=⟨dst,op,ty,pos,after,some (j,want)⟩) rfl hj hb (fun h=>?_) k2
 have:=k1 h
 simp only [eC,aT] at this
 exact this.1 trivial
end
def ZF (x:DV) (r:DV) (σ:aA):Prop:=r=x∧σ=[]
def bY (P:Program) (f:FuncId) (args:List DV) (x:DV):Prop:=aB P f args [] (ZF x)
section
variable {P:Program} {X:Nat→Prop} {nt:Nat} {Q Q':Exit→aW→aA→Prop} {e e':aW} {σ σ':aA} {N K:aW→aA→Prop} {ops:Array Oper}
theorem bY.at {f:FuncId} {args:List DV} {x:DV} (h:bY P f args x) (ha:DV.unders 0 args=true) (hx:DV.under 0 x=true) {R:DV→aA→Prop} (k:R x σ):aB P f args σ R:=by
 refine ⟨h.body,fun X ι w vs hh hr=>?_⟩
 have h0:aQ P (bQ X ι σ) (fun _=>none) [] w:=⟨fun _ _=>rfl,fun id o ho=>by simp [aA.look] at ho,fun id id' o o' v v' b ho=>by simp [aA.look] at ho,fun b hb=>hh.mut_lt hb,fun b hb=>by
  obtain ⟨i,o,u,g1,_⟩:=hb
  simp [aA.look] at g1,fun g hg=>by
   obtain ⟨g1,g2,g3⟩:=hh.glob g hg
   refine ⟨g1,?_,g3⟩
   rintro (hx | ⟨i,o,u,k1,_⟩)
   ·exact g2 hx
   ·simp [aA.look] at k1⟩
 have hno:∀ b,¬ g8 (fun _=>none) [] b:=fun b hb=>by
  obtain ⟨i,o,u,g1,_⟩:=hb
  simp [aA.look] at g1
 have hr0:cM (fun _=>none) w (bQ (bQ X ι σ) (fun _=>none) []) args vs:=⟨hr.len,fun i y v h1 h2=>by
  have h3:=(hr.get i y v h1 h2).upto (d7 ha h1)
  have e0:bZ.upto ι 0=fun _=>none:=by funext id;simp [bZ.upto]
  rw [e0] at h3
  exact h3.mono (fun _ _ h=>h) (a8.refl _ w) (fun b _ hb=>hb.elim (fun h=>h) (fun h=>absurd h (hno b)))⟩
 refine (h.run (bQ X ι σ) (fun _=>none) w vs h0 hr0).mono ?_
 rintro en w' ⟨v,r,σ',ι',rfl,⟨rfl,rfl⟩,hc,hv⟩
 have hf:a8 (g8 ι σ) w w':=hc.frame.mono (fun b _ hb=>absurd hb (hno b))
 have hcm:Comes' P X ι σ σ w ι w':=⟨fun _ _ h=>h,hf,hh.change hf (fun _ _ h=>h) hh.fresh (fun id o ho => .inl ⟨ho,fun u b hu hb=>hc.frame.block b (hh.mut_lt (.inr ⟨id,o,u,ho,hu,hb⟩)) (hno b)⟩) (fun _ _ h=>h) hh.inj,fun _ _ h=>h⟩
 refine ⟨v,r,σ,ι,rfl,k,⟨hcm,fun _ _=>rfl,Nat.le_refl _⟩,?_⟩
 have h3:=hv.upto hx
 have e0:bZ.upto ι' 0=fun _=>none:=by funext id;simp [bZ.upto]
 rw [e0] at h3
 exact h3.mono (fun _ _ h=>by cases h) (a8.refl _ w') (fun b _ hb => .inl hb)
theorem LF {id:Nat} {l:List Oper} (hops:l.all (i0 nt)=true) (h:eC P nt l.toArray l e σ (Q .normal)):bU P nt (.region id l.toArray false) e σ Q:=bU.region hops (by simpa using h)
theorem RP (h:N e σ):qV N Q .normal e σ:=h
theorem PJ {i:Nat} (h:Q (.exit i) e σ):qV N Q (.exit i) e σ:=h
theorem PI (h:Q .ret e σ):qV N Q .ret e σ:=h
theorem T7 {i:Nat} (h:Q .normal e σ):kA i Q .normal e σ:=h
theorem T9 {i:Nat} (h:Q .ret e σ):kA i Q .ret e σ:=h
theorem UA {i:Nat} (h:Q .normal e σ):kA i Q (.exit i) e σ:=by simp only [kA,if_true];exact h
theorem T8 {i j:Nat} (hij:Nat.beq j i=false) (h:Q (.exit j) e σ):kA i Q (.exit j) e σ:=by
 have:j≠i:=fun e=>by subst e;simp at hij
 simp only [kA,if_neg this];exact h
theorem XS {op:Op} {j t:Nat} {want:Bool} {dst:Option Nat} {ty:TypeId} {pos:String} {after:Array Edge} {rest:List Oper} (hj:(ops[j]?).bind (·.dst)=some t) (hb:e.get t=some (.d (.sc (.bool want))))
  (k1:eC P nt ops (⟨dst,op,ty,pos,after,none⟩::rest) e σ K):eC P nt ops (⟨dst,op,ty,pos,after,some (j,want)⟩::rest) e σ K :=
 HH hj hb (fun _=>k1) (fun h=>by cases want <;> cases h)
theorem XR {op:Op} {j t:Nat} {want:Bool} {dst:Option Nat} {ty:TypeId} {pos:String} {after:Array Edge} {rest:List Oper} (hj:(ops[j]?).bind (·.dst)=some t) (hb:e.get t=some (.d (.sc (.bool !want))))
  (k2:eC P nt ops rest (e.del dst) σ K):eC P nt ops (⟨dst,op,ty,pos,after,some (j,want)⟩::rest) e σ K :=
 HH hj hb (fun h=>by cases want <;> cases h) (fun _=>k2)
end
def eQ:Option DV→List Nat
 | some (.ptr id _)=>[id]
 | some (.eptr id _ _ _)=>[id]
 | some (.arr id)=>[id]
 | some (.mp id)=>[id]
 | _=>[]
def dA (op:Op) (e:aW):List Nat :=
 match op with
 | .load _ x=>eQ (e.ev x)
 | .indexAddr _ x _=>eQ (e.ev x)
 | .lookup _ x _ _=>eQ (e.ev x)
 | .convert _ _ x=>eQ (e.ev x)
 | .call { callee := .builtin .len,args,.. }=>args.toList.flatMap fun x=>eQ (e.ev x)
 | _=>[]
def bF (op:Op) (e:aW) (nid:Nat):List Nat :=
 match op with
 | .store _ a _=>eQ (e.ev a)
 | .alloc _=>[nid]
 | .box _ _=>[nid]
 | .buildSlice _ _ _=>[nid]
 | .makeSlice _ _ _=>[nid]
 | .makeMap _ _=>[nid]
 | .slice _ x _ _ _=>nid::eQ (e.ev x)
 | .insert _ m _ _=>eQ (e.ev m)
 | .mapUpdate _ m _ _=>eQ (e.ev m)
 | .call { callee := .builtin .append,args,.. }=>nid::args.toList.flatMap fun x=>eQ (e.ev x)
 | .call { callee := .builtin .copy,args,.. }=>args.toList.flatMap fun x=>eQ (e.ev x)
 | _=>[]
section
variable {P:Program} {X:Nat→Prop} {e e2:aW} {σ σ2 σ':aA}
theorem iP {α β:Type} {f g:α→Option β}:∀ (l:List α),(∀ x ∈ l,f x=g x)→l.mapM f=l.mapM g
 | [],_=>rfl
 | a::l,h=>by
  simp only [List.mapM_cons]
  rw [h a (by simp),iP l (fun x hx=>h x (by simp [hx]))]
theorem qC {op:Op} (he:∀ x ∈ op.operands.toList,e2.ev x=e.ev x) (hσ:∀ id ∈ dA op e,σ2.look id=σ.look id):aK P op e2 σ2=aK P op e σ:=by
 cases op with
 | move x=>simp only [aK];exact he x (by simp [Op.operands])
 | assign x=>simp only [aK];exact he x (by simp [Op.operands])
 | pick c x y=>simp only [aK,he c (by simp [Op.operands]),he x (by simp [Op.operands]),he y (by simp [Op.operands])]
 | nilCheck x=>simp only [aK,he x (by simp [Op.operands])]
 | load t x =>
  simp only [aK,he x (by simp [Op.operands])]
  simp only [dA] at hσ
  cases hx:e.ev x with
  | none=>rfl
  | some d =>
   rw [hx] at hσ
   cases d with
   | ptr id off=>simp only [hσ id (by simp [eQ])]
   | eptr id i sz off=>simp only [hσ id (by simp [eQ])]
   | d y =>
    cases y with
    | sc v =>
     cases v with
     | pointer p =>
      cases p with
      | none=>rfl
      | some ad=>obtain ⟨b,o,s⟩:=ad;cases s <;> rfl
     | _=>rfl
    | _=>rfl
   | _=>rfl
 | fieldAddr s x f=>simp only [aK,he x (by simp [Op.operands])]
 | indexAddr t x i =>
  simp only [aK,he x (by simp [Op.operands]),he i (by simp [Op.operands])]
  simp only [dA] at hσ
  cases hx:e.ev x with
  | none=>rfl
  | some d =>
   rw [hx] at hσ
   cases d with
   | arr id=>simp only [hσ id (by simp [eQ])]
   | d y=>cases y <;> rfl
   | _=>rfl
 | index t x i=>simp only [aK,he x (by simp [Op.operands]),he i (by simp [Op.operands])]
 | binOp op t x y yt=>simp only [aK,he x (by simp [Op.operands]),he y (by simp [Op.operands])]
 | unOp op t x=>simp only [aK,he x (by simp [Op.operands])]
 | convert s t x =>
  have key:∀ id,e.ev x=some (.arr id)→σ2.look id=σ.look id:=fun id h=>hσ id (by simp [dA,h,eQ])
  simp only [aK,he x (by simp [Op.operands])]
  cases hx:e.ev x with
  | none=>cases P.underlying t with
   | none=>rfl
   | some td=>cases td <;> rfl
  | some d =>
   cases d with
   | arr id=>cases P.underlying t with
    | none=>rfl
    | some td=>cases td <;> first | rfl | simp only [key id hx]
   | d y=>cases y with
    | sc v=>cases P.underlying t with
     | none=>rfl
     | some td=>cases td <;> cases v <;> rfl
    | _=>cases P.underlying t with
     | none=>rfl
     | some td=>cases td <;> rfl
   | _=>cases P.underlying t with
    | none=>rfl
    | some td=>cases td <;> rfl
 | extract x i=>simp only [aK,he x (by simp [Op.operands])]
 | field t x f=>simp only [aK,he x (by simp [Op.operands])]
 | makeInterface t x=>simp only [aK,he x (by simp [Op.operands])]
 | build t parts =>
  have hp:parts.toList.mapM (fun p=>(e2.ev p.2).bind fun v=>if pT v then some (p.1,v) else none)=parts.toList.mapM (fun p=>(e.ev p.2).bind fun v=>if pT v then some (p.1,v) else none) :=
   iP _ (fun p hp=>by rw [he p.2 (by simp [Op.operands];exact ⟨p.1,by simpa using hp⟩)])
  simp only [aK,hp]
 | makeFunc fn first cap =>
  have h1:first.toList.mapM e2.ev=first.toList.mapM e.ev:=iP _ (fun x hx=>he x (by simp [Op.operands];exact .inl (by simpa using hx)))
  have h2:cap.toList.mapM e2.ev=cap.toList.mapM e.ev:=iP _ (fun x hx=>he x (by simp [Op.operands];exact .inr (by simpa using hx)))
  simp only [aK,h1,h2]
 | slice t x lo hi mx =>
  have hx:=he x (by simp [Op.operands])
  have hb:∀ (o:Option Operand),(∀ y,o=some y→e2.ev y=e.ev y)→∀ a b,eX e2 a b o=eX e a b o:=by
   intro o ho a b
   cases o with
   | none=>rfl
   | some y=>simp only [eX,ho y rfl]
  have h1:=hb lo (fun y hy=>he y (by subst hy;simp [Op.operands]))
  have h2:=hb hi (fun y hy=>he y (by subst hy;simp [Op.operands]))
  cases mx with
  | none=>simp only [aK,hx,h1,h2]
  | some m=>rfl
 | call c =>
  obtain ⟨callee,args,ts⟩:=c
  cases callee with
  | builtin b =>
   cases b with
   | len =>
    simp only [aK]
    cases ha:args.toList with
    | nil=>rfl
    | cons x rest =>
     cases rest with
     | cons y rest=>rfl
     | nil =>
      have hx:=he x (by
       have:x ∈ args.toList:=by rw [ha];simp
       simp [Op.operands,Call.operands]
       simpa using this)
      cases ts[0]? with
      | none=>rfl
      | some t =>
       simp only [hx]
       simp only [dA,ha,List.flatMap_cons,List.flatMap_nil,List.append_nil] at hσ
       cases hd:e.ev x with
       | none=>rfl
       | some d =>
        rw [hd] at hσ
        cases d with
        | d y =>
         cases y with
         | sc v=>cases P.underlying t with
          | none=>cases v <;> rfl
          | some u=>cases u <;> cases v <;> rfl
         | _=>cases P.underlying t with
          | none=>rfl
          | some u=>cases u <;> rfl
        | arr id =>
         simp only [eQ] at hσ
         have h1:=hσ id (List.mem_singleton.2 rfl)
         cases P.underlying t with
         | none=>rfl
         | some u=>cases u <;> first | rfl | simp only [h1]
        | _=>cases P.underlying t with
         | none=>rfl
         | some u=>cases u <;> rfl
   | _=>rfl
  | _=>rfl
 | _=>rfl
end
def iF:Op→Bool
 | .alloc _=>true
 | .box _ _=>true
 | .buildSlice _ _ _=>true
 | .makeSlice _ _ _=>true
 | .makeMap _ _=>true
 | .slice _ _ _ _ _=>true
 | .call { callee := .builtin .append,.. }=>true
 | _=>false
section
variable {P:Program} {X:Nat→Prop} {e e2:aW} {σ σ2 σ':aA} {nid:Nat}
def KR (W:List Nat) (σ' σ2 σ2':aA):Prop:=σ2'.length=σ2.length∧(∀ j,j ∈ W→σ2'.look j=σ'.look j)∧∀ j,j ∉ W→σ2'.look j=σ2.look j
theorem hQ {id:Nat} {o:Option aU} (h1:id≤σ.length) (h2:id < σ2.length) (W:List Nat) (hW:∀ j,j ∈ W→σ2.look j=σ.look j) :
  KR (id::W) (σ.put id o) σ2 (σ2.put id o):=by
 refine ⟨by simp [aA.put_eq,h2],fun j hj=>?_,fun j hj=>?_⟩
 ·rw [aA.look_put (Nat.le_of_lt h2),aA.look_put h1]
  by_cases hji:j=id
  ·simp [hji]
  ·simp only [hji,if_false]
   exact hW j (by simpa [hji] using hj)
 ·rw [aA.look_put (Nat.le_of_lt h2),if_neg (fun h=>hj (by simp [h]))]
theorem jO {old:Option Nat} (h:∀ i,old=some i→i < σ.length) (j:Nat):(σ.less old).look j=if old=some j then none else σ.look j:=by
 cases old with
 | none=>simp [aA.less]
 | some i =>
  simp only [aA.less]
  rw [aA.look_put (Nat.le_of_lt (h i rfl))]
  by_cases hj:j=i
  ·subst hj;simp
  ·simp [hj,Ne.symm hj]
theorem eR {old:Option Nat} (h:∀ i,old=some i→i < σ.length):(σ.less old).length=σ.length:=by
 cases old with
 | none=>rfl
 | some i=>simp [aA.less,aA.put_eq,h i rfl]
theorem E6 {el:TypeId} {d:DV} (h:∀ id,id ∈ eQ (some d)→σ2.look id=σ.look id):vV σ2 el d=vV σ el d:=by
 cases d <;> simp only [eQ] at h <;> try rfl
 simp only [vV,h _ (List.mem_singleton.2 rfl)]
theorem yJ {sz:Nat} {d:DV} (h:∀ id,id ∈ eQ (some d)→σ2.look id=σ.look id):rT P σ2 sz d=rT P σ sz d:=by
 cases d <;> simp only [eQ] at h <;> try rfl
 ·rename_i y
  cases y with
  | sc v=>cases v <;> rfl
  | _=>rfl
 ·simp only [rT,h _ (List.mem_singleton.2 rfl)]
theorem s6 {el:TypeId} {d:DV} {es:List (List DV)} {old:Option Nat} (h:vV σ el d=some (es,old)):∀ i,old=some i→i < σ.length∧i ∈ eQ (some d):=by
 intro i hi
 subst hi
 unfold vV at h
 split at h
 ·cases h
 ·split at h
  ·rename_i hl
   split at h
   ·cases h;exact ⟨a7 hl,by simp [eQ]⟩
   ·cases h
  ·cases h
 ·cases h
theorem vW {op:Op} (he:∀ x ∈ op.operands.toList,e2.ev x=e.ev x) (hσ:∀ id,id ∈ bF op e nid→σ2.look id=σ.look id) (h:dW P op e σ=some σ') :
  ∃ σ2',dW P op e2 σ2=some σ2'∧KR (bF op e nid) σ' σ2 σ2':=by
 unfold dW at h
 split at h
 ·rename_i t a x
  simp only [bF] at hσ ⊢
  have hx:=he x (by simp [Op.operands])
  have ha:=he a (by simp [Op.operands])
  split at h
  ·rename_i i d hi hd
   split at h
   ·rename_i hc
    split at h
    ·rename_i id off hp
     rw [hp] at hσ
     simp only [eQ,List.mem_singleton,forall_eq] at hσ
     split at h
     ·rename_i ty cells hl
      split at h
      ·rename_i hle
       cases h
       refine ⟨σ2.put id (some (.box ty (cells.take off++aH d++cells.drop (off + i.size)))),?_,?_⟩
       ·simp only [dW,hi,hx,hd,hc,if_true,ha,hp,hσ,hl,hle]
       ·have:=hQ (σ:=σ) (σ2:=σ2) (o:=some (.box ty (cells.take off++aH d++cells.drop (off + i.size)))) (Nat.le_of_lt (a7 hl)) (a7 (hσ.trans hl)) [] (by simp)
        rw [hp]
        exact this
      ·cases h
     ·cases h
    ·rename_i id k sz off hp
     rw [hp] at hσ
     simp only [eQ,List.mem_singleton,forall_eq] at hσ
     split at h
     ·rename_i elem es hl
      split at h
      ·rename_i c hk
       split at h
       ·rename_i hle
        cases h
        refine ⟨σ2.put id (some (.arr elem (es.set k (c.take off++aH d++c.drop (off + i.size))))),?_,?_⟩
        ·simp only [dW,hi,hx,hd,hc,if_true,ha,hp,hσ,hl,hle,hk,and_self]
        ·have:=hQ (σ:=σ) (σ2:=σ2) (o:=some (.arr elem (es.set k (c.take off++aH d++c.drop (off + i.size))))) (Nat.le_of_lt (a7 hl)) (a7 (hσ.trans hl)) [] (by simp)
         rw [hp]
         exact this
       ·cases h
      ·cases h
     ·cases h
    ·cases h
   ·cases h
  ·cases h
 ·cases h
theorem rV {op:Op} {d:DV} (hf:bF op e nid=[nid]) (he:∀ x ∈ op.operands.toList,e2.ev x=e.ev x) (hn:nid≤σ.length) (hn2:nid < σ2.length) (h:fT P op e σ nid=some (d,σ')) :
  ∃ σ2',fT P op e2 σ2 nid=some (d,σ2')∧KR (bF op e nid) σ' σ2 σ2':=by
 rw [hf]
 unfold fT at h
 split at h
 ·split at h
  ·rename_i d' hd
   split at h
   ·rename_i hc
    cases h
    exact ⟨_,by simp only [fT,hd,hc,if_true],hQ hn hn2 [] (by simp)⟩
   ·cases h
  ·cases h
 ·rename_i t x
  have hx:=he x (by simp [Op.operands])
  split at h
  ·rename_i d' hd
   split at h
   ·rename_i hc
    cases h
    exact ⟨_,by simp only [fT,hx,hd,hc,if_true],hQ hn hn2 [] (by simp)⟩
   ·cases h
  ·cases h
 ·cases h
theorem rX {op:Op} {d:DV} (hf:bF op e nid=[nid]) (he:∀ x ∈ op.operands.toList,e2.ev x=e.ev x) (hσ:σ2.look nid=σ.look nid) (hn:nid≤σ.length) (hn2:nid < σ2.length) (h:fD P op e σ nid=some (d,σ')) :
  ∃ σ2',fD P op e2 σ2 nid=some (d,σ2')∧KR (bF op e nid) σ' σ2 σ2':=by
 rw [hf]
 unfold fD at h
 split at h
 ·rename_i t len parts
  have hp:parts.toList.mapM (fun p=>e2.ev p.2)=parts.toList.mapM (fun p=>e.ev p.2) :=
   iP _ (fun p hp=>he p.2 (by simp [Op.operands];exact ⟨p.1,by simpa using hp⟩))
  split at h
  ·rename_i el sz vs h1 h2
   split at h
   ·rename_i hc
    split at h
    ·rename_i es hes
     cases h
     refine ⟨σ2,by simp only [fD,h1,hp,h2,hc,and_self,if_true,hes],rfl,fun id hid=>?_,fun _ _=>rfl⟩
     simp at hid;subst hid;exact hσ
    ·rename_i hes
     cases h
     exact ⟨_,by simp only [fD,h1,hp,h2,hc,and_self,if_true,hes],hQ hn hn2 [] (by simp)⟩
   ·cases h
  ·cases h
 ·rename_i t l c
  have hl:=he l (by simp [Op.operands])
  have hc:=he c (by simp [Op.operands])
  split at h
  ·rename_i el sz k1 n k2 m h1 h2 h3
   split at h
   ·rename_i inf z h4 h5
    split at h
    ·rename_i hh
     cases h
     exact ⟨_,by simp only [fD,hl,hc,h1,h2,h3,h4,h5,hh,and_self,if_true],hQ hn hn2 [] (by simp)⟩
    ·cases h
   ·cases h
  ·cases h
 ·cases h
theorem uL {op:Op} {d:DV} (he:∀ x ∈ op.operands.toList,e2.ev x=e.ev x) (hσ:∀ id,id ∈ bF op e nid→σ2.look id=σ.look id) (hn:nid≤σ.length) (hn2:nid < σ2.length) (h:d8 P op e σ nid=some (d,σ')) :
  ∃ σ2',d8 P op e2 σ2 nid=some (d,σ2')∧KR (bF op e nid) σ' σ2 σ2':=by
 unfold d8 at h
 split at h
 ·rename_i args ts
  simp only [bF] at hσ ⊢
  split at h
  ·rename_i x y t u ha h0 h1
   have hx:=he x (by
    have:x ∈ args.toList:=by rw [ha];simp
    simp [Op.operands,Call.operands];simpa using this)
   have hy:=he y (by
    have:y ∈ args.toList:=by rw [ha];simp
    simp [Op.operands,Call.operands];simpa using this)
   split at h
   ·rename_i el sz ud dx dy h2 h3 h4 h5
    rw [ha] at hσ
    simp only [ha]
    simp only [List.flatMap_cons,h4,h5,List.flatMap_nil,List.append_nil] at hσ ⊢
    have hdl:=E6 (σ:=σ) (σ2:=σ2) (el:=el) (d:=dx) (fun id hid=>hσ id (by simp [hid]))
    have hsl:=yJ (P:=P) (σ:=σ) (σ2:=σ2) (sz:=sz) (d:=dy) (fun id hid=>hσ id (by simp [hid]))
    split at h
    ·cases h
    ·rename_i hud
     split at h
     ·rename_i inf es old xs h6 h7 h8
      split at h
      ·rename_i hc
       cases h
       have tN:=s6 h7
       have hold2:=s6 (hdl.trans h7)
       have l1:nid≤(σ2.less old).length:=by rw [eR (fun i hi=>(hold2 i hi).1)];exact Nat.le_of_lt hn2
       have l2:nid≤(σ.less old).length:=by rw [eR (fun i hi=>(tN i hi).1)];exact hn
       refine ⟨(σ2.less old).put nid (some (.arr el (es++xs))),?_,?_,fun id hid=>?_,fun id hid=>?_⟩
       ·simp only [d8,ha,h0,h1,h2,h3,hx,hy,h4,h5,hdl,hsl,h6,h7,h8,hc,if_true]
       ·rw [← eR (σ:=σ2) (fun i hi=>(hold2 i hi).1)]
        simp [aA.put_eq,eR (σ:=σ2) (fun i hi=>(hold2 i hi).1),hn2]
       ·rw [aA.look_put l1,aA.look_put l2,jO (fun i hi=>(hold2 i hi).1),jO (fun i hi=>(tN i hi).1),hσ id hid]
       ·have hne:id≠nid:=fun h=>hid (by simp [h])
        have hno:old≠some id:=fun h=>hid (by have:=(tN id h).2;simp [this])
        rw [aA.look_put l1,if_neg hne,jO (fun i hi=>(hold2 i hi).1),if_neg hno]
      ·cases h
     ·cases h
   ·cases h
  ·cases h
 ·cases h
theorem xA {op:Op} {d:DV} (he:∀ x ∈ op.operands.toList,e2.ev x=e.ev x) (hσ:∀ id,id ∈ bF op e nid→σ2.look id=σ.look id) (h:gF P op e σ=some (d,σ')) :
  ∃ σ2',gF P op e2 σ2=some (d,σ2')∧KR (bF op e nid) σ' σ2 σ2':=by
 unfold gF at h
 split at h
 ·rename_i args ts
  simp only [bF] at hσ ⊢
  split at h
  ·rename_i x y t ha h0
   have hx:=he x (by
    have:x ∈ args.toList:=by rw [ha];simp
    simp [Op.operands,Call.operands];simpa using this)
   have hy:=he y (by
    have:y ∈ args.toList:=by rw [ha];simp
    simp [Op.operands,Call.operands];simpa using this)
   split at h
   ·rename_i el sz id dy h1 h2 h3
    rw [ha] at hσ
    simp only [ha]
    simp only [List.flatMap_cons,h2,h3,List.flatMap_nil,List.append_nil] at hσ ⊢
    have hid:=hσ id (by simp [eQ])
    have hsl:=yJ (P:=P) (σ:=σ) (σ2:=σ2) (sz:=sz) (d:=dy) (fun i hi=>hσ i (by simp [hi]))
    split at h
    ·rename_i el' es xs hl hs
     split at h
     ·rename_i hel
      subst hel
      cases h
      refine ⟨σ2.put id (some (.arr el' (xs.take es.length++es.drop xs.length))),by simp only [gF,ha,h0,h1,hx,hy,h2,h3,hid,hl,hsl,hs,if_true],?_⟩
      exact hQ (Nat.le_of_lt (a7 hl)) (a7 (hid.trans hl)) (eQ (some dy)) (fun j hj=>hσ j (by simp [hj]))
     ·cases h
    ·cases h
   ·cases h
  ·cases h
 ·cases h
theorem C7 {kd:TypeDesc} {vt:TypeId} {k:Value} {d:DV} (hσ:∀ id,id ∈ eQ (some d)→σ2.look id=σ.look id):lY P kd vt k σ2 d=lY P kd vt k σ d:=by
 cases d with
 | mp id=>simp only [lY,hσ id (by simp [eQ])]
 | d x=>cases x <;> rfl
 | _=>rfl
theorem lO {op:Op} {d:Option DV} (he:∀ x ∈ op.operands.toList,e2.ev x=e.ev x) (hR:∀ id,id ∈ dA op e→σ2.look id=σ.look id) (hW:∀ id,id ∈ bF op e nid→σ2.look id=σ.look id) (hn:nid≤σ.length) (hn2:iF op=true→nid < σ2.length)
  (h:c8 P op e σ nid=some (d,σ')):∃ σ2',c8 P op e2 σ2 nid=some (d,σ2')∧KR (bF op e nid) σ' σ2 σ2':=by
 have upd:∀ (t:TypeId) (m k v:Operand),e2.ev m=e.ev m→e2.ev k=e.ev k→e2.ev v=e.ev v→(∀ id,id ∈ eQ (e.ev m)→σ2.look id=σ.look id)→c8 P (.insert t m k v) e σ nid=some (d,σ')→∃ σ2',c8 P (.insert t m k v) e2 σ2 nid=some (d,σ2')∧KR (eQ (e.ev m)) σ' σ2 σ2':=by
  intro t m k v h1 h2 h3 hW h
  simp only [c8] at h ⊢
  rw [h1,h2,h3]
  split at h
  ·rename_i kd vt id kv dv g1 g2 g3 g4
   rw [g2] at hW
   have hid:=hW id (by simp [eQ])
   split at h
   ·rename_i es hes
    split at h
    ·rename_i hk
     simp only [Option.map_eq_some_iff] at h
     obtain ⟨q,hq,hr⟩:=h
     cases hr
     refine ⟨σ2.put id (some (.map (tV es kv dv q))),?_,?_⟩
     ·simp only [hid,hes,hk,if_true,hq,Option.map]
     ·rw [g2]
      exact hQ (Nat.le_of_lt (a7 hes)) (a7 (hid.trans hes)) [] (fun j hj=>by simp at hj)
    ·cases h
   ·cases h
  ·cases h
 cases op with
 | makeMap t r =>
  have hlt:=hn2 rfl
  cases r with
  | none =>
   simp only [c8] at h
   cases h
   exact ⟨_,rfl,hQ hn hlt [] (by simp)⟩
  | some x =>
   have hx:=he x (by simp [Op.operands])
   simp only [c8] at h
   split at h
   ·rename_i h1 h2
    cases h
    exact ⟨σ2.put nid (some (.map [])),by simp only [c8,hx,h1,h2],hQ hn hlt [] (by simp)⟩
   ·cases h
 | insert t m k v=>exact upd t m k v (he m (by simp [Op.operands])) (he k (by simp [Op.operands])) (he v (by simp [Op.operands])) hW h
 | mapUpdate t m k v=>exact upd t m k v (he m (by simp [Op.operands])) (he k (by simp [Op.operands])) (he v (by simp [Op.operands])) hW h
 | lookup t x k ok =>
  have hx:=he x (by simp [Op.operands])
  have hk:=he k (by simp [Op.operands])
  simp only [dA] at hR
  simp only [c8] at h ⊢
  split at h
  ·rename_i kd vt dx kv g1 g2 g3
   rw [g2] at hR
   split at h
   ·rename_i hkk
    simp only [Option.map_eq_some_iff] at h
    obtain ⟨q,hq,hr⟩:=h
    cases hr
    refine ⟨σ2,?_,rfl,fun _ hj=>by simp [bF] at hj,fun _ _=>rfl⟩
    simp only [hx,hk,g1,g2,g3,hkk,if_true,C7 hR,hq,Option.map]
   ·cases h
  ·cases h
 | _=>simp [c8] at h
theorem yX {op:Op} {d:DV} (he:∀ x ∈ op.operands.toList,e2.ev x=e.ev x) (hW:∀ id,id ∈ bF op e nid→σ2.look id=σ.look id) (hn:nid≤σ.length) (hn2:nid < σ2.length) (h:eI P op e σ nid=some (d,σ')) :
  ∃ σ2',eI P op e2 σ2 nid=some (d,σ2')∧KR (bF op e nid) σ' σ2 σ2':=by
 cases op with
 | slice t x lo hi mx =>
  have hx:=he x (by simp [Op.operands])
  have hb:∀ (o:Option Operand),(∀ y,o=some y→e2.ev y=e.ev y)→∀ a b,eX e2 a b o=eX e a b o:=by
   intro o ho a b
   cases o with
   | none=>rfl
   | some y=>simp only [eX,ho y rfl]
  have h1:=hb lo (fun y hy=>he y (by subst hy;simp [Op.operands]))
  have h2:=hb hi (fun y hy=>he y (by subst hy;simp [Op.operands]))
  have same:σ'=σ→∀ σ2',σ2'=σ2→KR (bF (.slice t x lo hi mx) e nid) σ' σ2 σ2':=by
   rintro rfl _ rfl
   exact ⟨rfl,fun j hj=>hW j hj,fun _ _=>rfl⟩
  cases mx with
  | none =>
   simp only [eI] at h ⊢
   rw [hx]
   split at h
   ·rename_i id hid
    simp only [bF,hid] at hW ⊢
    split at h
    ·rename_i el sz el' es g1 g2
     split at h
     ·rename_i hee
      split at h
      ·rename_i hb' g3
       split at h
       ·rename_i lb g4
        cases h
        have hi2:=hW id (by simp [eQ])
        have hidl:=a7 g2
        have hidl2:=a7 (hi2.trans g2)
        refine ⟨(σ2.less (some id)).put nid (some (.arr el ((es.drop lb).take (hb' - lb)))),?_,?_,fun j hj=>?_,fun j hj=>?_⟩
        ·simp only [g1,hi2,g2,hee,if_true,h1,h2,g3,g4]
        ·have hL:(σ2.less (some id)).length=σ2.length:=eR (fun i hi=>by cases hi;exact hidl2)
         rw [aA.length_put,hL,if_pos hn2]
        ·rw [aA.look_put (by rw [eR (fun i hi=>by cases hi;exact hidl2)];omega),aA.look_put (by rw [eR (fun i hi=>by cases hi;exact hidl)];exact hn),jO (fun i hi=>by cases hi;exact hidl2),jO (fun i hi=>by cases hi;exact hidl),hW j hj]
        ·have hne:j≠nid:=fun h=>hj (by simp [h])
         have hno:(some id:Option Nat)≠some j:=fun h=>hj (by cases h;simp [eQ])
         rw [aA.look_put (by rw [eR (fun i hi=>by cases hi;exact hidl2)];omega),if_neg hne,jO (fun i hi=>by cases hi;exact hidl2),if_neg hno]
       ·cases h
      ·cases h
     ·cases h
    ·cases h
   ·rename_i hnarr
    obtain ⟨y,hy,hz⟩:=Option.map_eq_some_iff.1 h
    cases hz
    have:=qC (P:=P) (e:=e) (e2:=e2) (σ:=σ) (σ2:=σ2) (op := .slice t x lo hi none) he (fun id hid=>by simp [dA] at hid)
    refine ⟨σ2,?_,same rfl _ rfl⟩
    rw [this,hy];rfl
  | some m =>
   have hm:=he m (by simp [Op.operands])
   cases lo with
   | some _=>simp [eI] at h
   | none =>
    cases hi with
    | none=>simp [eI] at h
    | some y =>
     have hy:=he y (by simp [Op.operands])
     simp only [eI] at h ⊢
     rw [hx,hy,hm]
     split at h
     ·rename_i g1 g2 g3 g4
      cases h
      exact ⟨σ2,rfl,same rfl _ rfl⟩
     ·rename_i g1 g2 g3 g4
      cases h
      exact ⟨σ2,rfl,same rfl _ rfl⟩
     ·rename_i g1 g2 g3 g4
      cases h
      exact ⟨σ2,rfl,same rfl _ rfl⟩
     ·cases h
 | _=>simp [eI] at h
theorem tB {op:Op} {d:Option DV} (he:∀ x ∈ op.operands.toList,e2.ev x=e.ev x) (hR:∀ id,id ∈ dA op e→σ2.look id=σ.look id) (hW:∀ id,id ∈ bF op e nid→σ2.look id=σ.look id) (hn:nid≤σ.length) (hn2:iF op=true→nid < σ2.length)
  (h:aZ P op e σ nid=some (d,σ')):∃ σ2',aZ P op e2 σ2 nid=some (d,σ2')∧KR (bF op e nid) σ' σ2 σ2':=by
 have pure:bF op e nid=[]→aZ P op e σ nid=(aK P op e σ).map (fun d=>((some d:Option DV),σ))→aZ P op e2 σ2 nid=(aK P op e2 σ2).map (fun d=>((some d:Option DV),σ2)) →
   ∃ σ2',aZ P op e2 σ2 nid=some (d,σ2')∧KR (bF op e nid) σ' σ2 σ2':=by
  intro hf h1 h2
  rw [h1] at h
  rw [h2,qC he hR]
  cases hp:aK P op e σ with
  | none=>simp [hp] at h
  | some y =>
   simp [hp] at h
   obtain ⟨rfl,rfl⟩:=h
   exact ⟨σ2,rfl,by rw [hf];exact ⟨rfl,fun _ hj=>by simp at hj,fun _ _=>rfl⟩⟩
 cases op with
 | alloc t =>
  simp only [aZ,Option.map_eq_some_iff] at h
  obtain ⟨⟨a,s⟩,h1,h2⟩:=h
  cases h2
  obtain ⟨s',h3,h4⟩:=rV (σ2:=σ2) (op := .alloc t) rfl he hn (hn2 rfl) h1
  exact ⟨s',by simp [aZ,h3],h4⟩
 | box t x =>
  simp only [aZ,Option.map_eq_some_iff] at h
  obtain ⟨⟨a,s⟩,h1,h2⟩:=h
  cases h2
  obtain ⟨s',h3,h4⟩:=rV (σ2:=σ2) (op := .box t x) rfl he hn (hn2 rfl) h1
  exact ⟨s',by simp [aZ,h3],h4⟩
 | buildSlice t n ps =>
  simp only [aZ,Option.map_eq_some_iff] at h
  obtain ⟨⟨a,s⟩,h1,h2⟩:=h
  cases h2
  obtain ⟨s',h3,h4⟩:=rX (σ2:=σ2) (op := .buildSlice t n ps) rfl he (hW nid (by simp [bF])) hn (hn2 rfl) h1
  exact ⟨s',by simp [aZ,h3],h4⟩
 | makeMap t r=>exact lO he hR hW hn hn2 h
 | insert t m k v=>exact lO he hR hW hn hn2 h
 | mapUpdate t m k v=>exact lO he hR hW hn hn2 h
 | lookup t x k ok=>exact lO he hR hW hn hn2 h
 | slice t x lo hi mx =>
  simp only [aZ,Option.map_eq_some_iff] at h
  obtain ⟨⟨a,s⟩,h1,h2⟩:=h
  cases h2
  obtain ⟨s',h3,h4⟩:=yX he hW hn (hn2 rfl) h1
  exact ⟨s',by simp [aZ,h3],h4⟩
 | makeSlice t n c =>
  simp only [aZ,Option.map_eq_some_iff] at h
  obtain ⟨⟨a,s⟩,h1,h2⟩:=h
  cases h2
  obtain ⟨s',h3,h4⟩:=rX (σ2:=σ2) (op := .makeSlice t n c) rfl he (hW nid (by simp [bF])) hn (hn2 rfl) h1
  exact ⟨s',by simp [aZ,h3],h4⟩
 | store t x y =>
  simp only [aZ,Option.map_eq_some_iff] at h
  obtain ⟨s,h1,h2⟩:=h
  cases h2
  obtain ⟨s',h3,h4⟩:=vW (nid:=nid) he hW h1
  exact ⟨s',by simp [aZ,h3],h4⟩
 | call c =>
  obtain ⟨callee,args,ts⟩:=c
  cases callee with
  | builtin b =>
   cases b with
   | append =>
    simp only [aZ,Option.map_eq_some_iff] at h
    obtain ⟨⟨a,s⟩,h1,h2⟩:=h
    cases h2
    obtain ⟨s',h3,h4⟩:=uL he hW hn (hn2 rfl) h1
    exact ⟨s',by simp [aZ,h3],h4⟩
   | max =>
    simp only [aZ,Option.map_eq_some_iff] at h
    obtain ⟨y,hy,hz⟩:=h
    cases hz
    exact ⟨σ2,by simp only [aZ,s9 he,hy,Option.map],rfl,fun _ hj=>by simp [bF] at hj,fun _ _=>rfl⟩
   | min =>
    simp only [aZ,Option.map_eq_some_iff] at h
    obtain ⟨y,hy,hz⟩:=h
    cases hz
    exact ⟨σ2,by simp only [aZ,s9 he,hy,Option.map],rfl,fun _ hj=>by simp [bF] at hj,fun _ _=>rfl⟩
   | copy =>
    simp only [aZ,Option.map_eq_some_iff] at h
    obtain ⟨⟨a,s⟩,h1,h2⟩:=h
    cases h2
    obtain ⟨s',h3,h4⟩:=xA (nid:=nid) he hW h1
    exact ⟨s',by simp [aZ,h3],h4⟩
   | _=>exact pure rfl rfl rfl
  | _=>exact pure rfl rfl rfl
 | _=>exact pure rfl rfl rfl
end
end Go.Ab
namespace Go.Ab
open Classical
def bN (o:Oper):List Nat:=(o.after.toList.filter fun e=>Region.binds .any e).map (·.on)
structure pS where
 ix:Nat
 o:Oper
 val:Option DV
 R:List Nat
 W:Nat→Prop
 nids:List Nat
 out:Nat→Option aU
 done:Bool
section
variable {α:Type} (b0:Nat→α) (tch:pS→Nat→Prop) (vl:pS→Nat→α)
noncomputable def iE (L:Nat→Bool):List pS→Nat→α
 | [],t=>b0 t
 | r::rs,t=>if L r.ix=true∧tch r t then vl r t else iE L rs t
variable {b0 tch vl} {L:Nat→Bool} {r0:pS} {pre:List pS} {t:Nat}
def AS:Nat→Bool:=fun _=>true
def gO (L:Nat→Bool) (i:Nat):Nat→Bool:=fun j=>if j=i then true else L j
theorem jP:∀ {rs:List pS},(∀ a ∈ rs,tch a t→L a.ix=true)→iE b0 tch vl L rs t=iE b0 tch vl AS rs t
 | [],_=>rfl
 | a::rs,h=>by
  simp only [iE,AS,true_and]
  rw [jP (rs:=rs) (fun x hx=>h x (by simp [hx]))]
  by_cases ht:tch a t
  ·simp [ht,h a (by simp) ht]
  ·simp [ht]
theorem uV:∀ {post:List pS},(∀ b ∈ post,tch b t→L b.ix=false)→(∀ a ∈ pre,tch a t→L a.ix=true)→L r0.ix=false→iE b0 tch vl L (post++r0::pre) t=iE b0 tch vl AS pre t
 | [],_,h2,h3=>by
  simp only [List.nil_append,iE,h3,Bool.false_eq_true,false_and,if_false]
  exact jP h2
 | b::post,h1,h2,h3=>by
  simp only [List.cons_append,iE]
  rw [if_neg (fun h=>by have:=h1 b (by simp) h.2;rw [this] at h;exact absurd h.1 (by simp))]
  exact uV (fun x hx=>h1 x (by simp [hx])) h2 h3
theorem uU:∀ {post:List pS},(∀ b ∈ post,b.ix≠r0.ix)→(∀ b ∈ post,tch b t→L b.ix=false)→tch r0 t→iE b0 tch vl (gO L r0.ix) (post++r0::pre) t=vl r0 t
 | [],_,_,h3=>by simp [iE,gO,h3]
 | b::post,h0,h1,h3=>by
  simp only [List.cons_append,iE]
  rw [if_neg (fun h=>by
   have:=h1 b (by simp) h.2
   have hn:=h0 b (by simp)
   simp [gO,hn,this] at h)]
  exact uU (fun x hx=>h0 x (by simp [hx])) (fun x hx=>h1 x (by simp [hx])) h3
theorem oH:∀ {rs:List pS},(∀ a ∈ rs,tch a t→a.ix≠r0.ix)→iE b0 tch vl (gO L r0.ix) rs t=iE b0 tch vl L rs t
 | [],_=>rfl
 | a::rs,h=>by
  simp only [iE]
  rw [oH (rs:=rs) (fun x hx=>h x (by simp [hx]))]
  by_cases ht:tch a t
  ·have hn:=h a (by simp) ht
   simp [gO,hn]
  ·simp [ht]
end
abbrev YJ (r:pS) (t:Nat):Prop:=r.o.dst=some t
abbrev vlS (r:pS) (_:Nat):Option DV:=r.val
abbrev YI (r:pS) (id:Nat):Prop:=r.W id
abbrev vlO (r:pS) (id:Nat):Option aU:=r.out id
section
variable {P:Program} {X:Nat→Prop} {nt:Nat} {w0:World} {ι0 ι:bZ} {σ0:aA} {e e2:aW} {σ σ2 σ':aA} {a:Act} {w:World} {ops:Array Oper}
theorem St.stepD {ι':bZ} {w':World} (h:St P X nt w0 ι0 σ0 ι e σ a w) (hc:Comes' P X ι σ σ' w ι' w') (hk:∀ i,i < σ0.length→ι' i=ι i) (hl:σ.length≤σ'.length):St P X nt w0 ι0 σ0 ι' e σ' a w' :=
 ⟨h.size,h.defers,⟨fun t d ht=>hc.rel (h.env.get t d ht)⟩,⟨h.comes.toComes'.trans hc,fun i hi=>(hk i hi).trans (h.comes.keep i hi),Nat.le_trans h.comes.len hl⟩⟩
theorem qB {o:Oper} (h:∀ t ∈ o.looksAt ops,e2.get t=e.get t):∀ x ∈ o.op.operands.toList,e2.ev x=e.ev x:=by
 intro x hx
 cases x with
 | tmp t=>exact h t (List.mem_append_left _ (List.mem_filterMap.2 ⟨.tmp t,hx,rfl⟩))
 | _=>rfl
theorem jI {o:Oper} (h:∀ t ∈ o.looksAt ops,e2.get t=e.get t):aT ops o e2=aT ops o e:=by
 unfold aT
 cases hg:o.guard with
 | none=>rfl
 | some g =>
  obtain ⟨j,want⟩:=g
  simp only
  cases ht:(ops[j]?).bind (·.dst) with
  | none=>rfl
  | some t =>
   simp only
   rw [h t (List.mem_append_right _ (by simp [hg,ht]))]
theorem aW.get_put' {o:Option Nat} {t:Nat} {d:DV}:(e.put o d).get t=if o=some t then some d else e.get t:=by
 cases o with
 | none=>rfl
 | some s =>
  simp only [aW.put,aW.get]
  by_cases h:s=t
  ·simp [h]
  ·simp [h]
theorem aW.get_del' {o:Option Nat} {t:Nat}:(e.del o).get t=if o=some t then some (.tup []) else e.get t:=aW.get_put'
def IA (P:Program) (nt:Nat) (ops:Array Oper) (r:pS) (eF:Nat→Option DV) (oF:Nat→Option aU):Prop :=
 ∀ (X:Nat→Prop) w0 ι0 σ0 ι a w e2 σ2 (Q:Exit→Act→World→Prop) (next:Act→World→Prop),St P X nt w0 ι0 σ0 ι e2 σ2 a w→(∀ t ∈ r.o.looksAt ops,e2.get t=eF t)→(∀ id,id ∈ r.R∨r.W id→σ2.look id=oF id) →
  (∀ id ∈ r.nids,id < σ2.length∧σ0.length≤id∧ι id=none) →
  (∀ ι' e' σ' a' w',St P X nt w0 ι0 σ0 ι' e' σ' a' w'→(∀ t,e'.get t=if r.o.dst=some t then r.val else e2.get t)→σ'.length=σ2.length→(∀ id,σ'.look id=if r.W id then r.out id else σ2.look id)→(∀ i,i ∉ r.nids→i < σ2.length→ι' i=ι i)→next a' w') →
  (Region.wanted r.o (yielded ops a.tmps)=true→r.o.wp P a w next Q)∧(Region.wanted r.o (yielded ops a.tmps)=false→next (a.put r.o.dst undef) w)
def tZ (i:Nat) (o:Oper):pS:=⟨i,o,some (.tup []),[],fun _=>False,[],fun _=>none,false⟩
def tY (i:Nat) (o:Oper) (d:Option DV) (R W:List Nat) (nids:List Nat) (σ':aA):pS:=⟨i,o,d,R,fun id=>id ∈ W,nids,σ'.look,false⟩
def tX (i:Nat) (o:Oper) (d:DV) (R:List Nat):pS:=⟨i,o,some d,R,fun _=>False,[],fun _=>none,false⟩
theorem uB {nt:Nat} (hops:∀ (j:Nat) o t,ops[j]? = some o→o.dst=some t→t < nt) {ι:bZ} (hst:St P X nt w0 ι0 σ0 ι e σ a w):∀ (j:Nat) o' t,ops[j]? = some o'→o'.dst=some t→t < a.tmps.size :=
 fun j o' t h1 h2=>by rw [hst.size];exact hops j o' t h1 h2
theorem I1 {i:Nat} {o:Oper} (hops:∀ (j:Nat) o t,ops[j]? = some o→o.dst=some t→t < nt) (hw:aT ops o e=some false):IA P nt ops (tZ i o) e.get σ.look:=by
 intro X w0 ι0 σ0 ι a w e2 σ2 Q next hst he _ _ k
 have hw2:aT ops o e2=some false:=(jI he).trans hw
 have hwd:=kU hst.env (uB hops hst) hw2
 refine ⟨fun h=>(by rw [show (tZ i o).o=o from rfl,hwd] at h;cases h),fun _=>?_⟩
 exact k ι (e2.del o.dst) σ2 _ w hst.del (fun t=>aW.get_del') rfl (fun _=>(if_neg (fun h=>h)).symm) (fun _ _ _=>rfl)
theorem GY {i:Nat} {o:Oper} {d:Option DV} (hops:∀ (j:Nat) o t,ops[j]? = some o→o.dst=some t→t < nt) (hi:ops[i]? = some o) (hw:aT ops o e=some true) (hd:d=none→o.dst=none) (h:aZ P o.op e σ σ.length=some (d,σ')) :
  IA P nt ops (tY i o d (dA o.op e) (bF o.op e σ.length) (if iF o.op then [σ.length] else []) σ') e.get σ.look:=by
 intro X w0 ι0 σ0 ι a w e2 σ2 Q next hst he hs hn k
 simp only [tY] at he hs hn k ⊢
 have hw2:aT ops o e2=some true:=(jI he).trans hw
 have hwd:=kU hst.env (uB hops hst) hw2
 refine ⟨fun _=>?_,fun h=>by rw [hwd] at h;cases h⟩
 have hnid:∀ m:Nat,iF o.op=true→m=σ.length→m < σ2.length∧σ0.length≤m∧ι m=none:=fun m hm he=>hn m (by simp [hm,he])
 obtain ⟨σ2',h1,hu1,hu2,hu3⟩:=tB (σ2:=σ2) (qB he) (fun id hid=>hs id (.inl hid)) (fun id hid=>hs id (.inr hid)) (Nat.le_refl _) (fun hm=>(hnid _ hm rfl).1) h
 have key:∃ nid,nid≤σ2.length∧ι nid=none∧σ0.length≤nid∧aZ P o.op e2 σ2 nid=some (d,σ2')∧(∀ i,i≠nid→(i ∉ (if iF o.op then [σ.length] else [])→i < σ2.length→True) )∧(nid < σ2.length→nid ∈ (if iF o.op then [σ.length] else [])):=by
  cases hm:iF o.op with
  | true =>
   obtain ⟨g1,g2,g3⟩:=hnid _ hm rfl
   exact ⟨σ.length,Nat.le_of_lt g1,g3,g2,h1,fun _ _ _ _=>trivial,fun _=>by simp⟩
  | false =>
   have hev:∀ n m,aZ P o.op e2 σ2 n=aZ P o.op e2 σ2 m:=by
    intro n m
    cases hop:o.op with
    | call c =>
     obtain ⟨callee,args,ts⟩:=c
     cases callee with
     | builtin b=>cases b <;> first | rfl | (rw [hop] at hm;cases hm)
     | _=>rfl
    | _=>first | rfl | (rw [hop] at hm;cases hm)
   exact ⟨σ2.length,Nat.le_refl _,hst.comes.heap.fresh _ (Nat.le_refl _),hst.comes.len,(hev _ _).trans h1,fun _ _ _ _=>trivial,fun h=>absurd h (Nat.lt_irrefl _)⟩
 obtain ⟨nid,g1,g2,g3,g4,_,g5⟩:=key
 obtain ⟨r,ι',w',k1,k2,k3,k4⟩:=tC hst.env hst.comes.heap g2 g1 g4
 have hst':St P X nt w0 ι0 σ0 ι' e2 σ2' a w':=hst.stepD k2 (fun i hi=>k3 i (by omega)) (by rw [hu1];exact Nat.le_refl _)
 have hlook:∀ id,σ2'.look id=if id ∈ bF o.op e σ.length then σ'.look id else σ2.look id:=fun id=>by
  split
  ·rename_i hid;exact hu2 id hid
  ·rename_i hid;exact hu3 id hid
 have hι:∀ i,i ∉ (if iF o.op then [σ.length] else [])→i < σ2.length→ι' i=ι i:=fun i h1 h2=>k3 i (fun h=>h1 (by subst h;exact g5 h2))
 unfold Oper.wp
 rw [k1]
 rcases k4 with ⟨v,x,rfl,rfl,hv⟩ | ⟨rfl,rfl⟩
 ·refine k ι' (e2.put o.dst x) σ2' _ w' (hst'.put (fun t ht=>hops i o t hi ht) hv) (fun t=>aW.get_put') hu1 (fun id=>?_) hι
  rw [hlook];congr
 ·have hdn:=hd rfl
  show next (a.put o.dst undef) w'
  rw [hdn]
  refine k ι' e2 σ2' _ w' hst' (fun t=>by simp [hdn]) hu1 (fun id=>?_) hι
  rw [hlook];congr
theorem IZ {i:Nat} {o:Oper} {f:Operand} {args:Array Operand} {ts:Array TypeId} {g:FuncId} {first cap xs:List DV} {x:DV} {R:List Nat} (hops:∀ (j:Nat) o t,ops[j]? = some o→o.dst=some t→t < nt) (hi:ops[i]? = some o)
  (hw:aT ops o e=some true) (ho:o.op = .call { callee := .value f,args,argTypes:=ts }) (hf:e.ev f=some (.fn (.func g) first cap)) (hx:args.toList.mapM e.ev=some xs)
  (hc:∀ σ2:aA,(∀ id ∈ R,σ2.look id=σ.look id)→aB P g (first++xs++cap) σ2 fun r σ'=>r=x∧σ'=σ2):IA P nt ops (tX i o x R) e.get σ.look:=by
 intro X w0 ι0 σ0 ι a w e2 σ2 Q next hst he hs hn k
 simp only [tX] at he hs hn k ⊢
 have hw2:aT ops o e2=some true:=(jI he).trans hw
 have hwd:=kU hst.env (uB hops hst) hw2
 refine ⟨fun _=>?_,fun h=>by rw [hwd] at h;cases h⟩
 have hev:=qB he
 rw [ho] at hev
 have hstep:r9 P nt o e2 σ2 (fun e' σ'=>e'=e2.put o.dst x∧σ'=σ2):=by
  refine yK (g:=g) (first:=first) (cap:=cap) (xs:=xs) ho (by unfold i0;split <;> first | rfl | (rename_i t ht;simpa using hops i o t hi ht)) ?_ ?_ ?_
  ·rw [hev f (by simp [Op.operands,Call.operands])];exact hf
  ·rw [← hx]
   refine iP _ (fun y hy=>hev y ?_)
   simp [Op.operands,Call.operands]
   exact .inr (by simpa using hy)
  ·exact (hc σ2 (fun id hid=>hs id (.inl hid))).mono (fun r σ' ⟨h1,h2⟩=>⟨by rw [h1],h2⟩)
 obtain ⟨_,hstep⟩:=hstep
 rw [ho] at hstep
 simp only at hstep
 split at hstep
 ·rename_i g' first' cap' xs' hf' hx'
  have hv:=hst.env.ev hf'
  have hxs:=tE hst.env hx'
  obtain ⟨fi,ca,hfv,r1,r2⟩:∃ fi ca,a.eval f = .func (.func g') fi ca∧cM ι w (bQ X ι σ2) first' fi.toList∧cM ι w (bQ X ι σ2) cap' ca.toList:=by
   generalize a.eval f=v at hv
   cases hv with
   | fn _ _ _ fi ca h1 h2 hf hc =>
    exact ⟨fi,ca,rfl,⟨by simpa using h1,fun i x y hx hy=>hf i x y hx (by simpa using hy)⟩,⟨by simpa using h2,fun i x y hx hy=>hc i x y hx (by simpa using hy)⟩⟩
  have hexec:(execOp a.eval o).run P w = .ok (.enter g' (fi++args.map a.eval++ca)) w:=by
   simp [execOp,ho,resolve,Deferred.ofValue,hfv,invoke,o4 hstep.body]
  unfold Oper.wp
  rw [hexec,Oper.upon_enter]
  have hall:cM ι w (bQ X ι σ2) (first'++xs'++cap') (fi++args.map a.eval++ca).toList:=by
   rw [Array.toList_append,Array.toList_append]
   exact (r1.append hxs).append r2
  have:=hstep.run X ι w _ hst.comes.heap hall
  rw [Array.toArray_toList] at this
  refine this.mono ?_
  rintro en w' ⟨v,r,σ',ι',rfl,⟨hk1,hk2⟩,hc',hr⟩
  subst hk2
  have hst':=(hst.step hc').put (o:=o.dst) (fun t ht=>hops i o t hi ht) hr
  refine k ι' _ σ' _ w' hst' (fun t=>?_) rfl (fun id=>by simp) (fun i _ hi=>hc'.keep i hi)
  rw [hk1];exact aW.get_put'
 ·exact hstep.elim
end
end Go.Ab
