import Derived.Test.YtdeikigmgdnojaaGreatDoorT08
/- A part of the proof of one law. -/
set_option maxRecDepth 100000
set_option maxHeartbeats 8000000
set_option linter.unusedVariables false
set_option linter.unusedSimpArgs false
namespace Go.Ab
section
variable {P:Program} {nt:Nat} {Q:Exit→aW→aA→Prop} {e:aW} {σ:aA} {ops:Array Oper} {dst:Option Nat} {ty:TypeId} {pos:String} {after:Array Edge} {rest:List Oper} {dest:List (Nat × Oper)} {K:aW→aA→Prop} {i n:Nat} {seen:List Nat} {lt:List dQ} {op:Op} {o:Oper} {x y:Code} {b:Bool} {d:DV}
theorem NL {c u v:Operand} (hc:e.ev c=some (.d (.sc (.bool b)))) (hx:e.ev (bif b then u else v)=some d):Ev P (.pick c u v) e σ n d σ:=by
 cases b
 ·exact P2 hc hx
 ·exact P3 hc hx
theorem QS {t yt:TypeId} {u v:Operand} {k:IntKind} {a c:Int} (hx:e.ev u=some (.d (.sc (.int k a)))) (hy:e.ev v=some (.d (.sc (.int k c)))) (h0:c≠0):Ev P (.binOp .quo t u v yt) e σ n (.d (.sc (.int k (k.wrap (a.tdiv c))))) σ :=
 EF hx hy (by simp [p9,xI,h0])
theorem QT {t yt:TypeId} {u v:Operand} {k:IntKind} {a c:Int} (hx:e.ev u=some (.d (.sc (.int k a)))) (hy:e.ev v=some (.d (.sc (.int k c)))) (h0:c≠0):Ev P (.binOp .rem t u v yt) e σ n (.d (.sc (.int k (a.tmod c)))) σ :=
 EF hx hy (by simp [p9,xI,h0])
theorem VB {t yt:TypeId} {u v:Operand} {a c:ByteArray} (hx:e.ev u=some (.d (.sc (.string a)))) (hy:e.ev v=some (.d (.sc (.string c)))) (h0:a.size + c.size≤9223372036854775807):Ev P (.binOp .add t u v yt) e σ n (.d (.sc (.string (a++c)))) σ :=
 EF hx hy (by simp only [p9,AI,h0,if_true])
structure CG (P:Program) (nt:Nat) (b:Bool) (x y:Code) (e:aW) (σ:aA) (Q:Exit→aW→aA→Prop):Prop where
 t:b=true→AC P nt x e σ Q
 f:b=false→AC P nt y e σ Q
theorem WN {c:Operand} (hc:e.ev c=some (.d (.sc (.bool b)))) (k:CG P nt b x y e σ Q):AC P nt (.cond c x y) e σ Q:=QZ hc k.t k.f
theorem g_T (k:AC P nt x e σ Q):CG P nt true x y e σ Q:=⟨fun _=>k,fun h=>by cases h⟩
theorem g_F (k:AC P nt y e σ Q):CG P nt false x y e σ Q:=⟨(fun h=>by cases h),fun _=>k⟩
theorem qG (hb:b=true) (k:AC P nt x e σ Q):CG P nt b x y e σ Q:=⟨fun _=>k,fun h=>by rw [hb] at h;cases h⟩
theorem qF (hb:b=false) (k:AC P nt y e σ Q):CG P nt b x y e σ Q:=⟨(fun h=>by rw [hb] at h;cases h),fun _=>k⟩
theorem cJ (ht:b=true→AC P nt x e σ Q) (hf:b=false→AC P nt y e σ Q):CG P nt b x y e σ Q:=⟨ht,hf⟩
structure WG (P:Program) (nt:Nat) (ops:Array Oper) (b want:Bool) (o:Oper) (rest:List Oper) (e:aW) (σ:aA) (K:aW→aA→Prop):Prop where
 t:b=want→WS P nt ops (⟨o.dst,o.op,o.type,o.pos,o.after,none⟩::rest) e σ K
 f:b=(!want)→WS P nt ops rest (e.del o.dst) σ K
theorem YH {j t:Nat} {want:Bool} (hj:(ops[j]?).bind (·.dst)=some t) (hb:e.get t=some (.d (.sc (.bool b)))) (k:WG P nt ops b want ⟨dst,op,ty,pos,after,none⟩ rest e σ K):WS P nt ops (⟨dst,op,ty,pos,after,some (j,want)⟩::rest) e σ K:=by
 by_cases h:b=want
 ·subst h;exact YG hj hb (k.t rfl)
 ·have h':b = !want:=by cases b <;> cases want <;> simp_all
  subst h';exact YF hj hb (k.f rfl)
structure WX (P:Program) (nt:Nat) (ops:Array Oper) (d:DV) (want:Bool) (o:Oper) (rest:List Oper) (e:aW) (σ:aA) (K:aW→aA→Prop):Prop where
 b:∀ b,d = .d (.sc (.bool b))→WG P nt ops b want o rest e σ K
 u:d = .tup []→WS P nt ops rest (e.del o.dst) σ K
 k:(∃ b,d = .d (.sc (.bool b)))∨d = .tup []
theorem YU {want:Bool} (k:WG P nt ops b want o rest e σ K):WX P nt ops (.d (.sc (.bool b))) want o rest e σ K:=⟨fun b' h=>by cases h;exact k,(fun h=>by cases h),.inl ⟨b,rfl⟩⟩
theorem YV {want:Bool} (k:WS P nt ops rest (e.del dst) σ K):WX P nt ops (.tup []) want ⟨dst,op,ty,pos,after,none⟩ rest e σ K:=⟨(fun b h=>by cases h),fun _=>k,.inr rfl⟩
theorem U1 {j t:Nat} {want:Bool} (hj:(ops[j]?).bind (·.dst)=some t) (hb:e.get t=some d) (k:WX P nt ops d want ⟨dst,op,ty,pos,after,none⟩ rest e σ K):WS P nt ops (⟨dst,op,ty,pos,after,some (j,want)⟩::rest) e σ K:=by
 rcases k.k with ⟨b,rfl⟩ | rfl
 ·exact YH hj hb (k.b b rfl)
 ·have h:=(k.u rfl).h
  exact ⟨by simp only [eC,aT,hj,hb];exact ⟨(fun h=>by cases h),fun _=>h⟩⟩
theorem VM (k:WS P nt ops (⟨dst,op,ty,pos,after,none⟩::rest) e σ K):WG P nt ops true true ⟨dst,op,ty,pos,after,none⟩ rest e σ K:=⟨fun _=>k,fun h=>by cases h⟩
theorem VJ (k:WS P nt ops (⟨dst,op,ty,pos,after,none⟩::rest) e σ K):WG P nt ops false false ⟨dst,op,ty,pos,after,none⟩ rest e σ K:=⟨fun _=>k,fun h=>by cases h⟩
theorem VL (k:WS P nt ops rest (e.del dst) σ K):WG P nt ops true false ⟨dst,op,ty,pos,after,none⟩ rest e σ K:=⟨(fun h=>by cases h),fun _=>k⟩
theorem VK (k:WS P nt ops rest (e.del dst) σ K):WG P nt ops false true ⟨dst,op,ty,pos,after,none⟩ rest e σ K:=⟨(fun h=>by cases h),fun _=>k⟩
theorem bW {want:Bool} (h1:b=true→WG P nt ops b want o rest e σ K) (h2:b=false→WG P nt ops b want o rest e σ K):WG P nt ops b want o rest e σ K:=by
 cases b
 ·exact h2 rfl
 ·exact h1 rfl
theorem nP {want:Bool} (hb:b=want) (k:WS P nt ops (⟨dst,op,ty,pos,after,none⟩::rest) e σ K):WG P nt ops b want ⟨dst,op,ty,pos,after,none⟩ rest e σ K:=⟨fun _=>k,(fun h=>by rw [hb] at h;cases want <;> cases h)⟩
theorem pX {want:Bool} (hb:b = !want) (k:WS P nt ops rest (e.del dst) σ K):WG P nt ops b want ⟨dst,op,ty,pos,after,none⟩ rest e σ K:=⟨(fun h=>by rw [hb] at h;cases want <;> cases h),fun _=>k⟩
structure DG (P:Program) (nt:Nat) (ops:Array Oper) (b want:Bool) (K:aW→aA→Prop) (seen:List Nat) (lt:List dQ) (i:Nat) (o:Oper) (rest:List (Nat × Oper)) (e:aW) (σ:aA):Prop where
 h:bO P nt ops K seen lt ((i,o)::rest) e σ
theorem XA {op:Op} (k:bR P nt ops K seen lt ((i,⟨dst,op,ty,pos,after,none⟩)::dest) e σ):bO P nt ops K seen lt ((i,⟨dst,op,ty,pos,after,none⟩)::dest) e σ:=k.h
theorem TM (k:bR P nt ops K seen lt ((i,o)::dest) e σ):DG P nt ops true true K seen lt i o dest e σ:=⟨k.h⟩
theorem TJ (k:bR P nt ops K seen lt ((i,o)::dest) e σ):DG P nt ops false false K seen lt i o dest e σ:=⟨k.h⟩
theorem TL (hw:aT ops o e=some false) (k:bO P nt ops K (i::seen) (⟨i,o.dst,o.looksAt ops,[],[]⟩::lt) dest (e.del o.dst) σ):DG P nt ops true false K seen lt i o dest e σ:=⟨E5 hw k⟩
theorem TK (hw:aT ops o e=some false) (k:bO P nt ops K (i::seen) (⟨i,o.dst,o.looksAt ops,[],[]⟩::lt) dest (e.del o.dst) σ):DG P nt ops false true K seen lt i o dest e σ:=⟨E5 hw k⟩
theorem kX {want:Bool} (h1:b=true→DG P nt ops b want K seen lt i o dest e σ) (h2:b=false→DG P nt ops b want K seen lt i o dest e σ):DG P nt ops b want K seen lt i o dest e σ:=by
 cases b
 ·exact h2 rfl
 ·exact h1 rfl
structure DX (P:Program) (nt:Nat) (ops:Array Oper) (d:DV) (want:Bool) (K:aW→aA→Prop) (seen:List Nat) (lt:List dQ) (i:Nat) (o:Oper) (rest:List (Nat × Oper)) (e:aW) (σ:aA):Prop where
 h:bO P nt ops K seen lt ((i,o)::rest) e σ
theorem XB {want:Bool} (k:DG P nt ops b want K seen lt i o dest e σ):DX P nt ops (.d (.sc (.bool b))) want K seen lt i o dest e σ:=⟨k.h⟩
theorem XC {want:Bool} (hw:aT ops o e=some false) (k:bO P nt ops K (i::seen) (⟨i,o.dst,o.looksAt ops,[],[]⟩::lt) dest (e.del o.dst) σ):DX P nt ops (.tup []) want K seen lt i o dest e σ:=⟨E5 hw k⟩
theorem TG {j t:Nat} {want:Bool} (_hj:(ops[j]?).bind (·.dst)=some t) (_hb:e.get t=some d) (k:DX P nt ops d want K seen lt i ⟨dst,op,ty,pos,after,some (j,want)⟩ dest e σ):bO P nt ops K seen lt ((i,⟨dst,op,ty,pos,after,some (j,want)⟩)::dest) e σ:=k.h
theorem kB {a b:Nat} (h:Nat.beq a b=false):Nat.beq a b=false:=h
theorem kf {fn:Func} {m:Nat} {R:DV→aA→Prop} {ex:Exit} (h:Fin P fn m R ex e σ):Fin P fn m R ex e σ:=h
theorem kr {R:DV→aA→Prop} {rs:List ResultVar} {acc:List DV} {m:Nat} (h:vT P e σ R m rs acc):vT P e σ R m rs acc:=h
theorem kl {p:Nat × Oper} (k:bO P nt ops K seen lt (p::dest) e σ):bO P nt ops K seen lt (p::dest) e σ:=k
end
end Go.Ab
namespace Go.Ab
open Go.RowKit
section
variable {P:Program}
theorem a8.below {w w':World} (h:Below w.heap.size w w'):a8 (fun _=>False) w w':=⟨h.os,h.tape,h.output,h.size,fun b hb _=>h.block b hb⟩
theorem bY.of_calls {f:FuncId} {args:List DV} {x:DV} (hb:j0 P f=true)
  (h:∀ X w vs,aQ P X (fun _=>none) [] w→cM (fun _=>none) w X args vs→Calls P f vs.toArray w fun e w'=>∃ v,e = .returned v∧(∀ Y,(∀ b,Y b→b < w.heap.size)→(∀ b,Y b→X b)→aX (fun _=>none) w' Y x v)∧Below w.heap.size w w'):bY P f args x:=by
 refine ⟨hb,fun X ι w vs hh hr=>?_⟩
 have hι:ι=fun _=>none:=by funext i;exact hh.fresh i (Nat.zero_le _)
 subst hι
 have hno:∀ b,¬ g8 (fun _=>none) [] b:=fun b ⟨i,o,u,g1,_⟩=>by simp [aA.look] at g1
 have hm:∀ b,bQ X (fun _=>none) [] b↔X b:=fun b=>⟨fun h=>h.elim (fun h=>h) (fun h=>absurd h (hno b)),fun h => .inl h⟩
 refine (h X w vs hh (hr.mono (fun _ _ h=>h) (a8.refl (bQ X (fun _=>none) []) w) (fun b _ hb=>(hm b).2 hb))).mono ?_
 rintro en w' ⟨v,rfl,hv,hbl⟩
 have hf:a8 (g8 (fun _=>none) []) w w':=(a8.below hbl).mono (fun b _ hb=>hb.elim)
 refine ⟨v,x,[],fun _=>none,rfl,⟨rfl,rfl⟩,⟨⟨fun _ _ h=>h,hf,hh.change hf (fun _ _ h=>h) hh.fresh (fun id o ho=>by simp [aA.look] at ho) (fun _ _ h=>h) hh.inj,fun _ _ h=>h⟩,fun _ _=>rfl,Nat.le_refl _⟩,?_⟩
 exact (hv X hh.xlt (fun _ h=>h)).mono (fun _ _ h=>h) (a8.refl X w') (fun b _ hb=>(hm b).1 hb)
end
end Go.Ab
namespace Go.Ab
section
variable {P:Program} {σ:aA} {X:Nat→Prop} {ι:bZ} {w:World} {M:Nat→Prop}
theorem nD {m:Nat} {l:List DV}:DV.unders m l=true↔∀ x ∈ l,DV.under m x=true:=by
 induction l with
 | nil=>simp [DV.unders]
 | cons x l ih=>simp [DV.unders,ih]
theorem aX.under {n:Nat} (hf:∀ id,n≤id→ι id=none) {d:DV} {v:Value} (h:aX ι w M d v):d.under n=true:=by
 have lt:∀ {id:Nat} {u:Value},ι id=some u→id < n:=fun {id u} h=>by
  rcases Nat.lt_or_ge id n with h' | h'
  ·exact h'
  ·rw [hf id h'] at h;cases h
 have all:∀ {l:List DV} {vs:Array Value},vs.size=l.length→(∀ (i:Nat) x y,l[i]? = some x→vs[i]? = some y→x.under n=true)→DV.unders n l=true:=by
  intro l vs hl h
  rw [nD]
  intro x hx
  obtain ⟨i,hi⟩:=List.mem_iff_getElem?.1 hx
  have:i < vs.size:=by rw [hl];exact (List.getElem?_eq_some_iff.1 hi).1
  exact h i x _ hi (Array.getElem?_eq_getElem this)
 induction h with
 | d h=>rfl
 | nils A=>rfl
 | iptr=>rfl
 | ptr id off b h=>simpa [DV.under] using lt h
 | eptr id i sz off b o n' c h=>simpa [DV.under] using lt h
 | arr id v h hv=>simpa [DV.under] using lt h
 | mp id v h hv=>simpa [DV.under] using lt h
 | fn f first cap fi ca h1 h2 hf hc ih1 ih2=>simp only [DV.under,all h1 ih1,all h2 ih2,Bool.and_self]
 | agg cs vs hl h ih=>simpa only [DV.under] using all hl ih
 | tup cs vs hl h ih=>simpa only [DV.under] using all hl ih
 | ifc t x v h ih=>simpa only [DV.under] using ih
theorem bE.underO {n:Nat} (hf:∀ id,n≤id→ι id=none) {o:aU} {v:Value} (h:bE P ι w M v o):o.under n=true:=by
 cases h with
 | box ty cells b cs h1 hl h h2 =>
  simp only [aU.under,nD]
  intro x hx
  obtain ⟨i,hi⟩:=List.mem_iff_getElem?.1 hx
  have:i < cs.size:=by rw [hl];exact (List.getElem?_eq_some_iff.1 hi).1
  exact (h i x _ hi (Array.getElem?_eq_getElem this)).under hf
 | nil elem A=>rfl
 | arr elem es b o c cs h1 hc hn hm hs hcl h =>
  simp only [aU.under,List.all_eq_true,nD]
  intro e he x hx
  obtain ⟨i,hi⟩:=List.mem_iff_getElem?.1 he
  obtain ⟨j,hj⟩:=List.mem_iff_getElem?.1 hx
  have hil:=(List.getElem?_eq_some_iff.1 hi).1
  have hjl:j < P.cellsOf elem:=by rw [← hs e he];exact (List.getElem?_eq_some_iff.1 hj).1
  have hlt:o + (i * P.cellsOf elem + j) < cs.size:=by
   have:i * P.cellsOf elem + j < c * P.cellsOf elem:=by
    have h1:(i + 1) * P.cellsOf elem≤c * P.cellsOf elem:=Nat.mul_le_mul_right _ (by omega)
    rw [Nat.add_mul,Nat.one_mul] at h1
    omega
   omega
  exact (h i j e x _ hi hj (Array.getElem?_eq_getElem hlt)).under hf
 | map es r ms clock hh hl hk h =>
  simp only [aU.under,List.all_eq_true]
  intro p hp
  obtain ⟨i,hi⟩:=List.mem_iff_getElem?.1 hp
  have:i < ms.size:=by rw [hl];exact (List.getElem?_eq_some_iff.1 hi).1
  exact (h i _ p.1 p.2 (Array.getElem?_eq_getElem this) hi).under hf
 | deep T bs v h hs hlt=>rfl
theorem aB.closed {f:FuncId} {args:List DV} {R:DV→aA→Prop} (hb:j0 P f=true) (h:eJ σ.length σ=true→DV.unders σ.length args=true→aB P f args σ R):aB P f args σ R :=
 ⟨hb,fun X ι w vs hh hr=>(h (by
  unfold eJ
  rw [List.all_eq_true]
  intro x hx
  rw [List.take_of_length_le (Nat.le_refl _)] at hx
  cases x with
  | none=>rfl
  | some o =>
   obtain ⟨i,hi⟩:=List.mem_iff_getElem?.1 hx
   obtain ⟨v,_,h2⟩:=hh.obj i o (by unfold aA.look;rw [hi];rfl)
   exact h2.underO hh.fresh) (by
  rw [nD]
  intro x hx
  obtain ⟨i,hi⟩:=List.mem_iff_getElem?.1 hx
  have hi':i < vs.length:=by rw [hr.len];exact (List.getElem?_eq_some_iff.1 hi).1
  exact (hr.get i x _ hi (List.getElem?_eq_getElem hi')).under hh.fresh)).run X ι w vs hh hr⟩
theorem aB.ret {f:FuncId} {args:List DV} {R:DV→aA→Prop} {x:DV} {s:aA} (h:aB P f args σ (fun r σ'=>r=x∧σ'=s)) (k:R x s):aB P f args σ R :=
 h.mono fun r σ' ⟨h1,h2⟩=>by subst h1 h2;exact k
theorem aB.shiftR {f:FuncId} {args:List DV} {R:DV→aA→Prop} {x:DV} {s:aA} (h:aB P f args [] (fun r σ'=>r=x∧σ'=s)) (ha:DV.unders 0 args=true) (k:R (x.ren (bL [] σ.length)) (σ++s.map (Option.map (aU.ren (bL [] σ.length))))):aB P f args σ R :=
 aB.shift h ha fun r0 σ0 ⟨h1,h2⟩=>by subst h1 h2;exact k
variable {e:aW} {R:DV→aA→Prop} {acc:List DV} {m:Nat}
theorem bD {σ0:aA} (hs:σ.take m=σ0) (hu:(bG acc).norm.under m=true) (h:R (bG acc).norm σ0):vT P e σ R m [] acc:=t8 hu (by rw [hs];exact h)
theorem lU {n:Nat}:Nat.ble n n=true:=Nat.ble_eq_true_of_le (Nat.le_refl n)
theorem l6:σ.take σ.length=σ:=List.take_of_length_le (Nat.le_refl _)
end
theorem rO {P:Program} {nt:Nat} {ops:Array Oper} {rest:List Oper} {e:aW} {σ:aA} {K:aW→aA→Prop} {dst:Option Nat} {ty:TypeId} {pos:String} {after:Array Edge} {f:Operand} {args:Array Operand} {ts:Array TypeId} {g:FuncId} {first cap xs:List DV} (hd:fQ nt dst=true) (hf:e.ev f=some (.fn (.func g) first cap)) (hx:args.toList.mapM e.ev=some xs)
  (k:aB P g (first++xs++cap) σ fun r σ'=>WS P nt ops rest (e.put dst r) σ' K):WS P nt ops (⟨dst,.call { callee := .value f,args,argTypes:=ts },ty,pos,after,none⟩::rest) e σ K:=by
 refine ⟨?_⟩
 show match aT ops ⟨dst,.call { callee := .value f,args,argTypes:=ts },ty,pos,after,none⟩ e with
  | none=>False
  | some b=>(b=true→r9 P nt _ e σ fun e' σ'=>eC P nt ops rest e' σ' K)∧(b=false→eC P nt ops rest (e.del dst) σ K)
 simp only [aT]
 refine ⟨fun _=>⟨?_,?_⟩,fun h=>by cases h⟩
 ·cases dst with
  | none=>rfl
  | some d=>simpa [i0,fQ] using hd
 ·simp only [hf,hx]
  exact k.mono fun r σ' h=>h.h
section
variable {α:Type} [Inhabited α] {l:List α} {p:α→Bool} {i:Nat}
theorem iN {β:Type} {p:β→Bool}:∀ {l:List β},l.any p=false→j8 p l=-1
 | [],_=>rfl
 | x::l,h=>by
  simp only [List.any_cons,Bool.or_eq_false_iff] at h
  have:=iN h.2
  simp [j8,h.1,this]
theorem m3:∀ {l:List α} {i:Nat},i < l.length→(l.take i).any p=false→p (aC l (i:Int))=true→j8 p l=i
 | [],i,h,_,_=>by simp at h
 | x::l,0,_,_,h2=>by
  have:aC (x::l) ((0:Nat):Int)=x:=by simp [aC]
  rw [this] at h2
  simp [j8,h2]
 | x::l,i + 1,h,h1,h2=>by
  simp only [List.take_succ_cons,List.any_cons,Bool.or_eq_false_iff] at h1
  have hi:i < l.length:=by simpa using h
  have h3:aC (x::l) ((i + 1:Nat):Int)=aC l (i:Int):=by rw [bK h,bK hi];rfl
  rw [h3] at h2
  have:=m3 hi h1.2 h2
  simp only [j8,h1.1,this,Bool.false_eq_true,if_false]
  rw [if_neg (by omega)]
  simp
theorem oD {β:Type} {p:β→Bool} {l:List β}:decide (j8 p l≥0)=l.any p:=by
 cases h:l.any p with
 | false=>rw [iN h];rfl
 | true =>
  have key:∀ (l:List β),l.any p=true→0≤j8 p l:=by
   intro l
   induction l with
   | nil=>intro h;simp at h
   | cons x l ih =>
    intro h
    simp only [j8]
    split
    ·omega
    ·rename_i hx
     simp only [List.any_cons,hx,Bool.false_or] at h
     have:=ih h
     rw [if_neg (by omega)]
     omega
  simpa using key l h
end
end Go.Ab
