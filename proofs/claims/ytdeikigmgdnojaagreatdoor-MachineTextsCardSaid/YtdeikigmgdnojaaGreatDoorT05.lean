import Derived.Test.YtdeikigmgdnojaaGreatDoorT04
/- A part of the proof of one law. -/
set_option maxRecDepth 100000
set_option maxHeartbeats 8000000
set_option linter.unusedVariables false
set_option linter.unusedSimpArgs false
namespace Go.Ab
open Classical
structure dQ where
 ix:Nat
 dst:Option Nat
 reads:List Nat
 R:List Nat
 W:List Nat
def fV:List Nat→Nat→Bool
 | [],_=>false
 | x::xs,n=>Nat.beq x n || fV xs n
theorem cZ {l:List Nat} {n:Nat}:fV l n=true↔n ∈ l:=by
 induction l with
 | nil=>simp [fV]
 | cons x l ih=>simp only [fV,Bool.or_eq_true,ih,Nat.beq_eq,List.mem_cons];exact ⟨fun h=>h.imp Eq.symm id,fun h=>h.imp Eq.symm id⟩
def tT (o:Option Nat) (l:List Nat):Bool :=
 match o with
 | some t=>fV l t
 | none=>false
def wH:Option Nat→Option Nat→Bool
 | some s,some t=>Nat.beq s t
 | _,_=>false
def dQ.confS (a b:dQ):Bool:=tT a.dst b.reads || tT b.dst a.reads || wH a.dst b.dst
def dQ.confO (a b:dQ):Bool:=a.W.any (fun id=>fV b.R id || fV b.W id) || b.W.any (fun id=>fV a.R id)
def jE (seen:List Nat) (o:Oper) (i:Nat):Bool:=(bN o).all (fV seen) && !fV seen i
inductive NW (ops:Array Oper) (b:Nat):Nat→Prop
 | one {i:Nat} {o:Oper} (h:ops[i]? = some o) (hp:b ∈ bN o):NW ops b i
 | more {i j:Nat} {o:Oper} (h:ops[i]? = some o) (hp:j ∈ bN o) (k:NW ops b j):NW ops b i
def yV (ops:Array Oper):Nat→Nat→Nat→Bool
 | 0,_,_=>false
 | n + 1,i,b=>match ops[i]? with
  | some o=>fV (bN o) b || (bN o).any fun j=>yV ops n j b
  | none=>false
theorem sB {ops:Array Oper} {b:Nat}:∀ {n i:Nat},yV ops n i b=true→NW ops b i
 | 0,_,h=>by cases h
 | n + 1,i,h=>by
  unfold yV at h
  split at h
  ·rename_i o ho
   simp only [Bool.or_eq_true,List.any_eq_true] at h
   rcases h with h | ⟨j,h1,h2⟩
   ·exact .one ho (cZ.1 h)
   ·exact .more ho h1 (sB h2)
  ·cases h
def CW (ops:Array Oper) (lt:List dQ) (o:Oper) (b:dQ):Bool:=lt.all fun a=>!(a.confS b || a.confO b) || (fV (bN o) a.ix || yV ops 4 b.ix a.ix)
def L4 (lt:List dQ) (o:Oper) (b:dQ):Bool:=lt.all fun a=>!(a.confS b || !a.W.isEmpty) || fV (bN o) a.ix
def j9 (ops:Array Oper):List Nat→List Nat→Bool
 | _,[]=>true
 | acc,j::rest=>(match ops[j]? with | some o=>(bN o).any (fV acc) | none=>true) && j9 ops (j::acc) rest
def mH (n:Nat) (σ:aA):aA:=if σ.length < n then σ++List.replicate (n - σ.length) none else σ
inductive oZ (P:Program) (nt:Nat) (ops:Array Oper) (K:aW→aA→Prop):List Nat→List dQ→List Nat→aW→aA→Prop
 | nil {seen lt e σ} (k:K e σ):oZ P nt ops K seen lt [] e σ
 | skip {seen lt rest e σ i o} (hi:ops[i]? = some o) (hp:jE seen o i=true) (hw:aT ops o e=some false) (hf:CW ops lt o ⟨i,o.dst,o.looksAt ops,[],[]⟩=true)
   (k:oZ P nt ops K (i::seen) (⟨i,o.dst,o.looksAt ops,[],[]⟩::lt) rest (e.del o.dst) σ):oZ P nt ops K seen lt (i::rest) e σ
 | op {seen lt rest e σ i o d σ'} (hi:ops[i]? = some o) (hp:jE seen o i=true) (hw:aT ops o e=some true) (h:aZ P o.op e σ σ.length=some (some d,σ'))
   (hf:CW ops lt o ⟨i,o.dst,o.looksAt ops,dA o.op e,bF o.op e σ.length⟩=true)
   (k:oZ P nt ops K (i::seen) (⟨i,o.dst,o.looksAt ops,dA o.op e,bF o.op e σ.length⟩::lt) rest (e.put o.dst d) (if iF o.op then mH (σ.length + 1) σ' else σ')):oZ P nt ops K seen lt (i::rest) e σ
 | none {seen lt rest e σ i o σ'} (hi:ops[i]? = some o) (hp:jE seen o i=true) (hw:aT ops o e=some true) (hd:o.dst=none) (h:aZ P o.op e σ σ.length=some (none,σ')) (hm:iF o.op=false)
   (hf:CW ops lt o ⟨i,o.dst,o.looksAt ops,dA o.op e,bF o.op e σ.length⟩=true)
   (k:oZ P nt ops K (i::seen) (⟨i,o.dst,o.looksAt ops,dA o.op e,bF o.op e σ.length⟩::lt) rest e σ'):oZ P nt ops K seen lt (i::rest) e σ
 | call {seen lt rest e σ i o f args ts g first cap xs x} (R:List Nat) (hi:ops[i]? = some o) (hp:jE seen o i=true) (hw:aT ops o e=some true) (ho:o.op = .call { callee := .value f,args,argTypes:=ts })
   (hf:e.ev f=some (.fn (.func g) first cap)) (hx:args.toList.mapM e.ev=some xs) (hc:∀ σ2:aA,(∀ id ∈ R,σ2.look id=σ.look id)→aB P g (first++xs++cap) σ2 fun r σ'=>r=x∧σ'=σ2)
   (hfit:CW ops lt o ⟨i,o.dst,o.looksAt ops,R,[]⟩=true)
   (k:oZ P nt ops K (i::seen) (⟨i,o.dst,o.looksAt ops,R,[]⟩::lt) rest (e.put o.dst x) σ):oZ P nt ops K seen lt (i::rest) e σ
 | eff {seen lt rest e σ i o f args ts g first cap xs} (Rr:DV→aA→Prop) (hi:ops[i]? = some o) (hp:jE seen o i=true) (hw:aT ops o e=some true) (ho:o.op = .call { callee := .value f,args,argTypes:=ts })
   (hf:e.ev f=some (.fn (.func g) first cap)) (hx:args.toList.mapM e.ev=some xs) (hc:aB P g (first++xs++cap) σ Rr)
   (hfit:L4 lt o ⟨i,o.dst,o.looksAt ops,[],[]⟩=true) (hl:j9 ops [i] rest=true)
   (hk:∀ r σ',Rr r σ'→∀ a ∈ lt,(fV (bN o) a.ix || yV ops 6 i a.ix)=false→∀ id ∈ a.R,σ'.look id=σ.look id) (k:∀ r σ',Rr r σ'→oZ P nt ops K (i::seen) lt rest (e.put o.dst r) σ'):oZ P nt ops K seen lt (i::rest) e σ
def ZG (P:Program) (nt:Nat) (ops:Array Oper) (K:aW→aA→Prop) (seen:List Nat) (lt:List dQ) (rest:List Nat) (e:aW) (σ:aA):Prop :=
 (rest=[]∧K e σ) ∨
 ∃ i o f args ts g first cap xs Rr rest',rest=i::rest'∧ops[i]? = some o∧jE seen o i=true∧aT ops o e=some true∧o.op = .call { callee := .value f,args,argTypes:=ts } ∧
  e.ev f=some (.fn (.func g) first cap)∧args.toList.mapM e.ev=some xs∧aB P g (first++xs++cap) σ Rr∧L4 lt o ⟨i,o.dst,o.looksAt ops,[],[]⟩=true∧j9 ops [i] rest'=true ∧
  ∀ r σ',Rr r σ'→(∀ a ∈ lt,(fV (bN o) a.ix || yV ops 6 i a.ix)=false→∀ id ∈ a.R,σ'.look id=σ.look id)∧oZ P nt ops K (i::seen) lt rest' (e.put o.dst r) σ'
def HZ (ops:Array Oper) (a b:pS):Prop :=
 (∃ t,a.o.dst=some t∧(t ∈ b.o.looksAt ops∨b.o.dst=some t))∨(∃ t,b.o.dst=some t∧t ∈ a.o.looksAt ops)∨∃ id,(a.W id∧(id ∈ b.R∨b.W id))∨(b.W id∧id ∈ a.R)
noncomputable abbrev tL (e0:Nat→Option DV) (L:Nat→Bool) (tr:List pS) (t:Nat):Option DV:=iE e0 YJ vlS L tr t
noncomputable abbrev y2 (s0:Nat→Option aU) (L:Nat→Bool) (tr:List pS) (id:Nat):Option aU:=iE s0 YI vlO L tr id
def N4 (P:Program) (nt:Nat) (ops:Array Oper) (e0:Nat→Option DV) (s0:Nat→Option aU):List pS→Prop
 | []=>True
 | r::rs=>(r.done=false→IA P nt ops r (tL e0 AS rs) (y2 s0 AS rs))∧(∀ j ∈ bN r.o,j ∈ rs.map (·.ix))∧(∀ b ∈ rs,b.done=false→HZ ops b r→NW ops b.ix r.ix)∧(∀ b ∈ rs,b.ix≠r.ix) ∧
   (∀ id ∈ r.nids,∀ b ∈ rs,id ∉ b.nids)∧N4 P nt ops e0 s0 rs
structure AU (P:Program) (X:Nat→Prop) (nt:Nat) (w0:World) (ι0:bZ) (σ0:aA) (ops:Array Oper) (e0:Nat→Option DV) (s0:Nat→Option aU) (D:List Nat→List dQ→List Nat→aW→aA→Prop)
  (L:Nat→Bool) (tr:List pS) (rest:List Nat) (ι:bZ) (e2:aW) (σ2:aA) (a:Act) (w:World):Prop where
 st:St P X nt w0 ι0 σ0 ι e2 σ2 a w
 env:∀ t,e2.get t=tL e0 L tr t
 sto:∀ id,σ2.look id=y2 s0 L tr id
 fresh:∀ r ∈ tr,L r.ix=false→∀ id ∈ r.nids,id < σ2.length∧σ0.length≤id∧ι id=none
 below:∀ r ∈ tr,∀ id ∈ r.nids,id < σ2.length
 wf:N4 P nt ops e0 s0 tr
 done:∀ r ∈ tr,r.done=true→L r.ix=true
 closed:∀ r ∈ tr,L r.ix=true→∀ j ∈ bN r.o,L j=true
 unl:∀ j ∈ rest,L j=false
 disj:∀ r ∈ tr,r.ix ∉ rest
 nd:rest.Nodup
 ix:∀ r ∈ tr,ops[r.ix]? = some r.o
 cov:∀ i,i < ops.size→i ∈ tr.map (·.ix)∨i ∈ rest
 draw:∃ e σ lt,D (tr.map (·.ix)) lt rest e σ∧(∀ t,e.get t=tL e0 AS tr t)∧(∀ id,σ.look id=y2 s0 AS tr id)∧σ.length=σ2.length ∧
  ∀ r ∈ tr,r.done=false→∃ l ∈ lt,l.ix=r.ix∧l.dst=r.o.dst∧l.reads=r.o.looksAt ops∧l.R=r.R∧(∀ id,r.W id↔id ∈ l.W)∧(l.W=[]→r.nids=[])
section
variable {P:Program} {X:Nat→Prop} {nt:Nat} {w0:World} {ι0 ι:bZ} {σ0:aA} {e2:aW} {σ2:aA} {a:Act} {w:World} {ops:Array Oper} {e0:Nat→Option DV} {s0:Nat→Option aU}
 {D:List Nat→List dQ→List Nat→aW→aA→Prop} {L:Nat→Bool} {tr:List pS} {rest:List Nat}
theorem N4.split:∀ {post:List pS} {r0:pS} {pre:List pS},N4 P nt ops e0 s0 (post++r0::pre) →
  (r0.done=false→IA P nt ops r0 (tL e0 AS pre) (y2 s0 AS pre))∧(∀ j ∈ bN r0.o,j ∈ pre.map (·.ix))∧(∀ b ∈ pre,b.done=false→HZ ops b r0→NW ops b.ix r0.ix)∧(∀ b ∈ pre,b.ix≠r0.ix) ∧
  (∀ b ∈ post,r0.done=false→HZ ops r0 b→NW ops r0.ix b.ix)∧(∀ b ∈ post,b.ix≠r0.ix)∧(∀ b ∈ post++pre,∀ id ∈ r0.nids,id ∉ b.nids)
 | [],r0,pre,h=>⟨h.1,h.2.1,h.2.2.1,h.2.2.2.1,by simp,by simp,fun b hb id hid=>h.2.2.2.2.1 id hid b (by simpa using hb)⟩
 | b::post,r0,pre,h=>by
  obtain ⟨h1,h2,h3,h4,h5,h6,h7⟩:=N4.split h.2.2.2.2.2
  refine ⟨h1,h2,h3,h4,fun x hx hd hc=>?_,fun x hx=>?_,fun x hx id hid=>?_⟩
  ·rcases List.mem_cons.1 hx with rfl | hx
   ·exact h.2.2.1 r0 (by simp) hd hc
   ·exact h5 x hx hd hc
  ·rcases List.mem_cons.1 hx with rfl | hx
   ·exact Ne.symm (h.2.2.2.1 r0 (by simp))
   ·exact h6 x hx
  ·rcases List.mem_cons.1 hx with rfl | hx
   ·exact fun hm=>h.2.2.2.2.1 id hm r0 (by simp) hid
   ·exact h7 x hx id hid
theorem N4.mem:∀ {tr:List pS},N4 P nt ops e0 s0 tr→∀ r ∈ tr,∀ j ∈ bN r.o,j ∈ tr.map (·.ix)
 | [],_,r,h=>by simp at h
 | x::tr,hw,r,h=>by
  intro j hj
  rcases List.mem_cons.1 h with rfl | h
  ·exact List.mem_cons_of_mem _ (hw.2.1 j hj)
  ·exact List.mem_cons_of_mem _ (N4.mem hw.2.2.2.2.2 r h j hj)
theorem AU.anc (h:AU P X nt w0 ι0 σ0 ops e0 s0 D L tr rest ι e2 σ2 a w) {b i:Nat} (hb:NW ops b i):∀ r ∈ tr,r.ix=i→L i=true→L b=true:=by
 induction hb with
 | one ho hp =>
  rintro r hr rfl hL
  rw [h.ix r hr] at ho;cases ho
  exact h.closed r hr hL _ hp
 | more ho hp k ih =>
  rintro r hr rfl hL
  rw [h.ix r hr] at ho;cases ho
  obtain ⟨r',hr',he⟩:=List.mem_map.1 (h.wf.mem r hr _ hp)
  exact ih r' hr' he (h.closed r hr hL _ hp)
theorem AU.anc_ready (h:AU P X nt w0 ι0 σ0 ops e0 s0 D L tr rest ι e2 σ2 a w) {b:Nat} {r:pS} (hr:r ∈ tr) (hb:NW ops b r.ix) (hrd:∀ j ∈ bN r.o,L j=true):L b=true:=by
 cases hb with
 | one ho hp=>rw [h.ix r hr] at ho;cases ho;exact hrd _ hp
 | more ho hp k =>
  rw [h.ix r hr] at ho;cases ho
  obtain ⟨r',hr',he⟩:=List.mem_map.1 (h.wf.mem r hr _ hp)
  exact h.anc k r' hr' he (hrd _ hp)
theorem AU.old {r0:pS} {Q:Exit→Act→World→Prop} {next:Act→World→Prop} (h:AU P X nt w0 ι0 σ0 ops e0 s0 D L tr rest ι e2 σ2 a w) (hr:r0 ∈ tr) (hun:L r0.ix=false) (hrd:∀ j ∈ bN r0.o,L j=true)
  (k:∀ ι' e' σ' a' w',AU P X nt w0 ι0 σ0 ops e0 s0 D (gO L r0.ix) tr rest ι' e' σ' a' w'→next a' w') :
  (Region.wanted r0.o (yielded ops a.tmps)=true→r0.o.wp P a w next Q)∧(Region.wanted r0.o (yielded ops a.tmps)=false→next (a.put r0.o.dst undef) w):=by
 obtain ⟨post,pre,rfl⟩:=List.append_of_mem hr
 obtain ⟨h1,h2,h3,h4,h5,h6,h7⟩:=h.wf.split
 have hnd:r0.done=false:=by
  cases hd:r0.done with
  | false=>rfl
  | true=>rw [h.done r0 hr hd] at hun;cases hun
 have hpost:∀ b ∈ post,HZ ops r0 b→L b.ix=false:=by
  intro b hb hc
  cases hL:L b.ix with
  | false=>rfl
  | true =>
   have:=h.anc (h5 b hb hnd hc) b (by simp [hb]) rfl hL
   rw [this] at hun;cases hun
 have hpre:∀ b ∈ pre,HZ ops b r0→L b.ix=true:=by
  intro b hb hc
  cases hd:b.done with
  | true=>exact h.done b (by simp [hb]) hd
  | false=>exact h.anc_ready hr (h3 b hb hd hc) hrd
 refine h1 hnd X w0 ι0 σ0 ι a w e2 σ2 Q next h.st (fun t ht=>?_) (fun id hid=>?_) (h.fresh r0 hr hun) (fun ι' e' σ' a' w' hst he hlen ho hι=>?_)
 ·rw [h.env]
  exact uV (fun b hb hbt=>hpost b hb (.inr (.inl ⟨t,hbt,ht⟩))) (fun b hb hbt=>hpre b hb (.inl ⟨t,hbt,.inl ht⟩)) hun
 ·rw [h.sto]
  refine uV (fun b hb hbt=>hpost b hb (.inr (.inr ⟨id,?_⟩))) (fun b hb hbt=>hpre b hb (.inr (.inr ⟨id,.inl ⟨hbt,hid⟩⟩))) hun
  rcases hid with hid | hid
  ·exact .inr ⟨hbt,hid⟩
  ·exact .inl ⟨hid,.inr hbt⟩
 ·have hL:∀ j,L j=true→gO L r0.ix j=true:=fun j hj=>by unfold gO;split <;> simp [*]
  refine k ι' e' σ' a' w' ⟨hst,fun t=>?_,fun id=>?_,fun r hr' hun' id hid=>?_,fun r hr' id hid=>by rw [hlen];exact h.below r hr' id hid,h.wf,fun r hr' hd=>hL _ (h.done r hr' hd),fun r hr' hl j hj=>?_,fun j hj=>?_,h.disj,h.nd,h.ix,h.cov,?_⟩
  ·rw [he]
   split
   ·rename_i hd
    exact (uU (b0:=e0) (vl:=vlS) h6 (fun b hb hbt=>hpost b hb (.inl ⟨t,hd,.inr hbt⟩)) hd).symm
   ·rename_i hd
    rw [h.env]
    refine (oH (fun b hb hbt hix=>?_)).symm
    rcases List.mem_append.1 hb with hb | hb
    ·exact h6 b hb hix
    ·rcases List.mem_cons.1 hb with rfl | hb
     ·exact hd hbt
     ·exact h4 b hb hix
  ·rw [ho]
   split
   ·rename_i hd
    exact (uU (b0:=s0) (vl:=vlO) h6 (fun b hb hbt=>hpost b hb (.inr (.inr ⟨id,.inl ⟨hd,.inr hbt⟩⟩))) hd).symm
   ·rename_i hd
    rw [h.sto]
    refine (oH (fun b hb hbt hix=>?_)).symm
    rcases List.mem_append.1 hb with hb | hb
    ·exact h6 b hb hix
    ·rcases List.mem_cons.1 hb with rfl | hb
     ·exact hd hbt
     ·exact h4 b hb hix
  ·have hne:r.ix≠r0.ix:=fun heq=>by simp [gO,heq] at hun'
   have hun2:L r.ix=false:=by simpa [gO,hne] using hun'
   obtain ⟨g1,g2,g3⟩:=h.fresh r hr' hun2 id hid
   refine ⟨by rw [hlen];exact g1,g2,?_⟩
   rw [hι id ?_ g1]
   ·exact g3
   ·intro hm
    refine h7 r ?_ id hm hid
    rcases List.mem_append.1 hr' with hb | hb
    ·exact List.mem_append_left _ hb
    ·rcases List.mem_cons.1 hb with rfl | hb
     ·exact absurd rfl hne
     ·exact List.mem_append_right _ hb
  ·by_cases hix:r.ix=r0.ix
   ·have:r=r0:=by
     rcases List.mem_append.1 hr' with hb | hb
     ·exact absurd hix (h6 r hb)
     ·rcases List.mem_cons.1 hb with rfl | hb
      ·rfl
      ·exact absurd hix (h4 r hb)
    subst this
    exact hL _ (hrd j hj)
   ·exact hL _ (h.closed r hr' (by simpa [gO,hix] using hl) j hj)
  ·have hne:j≠r0.ix:=fun heq=>h.disj r0 hr (heq ▸ hj)
   simp [gO,hne,h.unl j hj]
  ·obtain ⟨e,σ,lt,g1,g2,g3,g4,g5⟩:=h.draw
   exact ⟨e,σ,lt,g1,g2,g3,by rw [hlen];exact g4,g5⟩
end
end Go.Ab
namespace Go.Ab
open Classical
section
variable {P:Program} {X:Nat→Prop} {nt:Nat} {w0:World} {ι0 ι:bZ} {σ0:aA} {e e2:aW} {σ σ2:aA} {a:Act} {w:World} {ops:Array Oper} {e0:Nat→Option DV} {s0:Nat→Option aU}
 {D D':List Nat→List dQ→List Nat→aW→aA→Prop} {L:Nat→Bool} {tr:List pS} {rest:List Nat} {K:aW→aA→Prop}
theorem sM {n id:Nat}:(mH n σ).look id=σ.look id:=by
 unfold mH
 split
 ·unfold aA.look
  rw [List.getElem?_append]
  split
  ·rfl
  ·rename_i h
   rw [List.getElem?_eq_none (l:=σ) (by omega),List.getElem?_replicate]
   split <;> rfl
 ·rfl
theorem kE {n:Nat}:(mH n σ).length=max n σ.length:=by
 unfold mH
 split
 ·simp;omega
 ·omega
theorem qK {σ':aA} (hl:σ'.length=σ.length) (h:∀ id,σ'.look id=σ.look id):σ'=σ:=by
 apply List.ext_getElem? ;intro i
 have:=h i
 unfold aA.look at this
 rcases Nat.lt_or_ge i σ.length with hi | hi
 ·rw [List.getElem?_eq_getElem hi,List.getElem?_eq_getElem (hl ▸ hi)] at this ⊢
  simpa using this
 ·rw [List.getElem?_eq_none hi,List.getElem?_eq_none (hl ▸ hi)]
theorem St.pad {n:Nat} (h:St P X nt w0 ι0 σ0 ι e σ a w):St P X nt w0 ι0 σ0 ι e (mH n σ) a w :=
 h.stepD (Comes'.same h.comes.heap (by rw [kE];omega) (fun _=>sM)) (fun _ _=>rfl) (by rw [kE];omega)
theorem St.drew (h:St P X nt w0 ι0 σ0 ι e σ a w):St P X nt w0 ι0 σ0 ι e σ a { w with drawn:=w.drawn + 1 }:=by
 have hf:a8 (g8 ι σ) w { w with drawn:=w.drawn + 1 }:=a8.drew _ w
 refine h.stepD (σ':=σ) (ι':=ι) ⟨fun _ _ h=>h,hf,?_,fun _ _ h=>h⟩ (fun i hi=>rfl) (Nat.le_refl _)
 have hh:=h.comes.heap
 exact ⟨hh.fresh,fun id o ho=>by
  obtain ⟨v,h1,h2⟩:=hh.obj id o ho
  exact ⟨v,h1,bE.mono (fun _ _ h=>h) (a8.drew (bQ X ι σ) w) (fun _ _ h=>h) h2 (fun _ _=>rfl)⟩,hh.inj,hh.xlt,hh.apart,fun g hg=>⟨(hh.glob g hg).1,(hh.glob g hg).2.1,(hh.glob g hg).2.2.mono rfl⟩⟩
structure wQ (ops:Array Oper) (l:dQ) (r:pS):Prop where
 ix:l.ix=r.ix
 dst:l.dst=r.o.dst
 reads:l.reads=r.o.looksAt ops
 R:l.R=r.R
 W:∀ id,r.W id↔id ∈ l.W
 nids:l.W=[]→r.nids=[]
theorem OK {l lr:dQ} {b r:pS} (h:wQ ops l b) (k:wQ ops lr r) (hc:HZ ops b r):(l.confS lr || l.confO lr)=true:=by
 rw [Bool.or_eq_true]
 rcases hc with ⟨t,h1,h2⟩ | ⟨t,h1,h2⟩ | ⟨id,⟨h1,h2⟩ | ⟨h1,h2⟩⟩
 ·left
  unfold dQ.confS
  rw [h.dst,h1,k.dst,k.reads,h.reads]
  rcases h2 with h2 | h2
  ·simp [tT,cZ.2 h2]
  ·simp [h2,wH]
 ·left
  unfold dQ.confS
  rw [k.dst,h1,h.reads]
  simp [tT,cZ.2 h2]
 ·right
  unfold dQ.confO
  rw [Bool.or_eq_true]
  left
  refine List.any_eq_true.2 ⟨id,(h.W id).1 h1,?_⟩
  rw [Bool.or_eq_true]
  rcases h2 with h2 | h2
  ·exact .inl (cZ.2 (k.R ▸ h2))
  ·exact .inr (cZ.2 ((k.W id).1 h2))
 ·right
  unfold dQ.confO
  rw [Bool.or_eq_true]
  right
  exact List.any_eq_true.2 ⟨id,(k.W id).1 h1,cZ.2 (h.R ▸ h2)⟩
theorem AU.push {i:Nat} {rest':List Nat} {r:pS} {l:dQ} {lt:List dQ} {e':aW} {σ':aA} (h:AU P X nt w0 ι0 σ0 ops e0 s0 D L tr (i::rest') ι e2 σ2 a w)
  (g2:∀ t,e.get t=tL e0 AS tr t) (g3:∀ id,σ.look id=y2 s0 AS tr id) (g4:σ.length=σ2.length) (g5:∀ r ∈ tr,r.done=false→∃ l ∈ lt,wQ ops l r)
  (hix:r.ix=i) (hi:ops[i]? = some r.o) (hnd:r.done=false) (hp:jE (tr.map (·.ix)) r.o i=true) (hm:wQ ops l r) (hf:CW ops lt r.o l=true) (hdoes:IA P nt ops r e.get σ.look)
  (he:∀ t,e'.get t=if r.o.dst=some t then r.val else e.get t) (ho:∀ id,σ'.look id=if r.W id then r.out id else σ.look id) (hl:σ.length≤σ'.length) (hn:∀ id ∈ r.nids,σ.length≤id∧id < σ'.length)
  (hD:D' (i::tr.map (·.ix)) (l::lt) rest' e' σ'):∃ σ2',AU P X nt w0 ι0 σ0 ops e0 s0 D' L (r::tr) rest' ι e2 σ2' a w:=by
 have hLi:L r.ix=false:=by rw [hix];exact h.unl i (by simp)
 have hlen:(mH σ'.length σ2).length=σ'.length:=by rw [kE];omega
 simp only [jE,Bool.and_eq_true,List.all_eq_true,Bool.not_eq_true'] at hp
 refine ⟨mH σ'.length σ2,h.st.pad,fun t=>?_,fun id=>?_,fun b hb hun id hid=>?_,fun b hb id hid=>?_,⟨fun _=>?_,fun j hj=>cZ.1 (hp.1 j hj),fun b hb hbd hc=>?_,fun b hb hbi=>?_,fun id hid b hb hm'=>?_,h.wf⟩,
  fun b hb hd=>?_,fun b hb hbl j hj=>?_,fun j hj=>h.unl j (by simp [hj]),fun b hb=>?_,(List.nodup_cons.1 h.nd).2,fun b hb=>?_,fun j hj=>?_,?_⟩
 ·rw [h.env]
  simp only [tL,iE,hLi,Bool.false_eq_true,false_and,if_false]
 ·rw [sM,h.sto]
  simp only [y2,iE,hLi,Bool.false_eq_true,false_and,if_false]
 ·rcases List.mem_cons.1 hb with rfl | hb
  ·obtain ⟨n1,n2⟩:=hn id hid
   exact ⟨by omega,Nat.le_trans h.st.comes.len (by omega),h.st.comes.heap.fresh id (by omega)⟩
  ·obtain ⟨n1,n2,n3⟩:=h.fresh b hb hun id hid
   exact ⟨by omega,n2,n3⟩
 ·rcases List.mem_cons.1 hb with rfl | hb
  ·rw [hlen];exact (hn id hid).2
  ·have:=h.below b hb id hid
   omega
 ·have e1:e.get=tL e0 AS tr:=funext g2
  have e3:σ.look=y2 s0 AS tr:=funext g3
  rw [← e1,← e3];exact hdoes
 ·obtain ⟨l',hl',hm'⟩:=g5 b hb hbd
  have:=List.all_eq_true.1 hf l' hl'
  rw [OK hm' hm hc] at this
  simp only [Bool.not_true,Bool.false_or] at this
  rw [Bool.or_eq_true] at this
  rw [← hm'.ix]
  rcases this with this | this
  ·exact .one (by rw [hix];exact hi) (cZ.1 this)
  ·rw [hm.ix] at this;exact sB this
 ·have:i ∈ tr.map (·.ix):=by rw [← hix,← hbi];exact List.mem_map.2 ⟨b,hb,rfl⟩
  rw [cZ.2 this] at hp;cases hp.2
 ·have:=h.below b hb id hm'
  have:=(hn id hid).1
  omega
 ·rcases List.mem_cons.1 hb with rfl | hb
  ·rw [hnd] at hd;cases hd
  ·exact h.done b hb hd
 ·rcases List.mem_cons.1 hb with rfl | hb
  ·rw [hLi] at hbl;cases hbl
  ·exact h.closed b hb hbl j hj
 ·rcases List.mem_cons.1 hb with rfl | hb
  ·rw [hix];exact (List.nodup_cons.1 h.nd).1
  ·exact fun hm'=>h.disj b hb (by simp [hm'])
 ·rcases List.mem_cons.1 hb with rfl | hb
  ·rw [hix];exact hi
  ·exact h.ix b hb
 ·rcases h.cov j hj with hm' | hm'
  ·exact .inl (by simp only [List.map_cons,List.mem_cons];exact .inr hm')
  ·rcases List.mem_cons.1 hm' with rfl | hm'
   ·exact .inl (by simp [hix])
   ·exact .inr hm'
 ·refine ⟨e',σ',l::lt,by rw [List.map_cons,hix];exact hD,fun t=>?_,fun id=>?_,hlen.symm,fun b hb hbd=>?_⟩
  ·rw [he,g2]
   simp only [tL,iE,AS,true_and]
  ·rw [ho,g3]
   simp only [y2,iE,AS,true_and]
  ·rcases List.mem_cons.1 hb with rfl | hb
   ·exact ⟨l,by simp,hm.ix,hm.dst,hm.reads,hm.R,hm.W,hm.nids⟩
   ·obtain ⟨l',hl',hm'⟩:=g5 b hb hbd
    exact ⟨l',by simp [hl'],hm'.ix,hm'.dst,hm'.reads,hm'.R,hm'.W,hm'.nids⟩
end
end Go.Ab
namespace Go.Ab
open Classical
section
variable {P:Program} {X:Nat→Prop} {nt:Nat} {w0:World} {ι0 ι:bZ} {σ0:aA} {e e2:aW} {σ σ2:aA} {a:Act} {w:World} {ops:Array Oper} {e0:Nat→Option DV} {s0:Nat→Option aU}
 {D D':List Nat→List dQ→List Nat→aW→aA→Prop} {L:Nat→Bool} {tr:List pS} {rest:List Nat} {K:aW→aA→Prop}
theorem sI {op:Op} {n:Nat} (h:bF op e n=[]):iF op=false:=by
 cases op with
 | call c =>
  obtain ⟨callee,args,ts⟩:=c
  cases callee with
  | builtin b=>cases b <;> first | rfl | (simp [bF] at h)
  | _=>rfl
 | _=>first | rfl | (simp [bF] at h)
theorem L6 {op:Op} {n:Nat} (h:iF op=true):n ∈ bF op e n:=by
 cases op with
 | call c =>
  obtain ⟨callee,args,ts⟩:=c
  cases callee with
  | builtin b=>cases b <;> first | (cases h;done) | (simp [bF])
  | _=>cases h
 | _=>first | (cases h;done) | (simp [bF])
theorem vD {o:Oper} {σ':aA} {d:Option DV} (h:aZ P o.op e σ σ.length=some (d,σ')) {id:Nat} (hid:id ∉ bF o.op e σ.length):σ'.look id=σ.look id:=by
 cases hm:iF o.op with
 | false =>
  obtain ⟨s,h1,h2⟩:=tB (e2:=e) (σ2:=σ) (fun _ _=>rfl) (fun _ _=>rfl) (fun _ _=>rfl) (Nat.le_refl _) (fun h=>by rw [hm] at h;cases h) h
  rw [h] at h1
  cases h1
  exact h2.2.2 id hid
 | true =>
  have hne:id≠σ.length:=fun he=>hid (he ▸ L6 hm)
  have hput:∀ o,(σ.put σ.length o).look id=σ.look id:=fun o=>by rw [aA.look_put (Nat.le_refl _),if_neg hne]
  cases hop:o.op with
  | alloc t =>
   rw [hop] at h
   simp only [aZ,Option.map_eq_some_iff] at h
   obtain ⟨⟨x,s⟩,h1,h2⟩:=h
   cases h2
   unfold fT at h1
   repeat' (split at h1)
   all_goals first
    | (cases h1;done)
    | (cases h1;exact hput _)
  | box t x =>
   rw [hop] at h
   simp only [aZ,Option.map_eq_some_iff] at h
   obtain ⟨⟨x,s⟩,h1,h2⟩:=h
   cases h2
   unfold fT at h1
   repeat' (split at h1)
   all_goals first
    | (cases h1;done)
    | (cases h1;exact hput _)
  | buildSlice t n ps =>
   rw [hop] at h
   simp only [aZ,Option.map_eq_some_iff] at h
   obtain ⟨⟨x,s⟩,h1,h2⟩:=h
   cases h2
   unfold fD at h1
   repeat' (split at h1)
   all_goals first
    | (cases h1;done)
    | (cases h1;first | exact hput _ | rfl)
  | makeMap t r =>
   rw [hop] at h
   cases r with
   | none=>simp only [aZ,c8] at h;cases h;exact hput _
   | some x =>
    simp only [aZ,c8] at h
    split at h
    ·cases h;exact hput _
    ·cases h
  | slice t x lo hi mx =>
   rw [hop] at h hid
   simp only [bF,List.mem_cons,not_or] at hid
   simp only [aZ,Option.map_eq_some_iff] at h
   obtain ⟨⟨y,s⟩,h1,h2⟩:=h
   cases h2
   cases mx with
   | none =>
    simp only [eI] at h1
    split at h1
    ·rename_i k hk
     rw [hk] at hid
     split at h1
     ·rename_i hlk
      have hl2:=a7 hlk
      split at h1
      ·split at h1
       ·split at h1
        ·cases h1
         rw [aA.look_put (by rw [eR (fun i hi=>by cases hi;exact hl2)];exact Nat.le_refl _),if_neg hne,jO (fun i hi=>by cases hi;exact hl2),if_neg (fun h=>hid.2 (by cases h;simp [eQ]))]
        ·cases h1
       ·cases h1
      ·cases h1
     ·cases h1
    ·obtain ⟨y,hy,hz⟩:=Option.map_eq_some_iff.1 h1;cases hz;rfl
   | some m =>
    cases lo with
    | some _=>simp [eI] at h1
    | none =>
     cases hi with
     | none=>simp [eI] at h1
     | some _ =>
      simp only [eI] at h1
      split at h1 <;> first | (cases h1;rfl) | cases h1
  | makeSlice t n c =>
   rw [hop] at h
   simp only [aZ,Option.map_eq_some_iff] at h
   obtain ⟨⟨x,s⟩,h1,h2⟩:=h
   cases h2
   unfold fD at h1
   repeat' (split at h1)
   all_goals first
    | (cases h1;done)
    | (cases h1;first | exact hput _ | rfl)
  | call c =>
   obtain ⟨callee,args,ts⟩:=c
   cases callee with
   | builtin b =>
    cases b with
    | append =>
     rw [hop] at h hid
     simp only [bF] at hid
     simp only [aZ,Option.map_eq_some_iff] at h
     obtain ⟨⟨x,s⟩,h1,h2⟩:=h
     cases h2
     simp only [d8] at h1
     split at h1
     ·rename_i ha _ _
      split at h1
      ·rename_i h4 h5
       split at h1
       ·cases h1
       ·split at h1
        ·rename_i h7 h8
         split at h1
         ·cases h1
          have tN:=s6 h7
          rw [aA.look_put (by rw [eR (fun i hi=>(tN i hi).1)];exact Nat.le_refl _),if_neg hne,jO (fun i hi=>(tN i hi).1),if_neg]
          intro ho
          refine hid ?_
          rw [ha]
          simp only [List.flatMap_cons,h4,List.mem_cons,List.mem_append]
          exact .inr (.inl (tN id ho).2)
         ·cases h1
        ·cases h1
      ·cases h1
     ·cases h1
    | _=>rw [hop] at hm;cases hm
   | _=>rw [hop] at hm;cases hm
  | _=>rw [hop] at hm;cases hm
theorem AU.extend (hops:∀ (j:Nat) o t,ops[j]? = some o→o.dst=some t→t < nt):∀ {rest:List Nat} {tr:List pS} {σ2:aA},AU P X nt w0 ι0 σ0 ops e0 s0 (oZ P nt ops K) L tr rest ι e2 σ2 a w →
  ∃ tr' rest' σ2',AU P X nt w0 ι0 σ0 ops e0 s0 (ZG P nt ops K) L tr' rest' ι e2 σ2' a w:=by
 intro rest
 induction rest with
 | nil =>
  intro tr σ2 h
  obtain ⟨e,σ,lt,hd,g⟩:=h.draw
  cases hd with
  | nil k=>exact ⟨tr,[],σ2,{ h with draw:=⟨e,σ,lt,.inl ⟨rfl,k⟩,g⟩ }⟩
 | cons i rest ih =>
  intro tr σ2 h
  obtain ⟨e,σ,lt,hd,g2,g3,g4,g5⟩:=h.draw
  have g5':∀ r ∈ tr,r.done=false→∃ l ∈ lt,wQ ops l r:=fun r hr hd=>by
   obtain ⟨l,hl,a1,a2,a3,a4,a5,a6⟩:=g5 r hr hd
   exact ⟨l,hl,a1,a2,a3,a4,a5,a6⟩
  cases hd with
  | skip hi hp hw hf k =>
   rename_i o
   obtain ⟨σ2',h'⟩:=h.push (r:=tZ i o) (l:=⟨i,o.dst,o.looksAt ops,[],[]⟩) (e':=e.del o.dst) (σ':=σ) g2 g3 g4 g5' rfl hi rfl hp ⟨rfl,rfl,rfl,rfl,fun id=>by simp [tZ],fun _=>rfl⟩ hf
    (I1 hops hw) (fun t=>aW.get_del') (fun id=>(if_neg (fun h=>h)).symm) (Nat.le_refl _) (fun id hid=>by simp [tZ] at hid) k
   exact ih h'
  | op hi hp hw hev hf k =>
   rename_i o d σ'
   have hlen:=sG hev
   have hlk:∀ id,(if iF o.op then mH (σ.length + 1) σ' else σ').look id=σ'.look id:=fun id=>by split;exact sM;rfl
   have hl1:σ.length≤(if iF o.op then mH (σ.length + 1) σ' else σ').length:=by split;rw [kE];omega;exact hlen
   refine Exists.elim (h.push (r:=tY i o (some d) (dA o.op e) (bF o.op e σ.length) (if iF o.op then [σ.length] else []) σ') (l:=⟨i,o.dst,o.looksAt ops,dA o.op e,bF o.op e σ.length⟩) (e':=e.put o.dst d)
    (σ':=if iF o.op then mH (σ.length + 1) σ' else σ') g2 g3 g4 g5' rfl hi rfl hp ⟨rfl,rfl,rfl,rfl,fun id=>Iff.rfl,fun hW=>?_⟩ hf
    (GY hops hi hw (fun h=>by cases h) hev) (fun t=>aW.get_put') (fun id=>?_) hl1 (fun id hid=>?_) k) (fun σ2' h'=>ih h')
   ·simp [tY,sI hW]
   ·rw [hlk]
    by_cases hid:id ∈ bF o.op e σ.length
    ·exact (if_pos hid).symm
    ·exact (vD hev hid).trans (if_neg hid).symm
   ·simp only [tY] at hid
    cases hm:iF o.op with
    | true =>
     simp [hm] at hid
     subst hid
     exact ⟨Nat.le_refl _,by simp only [if_true];rw [kE];omega⟩
    | false=>simp [hm] at hid
  | none hi hp hw hdn hev hm hf k =>
   rename_i o σ'
   have hlen:=sG hev
   refine Exists.elim (h.push (r:=tY i o none (dA o.op e) (bF o.op e σ.length) (if iF o.op then [σ.length] else []) σ') (l:=⟨i,o.dst,o.looksAt ops,dA o.op e,bF o.op e σ.length⟩) (e':=e)
    (σ':=σ') g2 g3 g4 g5' rfl hi rfl hp ⟨rfl,rfl,rfl,rfl,fun id=>Iff.rfl,fun hW=>by simp [tY,hm]⟩ hf
    (GY hops hi hw (fun _=>hdn) hev) (fun t=>by simp [tY,hdn]) (fun id=>?_) hlen (fun id hid=>by simp [tY,hm] at hid) k) (fun σ2' h'=>ih h')
   ·by_cases hid:id ∈ bF o.op e σ.length
    ·exact (if_pos hid).symm
    ·exact (vD hev hid).trans (if_neg hid).symm
  | call R hi hp hw ho hf hx hc hfit k =>
   rename_i o f args ts g first cap xs x
   obtain ⟨σ2',h'⟩:=h.push (r:=tX i o x R) (l:=⟨i,o.dst,o.looksAt ops,R,[]⟩) (e':=e.put o.dst x) (σ':=σ) g2 g3 g4 g5' rfl hi rfl hp ⟨rfl,rfl,rfl,rfl,fun id=>by simp [tX],fun _=>rfl⟩ hfit
    (IZ hops hi hw ho hf hx hc) (fun t=>aW.get_put') (fun id=>(if_neg (fun h=>h)).symm) (Nat.le_refl _) (fun id hid=>by simp [tX] at hid) k
   exact ih h'
  | eff Rr hi hp hw ho hf hx hc hfit hl hk k =>
   exact ⟨tr,_,σ2,{ h with draw:=⟨e,σ,lt,.inr ⟨_,_,_,_,_,_,_,_,_,_,_,rfl,hi,hp,hw,ho,hf,hx,hc,hfit,hl,fun r σ' hr=>⟨hk r σ' hr,k r σ' hr⟩⟩,g2,g3,g4,g5⟩ }⟩
end
end Go.Ab
namespace Go.Ab
open Classical
section
variable {P:Program} {X:Nat→Prop} {nt:Nat} {w0:World} {ι0 ι:bZ} {σ0:aA} {e e2:aW} {σ σ2:aA} {a:Act} {w:World} {ops:Array Oper} {e0:Nat→Option DV} {s0:Nat→Option aU}
 {D D':List Nat→List dQ→List Nat→aW→aA→Prop} {L:Nat→Bool} {tr:List pS} {rest:List Nat} {K:aW→aA→Prop}
theorem E2 {o:Oper} {f:Operand} {args:Array Operand} {ts:Array TypeId} {g:FuncId} {first cap xs:List DV} {Rr:DV→aA→Prop} {next:Act→World→Prop} {Q:Exit→Act→World→Prop}
  (hst:St P X nt w0 ι0 σ0 ι e σ a w) (hd:∀ t,o.dst=some t→t < nt) (ho:o.op = .call { callee := .value f,args,argTypes:=ts }) (hf:e.ev f=some (.fn (.func g) first cap)) (hx:args.toList.mapM e.ev=some xs)
  (h:aB P g (first++xs++cap) σ Rr) (k:∀ r σ' ι' a' w',Rr r σ'→fA P X ι σ σ' w ι' w'→St P X nt w0 ι0 σ0 ι' (e.put o.dst r) σ' a' w'→next a' w'):o.wp P a w next Q:=by
 have hv:=hst.env.ev hf
 have hxs:=tE hst.env hx
 obtain ⟨fi,ca,hfv,r1,r2⟩:∃ fi ca,a.eval f = .func (.func g) fi ca∧cM ι w (bQ X ι σ) first fi.toList∧cM ι w (bQ X ι σ) cap ca.toList:=by
  generalize a.eval f=v at hv
  cases hv with
  | fn _ _ _ fi ca h1 h2 hf hc =>
   exact ⟨fi,ca,rfl,⟨by simpa using h1,fun i x y hx hy=>hf i x y hx (by simpa using hy)⟩,⟨by simpa using h2,fun i x y hx hy=>hc i x y hx (by simpa using hy)⟩⟩
 have hexec:(execOp a.eval o).run P w = .ok (.enter g (fi++args.map a.eval++ca)) w:=by
  simp [execOp,ho,resolve,Deferred.ofValue,hfv,invoke,o4 h.body]
 unfold Oper.wp
 rw [hexec,Oper.upon_enter]
 have hall:cM ι w (bQ X ι σ) (first++xs++cap) (fi++args.map a.eval++ca).toList:=by
  rw [Array.toList_append,Array.toList_append]
  exact (r1.append hxs).append r2
 have:=h.run X ι w _ hst.comes.heap hall
 rw [Array.toArray_toList] at this
 refine this.mono ?_
 rintro en w' ⟨v,r,σ',ι',rfl,hk,hc,hr⟩
 exact k r σ' ι' _ w' hk hc ((hst.step hc).put hd hr)
theorem vE:∀ (rest acc:List Nat),j9 ops acc rest=true→∀ (L:Nat→Bool),(∀ j ∈ acc,L j=false)→∀ j ∈ rest,∀ o,ops[j]? = some o→(∀ p ∈ bN o,L p=true)→(∀ x ∈ rest,L x=false)→False
 | [],_,_,_,_,j,hj,_,_,_,_=>by simp at hj
 | x::rest,acc,h,L,hacc,j,hj,o,ho,hp,hr=>by
  simp only [j9,Bool.and_eq_true] at h
  rcases List.mem_cons.1 hj with rfl | hj
  ·have h1:=h.1
   rw [ho] at h1
   obtain ⟨p,hp1,hp2⟩:=List.any_eq_true.1 h1
   have:=hp p hp1
   rw [hacc p (cZ.1 hp2)] at this
   cases this
  ·refine vE rest (x::acc) h.2 L (fun y hy=>?_) j hj o ho hp (fun y hy=>hr y (by simp [hy]))
   rcases List.mem_cons.1 hy with rfl | hy
   ·exact hr _ (by simp)
   ·exact hacc y hy
theorem AU.eff {i:Nat} {o:Oper} {Q:Exit→Act→World→Prop} {next:Act→World→Prop} (hops:∀ (j:Nat) o t,ops[j]? = some o→o.dst=some t→t < nt) (h:AU P X nt w0 ι0 σ0 ops e0 s0 (ZG P nt ops K) L tr rest ι e2 σ2 a w) (hr:i ∈ rest) (hi:ops[i]? = some o) (hrd:∀ j ∈ bN o,L j=true)
  (k:∀ tr' rest' ι' e' σ' a' w',AU P X nt w0 ι0 σ0 ops e0 s0 (oZ P nt ops K) (gO L i) tr' rest' ι' e' σ' a' w'→next a' w') :
  (Region.wanted o (yielded ops a.tmps)=true→o.wp P a w next Q)∧(Region.wanted o (yielded ops a.tmps)=false→next (a.put o.dst undef) w):=by
 obtain ⟨e,σ,lt,hd,g2,g3,g4,g5⟩:=h.draw
 have g5':∀ r ∈ tr,r.done=false→∃ l ∈ lt,wQ ops l r:=fun r hr hd=>by
  obtain ⟨l,hl,a1,a2,a3,a4,a5,a6⟩:=g5 r hr hd
  exact ⟨l,hl,a1,a2,a3,a4,a5,a6⟩
 rcases hd with ⟨rfl,_⟩ | ⟨i',o',f,args,ts,g,first,cap,xs,Rr,rest',rfl,hi',hp,hw,ho,hf,hx,hc,hfit,hl,hk⟩
 ·simp at hr
 have hii:i=i':=by
  rcases List.mem_cons.1 hr with rfl | hr'
  ·rfl
  ·exact (vE rest' [i'] hl L (fun j hj=>by rw [List.mem_singleton.1 hj];exact h.unl i' (by simp)) i hr' o hi hrd (fun x hx=>h.unl x (by simp [hx]))).elim
 subst hii
 rw [hi] at hi'
 cases hi'
 have hLi:=h.unl i (by simp)
 have hedge:∀ b ∈ tr,∀ l ∈ lt,wQ ops l b→(l.confS ⟨i,o.dst,o.looksAt ops,[],[]⟩ || !l.W.isEmpty)=true→b.ix ∈ bN o:=by
  intro b hb l hl hm hc
  have:=List.all_eq_true.1 hfit l hl
  rw [hc] at this
  simp only [Bool.not_true,Bool.false_or] at this
  rw [← hm.ix];exact cZ.1 this
 have hWl:∀ b ∈ tr,(∃ id,b.W id)→L b.ix=true:=by
  rintro b hb ⟨id,hid⟩
  cases hdn:b.done with
  | true=>exact h.done b hb hdn
  | false =>
   obtain ⟨l,hl,hm⟩:=g5' b hb hdn
   refine hrd _ (hedge b hb l hl hm ?_)
   have:=(hm.W id).1 hid
   rw [Bool.or_eq_true];right
   cases hlw:l.W with
   | nil=>rw [hlw] at this;simp at this
   | cons _ _=>rfl
 have hslot:∀ b ∈ tr,∀ t ∈ o.looksAt ops,b.o.dst=some t→L b.ix=true:=by
  intro b hb t ht hbt
  cases hdn:b.done with
  | true=>exact h.done b hb hdn
  | false =>
   obtain ⟨l,hl,hm⟩:=g5' b hb hdn
   refine hrd _ (hedge b hb l hl hm ?_)
   rw [Bool.or_eq_true];left
   unfold dQ.confS
   rw [hm.dst,hbt]
   simp [tT,cZ.2 ht]
 have hlook:∀ id,σ2.look id=σ.look id:=fun id=>by
  rw [h.sto,g3]
  exact jP (fun b hb hbt=>hWl b hb ⟨id,hbt⟩)
 have hσ:σ2=σ:=qK g4.symm hlook
 subst hσ
 have hev:∀ t ∈ o.looksAt ops,e2.get t=e.get t:=fun t ht=>by
  rw [h.env,g2]
  exact jP (fun b hb hbt=>hslot b hb t ht hbt)
 have hw2:aT ops o e2=some true:=(jI hev).trans hw
 have hwd:=kU h.st.env (uB hops h.st) hw2
 refine ⟨fun _=>?_,fun h=>by rw [hwd] at h;cases h⟩
 have hevx:=qB hev
 rw [ho] at hevx
 refine E2 h.st (fun t ht=>hops i o t hi ht) ho (by rw [hevx f (by simp [Op.operands,Call.operands])];exact hf) (by
  rw [← hx]
  refine iP _ (fun y hy=>hevx y ?_)
  simp [Op.operands,Call.operands]
  exact .inr (by simpa using hy)) hc (fun r σ' ι' a' w' hRr hcm hst'=>?_)
 obtain ⟨hpres,hdraw⟩:=hk r σ' hRr
 simp only [jE,Bool.and_eq_true,List.all_eq_true,Bool.not_eq_true'] at hp
 have hixn:∀ b ∈ tr,b.ix≠i:=fun b hb he=>h.disj b hb (by simp [he])
 have hL':∀ b ∈ tr,gO L i b.ix=L b.ix:=fun b hb=>by simp [gO,hixn b hb]
 have hLm:∀ j,L j=true→gO L i j=true:=fun j hj=>by unfold gO;split <;> simp [*]
 refine k (⟨i,o,some r,[],fun id=>σ'.look id≠σ2.look id,[],σ'.look,true⟩::tr) rest' ι' (e2.put o.dst r) σ' a' w' ⟨hst',fun t=>?_,fun id=>?_,fun b hb hun id hid=>?_,fun b hb id hid=>?_,
  ⟨fun h=>(by cases h),fun j hj=>cZ.1 (hp.1 j hj),fun b hb hbd hc=>?_,fun b hb=>hixn b hb,fun id hid=>(by simp at hid),h.wf⟩,fun b hb hd=>?_,fun b hb hbl j hj=>?_,fun j hj=>?_,fun b hb=>?_,(List.nodup_cons.1 h.nd).2,fun b hb=>?_,fun j hj=>?_,?_⟩
 ·rw [aW.get_put',h.env]
  simp only [tL,iE,gO,if_true,true_and]
  split
  ·rfl
  ·exact (oH (r0:=⟨i,o,some r,[],fun id=>σ'.look id≠σ2.look id,[],σ'.look,true⟩) (fun b hb _=>hixn b hb)).symm
 ·simp only [y2,iE,gO,if_true,true_and]
  split
  ·rfl
  ·rename_i hne
   have he:σ'.look id=σ2.look id:=Classical.byContradiction hne
   rw [he,h.sto]
   exact (oH (r0:=⟨i,o,some r,[],fun id=>σ'.look id≠σ2.look id,[],σ'.look,true⟩) (fun b hb _=>hixn b hb)).symm
 ·rcases List.mem_cons.1 hb with rfl | hb
  ·simp [gO] at hun
  ·rw [hL' b hb] at hun
   exfalso
   cases hdn:b.done with
   | true=>rw [h.done b hb hdn] at hun;cases hun
   | false =>
    obtain ⟨l,hl,hm⟩:=g5' b hb hdn
    cases hlw:l.W with
    | nil=>have:=hm.nids hlw;rw [this] at hid;simp at hid
    | cons y ys =>
     have:=hWl b hb ⟨y,(hm.W y).2 (by rw [hlw];simp)⟩
     rw [this] at hun;cases hun
 ·rcases List.mem_cons.1 hb with rfl | hb
  ·simp at hid
  ·exact Nat.lt_of_lt_of_le (h.below b hb id hid) hcm.len
 ·cases hm2:(fV (bN o) b.ix || yV ops 6 i b.ix) with
  | true =>
   rcases Bool.or_eq_true_iff.1 hm2 with hm | hm
   ·exact .one hi (cZ.1 hm)
   ·exact sB hm
  | false =>
   have hm:fV (bN o) b.ix=false:=(Bool.or_eq_false_iff.1 hm2).1
   exfalso
   obtain ⟨l,hl,hmt⟩:=g5' b hb hbd
   have hno:¬ (l.confS ⟨i,o.dst,o.looksAt ops,[],[]⟩ || !l.W.isEmpty)=true:=fun hcn=>by
    have:=cZ.2 (hedge b hb l hl hmt hcn)
    rw [hm] at this;cases this
   rw [Bool.or_eq_true,not_or] at hno
   have hWe:∀ id,¬ b.W id:=fun id hid=>by
    have:=(hmt.W id).1 hid
    refine hno.2 ?_
    cases hlw:l.W with
    | nil=>rw [hlw] at this;simp at this
    | cons _ _=>rfl
   rcases hc with ⟨t,h1,h2⟩ | ⟨t,h1,h2⟩ | ⟨id,⟨h1,h2⟩ | ⟨h1,h2⟩⟩
   ·refine hno.1 ?_
    unfold dQ.confS
    rw [hmt.dst,h1]
    rcases h2 with h2 | h2
    ·simp [tT,cZ.2 h2]
    ·simp only at h2
     simp [h2,wH]
   ·refine hno.1 ?_
    unfold dQ.confS
    simp only at h1
    rw [h1,hmt.reads]
    simp [tT,cZ.2 h2]
   ·exact hWe id h1
   ·exact h1 (hpres l hl (by rw [hmt.ix];exact hm2) id (by rw [hmt.R];exact h2))
 ·rcases List.mem_cons.1 hb with rfl | hb
  ·simp [gO]
  ·exact hLm _ (h.done b hb hd)
 ·rcases List.mem_cons.1 hb with rfl | hb
  ·exact hLm _ (hrd j hj)
  ·rw [hL' b hb] at hbl
   exact hLm _ (h.closed b hb hbl j hj)
 ·have hne:j≠i:=fun he=>(List.nodup_cons.1 h.nd).1 (he ▸ hj)
  simp [gO,hne,h.unl j (by simp [hj])]
 ·rcases List.mem_cons.1 hb with rfl | hb
  ·exact (List.nodup_cons.1 h.nd).1
  ·exact fun hm=>h.disj b hb (by simp [hm])
 ·rcases List.mem_cons.1 hb with rfl | hb
  ·exact hi
  ·exact h.ix b hb
 ·rcases h.cov j hj with hm | hm
  ·exact .inl (by simp only [List.map_cons,List.mem_cons];exact .inr hm)
  ·rcases List.mem_cons.1 hm with rfl | hm
   ·exact .inl (by simp)
   ·exact .inr hm
 ·refine ⟨e.put o.dst r,σ',lt,hdraw,fun t=>?_,fun id=>?_,rfl,fun b hb hbd=>?_⟩
  ·rw [aW.get_put',g2]
   simp only [tL,iE,AS,true_and]
  ·simp only [y2,iE,AS,true_and]
   split
   ·rfl
   ·rename_i hne
    have he:σ'.look id=σ2.look id:=Classical.byContradiction hne
    rw [he,g3]
  ·rcases List.mem_cons.1 hb with rfl | hb
   ·cases hbd
   ·exact g5 b hb hbd
end
end Go.Ab
namespace Go.Ab
open Classical
section
variable {P:Program} {X:Nat→Prop} {nt:Nat} {w0:World} {ι0:bZ} {σ0:aA} {e:aW} {σ:aA} {ops:Array Oper} {e0:Nat→Option DV} {s0:Nat→Option aU} {K:aW→aA→Prop}
def cO (listed:Array Bool):Nat→Bool:=fun j=>listed.getD j false
theorem pB {listed:Array Bool} {i:Nat} (h:i < listed.size):cO (listed.setIfInBounds i true)=gO (cO listed) i:=by
 funext j
 unfold cO gO
 split
 ·rename_i hj;subst hj;simp [h]
 ·rename_i hj;exact getD_set_ne false (Ne.symm hj)
theorem CH {p q:Nat→Bool} (hpq:∀ x,p x=true→q x=true):∀ {l:List Nat} {i:Nat},i ∈ l→q i=true→p i=false→l.countP p < l.countP q
 | [],i,hi,_,_=>by simp at hi
 | x::l,i,hi,hq,hp=>by
  have hle:l.countP p≤l.countP q:=List.countP_mono_left (fun y _ h=>hpq y h)
  rcases List.mem_cons.1 hi with rfl | hi
  ·rw [List.countP_cons_of_neg (by simp [hp]),List.countP_cons_of_pos (by simpa using hq)]
   omega
  ·have ih:=CH hpq hi hq hp
   cases hpx:p x with
   | true =>
    rw [List.countP_cons_of_pos (by simpa using hpx),List.countP_cons_of_pos (by simpa using hpq x hpx)]
    omega
   | false =>
    rw [List.countP_cons_of_neg (by simp [hpx])]
    cases hqx:q x with
    | true=>rw [List.countP_cons_of_pos (by simpa using hqx)];omega
    | false=>rw [List.countP_cons_of_neg (by simp [hqx])];exact ih
theorem wT {L:Nat→Bool}:∀ {tr:List pS},N4 P nt ops e0 s0 tr→(∀ r ∈ tr,(∀ j ∈ bN r.o,L j=true)→L r.ix=true)→∀ r ∈ tr,L r.ix=true
 | [],_,_,r,hr=>by simp at hr
 | x::tr,hw,h,r,hr=>by
  have ih:=wT hw.2.2.2.2.2 (fun r hr=>h r (by simp [hr]))
  rcases List.mem_cons.1 hr with rfl | hr
  ·refine h _ (by simp) (fun j hj=>?_)
   obtain ⟨b,hb,hbi⟩:=List.mem_map.1 (hw.2.1 j hj)
   rw [← hbi];exact ih b hb
  ·exact ih r hr
theorem z6 {o:Oper} {j:Nat}:j ∈ bN o↔∃ e ∈ o.after,Region.binds .any e=true∧e.on=j:=by
 unfold bN
 simp only [List.mem_map,List.mem_filter,Array.mem_toList_iff,and_assoc]
theorem IE {Q:Exit→Act→World→Prop} (hops:∀ (j:Nat) o t,ops[j]? = some o→o.dst=some t→t < nt) (hK:∀ e σ ι a w,K e σ→St P X nt w0 ι0 σ0 ι e σ a w→Q .normal a w) :
  ∀ (fuel:Nat) (listed:Array Bool) (tr:List pS) (rest:List Nat) (ι:bZ) (e2:aW) (σ2:aA) (a:Act) (w:World),listed.size=ops.size→(List.range ops.size).countP (fun i=>!cO listed i)≤fuel →
   AU P X nt w0 ι0 σ0 ops e0 s0 (oZ P nt ops K) (cO listed) tr rest ι e2 σ2 a w→wpAny P .any ops Q fuel listed a w:=by
 intro fuel
 induction fuel with
 | zero =>
  intro listed tr rest ι e2 σ2 a w hsz hcnt h
  obtain ⟨tr,rest,σ2,h⟩:=h.extend hops
  have hall:∀ i,i < ops.size→cO listed i=true:=by
   intro i hi
   have:=List.countP_eq_zero.1 (Nat.le_zero.1 hcnt) i (by simpa using hi)
   simpa using this
  have hready:Region.ready .any ops listed=[]:=by
   rw [List.eq_nil_iff_forall_not_mem]
   intro j hj
   obtain ⟨h0,o,ho,_⟩:=mem_ready.1 hj
   have hjl:j < ops.size:=(Array.getElem?_eq_some_iff.1 ho).1
   have:=hall j hjl
   unfold cO at this
   have hjl':j < listed.size:=by rw [hsz];exact hjl
   simp [hjl'] at this h0
   rw [this] at h0;cases h0
  refine ⟨hready,?_⟩
  obtain ⟨e,σ,lt,hd,g2,g3,g4,g5⟩:=h.draw
  rcases hd with ⟨rfl,hk⟩ | ⟨i',o',f,args,ts,g,first,cap,xs,Rr,rest',rfl,hi',hp,hw,ho,hf,hx,hc,hfit,hl,hk⟩
  ·have hlr:∀ r ∈ tr,cO listed r.ix=true:=fun r hr=>hall _ (Array.getElem?_eq_some_iff.1 (h.ix r hr)).1
   have hσ:σ2=σ:=qK g4.symm (fun id=>by rw [h.sto,g3];exact jP (fun b hb _=>hlr b hb))
   subst hσ
   exact hK e σ2 ι a w hk (h.st.weaken (fun t d ht=>by rw [h.env,show tL e0 (cO listed) tr t=tL e0 AS tr t from jP (fun b hb _=>hlr b hb),← g2];exact ht))
  ·have:=h.unl i' (by simp)
   rw [hall i' (Array.getElem?_eq_some_iff.1 hi').1] at this
   cases this
 | succ fuel ih =>
  intro listed tr rest ι e2 σ2 a w hsz hcnt h
  obtain ⟨tr,rest,σ2,h⟩:=h.extend hops
  have hun:∀ j,j < ops.size→cO listed j=false→listed.getD j true=false:=by
   intro j hj hl
   unfold cO at hl
   have hjl':j < listed.size:=by rw [hsz];exact hj
   simp [hjl'] at hl ⊢
   exact hl
  have hrd:∀ j o,ops[j]? = some o→cO listed j=false→(∀ p ∈ bN o,cO listed p=true)→j ∈ Region.ready .any ops listed:=by
   intro j o ho hl hp
   exact mem_ready.2 ⟨hun j (Array.getElem?_eq_some_iff.1 ho).1 hl,o,ho,fun e he hb=>hp _ (z6.2 ⟨e,he,hb,rfl⟩)⟩
  refine ⟨fun hready=>?_,fun i hi=>?_⟩
  ·have hlr:∀ r ∈ tr,cO listed r.ix=true:=by
    refine wT h.wf (fun r hr hp=>?_)
    cases hl:cO listed r.ix with
    | true=>rfl
    | false =>
     have:=hrd r.ix r.o (h.ix r hr) hl hp
     rw [hready] at this;cases this
   obtain ⟨e,σ,lt,hd,g2,g3,g4,g5⟩:=h.draw
   rcases hd with ⟨rfl,hk⟩ | ⟨i',o',f,args,ts,g,first,cap,xs,Rr,rest',rfl,hi',hp,hw,ho,hf,hx,hc,hfit,hl,hk⟩
   ·have hσ:σ2=σ:=qK g4.symm (fun id=>by rw [h.sto,g3];exact jP (fun b hb _=>hlr b hb))
    subst hσ
    exact hK e σ2 ι a w hk (h.st.weaken (fun t d ht=>by rw [h.env,show tL e0 (cO listed) tr t=tL e0 AS tr t from jP (fun b hb _=>hlr b hb),← g2];exact ht))
   ·have hl:=h.unl i' (by simp)
    have:=hrd i' o' hi' hl (fun p hp'=>by
     simp only [jE,Bool.and_eq_true,List.all_eq_true] at hp
     obtain ⟨b,hb,hbi⟩:=List.mem_map.1 (cZ.1 (hp.1 p hp'))
     rw [← hbi];exact hlr b hb)
    rw [hready] at this;cases this
  ·obtain ⟨h0,o,ho,hpre⟩:=mem_ready.1 hi
   have hil:i < ops.size:=(Array.getElem?_eq_some_iff.1 ho).1
   have hil':i < listed.size:=by rw [hsz];exact hil
   have hL:cO listed i=false:=by
    unfold cO
    simp [hil'] at h0 ⊢
    exact h0
   have hp:∀ p ∈ bN o,cO listed p=true:=fun p hp=>by
    obtain ⟨e,he,hb,rfl⟩:=z6.1 hp
    exact hpre e he hb
   have hcnt':(List.range ops.size).countP (fun j=>!cO (listed.setIfInBounds i true) j)≤fuel:=by
    have:(List.range ops.size).countP (fun j=>!cO (listed.setIfInBounds i true) j) < (List.range ops.size).countP (fun j=>!cO listed j):=by
     refine CH (i:=i) (fun x hx=>?_) (by simpa using hil) (by simp [hL]) (by rw [pB hil'];simp [gO])
     rw [pB hil'] at hx
     unfold gO at hx
     split at hx
     ·cases hx
     ·exact hx
    omega
   have hnext:∀ tr' rest' ι' e' σ' a' w',AU P X nt w0 ι0 σ0 ops e0 s0 (oZ P nt ops K) (gO (cO listed) i) tr' rest' ι' e' σ' a' w'→wpAny P .any ops Q fuel (listed.setIfInBounds i true) a' w':=by
    intro tr' rest' ι' e' σ' a' w' h'
    exact ih _ tr' rest' ι' e' σ' a' w' (by simpa using hsz) hcnt' (by rw [pB hil'];exact h')
   have conv:∀ {next:Act→World→Prop},(Region.wanted o (yielded ops a.tmps)=true→o.wp P a w next Q)∧(Region.wanted o (yielded ops a.tmps)=false→next (a.put o.dst undef) w)→wpOp P ops Q i next a w:=by
    intro next hc
    unfold wpOp
    rw [ho]
    simp only
    cases hwd:Region.wanted o (yielded ops a.tmps) with
    | true=>simp only [if_true];exact .inl (hc.1 hwd)
    | false=>simp only [Bool.false_eq_true,if_false];exact hc.2 hwd
   rcases h.cov i hil with hm | hm
   ·obtain ⟨r0,hr0,hri⟩:=List.mem_map.1 hm
    subst hri
    have ho':r0.o=o:=by have:=h.ix r0 hr0;rw [ho] at this;exact (Option.some.inj this).symm
    subst ho'
    have hD:AU P X nt w0 ι0 σ0 ops e0 s0 (oZ P nt ops K) (cO listed) tr rest ι e2 σ2 a w:=by
     obtain ⟨e,σ,lt,hd,g⟩:=h.draw
     refine { h with draw:=⟨e,σ,lt,?_,g⟩ }
     rcases hd with ⟨rfl,hk⟩ | ⟨i',o',f,args,ts,g,first,cap,xs,Rr,rest',rfl,hi',hp,hw,ho,hf,hx,hc,hfit,hl,hk⟩
     ·exact .nil hk
     ·exact .eff Rr hi' hp hw ho hf hx hc hfit hl (fun r σ' hr=>(hk r σ' hr).1) (fun r σ' hr=>(hk r σ' hr).2)
    exact conv (hD.old hr0 hL hp (fun ι' e' σ' a' w' h'=>hnext tr rest ι' e' σ' a' w' h'))
   ·exact conv (h.eff hops hm ho hp (fun tr' rest' ι' e' σ' a' w' h'=>hnext tr' rest' ι' e' σ' a' w' h'))
def lC:List Nat→Bool
 | []=>true
 | x::xs=>!fV xs x && lC xs
theorem m5:∀ {l:List Nat},lC l=true→l.Nodup
 | [],_=>List.nodup_nil
 | x::xs,h=>by
  simp only [lC,Bool.and_eq_true,Bool.not_eq_true'] at h
  exact List.nodup_cons.2 ⟨fun hm=>(by rw [cZ.2 hm] at h;exact absurd h.1 (by simp)),m5 h.2⟩
theorem bU.drawn {id:Nat} {Q:Exit→aW→aA→Prop} (π:List Nat) (hm:P.follows .mixedOrders=true) (hops:ops.toList.all (i0 nt)=true) (hc:(List.range ops.size).all (fV π)=true) (hn:lC π=true)
  (h:oZ P nt ops (Q .normal) [] [] π e σ):bU P nt (.region id ops true) e σ Q:=by
 intro X w0 ι0 σ0 ι a w hst
 refine wp_region_any hm ?_
 have hops':∀ (j:Nat) o t,ops[j]? = some o→o.dst=some t→t < nt:=fun j o t hj ht=>by
  have:=(List.all_eq_true.1 hops) o (by simpa using Array.mem_of_getElem? hj)
  simpa [i0,ht] using this
 have hL:∀ j,cO (Array.replicate ops.size false) j=false:=fun j=>by
  unfold cO
  rw [Array.getD_eq_getD_getElem?,Array.getElem?_replicate]
  split <;> rfl
 refine IE (e0:=e.get) (s0:=σ.look) hops' (fun e' σ' ι' a' w' hk hst'=>⟨ι',e',σ',hk,hst'⟩) ops.size _ [] π ι e σ a _ (by simp) ?_ ⟨hst.drew,fun t=>rfl,fun id=>rfl,fun r hr=>by simp at hr,fun r hr=>by simp at hr,trivial,fun r hr=>by simp at hr,fun r hr=>by simp at hr,
  fun j _=>hL j,fun r hr=>by simp at hr,m5 hn,fun r hr=>by simp at hr,fun i hi => .inr (cZ.1 (List.all_eq_true.1 hc i (by simpa using hi))),⟨e,σ,[],h,fun _=>rfl,fun _=>rfl,rfl,fun r hr=>by simp at hr⟩⟩
 exact Nat.le_trans List.countP_le_length (by simp)
end
end Go.Ab
namespace Go.Ab
structure Ev (P:Program) (op:Op) (e:aW) (σ:aA) (n:Nat) (d:DV) (σ':aA):Prop where
 h:aZ P op e σ n=some (some d,σ')
section
variable {P:Program} {X:Nat→Prop} {nt:Nat} {Q:Exit→aW→aA→Prop} {e e':aW} {σ σ':aA} {ops:Array Oper} {dst:Option Nat} {ty:TypeId} {pos:String} {after:Array Edge} {rest:List Oper} {K:aW→aA→Prop} {d d':DV} {n:Nat}
theorem eY {op:Op} (hev:aZ P op e σ n=(aK P op e σ).map fun d=>(some d,σ)) (h:aK P op e σ=some d):Ev P op e σ n d σ:=by
 exact ⟨by rw [hev,h];rfl⟩
theorem NJ {x:Operand} (hx:e.ev x=some d):Ev P (.move x) e σ n d σ:=eY rfl hx
theorem EE {x:Operand} (hx:e.ev x=some d):Ev P (.assign x) e σ n d σ:=eY rfl hx
theorem EF {op:BinOp} {t yt:TypeId} {x y:Operand} {a b v:Value} (hx:e.ev x=some (.d (.sc a))) (hy:e.ev y=some (.d (.sc b))) (hv:p9 op a b=some v):Ev P (.binOp op t x y yt) e σ n (.d (.sc v)) σ :=
 eY rfl (by simp only [aK,hx,hy,hv])
theorem R4 {t yt:TypeId} {x y:Operand} {a b:List DV} {p:Bool} (hx:e.ev x=some (.agg a)) (hy:e.ev y=some (.agg b)) (hp:A3 P t (.agg a) (.agg b)=some p):Ev P (.binOp .eql t x y yt) e σ n (.d (.sc (.bool p))) σ :=
 eY rfl (by simp only [aK,hx,hy,if_true,LZ hp,Option.map])
theorem SB {t yt:TypeId} {x y:Operand} {a b:List DV} {p:Bool} (hx:e.ev x=some (.agg a)) (hy:e.ev y=some (.agg b)) (hp:A3 P t (.agg a) (.agg b)=some p):Ev P (.binOp .neq t x y yt) e σ n (.d (.sc (.bool !p))) σ :=
 eY rfl (by simp only [aK,hx,hy,if_true,LZ hp,Option.map,show ¬ (BinOp.neq=BinOp.eql) by decide,if_false])
theorem SE {t yt:TypeId} {x y:Operand} {a b:List DV} {p:Bool} (hx:e.ev x=some (.agg a)) (hy:e.ev y=some (.agg b)) (hp:KU P t a b=some p):Ev P (.binOp .neq t x y yt) e σ n (.d (.sc (.bool !p))) σ :=
 eY rfl (by simp only [aK,hx,hy,if_true,hp,Option.map,show ¬ (BinOp.neq=BinOp.eql) by decide,if_false])
theorem R5 {t yt:TypeId} {x y:Operand} {a b:Bool} (ht:P.underlying t=some .bool) (hx:e.ev x=some (.d (.sc (.bool a)))) (hy:e.ev y=some (.d (.sc (.bool b)))):Ev P (.binOp .eql t x y yt) e σ n (.d (.sc (.bool (a == b)))) σ :=
 eY rfl (by simp only [aK,hx,hy,p9,if_true,A3,CN,ht,Option.map])
theorem SD {t yt:TypeId} {x y:Operand} {a b:Bool} (ht:P.underlying t=some .bool) (hx:e.ev x=some (.d (.sc (.bool a)))) (hy:e.ev y=some (.d (.sc (.bool b)))):Ev P (.binOp .neq t x y yt) e σ n (.d (.sc (.bool !(a == b)))) σ :=
 eY rfl (by simp only [aK,hx,hy,p9,if_true,A3,CN,ht,Option.map,show ¬ (BinOp.neq=BinOp.eql) by decide,if_false])
theorem QR {t:TypeId} {x:Operand} {b:Bool} (hx:e.ev x=some (.d (.sc (.bool b)))):Ev P (.unOp .not t x) e σ n (.d (.sc (.bool !b))) σ:=eY rfl (by simp only [aK,hx])
theorem VD {t:TypeId} {x:Operand} {kd:IntKind} {m:Int} (hx:e.ev x=some (.d (.sc (.int kd m)))):Ev P (.unOp .neg t x) e σ n (.d (.sc (.int kd (kd.wrap (0 - m))))) σ:=eY rfl (by simp only [aK,hx])
theorem P3 {c x y:Operand} (hc:e.ev c=some (.d (.sc (.bool true)))) (hx:e.ev x=some d):Ev P (.pick c x y) e σ n d σ:=eY rfl (by simp only [aK,hc,if_true];exact hx)
theorem P2 {c x y:Operand} (hc:e.ev c=some (.d (.sc (.bool false)))) (hx:e.ev y=some d):Ev P (.pick c x y) e σ n d σ:=eY rfl (by simp only [aK,hc,Bool.false_eq_true,if_false];exact hx)
theorem HV {s:TypeId} {x:Operand} {f m:Nat} (hf:lV P s f=some m) (hx:e.ev x=some d) (hs:I7 m d=some d'):Ev P (.fieldAddr s x f) e σ n d' σ :=
 eY rfl (by simp only [aK,hf,hx];cases d <;> first | exact hs | cases hs)
theorem QQ {x:Operand} (hx:e.ev x=some d) (hs:PA d=some d'):Ev P (.nilCheck x) e σ n d' σ :=
 eY rfl (by
  simp only [aK,hx]
  cases d <;> first | exact hs | cases hs | skip
  rename_i f a b
  cases f <;> first | exact hs | cases hs)
def nG (P:Program) (σ:aA):DV→Option (List DV)
 | .ptr id off=>match σ.look id with
  | some (.box _ cells)=>some (cells.drop off)
  | _=>none
 | .iptr cs off=>some ((cs.drop off).map .d)
 | .eptr id i sz off=>match σ.look id with
  | some (.arr elem es)=>if sz=P.cellsOf elem then match es[i]? with
   | some c=>some (c.drop off)
   | none=>none else none
  | _=>none
 | _=>none
theorem nJ {t:TypeId} {x:Operand} {cells:List DV} (hx:e.ev x=some d) (hb:nG P σ d=some cells) (hc:lX P t cells=some d'):Ev P (.load t x) e σ n d' σ :=
 eY rfl (by
  simp only [aK,hx]
  unfold nG at hb
  split at hb
  ·split at hb
   ·rename_i hl;cases hb;simp only [hl];exact hc
   ·cases hb
  ·cases hb;exact hc
  ·split at hb
   ·rename_i hl
    split at hb
    ·rename_i hsz
     split at hb
     ·rename_i hk;cases hb;simp only [hl,hsz,if_true,hk];exact hc
     ·cases hb
    ·cases hb
   ·cases hb
  ·cases hb)
theorem HW {t:TypeId} {x:Operand} {cells:List DV} (ht:i7 P t=some false) (hx:e.ev x=some d) (hb:wY σ d=some cells) (hc:cells.head? = some d'):Ev P (.load t x) e σ n d' σ :=
 nJ hx (show nG P σ d=some cells by cases d <;> first | exact hb | cases hb) (by simp only [lX,ht];exact hc)
theorem BR {t:TypeId} {x:Operand} {cells l:List DV} {m:Nat} (ht:i7 P t=some true) (hn:P.cellsOf t=m) (hx:e.ev x=some d) (hb:wY σ d=some cells) (hc:cells.take m=l) (hle:Nat.ble m l.length=true):Ev P (.load t x) e σ n (.agg l) σ :=
 nJ hx (show nG P σ d=some cells by cases d <;> first | exact hb | cases hb) (by
  have hle':m≤cells.length:=by
   have:=Nat.le_of_ble_eq_true hle
   rw [← hc,List.length_take] at this
   omega
  simp only [lX,ht,hn,hle',if_true,hc])
theorem mQ {t el:TypeId} {x:Operand} {id i sz off:Nat} {es:List (List DV)} {c:List DV} (ht:i7 P t=some false) (hx:e.ev x=some (.eptr id i sz off)) (hl:σ.look id=some (.arr el es)) (hs:P.cellsOf el=sz) (hi:es[i]? = some c) (hc:(c.drop off).head? = some d') :
  Ev P (.load t x) e σ n d' σ :=
 nJ hx (show nG P σ (.eptr id i sz off)=some (c.drop off) by simp only [nG,hl,hs,if_true,hi]) (by simp only [lX,ht];exact hc)
theorem jA {t el:TypeId} {x:Operand} {id i sz off m:Nat} {es:List (List DV)} {c l:List DV} (ht:i7 P t=some true) (hn:P.cellsOf t=m) (hx:e.ev x=some (.eptr id i sz off)) (hl:σ.look id=some (.arr el es)) (hs:P.cellsOf el=sz) (hi:es[i]? = some c) (hc:(c.drop off).take m=l) (hle:Nat.ble m l.length=true) :
  Ev P (.load t x) e σ n (.agg l) σ :=
 nJ hx (show nG P σ (.eptr id i sz off)=some (c.drop off) by simp only [nG,hl,hs,if_true,hi]) (by
  have hle':m≤(c.drop off).length:=by
   have:=Nat.le_of_ble_eq_true hle
   rw [← hc,List.length_take] at this
   omega
  simp only [lX,ht,hn,hle',if_true,hc])
theorem AL {x:Operand} {i:Nat} {vs:List DV} (hx:e.ev x=some (.tup vs)) (hi:vs[i]? = some d):Ev P (.extract x i) e σ n d σ:=eY rfl (by simp only [aK,hx];exact hi)
theorem HS {t:TypeId} (hz:iT P t=some d) (hc:eO d=true):Ev P (.alloc t) e σ σ.length (.ptr σ.length 0) (σ++[some (.box t (aH d))]):=by
 exact ⟨by simp only [aZ,fT,hz,hc,if_true,Option.map,aA.put_eq,Nat.lt_irrefl,if_false]⟩
theorem QN {t:TypeId} {x:Operand} (hx:e.ev x=some d) (hc:eO d=true):Ev P (.box t x) e σ σ.length (.ptr σ.length 0) (σ++[some (.box t (aH d))]):=by
 exact ⟨by simp only [aZ,fT,hx,hc,if_true,Option.map,aA.put_eq,Nat.lt_irrefl,if_false]⟩
theorem R8 {x:Operand} {t:TypeId} {s:ByteArray} (ht:P.underlying t=some .string) (hx:e.ev x=some (.d (.sc (.string s)))):Ev P (.call { callee := .builtin .len,args:=#[x],argTypes:=#[t] }) e σ n (.d (.sc (.int .i64 s.size))) σ :=
 eY rfl (by simp [aK,hx,ht])
theorem R7 {x:Operand} {t el:TypeId} {es:List (List aR)} (ht:P.underlying t=some (.slice el)) (hx:e.ev x=some (.d (.lst es))):Ev P (.call { callee := .builtin .len,args:=#[x],argTypes:=#[t] }) e σ n (.d (.sc (.int .i64 es.length))) σ :=
 eY rfl (by simp [aK,hx,ht])
theorem yN {x:Operand} {t el el':TypeId} {id:Nat} {es:List (List DV)} (ht:P.underlying t=some (.slice el)) (hx:e.ev x=some (.arr id)) (hl:σ.look id=some (.arr el' es)):Ev P (.call { callee := .builtin .len,args:=#[x],argTypes:=#[t] }) e σ n (.d (.sc (.int .i64 es.length))) σ :=
 eY rfl (by simp [aK,hx,ht,hl])
theorem R3 {x i:Operand} {t el:TypeId} {sz:Nat} {es:List (List aR)} {cs:List aR} {kd:IntKind} {m:Int} (ht:dU P t=some (el,sz)) (hx:e.ev x=some (.d (.lst es))) (hi:e.ev i=some (.d (.sc (.int kd m)))) (h0:0≤m) (hc:es[m.toNat]? = some cs) (hsz:cs.length=sz∧sz≠0) :
  Ev P (.indexAddr t x i) e σ n (.iptr cs 0) σ:=eY rfl (by simp only [aK,ht,hx,hi,h0,if_true,hc,hsz,ne_eq,not_false_eq_true,and_self])
theorem BP {x i:Operand} {t el el':TypeId} {sz id:Nat} {es:List (List DV)} {kd:IntKind} {m:Int} (ht:dU P t=some (el,sz)) (hx:e.ev x=some (.arr id)) (hi:e.ev i=some (.d (.sc (.int kd m)))) (hl:σ.look id=some (.arr el' es)) (h0:0≤m) (h1:m < (es.length:Int)) (hs:P.cellsOf el'=sz) :
  Ev P (.indexAddr t x i) e σ n (.eptr id m.toNat sz 0) σ:=eY rfl (by simp only [aK,ht,hx,hi,hl,h0,h1,hs,and_self,if_true])
theorem R0 {x i:Operand} {t:TypeId} {s:ByteArray} {kd:IntKind} {m:Int} (ht:r5 P t=true) (hx:e.ev x=some (.d (.sc (.string s)))) (hi:e.ev i=some (.d (.sc (.int kd m)))) (h0:0≤m) (h1:m < (s.size:Int)):Ev P (.index t x i) e σ n (.d (.sc (.int .u8 (bt s m.toNat)))) σ :=
 eY rfl (by simp only [aK,hx,hi,h0,h1,ht,and_self,if_true])
theorem v_convB {src t:TypeId} {x:Operand} {id:Nat} {el:TypeId} {es:List (List DV)} {l:List UInt8} (hs:(P.underlying src).isSome=true) (ht:P.underlying t=some .string) (hx:e.ev x=some (.arr id)) (hl:σ.look id=some (.arr el es)) (hb:isB P src=true) (h1:P.cellsOf el=1) (hm:es.mapM byteA=some l):Ev P (.convert src t x) e σ n (.d (.sc (.string ⟨l.toArray⟩))) σ :=
 eY rfl (by simp only [aK,hs,ht,hx,hl,hb,h1,hm,if_true,and_self,Option.map])
theorem v_convD {src t:TypeId} {x:Operand} {es:List (List aR)} {l:List UInt8} (hs:(P.underlying src).isSome=true) (ht:P.underlying t=some .string) (hx:e.ev x=some (.d (.lst es))) (hb:isB P src=true) (hm:es.mapM byteD=some l):Ev P (.convert src t x) e σ n (.d (.sc (.string ⟨l.toArray⟩))) σ :=
 eY rfl (by simp only [aK,hs,ht,hx,hb,hm,if_true,Option.map])
theorem R6 {fn:Fn} {first cap:Array Operand} {a b:List DV} (ha:first.toList.mapM e.ev=some a) (hb:cap.toList.mapM e.ev=some b):Ev P (.makeFunc fn first cap) e σ n (.fn fn a b) σ:=eY rfl (by simp only [aK,ha,hb])
theorem NE {t el:TypeId} {x:Operand} {lo hi:Option Operand} {es:List (List aR)} {l h sz:Nat} (ht:dU P t=some (el,sz)) (hx:e.ev x=some (.d (.lst es))) (hh:eX e es.length es.length hi=some h) (hl:eX e 0 h lo=some l) (ha:es.all (fun c=>c.length == sz)=true) :
  Ev P (.slice t x lo hi none) e σ n (.d (.lst ((es.drop l).take (h - l)))) σ:=⟨by simp only [aZ,eI,aK,hx,ht,hh,hl,ha,if_true,Option.map]⟩
theorem P0 {t:TypeId} {parts:Array (Nat × Operand)} {zs cs:List DV} {vs:List (Nat × DV)} (hs:qI P t=true) (hz:iT P t=some (.agg zs)) (hp:parts.toList.mapM (fun p=>(e.ev p.2).bind fun v=>if pT v then some (p.1,v) else none)=some vs) (hf:rZ (iW P t) zs vs=some cs) :
  Ev P (.build t parts) e σ n (.agg cs) σ:=eY rfl (by simp only [aK,hs,if_true,hz,hp,hf,Option.map])
theorem r_v {op:Op} (h:Ev P op e σ σ.length d σ') (hp:mO op=true) (hd:fQ nt dst=true) (k:eC P nt ops rest (e.put dst d) σ' K):eC P nt ops (⟨dst,op,ty,pos,after,none⟩::rest) e σ K:=PM hp hd h.h k
theorem PN {t ty':TypeId} {a x:Operand} {id off m:Nat} {cells new:List DV} (hx:e.ev x=some d) (him:(P.info? t).map (·.size)=some m) (hc:(eO d && (aH d).length == m)=true) (ha:e.ev a=some (.ptr id off)) (hl:σ.look id=some (.box ty' cells)) (hle:Nat.ble (off + m) cells.length=true)
  (hn:cells.take off++aH d++cells.drop (off + m)=new) (hs:σ.put id (some (.box ty' new))=σ') (k:eC P nt ops rest e σ' K):eC P nt ops (⟨none,.store t a x,ty,pos,after,none⟩::rest) e σ K:=by
 obtain ⟨inf,hi,hm⟩:=Option.map_eq_some_iff.1 him
 subst hm hn hs
 exact sT rfl rfl rfl (by simp only [aZ,dW,hi,hx,hc,if_true,ha,hl,Nat.le_of_ble_eq_true hle,Option.map]) k
theorem MU {t el:TypeId} {a x:Operand} {id i sz off m:Nat} {es:List (List DV)} {c:List DV} (hx:e.ev x=some d) (him:(P.info? t).map (·.size)=some m) (hc:(eO d && (aH d).length == m)=true) (ha:e.ev a=some (.eptr id i sz off)) (hl:σ.look id=some (.arr el es)) (hk:es[i]? = some c) (hsz:P.cellsOf el=sz)
  (hle:off + m≤c.length) (hs:σ.put id (some (.arr el (es.set i (c.take off++aH d++c.drop (off + m)))))=σ') (k:eC P nt ops rest e σ' K):eC P nt ops (⟨none,.store t a x,ty,pos,after,none⟩::rest) e σ K:=by
 obtain ⟨inf,hi,hm⟩:=Option.map_eq_some_iff.1 him
 subst hm hs hsz
 exact sT rfl rfl rfl (by simp only [aZ,dW,hi,hx,hc,if_true,ha,hl,hk,hle,and_self,Option.map]) k
end
end Go.Ab
