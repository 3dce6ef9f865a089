import Derived.Test.YtdeikigmgdnojaaGreatDoorT17
import Derived.Test.YtdeikigmgdnojaaGreatDoorT16
/- A part of the proof of one law. -/
set_option maxRecDepth 100000
set_option maxHeartbeats 8000000
set_option linter.unusedVariables false
set_option linter.unusedSimpArgs false
namespace Go.Ab
open Go
abbrev d6:Ak:=⟨0,0,0,g9,g9,0,[],[],kW⟩
abbrev iK:Tn:=⟨false,d6,g9,kW⟩
def aN (c:List Fc) (t:Fm):In:=aC (aC c t.fn).code t.pc
def aD (t:Fm) (n:Int):Va:=aC t.slots n
def aY (t:Fm) (l:List Int):List Va:=l.map (aD t)
def dJ (t:Fm) (k:Int):Fa:=⟨(aD t k).n,(aD t (k + 1)).s⟩
def cS (t:Fm) (k:Int):Bool:=decide ((aD t k).k=1) && (decide ((aD t (k + 1)).k=3) && gW (dJ t k).k (dJ t k).t)
def lA (t:Fm) (x:In):Am :=
 if x.a=3 then ⟨x.a,g9,g9,(aD t (aC x.l 0)).n⟩ else if x.a=2 then ⟨x.a,aD t (aC x.l 0),aD t (aC x.l 1),0⟩ else ⟨x.a,aD t (aC x.l 0),g9,0⟩
def l8 (t:Fm) (x:In):Bool:=!decide (x.a=3) || decide ((aD t (aC x.l 0)).k=1)
def fP (c:List Fc) (t:Fm):List In:=d5 (aC c t.fn).code t.pc.toNat
def bX (c:List Fc) (t:Fm) (x:In):Ak :=
 if x.b=2∨x.b=12∨x.b=20∨x.b=21 then { d6 with kind:=x.b,n:=(aD t (aC x.l 0)).n }
 else if x.b=8 then { d6 with kind:=x.b,n:=(aD t (aC x.l 0)).n,m:=x.c }
 else if x.b=3∨x.b=6∨x.b=7∨x.b=10∨x.b=11∨x.b=13∨x.b=14 then { d6 with kind:=x.b,v:=aD t (aC x.l 0) }
 else if x.b=9 then { d6 with kind:=x.b,v:=aD t (aC x.l 0),w:=aD t (aC x.l 1) }
 else if x.b=5 then { d6 with kind:=x.b,fn:=x.c,args:=aY t x.l }
 else if x.b=16 then (if x.l=[] then { d6 with kind:=x.b,n:=x.c,m:=-1 } else { d6 with kind:=x.b,n:=x.c,m:=(aD t (aC x.l 0)).n })
 else if x.b=17 then (if x.l=[] then { d6 with kind:=x.b } else { d6 with kind:=x.b,f:=dJ t (aC x.l 0) })
 else if x.b=15 then { d6 with kind:=x.b,n:=x.c,arms:=(fP c t).map (lA t) }
 else { d6 with kind:=x.b }
def bT (c:List Fc) (t:Fm) (x:In):Bool :=
 if x.b=2∨x.b=12∨x.b=20∨x.b=21∨x.b=8 then decide ((aD t (aC x.l 0)).k=1)
 else if x.b=16 then (decide (x.l=[]) || decide ((aD t (aC x.l 0)).k=1))
 else if x.b=17 then (decide (x.l=[]) || cS t (aC x.l 0))
 else if x.b=15 then (fP c t).all (l8 t)
 else true
def fK (t:Fm) (n:Int) (v:Va):Fm:={ t with slots:=t.slots.set n.toNat v }
def dS (t:Fm):Fm:={ t with pc:=t.pc + 1 }
def BV (t:Fm) (n:Int):Fm:={ t with pc:=n }
def o5 (c:List Fc) (t:Fm) (f:Fa):Fm :=
 let g:=aC (aC c t.fn).guards (cH (aC c t.fn) t.pc)
 { t with slots:=(t.slots.set g.slot.toNat ⟨1,f.k,⟨#[]⟩⟩).set (g.slot + 1).toNat ⟨3,0,f.t⟩,pc:=g.at' }
def cT (c:List Fc) (f:Fa):List Fm→List Fm
 | []=>[]
 | t::r=>if cH (aC c t.fn) t.pc < 0 then cT c f r else o5 c t f::r
def eW (c:List Fc) (fn tt:Int) (args:List Va):Fm:=⟨fn,0,tt,args++List.replicate ((aC c fn).slots.toNat - args.length) g9⟩
inductive Ou where
 | more (ts:List Fm)
 | turn (ts:List Fm) (t:Tn)
def dE (c:List Fc) (f:Fa) (ts:List Fm):Ou:=match cT c f ts with
 | [] => .turn [] ⟨true,d6,g9,f⟩
 | ts' => .more ts'
def jW (c:List Fc) (t:Fm) (r:List Fm) (n:Int) (v:Va) (f:Fa):Ou :=
 if f.k≠0 then dE c f (t::r) else .more (dS (if n≥0 then fK t n v else t)::r)
def cE (c:List Fc) (t:Fm) (r:List Fm):Ou :=
 let x:=aN c t
 if x.op=1 then .more (dS (fK t x.a x.v)::r)
 else if x.op=2 then .more (dS (fK t x.a (aD t x.b))::r)
 else if x.op=3 then jW c t r x.a (eN x.b (aD t x.c)).1 (eN x.b (aD t x.c)).2
 else if x.op=4 then jW c t r x.a (mJ x.b (aD t x.c) (aD t (aC x.l 0))).1 (mJ x.b (aD t x.c) (aD t (aC x.l 0))).2
 else if x.op=5 then .more (BV t x.a::r)
 else if x.op=6 then (if (aD t x.a).k≠2 then dE c (l9 eA) (t::r) else if (aD t x.a).n=0 then .more (BV t x.b::r) else .more (dS t::r))
 else if x.op=7 then (if r.length + 1=24 then dE c (l9 ⟨#[100,101,101,112]⟩) (t::r) else .more (eW c x.b x.a (aY t x.l)::t::r))
 else if x.op=8 then (match r with
  | [] => .turn [] ⟨true,d6,if x.a≥0 then aD t x.a else g9,kW⟩
  | u::r => .more (dS (if t.to≥0 then fK u t.to (if x.a≥0 then aD t x.a else g9) else u)::r))
 else if x.op=9 then dE c (if (aD t x.a).k=3 then l9 (aD t x.a).s else l9 eA) (t::r)
 else if x.op=10 then (if bT c t x then .turn (t::r) ⟨false,bX c t x,g9,kW⟩ else dE c (l9 eA) (t::r))
 else if x.op=11 then .more (dS t::r)
 else if x.op=12 then (if (aD t x.a).k=1∧0≤(aD t x.a).n∧(aD t x.a).n < (x.l.length:Int) then .more (BV t (aC x.l (aD t x.a).n)::r) else dE c (l9 eA) (t::r))
 else if x.op=13 then (if aD t x.a=⟨1,1,⟨#[]⟩⟩ then .more (dS t::r) else .more (BV t x.b::r))
 else dE c (if cS t x.a∧(dJ t x.a).k≠0 then dJ t x.a else l9 eA) (t::r)
def sQ (c:List Fc):Nat→List Fm→Option (List Fm × Tn)
 | _,[]=>none
 | 0,_=>none
 | n + 1,t::r=>match cE c t r with
  | .more ts=>sQ c n ts
  | .turn ts u=>some (ts,u)
def aO (rows:List (List aR)):List (List DV):=rows.map fun r=>r.map .d
def i8 (v:Value):List Nat:=(cY v).toList
def cG (l:List (Value × List (List aR))):List Nat:=l.flatMap fun p=>i8 p.1
def SU (P:Program) (va:TypeId) (l:List (Value × List (List aR))):World→(Nat→Prop)→Value→Prop:=fun w M _ =>
 (cG l).Nodup∧∀ p ∈ l,(∃ A n c,p.1 = .slice A n c)∧bE P (fun _=>none) w M p.1 (.arr va (aO p.2))
abbrev bS (P:Program) (va:TypeId) (l:List (Value × List (List aR))):aU := .deep (SU P va l) (cG l)
def ZE (P:Program) (run fr va:TypeId) (pre post:List aR) (b0:Nat) (fv:Value) (rows:List (List aR)) (l:List (Value × List (List aR))):World→(Nat→Prop)→Value→Prop:=fun w M v =>
 v = .pointer (some ⟨b0,0,none⟩)∧(∃ A n c,fv = .slice A n c)∧bE P (fun i=>if i=0 then some fv else none) w M v (.box run (pre.map .d ++ .arr 0::post.map .d)) ∧
  bE P (fun _=>none) w M fv (.arr fr (aO rows))∧SU P va l w M v∧(b0::(i8 fv++cG l)).Nodup
abbrev sK (P:Program) (run fr va:TypeId) (pre post:List aR) (b0:Nat) (fv:Value) (rows:List (List aR)) (l:List (Value × List (List aR))):aU :=
 .deep (ZE P run fr va pre post b0 fv rows l) (b0::(i8 fv++cG l))
section
variable {P:Program} {X:Nat→Prop} {ι:bZ} {σ:aA} {w:World} {M:Nat→Prop} {run fr va:TypeId} {pre post:List aR} {b0:Nat} {fv:Value} {rows:List (List aR)} {l:List (Value × List (List aR))}
theorem gD {v:Value} {b:Nat}:b ∈ i8 v↔cY v=some b:=by simp [i8]
theorem IH {b:Nat}:b ∈ cG l↔∃ p ∈ l,cY p.1=some b:=by simp [cG,gD]
theorem jJ:ER (SU P va l) (cG l):=fun w w' M M' v ⟨h0,h⟩ hb hf hM=>⟨h0,fun p hp=>⟨(h p hp).1,(h p hp).2.mono (fun _ _ h=>h) hf hM (fun b hbb=>hb b (IH.2 ⟨p,hp,hbb⟩))⟩⟩
theorem FN:ER (ZE P run fr va pre post b0 fv rows l) (b0::(i8 fv++cG l)):=fun w w' M M' v ⟨h1,h2,h3,h4,h5,h6⟩ hb hf hM =>
 ⟨h1,h2,h3.mono (fun _ _ h=>h) hf hM (fun b hbb=>hb b (by subst h1;simp [kV,cY] at hbb;simp [hbb])),h4.mono (fun _ _ h=>h) hf hM (fun b hbb=>hb b (by simp [gD.2 hbb])),
  jJ _ _ _ _ _ h5 (fun b hbb=>hb b (by simp [hbb])) hf hM,h6⟩
theorem lH {f:Nat→Nat} {t:TypeId}:(aU.arr t (aO rows)).ren f = .arr t (aO rows):=by
 simp only [aU.ren,aO,List.map_map,aU.arr.injEq,true_and]
 apply List.map_congr_left
 intro r _
 simp only [Function.comp,cU,List.map_map]
 apply List.map_congr_left
 intro x _
 rfl
theorem DM {t:TypeId}:(aU.arr t (aO rows)).under 0=true:=by
 simp only [aU.under,aO,List.all_map,List.all_eq_true]
 intro r _
 exact fB 0 r
theorem bE.rows_any {ι ι':bZ} {v:Value} {t:TypeId} (h:bE P ι w M v (.arr t (aO rows))):bE P ι' w M v (.arr t (aO rows)):=by
 have h1:bE P ι w M v ((aU.arr t (aO rows)).ren id):=by rw [lH];exact h
 exact bE.renDown (n:=0) (fun i hi=>absurd hi (Nat.not_lt_zero i)) h1 DM
theorem AY (f:Nat→Nat) (n:Nat):(aU.box run (pre.map .d ++ .arr n::post.map .d)).ren f = .box run (pre.map .d ++ .arr (f n)::post.map .d):=by
 simp only [aU.ren,cU,List.map_append,List.map_map,List.map_cons,DV.ren]
 congr 2
theorem IL {n:Nat}:(aU.box run (pre.map .d ++ .arr n::post.map .d)).under (n + 1)=true:=by
 simp only [aU.under,nD]
 intro x hx
 simp only [List.mem_append,List.mem_map,List.mem_cons] at hx
 rcases hx with ⟨_,_,rfl⟩ | rfl | ⟨_,_,rfl⟩ <;> simp [DV.under]
theorem eZ {τ r:aA} {j:Nat}:aA.look (τ++r) j=if j < τ.length then τ.look j else r.look (j - τ.length):=by
 unfold aA.look
 by_cases h:j < τ.length
 ·rw [if_pos h,List.getElem?_append_left h]
 ·rw [if_neg h,List.getElem?_append_right (by omega)]
theorem Comes'.regroup {ι':bZ} {σ':aA} (hh:aQ P X ι σ w) (hι:∀ id v,ι id=some v→ι' id=some v) (hfresh:∀ id,σ'.length≤id→ι' id=none)
  (hobj:∀ id o,σ'.look id=some o→σ.look id=some o∨∃ v,ι' id=some v∧bE P ι' w (bQ X ι σ) v o) (hM:∀ b,g8 ι' σ' b→g8 ι σ b)
  (hinj:∀ id id' o o' v v' b,σ'.look id=some o→σ'.look id'=some o'→ι' id=some v→ι' id'=some v'→kV o v b→kV o' v' b→id=id'):Comes' P X ι σ σ' w ι' w:=by
 refine ⟨hι,a8.refl _ w,hh.change (a8.refl _ w) hι hfresh (fun id o ho=>?_) (fun b _=>hM b) hinj,fun b _=>hM b⟩
 rcases hobj id o ho with h | ⟨v,h1,h2⟩
 ·exact .inl ⟨h,fun _ _ _ _=>rfl⟩
 ·exact .inr ⟨v,h1,h2.mono (fun _ _ h=>h) (a8.refl _ w) (fun b _ hb=>hb.imp (fun h=>h) (hM b)) (fun _ _=>rfl)⟩
theorem xU {k:Nat} (hh:aQ P X ι σ w) (hl:σ.look k=some (sK P run fr va pre post b0 fv rows l)) :
  ∃ ι',Comes' P X ι σ (σ.put k (some (.box run (pre.map .d ++ .arr σ.length::post.map .d)))++[some (.arr fr (aO rows)),some (bS P va l)]) w ι' w∧ι' σ.length=some fv∧∀ i,i < σ.length→ι' i=ι i:=by
 have hk:=a7 hl
 obtain ⟨v,hv,ho⟩:=hh.obj k _ hl
 cases ho with
 | deep _ _ _ hT _ hlt =>
 obtain ⟨h1,⟨A,n0,c0,hfs⟩,h3,h4,h5,h6⟩:=hT
 have hlen:(σ.put k (some (aU.box run (pre.map .d ++ .arr σ.length::post.map .d)))).length=σ.length:=by rw [aA.length_put,if_pos hk]
 let ι':bZ:=fun i=>if i=σ.length then some fv else if i=σ.length + 1 then some (.bool true) else ι i
 have hlook:∀ j,aA.look (σ.put k (some (.box run (pre.map .d ++ .arr σ.length::post.map .d)))++[some (.arr fr (aO rows)),some (bS P va l)]) j =
   if j=k then some (.box run (pre.map .d ++ .arr σ.length::post.map .d)) else if j=σ.length then some (.arr fr (aO rows)) else if j=σ.length + 1 then some (bS P va l) else σ.look j:=by
  intro j
  rw [eZ,hlen,aA.look_put (Nat.le_of_lt hk)]
  by_cases hj:j < σ.length
  ·rw [if_pos hj]
   by_cases hjk:j=k
   ·simp [hjk]
   ·simp only [hjk,if_false];rw [if_neg (by omega),if_neg (by omega)]
  ·rw [if_neg hj,if_neg (by omega)]
   by_cases e1:j=σ.length
   ·rw [if_pos e1,e1,Nat.sub_self];rfl
   ·rw [if_neg e1]
    by_cases e2:j=σ.length + 1
    ·rw [if_pos e2,e2,Nat.add_sub_cancel_left];rfl
    ·rw [if_neg e2]
     have g1:aA.look [some (aU.arr fr (aO rows)),some (bS P va l)] (j - σ.length)=none:=by
      unfold aA.look;rw [List.getElem?_eq_none (by simp;omega)];rfl
     have g2:σ.look j=none:=by unfold aA.look;rw [List.getElem?_eq_none (by omega)];rfl
     rw [g1,g2]
 have hι:∀ id u,ι id=some u→ι' id=some u:=fun id u h=>by
  have:id < σ.length:=by
   rcases Nat.lt_or_ge id σ.length with h' | h'
   ·exact h'
   ·rw [hh.fresh id h'] at h;cases h
  simp only [ι'];rw [if_neg (by omega),if_neg (by omega)];exact h
 have hkeep:∀ i,i < σ.length→ι' i=ι i:=fun i hi=>by simp only [ι'];rw [if_neg (by omega),if_neg (by omega)]
 have which:∀ id o u b,aA.look (σ.put k (some (.box run (pre.map .d ++ .arr σ.length::post.map .d)))++[some (.arr fr (aO rows)),some (bS P va l)]) id=some o→ι' id=some u→kV o u b →
   (id≠k∧σ.look id=some o∧ι id=some u)∨(id=k∧b=b0)∨(id=σ.length∧b ∈ i8 fv)∨(id=σ.length + 1∧b ∈ cG l):=by
  intro id o u b g1 g2 g3
  rw [hlook] at g1
  by_cases e1:id=k
  ·rw [if_pos e1] at g1;cases g1
   subst e1
   rw [hkeep _ hk,hv] at g2;cases g2
   subst h1
   simp [kV,cY] at g3
   exact .inr (.inl ⟨rfl,g3.symm⟩)
  ·rw [if_neg e1] at g1
   by_cases e2:id=σ.length
   ·rw [if_pos e2] at g1;cases g1
    simp only [ι',if_pos e2] at g2;cases g2
    exact .inr (.inr (.inl ⟨e2,gD.2 g3⟩))
   ·rw [if_neg e2] at g1
    by_cases e3:id=σ.length + 1
    ·rw [if_pos e3] at g1;cases g1
     exact .inr (.inr (.inr ⟨e3,g3⟩))
    ·rw [if_neg e3] at g1
     simp only [ι',if_neg e2,if_neg e3] at g2
     exact .inl ⟨e1,g1,g2⟩
 have inK:∀ b,b ∈ b0::(i8 fv++cG l)→g8 ι σ b:=fun b hb=>⟨k,_,v,hl,hv,hb⟩
 have m0:b0 ∈ b0::(i8 fv++cG l):=by simp
 have m1:∀ b,b ∈ i8 fv→b ∈ b0::(i8 fv++cG l):=fun b h=>by simp [h]
 have m2:∀ b,b ∈ cG l→b ∈ b0::(i8 fv++cG l):=fun b h=>by simp [h]
 rw [List.nodup_cons,List.nodup_append] at h6
 obtain ⟨n1,n2,n3,n4⟩:=h6
 refine ⟨ι',Comes'.regroup hh hι (fun id hid=>?_) (fun id o ho=>?_) (fun b hb=>?_) (fun id id' o o' u u' b g1 g2 g3 g4 g5 g6=>?_),by simp [ι'],hkeep⟩
 ·rw [List.length_append,hlen] at hid
  simp only [List.length_cons,List.length_nil] at hid
  simp only [ι'];rw [if_neg (by omega),if_neg (by omega)];exact hh.fresh id (by omega)
 ·rw [hlook] at ho
  split at ho
  ·rename_i e1;subst e1;cases ho
   refine .inr ⟨v,by rw [hkeep _ hk];exact hv,?_⟩
   have:=h3.renUp (ι':=ι') (f:=fun _=>σ.length) (fun id u h=>by
    split at h
    ·cases h;simp [ι']
    ·cases h)
   rw [AY] at this
   exact this
  ·split at ho
   ·rename_i e2;cases ho
    exact .inr ⟨fv,by simp only [ι',if_pos e2],h4.rows_any⟩
   ·split at ho
    ·rename_i e2 e3;cases ho
     exact .inr ⟨.bool true,by simp only [ι',if_neg e2,if_pos e3],.deep _ _ _ h5 jJ (fun b hb=>hlt b (m2 b hb))⟩
    ·exact .inl ho
 ·obtain ⟨id,o,u,g1,g2,g3⟩:=hb
  rcases which id o u b g1 g2 g3 with ⟨_,a,c⟩ | ⟨_,rfl⟩ | ⟨_,h⟩ | ⟨_,h⟩
  ·exact ⟨id,o,u,a,c,g3⟩
  ·exact inK _ m0
  ·exact inK _ (m1 _ h)
  ·exact inK _ (m2 _ h)
 ·have key:∀ id o u,id≠k→σ.look id=some o→ι id=some u→kV o u b→b ∈ b0::(i8 fv++cG l)→False:=fun id o u hne a c d hb =>
   hne (hh.inj id k o _ u v b a hl c hv d hb)
  rcases which id o u b g1 g3 g5 with ⟨p1,p2,p3⟩ | ⟨p1,p2⟩ | ⟨p1,p2⟩ | ⟨p1,p2⟩ <;> rcases which id' o' u' b g2 g4 g6 with ⟨q1,q2,q3⟩ | ⟨q1,q2⟩ | ⟨q1,q2⟩ | ⟨q1,q2⟩
  ·exact hh.inj id id' o o' u u' b p2 q2 p3 q3 g5 g6
  ·subst q2;exact (key id o u p1 p2 p3 g5 m0).elim
  ·exact (key id o u p1 p2 p3 g5 (m1 _ q2)).elim
  ·exact (key id o u p1 p2 p3 g5 (m2 _ q2)).elim
  ·subst p2;exact (key id' o' u' q1 q2 q3 g6 m0).elim
  ·rw [p1,q1]
  ·subst p2;exact absurd (List.mem_append_left _ q2) n1
  ·subst p2;exact absurd (List.mem_append_right _ q2) n1
  ·exact (key id' o' u' q1 q2 q3 g6 (m1 _ p2)).elim
  ·subst q2;exact absurd (List.mem_append_left _ p2) n1
  ·rw [p1,q1]
  ·exact (n4 b p2 b q2 rfl).elim
  ·exact (key id' o' u' q1 q2 q3 g6 (m2 _ p2)).elim
  ·subst q2;exact absurd (List.mem_append_right _ p2) n1
  ·exact (n4 b q2 b p2 rfl).elim
  ·rw [p1,q1]
end
section
variable {P:Program} {X:Nat→Prop} {ι:bZ} {σ:aA} {w:World} {M:Nat→Prop} {run fr va:TypeId} {pre post:List aR} {b0:Nat} {fv:Value} {rows:List (List aR)} {l l':List (Value × List (List aR))}
theorem aM {k:Nat} {o0:aU} {o:Option aU} (h:σ.look k=some o0) (j:Nat):(σ.put k o).look j=if j=k then o else σ.look j:=aA.look_put (Nat.le_of_lt (a7 h)) j
theorem bV {k:Nat} {o0:aU} {o:Option aU} (h:σ.look k=some o0):(σ.put k o).length=σ.length:=by rw [aA.length_put,if_pos (a7 h)]
theorem bE.sl {v:Value} {el:TypeId} {es:List (List DV)} (h:bE P ι w M v (.arr el es)):∃ A n c,v = .slice A n c:=by cases h <;> exact ⟨_,_,_,rfl⟩
theorem zW {k n m:Nat} (hh:aQ P X ι σ w) (hk:σ.look k=some (.box run (pre.map .d ++ .arr n::post.map .d))) (hn:σ.look n=some (.arr fr (aO rows))) (hm:σ.look m=some (bS P va l)) :
  ∃ b0 fv,Comes' P X ι σ (((σ.put k (some (sK P run fr va pre post b0 fv rows l))).put n none).put m none) w ι w∧ι n=some fv:=by
 have hkn:n≠k:=by rintro rfl;rw [hk] at hn;cases hn
 have hkm:m≠k:=by rintro rfl;rw [hk] at hm;cases hm
 have hnm:m≠n:=by rintro rfl;rw [hn] at hm;cases hm
 obtain ⟨v,hv,ho⟩:=hh.obj k _ hk
 obtain ⟨fv,hfv,hf⟩:=hh.obj n _ hn
 obtain ⟨d,hd,hb⟩:=hh.obj m _ hm
 have hslice:∃ A n c,fv = .slice A n c:=hf.sl
 have hvp:∃ b0,v = .pointer (some ⟨b0,0,none⟩):=by cases ho;exact ⟨_,rfl⟩
 obtain ⟨b0,rfl⟩:=hvp
 cases hb with
 | deep _ _ _ hT _ hlt =>
 have l1:(σ.put k (some (sK P run fr va pre post b0 fv rows l))).look n=some (.arr fr (aO rows)):=by rw [aM hk,if_neg hkn];exact hn
 have l2:((σ.put k (some (sK P run fr va pre post b0 fv rows l))).put n none).look m=some (bS P va l):=by rw [aM l1,if_neg hnm,aM hk,if_neg hkm];exact hm
 have hlook:∀ j,(((σ.put k (some (sK P run fr va pre post b0 fv rows l))).put n none).put m none).look j=if j=m then none else if j=n then none else if j=k then some (sK P run fr va pre post b0 fv rows l) else σ.look j:=fun j=>by
  rw [aM l2,aM l1,aM hk]
 have ob0:g8 ι σ b0:=⟨k,_,_,hk,hv,rfl⟩
 have ob1:∀ b,b ∈ i8 fv→g8 ι σ b:=fun b h=>⟨n,_,_,hn,hfv,gD.1 h⟩
 have ob2:∀ b,b ∈ cG l→g8 ι σ b:=fun b h=>⟨m,_,_,hm,hd,h⟩
 have hmem:∀ b,b ∈ b0::(i8 fv++cG l)→∃ q o u,(q=k∨q=n∨q=m)∧σ.look q=some o∧ι q=some u∧kV o u b:=fun b h=>by
  rcases List.mem_cons.1 h with rfl | h
  ·exact ⟨k,_,_,.inl rfl,hk,hv,rfl⟩
  ·rcases List.mem_append.1 h with h | h
   ·exact ⟨n,_,_,.inr (.inl rfl),hn,hfv,gD.1 h⟩
   ·exact ⟨m,_,_,.inr (.inr rfl),hm,hd,h⟩
 have hown:∀ b,b ∈ b0::(i8 fv++cG l)→g8 ι σ b:=fun b h=>by
  obtain ⟨q,o,u,_,g1,g2,g3⟩:=hmem b h
  exact ⟨q,o,u,g1,g2,g3⟩
 have hnd:(b0::(i8 fv++cG l)).Nodup:=by
  rw [List.nodup_cons,List.nodup_append]
  refine ⟨fun h=>?_,?_,hT.1,fun a h1 b h2 e=>?_⟩
  ·rcases List.mem_append.1 h with h | h
   ·exact hkn (hh.inj n k _ _ _ _ b0 hn hk hfv hv (gD.1 h) rfl)
   ·exact hkm (hh.inj m k _ _ _ _ b0 hm hk hd hv h rfl)
  ·unfold i8;cases cY fv <;> simp
  ·subst e;exact hnm (hh.inj m n _ _ _ _ a hm hn hd hfv h2 (gD.1 h1))
 refine ⟨b0,fv,Comes'.regroup hh (fun _ _ h=>h) (fun id hid=>?_) (fun id o h=>?_) (fun b hb=>?_) (fun id id' o o' u u' b g1 g2 g3 g4 g5 g6=>?_),hfv⟩
 ·rw [bV l2,bV l1,bV hk] at hid;exact hh.fresh id hid
 ·rw [hlook] at h
  split at h
  ·cases h
  ·split at h
   ·cases h
   ·split at h
    ·rename_i e;subst e;cases h
     refine .inr ⟨_,hv,.deep _ _ _ ⟨rfl,hslice,?_,hf.rows_any,hT,hnd⟩ FN (fun b hb=>hh.mut_lt (.inr (hown b hb)))⟩
     refine bE.renDown (n:=1) (ι:=ι) (f:=fun _=>n) (fun i hi=>?_) ?_ IL
     ·obtain rfl:i=0:=by omega
      simp [hfv]
     ·rw [AY];exact ho
    ·exact .inl h
 ·obtain ⟨id,o,u,g1,g2,g3⟩:=hb
  rw [hlook] at g1
  split at g1
  ·cases g1
  ·split at g1
   ·cases g1
   ·split at g1
    ·cases g1;exact hown b g3
    ·exact ⟨id,o,u,g1,g2,g3⟩
 ·rw [hlook] at g1 g2
  split at g1
  ·cases g1
  ·split at g1
   ·cases g1
   ·rename_i p1 p2
    split at g2
    ·cases g2
    ·split at g2
     ·cases g2
     ·rename_i q1 q2
      split at g1
      ·split at g2
       ·omega
       ·rename_i q3
        cases g1
        obtain ⟨q,o0,u0,hq,c1,c2,c3⟩:=hmem b g5
        have:=hh.inj id' q _ _ _ _ b g2 c1 g4 c2 g6 c3
        rcases hq with rfl | rfl | rfl <;> omega
      ·rename_i p3
       split at g2
       ·cases g2
        obtain ⟨q,o0,u0,hq,c1,c2,c3⟩:=hmem b g6
        have:=hh.inj id q _ _ _ _ b g1 c1 g3 c2 g5 c3
        rcases hq with rfl | rfl | rfl <;> omega
       ·exact hh.inj id id' _ _ _ _ b g1 g2 g3 g4 g5 g6
theorem sD (h:l.Perm l'):(cG l).Perm (cG l'):=by unfold cG;exact h.flatMap_right _
theorem B6 (hp:l.Perm l') {v:Value} (h:SU P va l w M v):SU P va l' w M v:=⟨(sD hp).nodup_iff.1 h.1,fun p hm=>h.2 p (hp.mem_iff.2 hm)⟩
theorem bE.cellSet {ι ι':bZ} {M:Nat→Prop} {v:Value} {el:TypeId} {rs:List (List DV)} {i j:Nat} {row:List DV} {x y:DV} (h:bE P ι w M v (.arr el rs)) (hι:∀ id u,ι id=some u→ι' id=some u)
  (hi:rs[i]? = some row) (hj:row[j]? = some x) (hxy:∀ u,aX ι w M x u→aX ι' w M y u) (hc:f7 y=true):bE P ι' w M v (.arr el (rs.set i (row.set j y))):=by
 have hil:=(List.getElem?_eq_some_iff.1 hi).1
 generalize hrs:rs=rs' at h
 cases h with
 | nil=>subst hrs;simp at hi
 | arr _ _ b o c cs hb hcl hn hm hs hcell hr =>
  subst hrs
  have hlen:(rs.set i (row.set j y)).length=rs.length:=by simp
  rw [← hlen]
  refine .arr el _ b o c cs hb hcl (by rw [hlen];exact hn) (by rw [hlen];exact hm) (fun e he=>?_) (fun e he z hz=>?_) (fun i' j' e z u h1 h2 h3=>?_)
  ·rcases List.mem_or_eq_of_mem_set he with he | rfl
   ·exact hs e he
   ·rw [List.length_set];exact hs row (List.mem_of_getElem? hi)
  ·rcases List.mem_or_eq_of_mem_set he with he | rfl
   ·exact hcell e he z hz
   ·rcases List.mem_or_eq_of_mem_set hz with hz | rfl
    ·exact hcell row (List.mem_of_getElem? hi) z hz
    ·exact hc
  ·rw [List.getElem?_set] at h1
   split at h1
   ·rename_i e1;subst e1
    cases h1
    rw [List.getElem?_set] at h2
    split at h2
    ·rename_i e2;subst e2
     split at h2
     ·cases h2;exact hxy u (hr i j row x u hi hj h3)
     ·cases h2
    ·exact (hr i j' row z u hi h2 h3).mono hι (a8.refl M w) (fun _ _ h=>h)
   ·exact (hr i' j' e z u h1 h2 h3).mono hι (a8.refl M w) (fun _ _ h=>h)
theorem LB {n m i j:Nat} {u:Value} {s:List (List aR)} {rs:List (List DV)} {row:List DV} (hh:aQ P X ι σ w) (hm:σ.look m=some (bS P va l)) (hp:l.Perm ((u,s)::l')) (hn:σ.look n=some (.arr fr rs)) (hi:rs[i]? = some row) (hj:row[j]? = some (.d (.sc u))) :
  ∃ ι',Comes' P X ι σ (((σ.put m (some (bS P va l'))).put n (some (.arr fr (rs.set i (row.set j (.arr σ.length))))))++[some (.arr va (aO s))]) w ι' w∧∀ i,i < σ.length→ι' i=ι i:=by
 have hnm:n≠m:=by rintro rfl;rw [hn] at hm;cases hm
 obtain ⟨v,hv,ho⟩:=hh.obj m _ hm
 obtain ⟨fv,hfv,hf⟩:=hh.obj n _ hn
 have hml:=a7 hm
 have hnl:=a7 hn
 cases ho with
 | deep _ _ _ hT _ hlt =>
 have hT':=B6 hp hT
 obtain ⟨hsl,hsr⟩:=hT'.2 (u,s) (by simp)
 have l1:(σ.put m (some (bS P va l'))).look n=some (.arr fr rs):=by rw [aM hm,if_neg hnm];exact hn
 have hlen:((σ.put m (some (bS P va l'))).put n (some (.arr fr (rs.set i (row.set j (.arr σ.length)))))).length=σ.length:=by rw [bV l1,bV hm]
 let ι':bZ:=fun i=>if i=σ.length then some u else ι i
 have hlook:∀ q,aA.look (((σ.put m (some (bS P va l'))).put n (some (.arr fr (rs.set i (row.set j (.arr σ.length))))))++[some (.arr va (aO s))]) q =
   if q=n then some (.arr fr (rs.set i (row.set j (.arr σ.length)))) else if q=m then some (bS P va l') else if q=σ.length then some (.arr va (aO s)) else σ.look q:=fun q=>by
  rw [eZ,hlen,aM l1,aM hm]
  by_cases hq:q < σ.length
  ·rw [if_pos hq]
   split
   ·rfl
   ·split
    ·rfl
    ·rw [if_neg (by omega)]
  ·rw [if_neg hq,if_neg (by omega),if_neg (by omega)]
   by_cases e:q=σ.length
   ·rw [if_pos e,e,Nat.sub_self];rfl
   ·rw [if_neg e]
    have g1:aA.look [some (aU.arr va (aO s))] (q - σ.length)=none:=by
     unfold aA.look;rw [List.getElem?_eq_none (by simp;omega)];rfl
    have g2:σ.look q=none:=by unfold aA.look;rw [List.getElem?_eq_none (by omega)];rfl
    rw [g1,g2]
 have hkeep:∀ i,i < σ.length→ι' i=ι i:=fun i hi=>by simp only [ι'];rw [if_neg (by omega)]
 have hι:∀ id u,ι id=some u→ι' id=some u:=fun id u h=>by
  have:id < σ.length:=by
   rcases Nat.lt_or_ge id σ.length with h' | h'
   ·exact h'
   ·rw [hh.fresh id h'] at h;cases h
  rw [hkeep id this];exact h
 have hb1:(cG l).Perm (i8 u++cG l'):=by have:=sD hp;simpa [cG] using this
 have hnd:(i8 u++cG l').Nodup:=hb1.nodup_iff.1 hT.1
 rw [List.nodup_append] at hnd
 have which:∀ id o x b,aA.look (((σ.put m (some (bS P va l'))).put n (some (.arr fr (rs.set i (row.set j (.arr σ.length))))))++[some (.arr va (aO s))]) id=some o→ι' id=some x→kV o x b →
   (∃ o0,id≠m∧σ.look id=some o0∧ι id=some x∧kV o0 x b)∨(id=m∧b ∈ cG l')∨(id=σ.length∧b ∈ i8 u):=by
  intro id o x b g1 g2 g3
  rw [hlook] at g1
  split at g1
  ·rename_i e;subst e;cases g1
   rw [hkeep _ hnl] at g2
   exact .inl ⟨_,hnm,hn,g2,g3⟩
  ·split at g1
   ·rename_i e;cases g1;exact .inr (.inl ⟨e,g3⟩)
   ·split at g1
    ·rename_i e;cases g1
     simp only [ι',if_pos e] at g2;cases g2
     exact .inr (.inr ⟨e,gD.2 g3⟩)
    ·rename_i e1 e2 e3
     simp only [ι',if_neg e3] at g2
     exact .inl ⟨o,e2,g1,g2,g3⟩
 have inl:∀ b,b ∈ cG l'→b ∈ cG l:=fun b h=>hb1.mem_iff.2 (List.mem_append_right _ h)
 have inu:∀ b,b ∈ i8 u→b ∈ cG l:=fun b h=>hb1.mem_iff.2 (List.mem_append_left _ h)
 refine ⟨ι',Comes'.regroup hh hι (fun id hid=>?_) (fun id o h=>?_) (fun b hb=>?_) (fun id id' o o' x x' b g1 g2 g3 g4 g5 g6=>?_),hkeep⟩
 ·rw [List.length_append,hlen] at hid
  simp only [List.length_cons,List.length_nil] at hid
  simp only [ι'];rw [if_neg (by omega)];exact hh.fresh id (by omega)
 ·rw [hlook] at h
  split at h
  ·rename_i e;subst e;cases h
   refine .inr ⟨fv,hι _ _ hfv,hf.cellSet hι hi hj (fun y hy=>?_) rfl⟩
   cases hy with
   | d hy=>cases hy with
    | sc _ _=>exact .arr _ _ (by simp [ι']) hsl
  ·split at h
   ·rename_i e;subst e;cases h
    exact .inr ⟨v,hι _ _ hv,.deep _ _ _ ⟨hnd.2.1,fun p hpm=>hT'.2 p (List.mem_cons_of_mem _ hpm)⟩ jJ (fun b hb=>hlt b (inl b hb))⟩
   ·split at h
    ·rename_i e;cases h
     exact .inr ⟨u,by simp only [ι',if_pos e],hsr.rows_any⟩
    ·exact .inl h
 ·obtain ⟨id,o,x,g1,g2,g3⟩:=hb
  rcases which id o x b g1 g2 g3 with ⟨o0,_,a,c,d⟩ | ⟨_,h⟩ | ⟨_,h⟩
  ·exact ⟨id,o0,x,a,c,d⟩
  ·exact ⟨m,_,v,hm,hv,inl b h⟩
  ·exact ⟨m,_,v,hm,hv,inu b h⟩
 ·rcases which id o x b g1 g3 g5 with ⟨o0,p1,p2,p3,p4⟩ | ⟨p1,p2⟩ | ⟨p1,p2⟩ <;> rcases which id' o' x' b g2 g4 g6 with ⟨o0',q1,q2,q3,q4⟩ | ⟨q1,q2⟩ | ⟨q1,q2⟩
  ·exact hh.inj id id' _ _ x x' b p2 q2 p3 q3 p4 q4
  ·exact absurd (hh.inj id m _ _ x v b p2 hm p3 hv p4 (inl b q2)) p1
  ·exact absurd (hh.inj id m _ _ x v b p2 hm p3 hv p4 (inu b q2)) p1
  ·exact absurd (hh.inj id' m _ _ x' v b q2 hm q3 hv q4 (inl b p2)) q1
  ·rw [p1,q1]
  ·exact (hnd.2.2 b q2 b p2 rfl).elim
  ·exact absurd (hh.inj id' m _ _ x' v b q2 hm q3 hv q4 (inu b p2)) q1
  ·exact (hnd.2.2 b p2 b q2 rfl).elim
  ·rw [p1,q1]
theorem OD {n m p i j:Nat} {s:List (List aR)} {rs:List (List DV)} {row:List DV} (hh:aQ P X ι σ w) (hm:σ.look m=some (bS P va l)) (hn:σ.look n=some (.arr fr rs)) (hpn:p≠n) (hpl:σ.look p=some (.arr va (aO s))) (hi:rs[i]? = some row) (hj:row[j]? = some (.arr p)) :
  ∃ u,Comes' P X ι σ (((σ.put m (some (bS P va ((u,s)::l)))).put n (some (.arr fr (rs.set i (row.set j (.d (.sc u))))))).put p none) w ι w:=by
 have hnm:n≠m:=by rintro rfl;rw [hn] at hm;cases hm
 have hpm:p≠m:=by rintro rfl;rw [hpl] at hm;cases hm
 obtain ⟨v,hv,ho⟩:=hh.obj m _ hm
 obtain ⟨fv,hfv,hf⟩:=hh.obj n _ hn
 obtain ⟨u,hu,hs⟩:=hh.obj p _ hpl
 have hsl:∃ A n c,u = .slice A n c:=hs.sl
 cases ho with
 | deep _ _ _ hT _ hlt =>
 have l1:(σ.put m (some (bS P va ((u,s)::l)))).look n=some (.arr fr rs):=by rw [aM hm,if_neg hnm];exact hn
 have l2:((σ.put m (some (bS P va ((u,s)::l)))).put n (some (.arr fr (rs.set i (row.set j (.d (.sc u))))))).look p=some (.arr va (aO s)):=by rw [aM l1,if_neg hpn,aM hm,if_neg hpm];exact hpl
 have hlook:∀ q,(((σ.put m (some (bS P va ((u,s)::l)))).put n (some (.arr fr (rs.set i (row.set j (.d (.sc u))))))).put p none).look q =
   if q=p then none else if q=n then some (.arr fr (rs.set i (row.set j (.d (.sc u))))) else if q=m then some (bS P va ((u,s)::l)) else σ.look q:=fun q=>by
  rw [aM l2,aM l1,aM hm]
 have hbs:∀ b,b ∈ cG ((u,s)::l)→b ∈ i8 u∨b ∈ cG l:=fun b h=>by
  have:cG ((u,s)::l)=i8 u++cG l:=by simp [cG]
  rw [this] at h;exact List.mem_append.1 h
 have hmem:∀ b,b ∈ cG ((u,s)::l)→∃ q o x,(q=m∨q=p)∧σ.look q=some o∧ι q=some x∧kV o x b:=fun b h=>by
  rcases hbs b h with h | h
  ·exact ⟨p,_,_,.inr rfl,hpl,hu,gD.1 h⟩
  ·exact ⟨m,_,_,.inl rfl,hm,hv,h⟩
 have hown:∀ b,b ∈ cG ((u,s)::l)→g8 ι σ b:=fun b h=>by
  obtain ⟨q,o,x,_,g1,g2,g3⟩:=hmem b h
  exact ⟨q,o,x,g1,g2,g3⟩
 have hnd:(cG ((u,s)::l)).Nodup:=by
  have:cG ((u,s)::l)=i8 u++cG l:=by simp [cG]
  rw [this,List.nodup_append]
  refine ⟨by unfold i8;cases cY u <;> simp,hT.1,fun a h1 b h2 e=>?_⟩
  subst e
  exact hpm (hh.inj p m _ _ _ _ a hpl hm hu hv (gD.1 h1) h2)
 have which:∀ id o x b,(((σ.put m (some (bS P va ((u,s)::l)))).put n (some (.arr fr (rs.set i (row.set j (.d (.sc u))))))).put p none).look id=some o→ι id=some x→kV o x b→id≠p∧((∃ o0,id≠m∧σ.look id=some o0∧kV o0 x b)∨(id=m∧b ∈ cG ((u,s)::l))):=by
  intro id o x b g1 g2 g3
  rw [hlook] at g1
  split at g1
  ·cases g1
  ·rename_i e0
   refine ⟨e0,?_⟩
   split at g1
   ·rename_i e;subst e;cases g1;exact .inl ⟨_,hnm,hn,g3⟩
   ·split at g1
    ·rename_i e;cases g1;exact .inr ⟨e,g3⟩
    ·rename_i e;exact .inl ⟨o,e,g1,g3⟩
 refine ⟨u,Comes'.regroup hh (fun _ _ h=>h) (fun id hid=>?_) (fun id o h=>?_) (fun b hb=>?_) (fun id id' o o' x x' b g1 g2 g3 g4 g5 g6=>?_)⟩
 ·rw [bV l2,bV l1,bV hm] at hid;exact hh.fresh id hid
 ·rw [hlook] at h
  split at h
  ·cases h
  ·split at h
   ·rename_i e;subst e;cases h
    refine .inr ⟨fv,hfv,hf.cellSet (fun _ _ h=>h) hi hj (fun y hy=>?_) rfl⟩
    cases hy with
    | arr _ _ hid _=>rw [hu] at hid;cases hid;obtain ⟨A,q,c,rfl⟩:=hsl;exact .d (.sc _ rfl)
   ·split at h
    ·rename_i e;subst e;cases h
     refine .inr ⟨v,hv,.deep _ _ _ ⟨hnd,fun q hq=>?_⟩ jJ (fun b hb=>hh.mut_lt (.inr (hown b hb)))⟩
     rcases List.mem_cons.1 hq with rfl | hq
     ·exact ⟨hsl,hs.rows_any⟩
     ·exact hT.2 q hq
    ·exact .inl h
 ·obtain ⟨id,o,x,g1,g2,g3⟩:=hb
  rcases (which id o x b g1 g2 g3).2 with ⟨o0,_,a,c⟩ | ⟨_,h⟩
  ·exact ⟨id,o0,x,a,g2,c⟩
  ·exact hown b h
 ·obtain ⟨a0,a⟩:=which id o x b g1 g3 g5
  obtain ⟨c0,c⟩:=which id' o' x' b g2 g4 g6
  rcases a with ⟨o0,p1,p2,p3⟩ | ⟨p1,p2⟩ <;> rcases c with ⟨o0',q1,q2,q3⟩ | ⟨q1,q2⟩
  ·exact hh.inj id id' _ _ x x' b p2 q2 g3 g4 p3 q3
  ·obtain ⟨q,oq,xq,hq,d1,d2,d3⟩:=hmem b q2
   have:=hh.inj id q _ _ _ _ b p2 d1 g3 d2 p3 d3
   rcases hq with rfl | rfl <;> omega
  ·obtain ⟨q,oq,xq,hq,d1,d2,d3⟩:=hmem b p2
   have:=hh.inj id' q _ _ _ _ b q2 d1 g4 d2 q3 d3
   rcases hq with rfl | rfl <;> omega
  ·rw [p1,q1]
end
structure SC (P:Program) (e:aW) (σ:aA) (J:aW→aA→Prop):Prop where
 h:∀ X nt w0 ι0 σ0 ι a w,St P X nt w0 ι0 σ0 ι e σ a w→∃ ι' e' σ',J e' σ'∧St P X nt w0 ι0 σ0 ι' e' σ' a w
structure Cv (P:Program) (m:Nat) (e:aW) (σ:aA) (J:aW→aA→Prop):Prop where
 h:∀ X nt w0 ι0 σ0 ι a w,(∀ id,m≤id→ι0 id=none)→σ0.length≤m→St P X nt w0 ι0 σ0 ι e σ a w→∃ ι' e' σ',J e' σ'∧St P X nt w0 ι0 σ0 ι' e' σ' a w
section
variable {P:Program} {X:Nat→Prop} {nt m0:Nat} {ι:bZ} {σ σ':aA} {e e':aW} {w:World} {c:Code} {Q:Exit→aW→aA→Prop} {J:aW→aA→Prop} {run fr va:TypeId} {pre post:List aR} {b0:Nat} {fv:Value} {rows:List (List aR)} {l l':List (Value × List (List aR))}
theorem dB (h:SC P e σ (fun e' σ'=>AC P nt c e' σ' Q)):AC P nt c e σ Q:=⟨fun X w0 ι0 σ0 ι a w hst=>by
 obtain ⟨ι',e',σ',hk,hs⟩:=h.h X nt w0 ι0 σ0 ι a w hst
 exact hk.h X w0 ι0 σ0 ι' a w hs⟩
theorem gE (h:SC P e σ (fun e' σ'=>Cv P m0 e' σ' J)):Cv P m0 e σ J:=⟨fun X nt w0 ι0 σ0 ι a w h1 h2 hst=>by
 obtain ⟨ι',e',σ',hk,hs⟩:=h.h X nt w0 ι0 σ0 ι a w hst
 exact hk.h X nt w0 ι0 σ0 ι' a w h1 h2 hs⟩
theorem gT (h:J e σ):Cv P m0 e σ J:=⟨fun X nt w0 ι0 σ0 ι a w _ _ hst=>⟨ι,e,σ,h,hst⟩⟩
theorem UM (he:e'.sub e) (h:J e' σ):SC P e σ J:=⟨fun X nt w0 ι0 σ0 ι a w hst=>⟨ι,e',σ,h,hst.weaken he⟩⟩
theorem jM (ks:List Nat) (he:e.pick ks=e') (h:J e' σ):SC P e σ J:=UM (he ▸ aW.pick_get e ks) h
theorem gU (m:Nat) (hm:Nat.ble m0 m=true) (he:I3 m e=true) (ho:eJ m σ=true) (h:Cv P m0 e (σ.take m) J):Cv P m0 e σ J:=⟨fun X nt w0 ι0 σ0 ι a w h1 h2 hst=>by
 have hm':=Nat.le_of_ble_eq_true hm
 exact h.h X nt w0 ι0 σ0 (ι.upto m) a w h1 h2 (hst.trim (fun id hid=>h1 id (Nat.le_trans hm' hid)) (Nat.le_trans h2 hm') ho he)⟩
theorem bU.loopC {c:Code} (m:Nat) (J:Nat→aW→aA→Prop) {n:Nat} (hs:σ.length=m) (h0:J n e σ)
  (round:∀ n e σ,J n e σ→bU P nt c e σ (qV (fun e' σ'=>Cv P m e' σ' fun e'' σ''=>∃ n',n' < n∧J n' e'' σ'') Q)):bU P nt (.loop c) e σ Q:=by
 intro X w0 ι0 σ0 ι a w hst b k cs
 have hm:σ0.length≤m:=by rw [← hs];exact hst.comes.len
 have hf:∀ id,m≤id→ι0 id=none:=fun id hid=>by
  cases hv:ι0 id with
  | none=>rfl
  | some v =>
   have h1:=hst.comes.inj id v hv
   have h2:=hst.comes.heap.fresh id (by omega)
   rw [h1] at h2;cases h2
 have key:∀ n e σ ι a w,J n e σ→St P X nt w0 ι0 σ0 ι e σ a w →
   ∃ ex a' w',(∃ ι' e' σ',Q ex e' σ'∧St P X nt w0 ι0 σ0 ι' e' σ' a' w')∧Arrives P (lone (b.at a (.code c :: .inLoop c::k)) cs w) b k cs ex a' w':=by
  intro n
  induction n using Nat.strongRecOn with
  | _ n ih =>
   intro e σ ι a w hJ hst
   obtain ⟨ex,a₁,w₁,⟨ι',e',σ',hq,hst'⟩,harr⟩:=round n e σ hJ X w0 ι0 σ0 ι a w hst b (.inLoop c::k) cs
   cases ex with
   | normal =>
    obtain ⟨ι2,e2,σ2,⟨n',hlt,hJ'⟩,hst2⟩:=hq.h X nt w0 ι0 σ0 ι' a₁ w₁ hf hm hst'
    obtain ⟨ex₂,a₂,w₂,hq₂,harr₂⟩:=ih n' hlt e2 σ2 ι2 a₁ w₁ hJ' hst2
    exact ⟨ex₂,a₂,w₂,hq₂,.of_steps (Steps.trans harr (.one step_inLoop)) harr₂⟩
   | exit id=>exact ⟨_,a₁,w₁,⟨ι',e',σ',hq,hst'⟩,.pass (x := .inLoop c) rfl (fun _ _ => .inl (by simp)) harr⟩
   | goto l=>exact ⟨_,a₁,w₁,⟨ι',e',σ',hq,hst'⟩,.pass (x := .inLoop c) rfl (fun _ _ => .inl (by simp)) harr⟩
   | ret=>exact ⟨_,a₁,w₁,⟨ι',e',σ',hq,hst'⟩,.pass (x := .inLoop c) rfl (fun _ _ => .inl (by simp)) harr⟩
   | panic ch=>exact ⟨_,a₁,w₁,⟨ι',e',σ',hq,hst'⟩,.pass (x := .inLoop c) rfl (fun _ _ => .inl (by simp)) harr⟩
   | outgrown=>exact ⟨_,a₁,w₁,⟨ι',e',σ',hq,hst'⟩,.pass (x := .inLoop c) rfl (fun _ _ => .inl (by simp)) harr⟩
 obtain ⟨ex,a',w',hq,harr⟩:=key n e σ ι a w h0 hst
 exact ⟨ex,a',w',hq,.of_steps (.one step_loop) harr⟩
theorem jY {c:Code} (m:Nat) (J:Nat→aW→aA→Prop) {n:Nat} (hs:σ.length=m) (h0:J n e σ)
  (round:∀ n e σ,J n e σ→AC P nt c e σ (qV (fun e' σ'=>Cv P m e' σ' fun e'' σ''=>∃ n',n' < n∧J n' e'' σ'') Q)):AC P nt (.loop c) e σ Q:=⟨bU.loopC m J hs h0 fun n e σ h=>(round n e σ h).h⟩
theorem kL {α:Sort _} {S:α→aA} {E:α→aW}
  (h:∀ X ι w,aQ P X ι σ w→∃ y ι',Comes' P X ι σ (S y) w ι' w∧(∀ i,i < σ.length→ι' i=ι i)∧∀ t d',(E y).get t=some d'→∃ d,e.get t=some d∧∀ M v,aX ι w M d v→aX ι' w M d' v)
  (hl:∀ y,σ.length≤(S y).length) (k:∀ y,J (E y) (S y)):SC P e σ J :=
 ⟨fun X nt w0 ι0 σ0 ι a w hst=>by
  obtain ⟨y,ι',h1,h2,h3⟩:=h X ι w hst.comes.heap
  have hs:=hst.stepD h1 (fun i hi=>h2 i (Nat.lt_of_lt_of_le hi hst.comes.len)) (hl y)
  refine ⟨ι',E y,S y,k y,hs.size,hs.defers,⟨fun t d' ht=>?_⟩,hs.comes⟩
  obtain ⟨d,hd,hr⟩:=h3 t d' ht
  exact (hr _ _ (hst.env.get t d hd)).mono (fun _ _ h=>h) (a8.refl (bQ X ι σ) w) (fun b hb hm=>h1.mutsM b hb hm)⟩
def pY (fv:Value) (k:Nat):Value:=match fv with
 | .slice (some a) _ _ => .pointer (some ⟨a.block,a.off + k,none⟩)
 | _ => .pointer none
theorem iM {e:aW} {ι ι':bZ} {w:World} (hι:∀ id v,ι id=some v→ι' id=some v):∀ t d',e.get t=some d'→∃ d,e.get t=some d∧∀ M v,aX ι w M d v→aX ι' w M d' v :=
 fun t d' h=>⟨d',h,fun M v hr=>hr.mono hι (a8.refl M w) (fun _ _ h=>h)⟩
theorem wD {e:aW} {ι ι':bZ} {w:World} {t:Nat} {d d2:DV} (hι:∀ id v,ι id=some v→ι' id=some v) (ht:e.get t=some d) (hr:∀ M v,aX ι w M d v→aX ι' w M d2 v):∀ s d',(e.put (some t) d2).get s=some d'→∃ d,e.get s=some d∧∀ M v,aX ι w M d v→aX ι' w M d' v:=fun s d' h=>by
 rw [aW.get_put] at h
 split at h
 ·rename_i e1;cases h;cases e1;exact ⟨d,ht,hr⟩
 ·exact iM hι s d' h
theorem zK {ι':bZ} {n i sz off:Nat} {M:Nat→Prop} {v:Value} (hn:ι' n=some fv) (hs:∃ (A c:Nat) (n:Nat × Nat),fv = .slice (some ⟨A,c,none⟩) n.1 n.2) (h:aX ι w M (.d (.sc (pY fv (i * sz + off)))) v):aX ι' w M (.eptr n i sz off) v:=by
 obtain ⟨A,c,⟨m,q⟩,rfl⟩:=hs
 cases h with
 | d h=>cases h with
  | sc _ _=>exact .eptr n i sz off A c m q hn
theorem I4 {n i sz off:Nat} {M:Nat→Prop} {v:Value} (hn:ι n=some fv) (h:aX ι w M (.eptr n i sz off) v):aX ι w M (.d (.sc (pY fv (i * sz + off)))) v:=by
 cases h with
 | eptr _ _ _ _ b o m q hid =>
  rw [hn] at hid;cases hid
  exact .d (.sc _ rfl)
theorem bE.slN {v:Value} {el:TypeId} {es:List (List DV)} {M:Nat→Prop} (h:bE P ι w M v (.arr el es)) (hne:es≠[]):∃ (A c:Nat) (n:Nat × Nat),v = .slice (some ⟨A,c,none⟩) n.1 n.2:=by
 cases h with
 | nil=>exact absurd rfl hne
 | arr _ _ b o c cs=>exact ⟨b,o,⟨_,c⟩,rfl⟩
theorem kM {k:Nat} (hl:σ.look k=some (sK P run fr va pre post b0 fv rows l))
  (h:J e (σ.put k (some (.box run (pre.map .d ++ .arr σ.length::post.map .d)))++[some (.arr fr (aO rows)),some (bS P va l)])):SC P e σ J :=
 kL (α:=Unit) (S:=fun _=>_) (E:=fun _=>e) (fun X ι w hh=>by
  obtain ⟨ι',h1,h2,h3⟩:=xU hh hl
  exact ⟨(),ι',h1,h3,iM h1.inj⟩) (fun _=>by rw [List.length_append,bV hl];omega) (fun _=>h)
theorem wJ {k:Nat} (t i sz off:Nat) (hl:σ.look k=some (sK P run fr va pre post b0 fv rows l)) (hne:rows≠[]) (ht:e.get t=some (.d (.sc (pY fv (i * sz + off)))))
  (h:J (e.put (some t) (.eptr σ.length i sz off)) (σ.put k (some (.box run (pre.map .d ++ .arr σ.length::post.map .d)))++[some (.arr fr (aO rows)),some (bS P va l)])):SC P e σ J :=
 kL (α:=Unit) (S:=fun _=>_) (E:=fun _=>_) (fun X ι w hh=>by
  obtain ⟨ι',h1,h2,h3⟩:=xU hh hl
  obtain ⟨v,g1,g2⟩:=hh.obj k _ hl
  cases g2 with
  | deep _ _ _ hT _ _ =>
   exact ⟨(),ι',h1,h3,wD h1.inj ht (fun M v hr=>zK h2 (hT.2.2.2.1.slN (fun e=>hne (by simpa [aO] using e))) hr)⟩) (fun _=>by rw [List.length_append,bV hl];omega) (fun _=>h)
theorem pK (pre post:List aR) {k n m:Nat} {es:List (List DV)} (hk:σ.look k=some (.box run (pre.map .d ++ .arr n::post.map .d))) (hn:σ.look n=some (.arr fr es)) (he:es=aO rows) (hm:σ.look m=some (bS P va l))
  (h:∀ b0 fv,J e (((σ.put k (some (sK P run fr va pre post b0 fv rows l))).put n none).put m none)):SC P e σ J:=by
 subst he
 exact kL (α:=Nat × Value) (S:=fun y=>((σ.put k (some (sK P run fr va pre post y.1 y.2 rows l))).put n none).put m none) (E:=fun _=>e) (fun X ι w hh=>by
  obtain ⟨b0,fv,h1,h2⟩:=zW (va:=va) hh hk hn hm
  exact ⟨(b0,fv),ι,h1,fun _ _=>rfl,iM h1.inj⟩) (fun _=>Nat.le_trans (cX _ _ _) (Nat.le_trans (cX _ _ _) (cX _ _ _))) (fun y=>h y.1 y.2)
theorem DR (pre post:List aR) {k n m:Nat} (t:Nat) {i sz off:Nat} {es:List (List DV)} (hk:σ.look k=some (.box run (pre.map .d ++ .arr n::post.map .d))) (hn:σ.look n=some (.arr fr es)) (he:es=aO rows) (hm:σ.look m=some (bS P va l)) (ht:e.get t=some (.eptr n i sz off))
  (h:∀ b0 fv,J (e.put (some t) (.d (.sc (pY fv (i * sz + off))))) (((σ.put k (some (sK P run fr va pre post b0 fv rows l))).put n none).put m none)):SC P e σ J:=by
 subst he
 exact kL (α:=Nat × Value) (S:=fun y=>((σ.put k (some (sK P run fr va pre post y.1 y.2 rows l))).put n none).put m none) (E:=fun y=>e.put (some t) (.d (.sc (pY y.2 (i * sz + off))))) (fun X ι w hh=>by
  obtain ⟨b0,fv,h1,h2⟩:=zW (va:=va) hh hk hn hm
  exact ⟨(b0,fv),ι,h1,fun _ _=>rfl,wD h1.inj ht (fun M v hr=>I4 h2 hr)⟩) (fun _=>Nat.le_trans (cX _ _ _) (Nat.le_trans (cX _ _ _) (cX _ _ _))) (fun y=>h y.1 y.2)
theorem BJ {n m i j:Nat} {u:Value} {s:List (List aR)} {rs:List (List DV)} {row:List DV} (hm:σ.look m=some (bS P va l)) (hp:l.Perm ((u,s)::l')) (hn:σ.look n=some (.arr fr rs)) (hi:rs[i]? = some row) (hj:row[j]? = some (.d (.sc u)))
  (h:J e (((σ.put m (some (bS P va l'))).put n (some (.arr fr (rs.set i (row.set j (.arr σ.length))))))++[some (.arr va (aO s))])):SC P e σ J :=
 kL (α:=Unit) (S:=fun _=>_) (E:=fun _=>e) (fun X ι w hh=>by
  obtain ⟨ι',h1,h2⟩:=LB hh hm hp hn hi hj
  exact ⟨(),ι',h1,h2,iM h1.inj⟩) (fun _=>by rw [List.length_append];exact Nat.le_trans (cX σ m _) (Nat.le_trans (cX _ n _) (Nat.le_add_right _ _))) (fun _=>h)
theorem vO {n m p i j:Nat} {s:List (List aR)} {es rs:List (List DV)} {row:List DV} (hm:σ.look m=some (bS P va l)) (hn:σ.look n=some (.arr fr rs)) (hpn:Nat.beq p n=false) (hpl:σ.look p=some (.arr va es)) (he:es=aO s) (hi:rs[i]? = some row) (hj:row[j]? = some (.arr p))
  (h:∀ u,J e (((σ.put m (some (bS P va ((u,s)::l)))).put n (some (.arr fr (rs.set i (row.set j (.d (.sc u))))))).put p none)):SC P e σ J:=by
 subst he
 exact kL (α:=Value) (S:=fun u=>((σ.put m (some (bS P va ((u,s)::l)))).put n (some (.arr fr (rs.set i (row.set j (.d (.sc u))))))).put p none) (E:=fun _=>e) (fun X ι w hh=>by
  obtain ⟨u,h1⟩:=OD hh hm hn (fun e=>by subst e;simp at hpn) hpl hi hj
  exact ⟨u,ι,h1,fun _ _=>rfl,iM h1.inj⟩) (fun _=>Nat.le_trans (cX _ _ _) (Nat.le_trans (cX _ _ _) (cX _ _ _))) h
end
section
variable {P:Program} {X:Nat→Prop} {nt m0:Nat} {ι:bZ} {σ σ':aA} {e e':aW} {w:World} {c:Code} {J:aW→aA→Prop} {va:TypeId} {l l':List (Value × List (List aR))}
theorem LI (hh:aQ P X ι σ w):∃ ι',Comes' P X ι σ (σ++[some (bS P va [])]) w ι' w∧∀ i,i < σ.length→ι' i=ι i:=by
 let ι':bZ:=fun i=>if i=σ.length then some (.bool true) else ι i
 have hkeep:∀ i,i < σ.length→ι' i=ι i:=fun i hi=>by simp only [ι'];rw [if_neg (by omega)]
 have hι:∀ id u,ι id=some u→ι' id=some u:=fun id u h=>by
  have:id < σ.length:=by
   rcases Nat.lt_or_ge id σ.length with h' | h'
   ·exact h'
   ·rw [hh.fresh id h'] at h;cases h
  rw [hkeep id this];exact h
 have hlook:∀ q,aA.look (σ++[some (bS P va [])]) q=if q=σ.length then some (bS P va []) else σ.look q:=fun q=>by
  rw [eZ]
  by_cases hq:q < σ.length
  ·rw [if_pos hq,if_neg (by omega)]
  ·rw [if_neg hq]
   by_cases e:q=σ.length
   ·rw [if_pos e,e,Nat.sub_self];rfl
   ·rw [if_neg e]
    have g1:aA.look [some (bS P va [])] (q - σ.length)=none:=by
     unfold aA.look;rw [List.getElem?_eq_none (by simp;omega)];rfl
    have g2:σ.look q=none:=by unfold aA.look;rw [List.getElem?_eq_none (by omega)];rfl
    rw [g1,g2]
 have hno:∀ v b,¬ kV (bS P va []) v b:=fun v b h=>by simp [kV,cG] at h
 have old:∀ (id:Nat) (o:aU) (u:Value),id≠σ.length→ι' id=some u→ι id=some u:=fun id o u hne h=>by simpa only [ι',if_neg hne] using h
 refine ⟨ι',Comes'.regroup hh hι (fun id hid=>?_) (fun id o h=>?_) (fun b hb=>?_) (fun id id' o o' u u' b g1 g2 g3 g4 g5 g6=>?_),hkeep⟩
 ·simp only [List.length_append,List.length_cons,List.length_nil] at hid
  simp only [ι'];rw [if_neg (by omega)];exact hh.fresh id (by omega)
 ·rw [hlook] at h
  split at h
  ·rename_i e;cases h
   exact .inr ⟨.bool true,by simp [ι',e],.deep _ _ _ ⟨List.nodup_nil,fun p hp=>by cases hp⟩ jJ (fun b hb=>by simp [cG] at hb)⟩
  ·exact .inl h
 ·obtain ⟨id,o,u,g1,g2,g3⟩:=hb
  rw [hlook] at g1
  split at g1
  ·cases g1;exact absurd g3 (hno u b)
  ·rename_i e;exact ⟨id,o,u,g1,old id o u e g2,g3⟩
 ·rw [hlook] at g1 g2
  split at g1
  ·cases g1;exact absurd g5 (hno u b)
  ·rename_i e1
   split at g2
   ·cases g2;exact absurd g6 (hno u' b)
   ·rename_i e2
    exact hh.inj id id' o o' u u' b g1 g2 (old id o u e1 g3) (old id' o' u' e2 g4) g5 g6
theorem uK {m:Nat} {u:Value} {s:List (List aR)} (hh:aQ P X ι σ w) (hm:σ.look m=some (bS P va l)) (hp:l.Perm ((u,s)::l')) :
  ∃ ι',Comes' P X ι σ ((σ.put m (some (bS P va l')))++[some (.arr va (aO s))]) w ι' w∧(∀ i,i < σ.length→ι' i=ι i)∧ι' σ.length=some u∧∃ A n c,u = .slice A n c:=by
 obtain ⟨v,hv,ho⟩:=hh.obj m _ hm
 have hml:=a7 hm
 cases ho with
 | deep _ _ _ hT _ hlt =>
 have hT':=B6 hp hT
 obtain ⟨hsl,hsr⟩:=hT'.2 (u,s) (by simp)
 have hlen:(σ.put m (some (bS P va l'))).length=σ.length:=bV hm
 let ι':bZ:=fun i=>if i=σ.length then some u else ι i
 have hlook:∀ q,aA.look ((σ.put m (some (bS P va l')))++[some (.arr va (aO s))]) q=if q=m then some (bS P va l') else if q=σ.length then some (.arr va (aO s)) else σ.look q:=fun q=>by
  rw [eZ,hlen,aM hm]
  by_cases hq:q < σ.length
  ·rw [if_pos hq]
   split
   ·rfl
   ·rw [if_neg (by omega)]
  ·rw [if_neg hq,if_neg (by omega)]
   by_cases e:q=σ.length
   ·rw [if_pos e,e,Nat.sub_self];rfl
   ·rw [if_neg e]
    have g1:aA.look [some (aU.arr va (aO s))] (q - σ.length)=none:=by
     unfold aA.look;rw [List.getElem?_eq_none (by simp;omega)];rfl
    have g2:σ.look q=none:=by unfold aA.look;rw [List.getElem?_eq_none (by omega)];rfl
    rw [g1,g2]
 have hkeep:∀ i,i < σ.length→ι' i=ι i:=fun i hi=>by simp only [ι'];rw [if_neg (by omega)]
 have hι:∀ id u,ι id=some u→ι' id=some u:=fun id u h=>by
  have:id < σ.length:=by
   rcases Nat.lt_or_ge id σ.length with h' | h'
   ·exact h'
   ·rw [hh.fresh id h'] at h;cases h
  rw [hkeep id this];exact h
 have hb1:(cG l).Perm (i8 u++cG l'):=by have:=sD hp;simpa [cG] using this
 have hnd:(i8 u++cG l').Nodup:=hb1.nodup_iff.1 hT.1
 rw [List.nodup_append] at hnd
 have which:∀ id o x b,aA.look ((σ.put m (some (bS P va l')))++[some (.arr va (aO s))]) id=some o→ι' id=some x→kV o x b →
   (id≠m∧σ.look id=some o∧ι id=some x)∨(id=m∧b ∈ cG l')∨(id=σ.length∧b ∈ i8 u):=by
  intro id o x b g1 g2 g3
  rw [hlook] at g1
  split at g1
  ·rename_i e;cases g1;exact .inr (.inl ⟨e,g3⟩)
  ·split at g1
   ·rename_i e;cases g1
    simp only [ι',if_pos e] at g2;cases g2
    exact .inr (.inr ⟨e,gD.2 g3⟩)
   ·rename_i e2 e3
    simp only [ι',if_neg e3] at g2
    exact .inl ⟨e2,g1,g2⟩
 have inl:∀ b,b ∈ cG l'→b ∈ cG l:=fun b h=>hb1.mem_iff.2 (List.mem_append_right _ h)
 have inu:∀ b,b ∈ i8 u→b ∈ cG l:=fun b h=>hb1.mem_iff.2 (List.mem_append_left _ h)
 refine ⟨ι',Comes'.regroup hh hι (fun id hid=>?_) (fun id o h=>?_) (fun b hb=>?_) (fun id id' o o' x x' b g1 g2 g3 g4 g5 g6=>?_),hkeep,by simp [ι'],hsl⟩
 ·rw [List.length_append,hlen] at hid
  simp only [List.length_cons,List.length_nil] at hid
  simp only [ι'];rw [if_neg (by omega)];exact hh.fresh id (by omega)
 ·rw [hlook] at h
  split at h
  ·rename_i e;subst e;cases h
   exact .inr ⟨v,hι _ _ hv,.deep _ _ _ ⟨hnd.2.1,fun p hpm=>hT'.2 p (List.mem_cons_of_mem _ hpm)⟩ jJ (fun b hb=>hlt b (inl b hb))⟩
  ·split at h
   ·rename_i e;cases h
    exact .inr ⟨u,by simp only [ι',if_pos e],hsr.rows_any⟩
   ·exact .inl h
 ·obtain ⟨id,o,x,g1,g2,g3⟩:=hb
  rcases which id o x b g1 g2 g3 with ⟨_,a,c⟩ | ⟨_,h⟩ | ⟨_,h⟩
  ·exact ⟨id,o,x,a,c,g3⟩
  ·exact ⟨m,_,v,hm,hv,inl b h⟩
  ·exact ⟨m,_,v,hm,hv,inu b h⟩
 ·rcases which id o x b g1 g3 g5 with ⟨p1,p2,p3⟩ | ⟨p1,p2⟩ | ⟨p1,p2⟩ <;> rcases which id' o' x' b g2 g4 g6 with ⟨q1,q2,q3⟩ | ⟨q1,q2⟩ | ⟨q1,q2⟩
  ·exact hh.inj id id' _ _ x x' b p2 q2 p3 q3 g5 g6
  ·exact absurd (hh.inj id m _ _ x v b p2 hm p3 hv g5 (inl b q2)) p1
  ·exact absurd (hh.inj id m _ _ x v b p2 hm p3 hv g5 (inu b q2)) p1
  ·exact absurd (hh.inj id' m _ _ x' v b q2 hm q3 hv g6 (inl b p2)) q1
  ·rw [p1,q1]
  ·exact (hnd.2.2 b q2 b p2 rfl).elim
  ·exact absurd (hh.inj id' m _ _ x' v b q2 hm q3 hv g6 (inu b p2)) q1
  ·exact (hnd.2.2 b p2 b q2 rfl).elim
  ·rw [p1,q1]
theorem CF {m p:Nat} {s:List (List aR)} (hh:aQ P X ι σ w) (hm:σ.look m=some (bS P va l)) (hpl:σ.look p=some (.arr va (aO s))) :
  ∃ u,Comes' P X ι σ ((σ.put m (some (bS P va ((u,s)::l)))).put p none) w ι w∧ι p=some u∧∃ A n c,u = .slice A n c:=by
 have hpm:p≠m:=by rintro rfl;rw [hpl] at hm;cases hm
 obtain ⟨v,hv,ho⟩:=hh.obj m _ hm
 obtain ⟨u,hu,hs⟩:=hh.obj p _ hpl
 have hsl:∃ A n c,u = .slice A n c:=hs.sl
 cases ho with
 | deep _ _ _ hT _ hlt =>
 have l2:(σ.put m (some (bS P va ((u,s)::l)))).look p=some (.arr va (aO s)):=by rw [aM hm,if_neg hpm];exact hpl
 have hlook:∀ q,((σ.put m (some (bS P va ((u,s)::l)))).put p none).look q=if q=p then none else if q=m then some (bS P va ((u,s)::l)) else σ.look q:=fun q=>by
  rw [aM l2,aM hm]
 have hcons:cG ((u,s)::l)=i8 u++cG l:=by simp [cG]
 have hmem:∀ b,b ∈ cG ((u,s)::l)→∃ q o x,(q=m∨q=p)∧σ.look q=some o∧ι q=some x∧kV o x b:=fun b h=>by
  rw [hcons] at h
  rcases List.mem_append.1 h with h | h
  ·exact ⟨p,_,_,.inr rfl,hpl,hu,gD.1 h⟩
  ·exact ⟨m,_,_,.inl rfl,hm,hv,h⟩
 have hown:∀ b,b ∈ cG ((u,s)::l)→g8 ι σ b:=fun b h=>by
  obtain ⟨q,o,x,_,g1,g2,g3⟩:=hmem b h
  exact ⟨q,o,x,g1,g2,g3⟩
 have hnd:(cG ((u,s)::l)).Nodup:=by
  rw [hcons,List.nodup_append]
  refine ⟨by unfold i8;cases cY u <;> simp,hT.1,fun a h1 b h2 e=>?_⟩
  subst e
  exact hpm (hh.inj p m _ _ _ _ a hpl hm hu hv (gD.1 h1) h2)
 have which:∀ id o x b,((σ.put m (some (bS P va ((u,s)::l)))).put p none).look id=some o→ι id=some x→kV o x b→id≠p∧((id≠m∧σ.look id=some o)∨(id=m∧b ∈ cG ((u,s)::l))):=by
  intro id o x b g1 g2 g3
  rw [hlook] at g1
  split at g1
  ·cases g1
  ·rename_i e0
   refine ⟨e0,?_⟩
   split at g1
   ·rename_i e;cases g1;exact .inr ⟨e,g3⟩
   ·rename_i e;exact .inl ⟨e,g1⟩
 refine ⟨u,Comes'.regroup hh (fun _ _ h=>h) (fun id hid=>?_) (fun id o h=>?_) (fun b hb=>?_) (fun id id' o o' x x' b g1 g2 g3 g4 g5 g6=>?_),hu,hsl⟩
 ·rw [bV l2,bV hm] at hid;exact hh.fresh id hid
 ·rw [hlook] at h
  split at h
  ·cases h
  ·split at h
   ·rename_i e;subst e;cases h
    refine .inr ⟨v,hv,.deep _ _ _ ⟨hnd,fun q hq=>?_⟩ jJ (fun b hb=>hh.mut_lt (.inr (hown b hb)))⟩
    rcases List.mem_cons.1 hq with rfl | hq
    ·exact ⟨hsl,hs.rows_any⟩
    ·exact hT.2 q hq
   ·exact .inl h
 ·obtain ⟨id,o,x,g1,g2,g3⟩:=hb
  rcases (which id o x b g1 g2 g3).2 with ⟨_,a⟩ | ⟨_,h⟩
  ·exact ⟨id,o,x,a,g2,g3⟩
  ·exact hown b h
 ·obtain ⟨a0,a⟩:=which id o x b g1 g3 g5
  obtain ⟨c0,c⟩:=which id' o' x' b g2 g4 g6
  rcases a with ⟨p1,p2⟩ | ⟨p1,p2⟩ <;> rcases c with ⟨q1,q2⟩ | ⟨q1,q2⟩
  ·exact hh.inj id id' _ _ x x' b p2 q2 g3 g4 g5 g6
  ·obtain ⟨q,oq,xq,hq,d1,d2,d3⟩:=hmem b q2
   have:=hh.inj id q _ _ _ _ b p2 d1 g3 d2 g5 d3
   rcases hq with rfl | rfl <;> omega
  ·obtain ⟨q,oq,xq,hq,d1,d2,d3⟩:=hmem b p2
   have:=hh.inj id' q _ _ _ _ b q2 d1 g4 d2 g6 d3
   rcases hq with rfl | rfl <;> omega
  ·rw [p1,q1]
theorem bE.boxSet {M:Nat→Prop} {v:Value} {ty:TypeId} {cells:List DV} {j:Nat} {x y:DV} (h:bE P ι w M v (.box ty cells)) (hj:cells[j]? = some x) (hxy:∀ u,aX ι w M x u→aX ι w M y u):bE P ι w M v (.box ty (cells.set j y)):=by
 cases h with
 | box _ _ b cs hb hl h h1 =>
  refine .box ty _ b cs hb (by simpa using hl) (fun q z u hz hu=>?_) h1
  rw [List.getElem?_set] at hz
  split at hz
  ·rename_i e;subst e
   split at hz
   ·cases hz;exact hxy u (h j x u hj hu)
   ·cases hz
  ·exact h q z u hz hu
theorem wZ {k j:Nat} {ty:TypeId} {cells:List DV} {x y:DV} (hh:aQ P X ι σ w) (hk:σ.look k=some (.box ty cells)) (hj:cells[j]? = some x) (hxy:∀ M u,aX ι w M x u→aX ι w M y u) :
  Comes' P X ι σ (σ.put k (some (.box ty (cells.set j y)))) w ι w:=by
 obtain ⟨v,hv,ho⟩:=hh.obj k _ hk
 have hB:∀ id o,(σ.put k (some (.box ty (cells.set j y)))).look id=some o→∃ o0,σ.look id=some o0∧∀ u b,kV o u b→kV o0 u b:=fun id o h=>by
  rw [aM hk] at h
  split at h
  ·rename_i e;subst e;cases h;exact ⟨_,hk,fun _ _ h=>h⟩
  ·exact ⟨o,h,fun _ _ h=>h⟩
 refine Comes'.regroup hh (fun _ _ h=>h) (fun id hid=>hh.fresh id (by rw [bV hk] at hid;exact hid)) (fun id o h=>?_) (fun b hb=>?_) (fun id id' o o' u u' b g1 g2 g3 g4 g5 g6=>?_)
 ·rw [aM hk] at h
  split at h
  ·rename_i e;subst e;cases h;exact .inr ⟨v,hv,ho.boxSet hj (fun u=>hxy _ u)⟩
  ·exact .inl h
 ·obtain ⟨id,o,u,g1,g2,g3⟩:=hb
  obtain ⟨o0,a1,a2⟩:=hB id o g1
  exact ⟨id,o0,u,a1,g2,a2 u b g3⟩
 ·obtain ⟨o0,a1,a2⟩:=hB id o g1
  obtain ⟨o1,c1,c2⟩:=hB id' o' g2
  exact hh.inj id id' o0 o1 u u' b a1 c1 g3 g4 (a2 u b g5) (c2 u' b g6)
theorem HI {ι:bZ} {p:Nat} {u v:Value} {M:Nat→Prop} (hp:ι p=some u) (hs:∃ A n c,u = .slice A n c) (h:aX ι w M (.d (.sc u)) v):aX ι w M (.arr p) v:=by
 cases h with
 | d h=>cases h with
  | sc _ _=>exact .arr p _ hp hs
theorem GT {ι:bZ} {p:Nat} {u v:Value} {M:Nat→Prop} (hp:ι p=some u) (hs:∃ A n c,u = .slice A n c) (h:aX ι w M (.arr p) v):aX ι w M (.d (.sc u)) v:=by
 cases h with
 | arr _ _ hid _=>rw [hp] at hid;cases hid;obtain ⟨A,q,c,rfl⟩:=hs;exact .d (.sc _ rfl)
theorem kK (va:TypeId) (h:J e (σ++[some (bS P va [])])):SC P e σ J :=
 kL (α:=Unit) (S:=fun _=>_) (E:=fun _=>e) (fun X ι w hh=>by
  obtain ⟨ι',h1,h2⟩:=LI (va:=va) hh
  exact ⟨(),ι',h1,h2,iM h1.inj⟩) (fun _=>by rw [List.length_append];omega) (fun _=>h)
theorem wK (t:Nat) {m:Nat} {u:Value} {s:List (List aR)} (hm:σ.look m=some (bS P va l)) (hp:l.Perm ((u,s)::l')) (ht:e.get t=some (.d (.sc u)))
  (h:J (e.put (some t) (.arr σ.length)) ((σ.put m (some (bS P va l')))++[some (.arr va (aO s))])):SC P e σ J :=
 kL (α:=Unit) (S:=fun _=>_) (E:=fun _=>_) (fun X ι w hh=>by
  obtain ⟨ι',h1,h2,h3,h4⟩:=uK hh hm hp
  exact ⟨(),ι',h1,h2,wD h1.inj ht (fun M v hr=>HI h3 h4 (hr.mono h1.inj (a8.refl M w) (fun _ _ h=>h)))⟩) (fun _=>by rw [List.length_append,bV hm];omega) (fun _=>h)
theorem qR (t:Nat) {m p:Nat} {s:List (List aR)} {es:List (List DV)} (hm:σ.look m=some (bS P va l)) (hpl:σ.look p=some (.arr va es)) (he:es=aO s) (ht:e.get t=some (.arr p))
  (h:∀ u,J (e.put (some t) (.d (.sc u))) ((σ.put m (some (bS P va ((u,s)::l)))).put p none)):SC P e σ J:=by
 subst he
 exact kL (α:=Value) (S:=fun u=>(σ.put m (some (bS P va ((u,s)::l)))).put p none) (E:=fun u=>e.put (some t) (.d (.sc u))) (fun X ι w hh=>by
  obtain ⟨u,h1,h2,h3⟩:=CF hh hm hpl
  exact ⟨u,ι,h1,fun _ _=>rfl,wD h1.inj ht (fun M v hr=>GT h2 h3 hr)⟩) (fun _=>Nat.le_trans (cX _ _ _) (cX _ _ _)) h
theorem HN (k j:Nat) {m:Nat} {ty:TypeId} {cells:List DV} {u:Value} {s:List (List aR)} (hm:σ.look m=some (bS P va l)) (hp:l.Perm ((u,s)::l')) (hk:σ.look k=some (.box ty cells)) (hj:cells[j]? = some (.d (.sc u)))
  (h:J e (aA.put ((σ.put m (some (bS P va l')))++[some (.arr va (aO s))]) k (some (.box ty (cells.set j (.arr σ.length)))))):SC P e σ J :=
 have hkm:k≠m:=by rintro rfl;rw [hk] at hm;cases hm
 have hk2:aA.look ((σ.put m (some (bS P va l')))++[some (.arr va (aO s))]) k=some (.box ty cells):=by
  rw [eZ,bV hm,if_pos (a7 hk),aM hm,if_neg hkm];exact hk
 kL (α:=Unit) (S:=fun _=>_) (E:=fun _=>e) (fun X ι w hh=>by
  obtain ⟨ι',h1,h2,h3,h4⟩:=uK hh hm hp
  have h5:=wZ h1.heap hk2 hj (fun M v hr=>HI h3 h4 hr)
  exact ⟨(),ι',h1.trans h5,h2,iM h1.inj⟩) (fun _=>by rw [bV hk2,List.length_append,bV hm];omega) (fun _=>h)
theorem qQ (k j:Nat) {m p:Nat} {ty:TypeId} {cells:List DV} {s:List (List aR)} {es:List (List DV)} (hm:σ.look m=some (bS P va l)) (hpl:σ.look p=some (.arr va es)) (he:es=aO s) (hk:σ.look k=some (.box ty cells)) (hj:cells[j]? = some (.arr p))
  (h:∀ u,J e (((σ.put m (some (bS P va ((u,s)::l)))).put p none).put k (some (.box ty (cells.set j (.d (.sc u))))))):SC P e σ J:=by
 subst he
 have hkm:k≠m:=by rintro rfl;rw [hk] at hm;cases hm
 have hkp:k≠p:=by rintro rfl;rw [hk] at hpl;cases hpl
 have hpm:p≠m:=by rintro rfl;rw [hpl] at hm;cases hm
 exact kL (α:=Value) (S:=fun u=>((σ.put m (some (bS P va ((u,s)::l)))).put p none).put k (some (.box ty (cells.set j (.d (.sc u)))))) (E:=fun u=>e) (fun X ι w hh=>by
  obtain ⟨u,h1,h2,h3⟩:=CF hh hm hpl
  have l1:(σ.put m (some (bS P va ((u,s)::l)))).look p=some (.arr va (aO s)):=by rw [aM hm,if_neg hpm];exact hpl
  have hk2:((σ.put m (some (bS P va ((u,s)::l)))).put p none).look k=some (.box ty cells):=by rw [aM l1,if_neg hkp,aM hm,if_neg hkm];exact hk
  have h5:=wZ h1.heap hk2 hj (fun M v hr=>GT h2 h3 hr)
  exact ⟨u,ι,h1.trans h5,fun _ _=>rfl,iM h1.inj⟩) (fun _=>Nat.le_trans (cX _ _ _) (Nat.le_trans (cX _ _ _) (cX _ _ _))) h
theorem DS (t:Nat) (el:TypeId) (ht:e.get t=some .nils) (h:J (e.put (some t) (.arr σ.length)) (σ++[some (.arr el [])])):SC P e σ J:=⟨fun X nt w0 ι0 σ0 ι a w hst=>by
 have hv:=hst.env.get t _ ht
 generalize hg:a.tmps.getD t undef=v at hv
 cases hv with
 | nils A =>
  have hh:=hst.comes.heap
  obtain ⟨ι',h1,h2,h3⟩:=BB (el:=el) (A:=A) hh (hh.fresh _ (Nat.le_refl _)) (Nat.le_refl _)
  have hput:σ.put σ.length (some (.arr el []))=σ++[some (.arr el [])]:=by rw [aA.put_eq];rw [if_neg (Nat.lt_irrefl _)]
  rw [hput] at h1
  have hs:=hst.stepD h1 (fun i hi=>h3 i (Nat.ne_of_lt (Nat.lt_of_lt_of_le hi hst.comes.len))) (by rw [List.length_append];omega)
  refine ⟨ι',_,_,h,hs.size,hs.defers,⟨fun s d hd=>?_⟩,hs.comes⟩
  rw [aW.get_put] at hd
  split at hd
  ·rename_i e1;cases hd;cases e1
   rw [hg];exact .arr _ _ h2 ⟨_,_,_,rfl⟩
  ·exact hs.env.get s d hd⟩
theorem FY (k j:Nat) (el:TypeId) {ty:TypeId} {cells:List DV} (hk:σ.look k=some (.box ty cells)) (hj:cells[j]? = some .nils) (hJ:J e (aA.put (σ++[some (.arr el [])]) k (some (.box ty (cells.set j (.arr σ.length)))))):SC P e σ J:=⟨fun X nt w0 ι0 σ0 ι a w hst=>by
 have hh:=hst.comes.heap
 obtain ⟨v,hv,ho⟩:=hh.obj k _ hk
 have hA:∃ A,∀ M u,aX ι w M .nils u→∀ b cs,v = .pointer (some ⟨b,0,none⟩)→w.heap[b]? = some (.cells cs ty (0,0))→cs[j]? = some u→u = .slice A 0 0:=by
  cases ho with
  | box _ _ b cs hb hl h h1 =>
   have hj':j < cs.size:=by rw [hl];exact (List.getElem?_eq_some_iff.1 hj).1
   have:=h j _ _ hj (Array.getElem?_eq_getElem hj')
   generalize hu:cs[j]=u0 at this
   cases this with
   | nils A =>
    refine ⟨A,fun M u _ b' cs' e1 e2 e3=>?_⟩
    cases e1
    rw [hb] at e2;cases e2
    rw [Array.getElem?_eq_getElem hj',hu] at e3;cases e3;rfl
 obtain ⟨A,hA⟩:=hA
 obtain ⟨ι',h1,h2,h3⟩:=BB (el:=el) (A:=A) hh (hh.fresh _ (Nat.le_refl _)) (Nat.le_refl _)
 have hput:σ.put σ.length (some (.arr el []))=σ++[some (.arr el [])]:=by rw [aA.put_eq];rw [if_neg (Nat.lt_irrefl _)]
 rw [hput] at h1
 have hkl:=a7 hk
 have hk2:aA.look (σ++[some (.arr el [])]) k=some (.box ty cells):=by rw [eZ,if_pos hkl];exact hk
 have hv2:ι' k=some v:=by rw [h3 k (Nat.ne_of_lt hkl)];exact hv
 have h4:Comes' P X ι' (σ++[some (.arr el [])]) (aA.put (σ++[some (.arr el [])]) k (some (.box ty (cells.set j (.arr σ.length))))) w ι' w:=by
  have hB:∀ id o,(aA.put (σ++[some (.arr el [])]) k (some (.box ty (cells.set j (.arr σ.length))))).look id=some o→∃ o0,aA.look (σ++[some (.arr el [])]) id=some o0∧∀ u b,kV o u b→kV o0 u b:=fun id o h=>by
   rw [aM hk2] at h
   split at h
   ·rename_i e;subst e;cases h;exact ⟨_,hk2,fun _ _ h=>h⟩
   ·exact ⟨o,h,fun _ _ h=>h⟩
  refine Comes'.regroup h1.heap (fun _ _ h=>h) (fun id hid=>h1.heap.fresh id (by rw [bV hk2] at hid;exact hid)) (fun id o h=>?_) (fun b hb=>?_) (fun id id' o o' u u' b g1 g2 g3 g4 g5 g6=>?_)
  ·rw [aM hk2] at h
   split at h
   ·rename_i e;subst e;cases h
    obtain ⟨v',hv',ho'⟩:=h1.heap.obj id _ hk2
    rw [hv2] at hv';cases hv'
    refine .inr ⟨v,hv2,?_⟩
    cases ho' with
    | box _ _ b cs hb hl h h1' =>
     refine .box ty _ b cs hb (by simpa using hl) (fun q z u hz hu=>?_) h1'
     rw [List.getElem?_set] at hz
     split at hz
     ·rename_i e;subst e
      split at hz
      ·cases hz
       have:=hA _ u (by
        have h6:=h j _ u hj hu
        cases h6 with
        | nils A'=>exact .nils (M:=bQ X ι σ) A') b cs rfl hb hu
       subst this
       exact .arr _ _ h2 ⟨_,_,_,rfl⟩
      ·cases hz
     ·exact h q z u hz hu
   ·exact .inl h
  ·obtain ⟨id,o,u,g1,g2,g3⟩:=hb
   obtain ⟨o0,a1,a2⟩:=hB id o g1
   exact ⟨id,o0,u,a1,g2,a2 u b g3⟩
  ·obtain ⟨o0,a1,a2⟩:=hB id o g1
   obtain ⟨o1,c1,c2⟩:=hB id' o' g2
   exact h1.heap.inj id id' o0 o1 u u' b a1 c1 g3 g4 (a2 u b g5) (c2 u' b g6)
 have hc:=h1.trans h4
 have hs:=hst.stepD hc (fun i hi=>h3 i (Nat.ne_of_lt (Nat.lt_of_lt_of_le hi hst.comes.len))) (by rw [bV hk2,List.length_append];omega)
 exact ⟨ι',_,_,hJ,hs⟩⟩
end
end Go.Ab
