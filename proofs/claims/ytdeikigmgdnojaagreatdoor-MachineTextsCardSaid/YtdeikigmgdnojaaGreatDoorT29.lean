import Derived.Test.YtdeikigmgdnojaaGreatDoorT28
/- A part of the proof of one law. -/
set_option maxRecDepth 100000
set_option maxHeartbeats 8000000
set_option linter.unusedVariables false
set_option linter.unusedSimpArgs false
namespace Go.Ab
open Go
theorem yM:bP eA=true:=rfl
theorem U2:bP RW=true:=rfl
theorem U3:bP HL=true:=rfl
theorem YM:bP QI=true:=rfl
theorem YL:bP yD=true:=rfl
section
variable {v w:Va}
theorem VG (h:bH v=true):0≤v.k∧v.k≤6:=by
 unfold bH cQ at h
 split at h
 ·omega
 split at h
 ·omega
 split at h
 ·omega
 split at h
 ·omega
 simp only [Bool.and_eq_true,decide_eq_true_eq] at h
 omega
theorem V7 (h:bH v=true) (hk:v.k=1):v.s=⟨#[]⟩∧-1000000000000≤v.n∧v.n≤1000000000000:=by
 unfold bH cQ at h
 rw [if_neg (by omega),if_pos hk] at h
 simpa only [Bool.and_eq_true,decide_eq_true_eq] using h
theorem VF (h:bH v=true) (hk:v.k=3):v.n=0∧bP v.s=true:=by
 unfold bH cQ at h
 rw [if_neg (by omega),if_neg (by omega),if_neg (by omega),if_pos hk] at h
 simpa only [Bool.and_eq_true,decide_eq_true_eq] using h
theorem YS {n:Int} (h1:-1000000000000≤n) (h2:n≤1000000000000):bH ⟨1,n,⟨#[]⟩⟩=true:=by
 unfold bH cQ
 rw [if_neg (by simp),if_pos rfl]
 simp [h1,h2]
theorem vvT {s:ByteArray} (h:bP s=true):bH ⟨3,0,s⟩=true:=by
 unfold bH cQ
 rw [if_neg (by simp),if_neg (by simp),if_neg (by simp),if_pos rfl]
 simp [h]
theorem V8 (b:Bool):bH (kS b)=true:=by cases b <;> rfl
end
def zA (f:Fa):Prop:=gW f.k f.t=true
theorem XF:zA kW:=rfl
theorem CS {t:ByteArray} (h:bP t=true):zA (l9 t):=by
 unfold zA gW
 rw [if_neg (by simp)]
 simp [h]
theorem TQ {f:Fa} (h:zA f):0≤f.k∧f.k≤2:=by
 unfold zA gW at h
 split at h
 ·omega
 ·simp only [Bool.and_eq_true,decide_eq_true_eq] at h;omega
theorem TR {f:Fa} (h:zA f):bP f.t=true:=by
 unfold zA gW at h
 split at h
 ·rw [of_decide_eq_true h];rfl
 ·simp only [Bool.and_eq_true,decide_eq_true_eq] at h;exact h.2
theorem CT {f:Fa} (h:zA f):dO f=decide (f.k=0):=by
 unfold zA gW at h
 unfold dO
 by_cases h0:f.k=0
 ·rw [if_pos (.inl h0)] at h
  simp [h0,of_decide_eq_true h]
 ·simp [h0]
theorem L0 {f:Fa} (h:zA f) (h0:f.k=0):f=kW:=by
 unfold zA gW at h
 rw [if_pos (.inl h0)] at h
 obtain ⟨k,t⟩:=f
 simp only at h0 h
 rw [h0,of_decide_eq_true h]
def P7 (r:Va × Fa):Prop:=zA r.2∧(r.2.k=0→bH r.1=true)
theorem qM {v:Va} {t:ByteArray} (h:bP t=true):P7 (v,l9 t):=⟨CS h,fun e=>by simp at e⟩
theorem vM {v:Va} (h:bH v=true):P7 (v,kW):=⟨XF,fun _=>h⟩
theorem lG (n:Int):P7 (dY n):=by
 unfold dY
 split
 ·exact qM U2
 ·exact vM (YS (by omega) (by omega))
theorem z7 (op:Int) (v:Va):P7 (eN op v):=by
 unfold eN
 split
 ·exact vM (V8 _)
 split
 ·exact lG _
 ·exact qM yM
theorem Q3 {a b:ByteArray} {i:Nat} (hi:i < (a++b).size):bt (a++b) i=if i < a.size then bt a i else bt b (i - a.size):=by
 unfold bt
 rw [ByteArray.data_append]
 split
 ·rename_i h
  rw [Array.getD_eq_getD_getElem?,Array.getD_eq_getD_getElem?,Array.getElem?_append_left (by simpa using h)]
 ·rename_i h
  rw [Array.getD_eq_getD_getElem?,Array.getD_eq_getD_getElem?,Array.getElem?_append_right (by simpa using h)]
  rfl
theorem PY {a b:ByteArray} (ha:bP a=true) (hb:bP b=true) (h:a.size + b.size≤60):bP (a++b)=true:=by
 unfold bP at *
 simp only [Bool.and_eq_true,decide_eq_true_eq,dN] at *
 have hs:(a++b).size=a.size + b.size:=ByteArray.size_append
 refine ⟨fun i hi=>?_,by omega⟩
 unfold nW
 rw [Q3 hi]
 split
 ·rename_i h1;exact ha.1 i h1
 ·rename_i h1;exact hb.1 (i - a.size) (by omega)
theorem HR {a:ByteArray} (ha:bP a=true):a.size≤60:=by
 unfold bP at ha
 simp only [Bool.and_eq_true,decide_eq_true_eq] at ha
 exact ha.2
section
variable {v w:Va} {op:Int}
theorem PL (hv:bH v=true) (hw:bH w=true) (h1:v.k=3) (h2:w.k=3):P7 (i4 v w):=by
 unfold i4
 have t1:=(VF hv h1).2
 have t2:=(VF hw h2).2
 have l1:=HR t1
 have l2:=HR t2
 have e:iA ((v.s.size:Int) + (w.s.size:Int))=(v.s.size:Int) + (w.s.size:Int):=aL (by omega) (by omega)
 rw [e]
 split
 ·exact qM YM
 ·exact vM (vvT (PY t1 t2 (by omega)))
theorem K4 {a:Int} (h1:-1000000000000≤a) (h2:a≤1000000000000):vU a=a.natAbs:=by
 unfold vU
 have e:iA (0 - a)=0 - a:=aL (by omega) (by omega)
 rw [e]
 split <;> omega
theorem LV {x:Nat} (hx:(x:Int)≤1000000000000):iA ((1000000000000:Int).tdiv (x:Int))=((1000000000000 / x:Nat):Int):=by
 have e:(1000000000000:Int).tdiv (x:Int)=((1000000000000 / x:Nat):Int):=rfl
 rw [e]
 have:1000000000000 / x≤1000000000000:=Nat.div_le_self _ _
 generalize 1000000000000 / x=q at *
 exact aL (by omega) (by omega)
theorem PG {a b:Int} (a1:-1000000000000≤a) (a2:a≤1000000000000) (b1:-1000000000000≤b) (b2:b≤1000000000000):m9 a b=dY (u6 a b):=by
 unfold m9 u6
 rw [K4 a1 a2,K4 b1 b2,LV (by omega),LV (by omega)]
 generalize hx:a.natAbs=x
 generalize hy:b.natAbs=y
 have key:∀ p q:Nat,0 < p→(q > 1000000000000 / p↔1000000000000 < q * p):=fun p q hp=>Nat.div_lt_iff_lt_mul hp
 by_cases h:1000000000000 < x * y
 ·have hx0:0 < x:=Nat.pos_of_ne_zero (fun e=>by subst e;simp at h)
  have hy0:0 < y:=Nat.pos_of_ne_zero (fun e=>by subst e;simp at h)
  have k1:=(key y x hy0).2 h
  have k2:=(key x y hx0).2 (by rwa [Nat.mul_comm])
  rw [if_pos ⟨by omega,by omega⟩,if_pos ⟨by omega,by omega⟩]
  rfl
 ·rw [if_neg,if_neg]
  ·rintro ⟨h1,h2⟩
   have:=(key x y (by omega)).1 (by omega)
   rw [Nat.mul_comm] at this
   exact h this
  ·rintro ⟨h1,h2⟩
   exact h ((key y x (by omega)).1 (by omega))
theorem XP (h1:v.s=⟨#[]⟩) (h2:w.s=⟨#[]⟩):m8 v w=E3 v.n w.n:=by
 unfold m8 E3
 rw [h1,h2,show lR ⟨#[]⟩ ⟨#[]⟩=false by decide +kernel]
 simp
theorem XQ (h1:v.n=0) (h2:w.n=0):m8 v w=E4 v.s w.s:=by
 unfold m8 E4
 rw [h1,h2]
 simp
theorem LE (hop:7≤op∧op≤19) (hv:bH v=true) (hw:bH w=true):bA op v w=mJ op v w:=by
 have kv:=VG hv
 have kw:=VG hw
 have e7:(7:Int)=7:=rfl
 unfold bA mJ
 by_cases h78:op=7∨op=8
 ·rw [if_pos h78,if_pos h78]
 rw [if_neg h78,if_neg h78]
 by_cases h9:op=9∨op=10
 ·rw [if_pos h9]
  by_cases hk:v.k=w.k
  ·have hr:eU op v.k w.k≠-1:=by
    unfold eU
    rw [if_neg (by omega),if_neg (by omega),if_pos h9];decide
   rw [if_neg (by simpa using hk),if_neg hr]
   rcases h9 with rfl | rfl
   ·rw [if_pos rfl];simp
   ·rw [if_neg (by decide),if_pos rfl];simp
  ·have hr:eU op v.k w.k=-1:=by
    unfold eU
    rw [if_pos (.inl hk)]
   rw [if_pos hk,if_pos hr]
 rw [if_neg h9]
 have g:op=11∨op=12∨op=13∨op=14∨op=15∨op=16∨op=17∨op=18∨op=19:=by omega
 by_cases h11:op=11∨op=12∨op=13∨op=14
 ·rw [if_pos h11]
  by_cases k1:v.k=1∧w.k=1
  ·have hr:eU op v.k w.k≠-1:=by
    unfold eU
    rw [if_neg (by omega),if_neg (by omega),if_neg h9,if_pos (by omega),if_pos (.inl k1.1)];decide
   rw [if_pos k1,if_neg hr,XP (V7 hv k1.1).1 (V7 hw k1.2).1]
   unfold i9
   rcases h11 with rfl | rfl | rfl | rfl <;> rfl
  ·rw [if_neg k1]
   by_cases k3:v.k=3∧w.k=3
   ·have hr:eU op v.k w.k≠-1:=by
     unfold eU
     rw [if_neg (by omega),if_neg (by omega),if_neg h9,if_pos (by omega),if_pos (.inr k3.1)];decide
    rw [if_pos k3,if_neg hr,XQ (VF hv k3.1).1 (VF hw k3.2).1]
    unfold i9
    rcases h11 with rfl | rfl | rfl | rfl <;> rfl
   ·have hr:eU op v.k w.k=-1:=by
     unfold eU
     by_cases hk:v.k=w.k
     ·rw [if_neg (by omega),if_neg (by omega),if_neg h9,if_pos (by omega),if_neg (by omega)]
     ·rw [if_pos (.inl hk)]
    rw [if_neg k3,if_pos hr]
 rw [if_neg h11]
 by_cases h15:op=15∧(v.k=3∧w.k=3)
 ·obtain ⟨rfl,k3⟩:=h15
  have hr:eU 15 v.k w.k≠-1:=by
   unfold eU
   rw [if_neg (by omega),if_neg (by omega),if_neg (by omega),if_neg (by omega),if_pos rfl,if_pos (.inr k3.1)];omega
  rw [if_pos ⟨rfl,k3⟩,if_neg hr,if_neg (by decide),if_neg (by decide),if_neg (by decide),if_neg (by decide),if_neg (by decide),if_neg (by decide),if_pos rfl,if_neg (by omega)]
 rw [if_neg h15]
 by_cases k1:v.k=1∧w.k=1
 ·have hr:eU op v.k w.k≠-1:=by
   unfold eU
   rw [if_neg (by omega),if_neg (by omega),if_neg h9,if_neg (by omega)]
   split
   ·rw [if_pos (.inl k1.1)];omega
   ·rw [if_pos k1.1];decide
  have g:op=15∨op=16∨op=17∨op=18∨op=19:=by omega
  obtain ⟨s1,v1,v2⟩:=V7 hv k1.1
  obtain ⟨s2,w1,w2⟩:=V7 hw k1.2
  rw [if_neg (by simpa using k1),if_neg hr]
  rcases g with rfl | rfl | rfl | rfl | rfl
  ·simp [k1.1]
  ·simp
  ·simp [PG v1 v2 w1 w2]
  ·simp [FT]
  ·simp [FW]
 ·have hr:eU op v.k w.k=-1:=by
   unfold eU
   by_cases hk:v.k=w.k
   ·rw [if_neg (by omega),if_neg (by omega),if_neg h9,if_neg (by omega)]
    split
    ·rw [if_neg (by omega)]
    ·rw [if_neg (by omega)]
   ·rw [if_pos (.inl hk)]
  rw [if_pos k1,if_pos hr]
theorem HG (hop:7≤op∧op≤19) (hv:bH v=true) (hw:bH w=true):P7 (bA op v w):=by
 unfold bA
 split
 ·unfold dP
  split
  ·exact qM yM
  split
  ·exact vM hv
  split
  ·exact qM yM
  ·exact vM hw
 split
 ·split
  ·exact qM yM
  ·exact vM (V8 _)
 split
 ·split
  ·exact vM (V8 _)
  split
  ·exact vM (V8 _)
  ·exact qM yM
 split
 ·rename_i h;exact PL hv hw h.2.1 h.2.2
 split
 ·exact qM yM
 split
 ·exact lG _
 split
 ·exact lG _
 split
 ·unfold m9
  split
  ·exact qM U2
  ·exact lG _
 split
 ·unfold FT
  split
  ·exact qM U3
  ·exact lG _
 ·unfold FW
  split
  ·exact qM U3
  ·exact lG _
end
theorem cD {n lo hi:Int}:bI n lo hi=true↔lo≤n∧n≤hi:=by
 unfold bI
 simp only [Bool.and_eq_true,decide_eq_true_eq]
structure nQ (f:Fc):Prop where
 p0:0≤f.params
 p1:f.params≤5
 s0:f.params≤f.slots
 s1:f.slots≤200
 n0:1≤f.code.length
 n1:f.code.length≤4000
 g1:f.guards.length≤400
section
variable {f:Fc} {n:Int}
theorem c9:cP f n 0=true↔n=0:=by
 unfold cP;rw [if_pos rfl,decide_eq_true_eq]
theorem cI (h:nQ f):cP f n 1=true↔0≤n∧n < f.slots:=by
 have:=h.p0;have:=h.s0;have:=h.s1
 unfold cP
 rw [if_neg (by decide),if_pos rfl,show iA (f.slots - 1)=f.slots - 1 from aL (by omega) (by omega),cD]
 omega
theorem uN (h:nQ f):cP f n 2=true↔-1≤n∧n < f.slots:=by
 have:=h.p0;have:=h.s0;have:=h.s1
 unfold cP
 rw [if_neg (by decide),if_neg (by decide),if_pos rfl,show iA (f.slots - 1)=f.slots - 1 from aL (by omega) (by omega),cD]
 omega
theorem qE (h:nQ f):cP f n 3=true↔0≤n∧n < (f.code.length:Int):=by
 have:=h.n0;have:=h.n1
 unfold cP
 rw [if_neg (by decide),if_neg (by decide),if_neg (by decide),if_pos rfl,show iA ((f.code.length:Int) - 1)=(f.code.length:Int) - 1 from aL (by omega) (by omega),cD]
 omega
theorem rB (h:nQ f) (h0:0≤n) (h1:n < f.slots):cP f (iA (n + 1)) 1=true↔n + 1 < f.slots:=by
 have:=h.s1
 rw [show iA (n + 1)=n + 1 from aL (by omega) (by omega),cI h]
 omega
end
structure QU (c:List Fc) (f:Fc) (x:In):Prop where
 b:1≤x.b∧x.b≤21
 sp:x.b=5→0≤x.c∧x.c < (c.length:Int)∧(aC c x.c).params=(x.l.length:Int)
 lf:x.b=17→x.l.length=1→aC x.l 0 + 1 < f.slots
 lo:x.b≠5→(uJ x.b).lo≤(x.l.length:Int)∧(x.l.length:Int)≤(uJ x.b).hi
 cc:x.b≠5→0≤x.c∧x.c≤(uJ x.b).c
structure N0 (c:List Fc) (f:Fc) (x:In):Prop where
 op:1≤x.op∧x.op≤14
 a1:x.op=1∨x.op=2∨x.op=3∨x.op=4∨x.op=6∨x.op=9∨x.op=12∨x.op=13∨x.op=14→0≤x.a∧x.a < f.slots
 a2:x.op=7∨x.op=8∨x.op=10→-1≤x.a∧x.a < f.slots
 a3:x.op=5→0≤x.a∧x.a < (f.code.length:Int)
 b0:x.op=1∨x.op=5∨x.op=8∨x.op=9∨x.op=11∨x.op=12∨x.op=14→x.b=0
 b1:x.op=2→0≤x.b∧x.b < f.slots
 b3:x.op=6∨x.op=13→0≤x.b∧x.b < (f.code.length:Int)
 c0:x.op≠3→x.op≠4→x.op≠10→x.c=0
 c1:x.op=3∨x.op=4→0≤x.c∧x.c < f.slots
 v:bH x.v=true
 v0:x.op≠1→x.v=g9
 n0:x.op=1∨x.op=2∨x.op=3∨x.op=5∨x.op=6∨x.op=8∨x.op=9∨x.op=13∨x.op=14→x.l.length=0
 n1:x.op=4→x.l.length=1
 n5:x.op=7∨x.op=10→x.l.length≤5
 ns:x.op=12→1≤x.l.length
 l1:x.op≠12→∀ m ∈ x.l,0≤m∧m < f.slots
 l3:x.op=12→∀ m ∈ x.l,0≤m∧m < (f.code.length:Int)
 un:x.op=3→x.b=5∨x.b=6
 bi:x.op=4→9≤x.b∧x.b≤19
 ca:x.op=7→0≤x.b∧x.b < (c.length:Int)∧(aC c x.b).params=(x.l.length:Int)
 ask:x.op=10→QU c f x
 arm:x.op=11→(x.a=2∧x.l.length=2)∨((x.a=1∨x.a=3)∧x.l.length=1)
 ra:x.op=14→x.a + 1 < f.slots
structure QV (c:List Fc) (f:Fc):Prop where
 hd:nQ f
 ins:∀ x ∈ f.code,N0 c f x
 sel:∀ i:Nat,i < f.code.length→(aC f.code (i:Int)).op=10→(aC f.code (i:Int)).b=15→(d5 f.code i).length≤4
 last:(gS (aC f.code ((f.code.length:Int) - 1)).op).goes=false
 gd:∀ g ∈ f.guards,(0≤g.fr∧g.fr < (f.code.length:Int))∧(g.fr < g.to∧g.to≤(f.code.length:Int))∧(0≤g.at'∧g.at' < (f.code.length:Int))∧0≤g.slot∧g.slot + 1 < f.slots
structure dR (c:List Fc):Prop where
 n:1≤c.length∧c.length≤16
 fs:∀ f ∈ c,QV c f
theorem XO {n:Int} (h:(jU o8 n).isSome=true):n=1∨n=2∨n=3∨n=4∨n=5∨n=6∨n=7∨n=8∨n=9∨n=10∨n=11∨n=12∨n=13∨n=14:=by
 by_cases g:n=1∨n=2∨n=3∨n=4∨n=5∨n=6∨n=7∨n=8∨n=9∨n=10∨n=11∨n=12∨n=13∨n=14
 ·exact g
 ·exfalso
  simp only [not_or] at g
  simp [o8,jU,g] at h
theorem S2 {n:Int} (h:(jU sX n).isSome=true):1≤n∧n≤21∧n≠5:=by
 by_cases g:n=1∨n=2∨n=3∨n=4∨n=6∨n=7∨n=8∨n=9∨n=10∨n=11∨n=12∨n=13∨n=14∨n=15∨n=16∨n=17∨n=18∨n=19∨n=20∨n=21
 ·omega
 ·exfalso
  simp only [not_or] at g
  simp [sX,jU,g] at h
section
variable {c:List Fc} {f:Fc} {x:In}
theorem pE {n m:Int} (h1:1≤c.length) (h2:c.length≤16):nM c n m=true↔0≤n∧n < (c.length:Int)∧(aC c n).params=m:=by
 unfold nM
 rw [show iA ((c.length:Int) - 1)=(c.length:Int) - 1 from aL (by omega) (by omega),Bool.and_eq_true,cD,decide_eq_true_eq]
 constructor
 ·rintro ⟨⟨a,b⟩,d⟩;exact ⟨a,by omega,d⟩
 ·rintro ⟨a,b,d⟩;exact ⟨⟨a,by omega⟩,d⟩
theorem xW {v:Va}:m6 v=true↔v=g9:=by
 unfold m6
 simp only [Bool.and_eq_true,decide_eq_true_eq]
 constructor
 ·rintro ⟨a,b,d⟩;obtain ⟨k,n,s⟩:=v;simp only at a b d;subst a b d;rfl
 ·rintro rfl;exact ⟨rfl,rfl,rfl⟩
theorem N9 (hc:1≤c.length∧c.length≤16) (hh:nQ f) (hl:∀ m ∈ x.l,0≤m∧m < f.slots) (h:nR c f x=true):QU c f x:=by
 unfold nR at h
 by_cases h5:x.b=5
 ·rw [decide_eq_true h5] at h
  exact ⟨by omega,fun _=>(pE hc.1 hc.2).1 h,fun g=>by omega,fun g=>absurd h5 g,fun g=>absurd h5 g⟩
 ·rw [decide_eq_false h5] at h
  simp only [cond_false] at h
  have hlf:x.b=17→x.l.length=1→aC x.l 0 + 1 < f.slots:=by
   intro g1 g2
   rw [decide_eq_true g1,decide_eq_true (show (x.l.length:Int)=1 by omega)] at h
   cases hq:cP f (iA (aC x.l 0 + 1)) 1 with
   | false=>rw [hq] at h;simp at h
   | true =>
    have hm:aC x.l 0 ∈ x.l:=by
     have:aC x.l 0=x.l[0]:=bK (i:=0) (by omega)
     rw [this];exact List.getElem_mem _
    have:=hl _ hm
    exact (rB hh this.1 this.2).1 hq
  have h':((jU sX x.b).isSome && (bI x.l.length (uJ x.b).lo (uJ x.b).hi && bI x.c 0 (uJ x.b).c))=true:=by
   revert h
   cases (decide (x.b=17) && (decide ((x.l.length:Int)=1) && !cP f (iA (aC x.l 0 + 1)) 1)) <;> simp
  simp only [Bool.and_eq_true,cD] at h'
  have:=S2 h'.1
  exact ⟨by omega,fun g=>absurd g h5,hlf,fun _=>h'.2.1,fun _=>h'.2.2⟩
theorem O1 (hc:1≤c.length∧c.length≤16) (hh:nQ f) (h:iO c f x=true):N0 c f x:=by
 unfold iO at h
 cases hb:oE f x with
 | true=>rw [hb] at h;cases h
 | false =>
  rw [hb] at h
  cases hl:(x.l.any (fun n=>!cP f n (bif (gS x.op).arms then 3 else 1))) with
  | true=>rw [hl] at h;cases h
  | false =>
   rw [hl] at h
   simp only [cond_false] at h
   unfold oE at hb
   simp only [Bool.or_eq_false_iff,Bool.not_eq_false'] at hb
   obtain ⟨h1,h2,h3,h4,h5,h6,h7⟩:=hb
   have hl':∀ m ∈ x.l,cP f m (bif (gS x.op).arms then 3 else 1)=true:=by
    rw [List.any_eq_false] at hl
    intro m hm
    have:=hl m hm
    revert this
    cases cP f m (bif (gS x.op).arms then 3 else 1) <;> simp
   have hv:bH x.v=true:=h7
   have hop:=XO h1
   have hsz:=hh.s1
   rw [cD] at h5
   have hz:(gS x.op).val=false→x.v=g9:=by
    intro g;rw [g] at h6
    have:m6 x.v=true:=by
     unfold m6
     revert h6
     cases (decide (x.v.k=0) && (decide (x.v.n=0) && decide (x.v.s=⟨#[]⟩))) <;> simp
    exact xW.1 this
   rcases hop with e | e | e | e | e | e | e | e | e | e | e | e | e | e <;> rw [e] at h2 h3 h4 h5 hl' hz h
   ·exact { op:=by omega,a1:=fun _=>(cI hh).1 h2,a2:=fun g=>by omega,a3:=fun g=>by omega,b0:=fun _=>c9.1 h3,b1:=fun g=>by omega,b3:=fun g=>by omega,c0:=fun _ _ _=>c9.1 h4,c1:=fun g=>by omega,v:=hv,v0:=fun g=>absurd e g,n0:=fun _=>by have:(x.l.length:Int)≤0:=h5.2;omega,n1:=fun g=>by omega,n5:=fun g=>by omega,ns:=fun g=>by omega,l1:=fun _ m hm=>(cI hh).1 (hl' m hm),l3:=fun g=>by omega,un:=fun g=>by omega,bi:=fun g=>by omega,ca:=fun g=>by omega,ask:=fun g=>by omega,arm:=fun g=>by omega,ra:=fun g=>by omega }
   ·exact { op:=by omega,a1:=fun _=>(cI hh).1 h2,a2:=fun g=>by omega,a3:=fun g=>by omega,b0:=fun g=>by omega,b1:=fun g=>(cI hh).1 h3,b3:=fun g=>by omega,c0:=fun _ _ _=>c9.1 h4,c1:=fun g=>by omega,v:=hv,v0:=fun g=>hz rfl,n0:=fun _=>by have:(x.l.length:Int)≤0:=h5.2;omega,n1:=fun g=>by omega,n5:=fun g=>by omega,ns:=fun g=>by omega,l1:=fun _ m hm=>(cI hh).1 (hl' m hm),l3:=fun g=>by omega,un:=fun g=>by omega,bi:=fun g=>by omega,ca:=fun g=>by omega,ask:=fun g=>by omega,arm:=fun g=>by omega,ra:=fun g=>by omega }
   ·have h':bI x.b 5 6=true:=h
    rw [cD] at h'
    exact { op:=by omega,a1:=fun _=>(cI hh).1 h2,a2:=fun g=>by omega,a3:=fun g=>by omega,b0:=fun g=>by omega,b1:=fun g=>by omega,b3:=fun g=>by omega,c0:=fun g=>absurd e g,c1:=fun g=>(cI hh).1 h4,v:=hv,v0:=fun g=>hz rfl,n0:=fun _=>by have:(x.l.length:Int)≤0:=h5.2;omega,n1:=fun g=>by omega,n5:=fun g=>by omega,ns:=fun g=>by omega,l1:=fun _ m hm=>(cI hh).1 (hl' m hm),l3:=fun g=>by omega,un:=fun g=>by omega,bi:=fun g=>by omega,ca:=fun g=>by omega,ask:=fun g=>by omega,arm:=fun g=>by omega,ra:=fun g=>by omega }
   ·have h':bI x.b 9 19=true:=h
    rw [cD] at h'
    exact { op:=by omega,a1:=fun _=>(cI hh).1 h2,a2:=fun g=>by omega,a3:=fun g=>by omega,b0:=fun g=>by omega,b1:=fun g=>by omega,b3:=fun g=>by omega,c0:=fun _ g=>absurd e g,c1:=fun g=>(cI hh).1 h4,v:=hv,v0:=fun g=>hz rfl,n0:=fun g=>by omega,n1:=fun g=>by have a:(1:Int)≤(x.l.length:Int):=h5.1;have b:(x.l.length:Int)≤1:=h5.2;omega,n5:=fun g=>by omega,ns:=fun g=>by omega,l1:=fun _ m hm=>(cI hh).1 (hl' m hm),l3:=fun g=>by omega,un:=fun g=>by omega,bi:=fun g=>by omega,ca:=fun g=>by omega,ask:=fun g=>by omega,arm:=fun g=>by omega,ra:=fun g=>by omega }
   ·exact { op:=by omega,a1:=fun g=>by omega,a2:=fun g=>by omega,a3:=fun g=>(qE hh).1 h2,b0:=fun g=>c9.1 h3,b1:=fun g=>by omega,b3:=fun g=>by omega,c0:=fun _ _ _=>c9.1 h4,c1:=fun g=>by omega,v:=hv,v0:=fun g=>hz rfl,n0:=fun _=>by have:(x.l.length:Int)≤0:=h5.2;omega,n1:=fun g=>by omega,n5:=fun g=>by omega,ns:=fun g=>by omega,l1:=fun _ m hm=>(cI hh).1 (hl' m hm),l3:=fun g=>by omega,un:=fun g=>by omega,bi:=fun g=>by omega,ca:=fun g=>by omega,ask:=fun g=>by omega,arm:=fun g=>by omega,ra:=fun g=>by omega }
   ·exact { op:=by omega,a1:=fun _=>(cI hh).1 h2,a2:=fun g=>by omega,a3:=fun g=>by omega,b0:=fun g=>by omega,b1:=fun g=>by omega,b3:=fun g=>(qE hh).1 h3,c0:=fun _ _ _=>c9.1 h4,c1:=fun g=>by omega,v:=hv,v0:=fun g=>hz rfl,n0:=fun _=>by have:(x.l.length:Int)≤0:=h5.2;omega,n1:=fun g=>by omega,n5:=fun g=>by omega,ns:=fun g=>by omega,l1:=fun _ m hm=>(cI hh).1 (hl' m hm),l3:=fun g=>by omega,un:=fun g=>by omega,bi:=fun g=>by omega,ca:=fun g=>by omega,ask:=fun g=>by omega,arm:=fun g=>by omega,ra:=fun g=>by omega }
   ·exact { op:=by omega,a1:=fun g=>by omega,a2:=fun _=>(uN hh).1 h2,a3:=fun g=>by omega,b0:=fun g=>by omega,b1:=fun g=>by omega,b3:=fun g=>by omega,c0:=fun _ _ _=>c9.1 h4,c1:=fun g=>by omega,v:=hv,v0:=fun g=>hz rfl,n0:=fun g=>by omega,n1:=fun g=>by omega,n5:=fun g=>by have:(x.l.length:Int)≤5:=h5.2;omega,ns:=fun g=>by omega,l1:=fun _ m hm=>(cI hh).1 (hl' m hm),l3:=fun g=>by omega,un:=fun g=>by omega,bi:=fun g=>by omega,ca:=fun g=>(pE hc.1 hc.2).1 h,ask:=fun g=>by omega,arm:=fun g=>by omega,ra:=fun g=>by omega }
   ·exact { op:=by omega,a1:=fun g=>by omega,a2:=fun _=>(uN hh).1 h2,a3:=fun g=>by omega,b0:=fun g=>c9.1 h3,b1:=fun g=>by omega,b3:=fun g=>by omega,c0:=fun _ _ _=>c9.1 h4,c1:=fun g=>by omega,v:=hv,v0:=fun g=>hz rfl,n0:=fun _=>by have:(x.l.length:Int)≤0:=h5.2;omega,n1:=fun g=>by omega,n5:=fun g=>by omega,ns:=fun g=>by omega,l1:=fun _ m hm=>(cI hh).1 (hl' m hm),l3:=fun g=>by omega,un:=fun g=>by omega,bi:=fun g=>by omega,ca:=fun g=>by omega,ask:=fun g=>by omega,arm:=fun g=>by omega,ra:=fun g=>by omega }
   ·exact { op:=by omega,a1:=fun _=>(cI hh).1 h2,a2:=fun g=>by omega,a3:=fun g=>by omega,b0:=fun g=>c9.1 h3,b1:=fun g=>by omega,b3:=fun g=>by omega,c0:=fun _ _ _=>c9.1 h4,c1:=fun g=>by omega,v:=hv,v0:=fun g=>hz rfl,n0:=fun _=>by have:(x.l.length:Int)≤0:=h5.2;omega,n1:=fun g=>by omega,n5:=fun g=>by omega,ns:=fun g=>by omega,l1:=fun _ m hm=>(cI hh).1 (hl' m hm),l3:=fun g=>by omega,un:=fun g=>by omega,bi:=fun g=>by omega,ca:=fun g=>by omega,ask:=fun g=>by omega,arm:=fun g=>by omega,ra:=fun g=>by omega }
   ·exact { op:=by omega,a1:=fun g=>by omega,a2:=fun _=>(uN hh).1 h2,a3:=fun g=>by omega,b0:=fun g=>by omega,b1:=fun g=>by omega,b3:=fun g=>by omega,c0:=fun _ _ g=>absurd e g,c1:=fun g=>by omega,v:=hv,v0:=fun g=>hz rfl,n0:=fun g=>by omega,n1:=fun g=>by omega,n5:=fun g=>by have:(x.l.length:Int)≤5:=h5.2;omega,ns:=fun g=>by omega,l1:=fun _ m hm=>(cI hh).1 (hl' m hm),l3:=fun g=>by omega,un:=fun g=>by omega,bi:=fun g=>by omega,ca:=fun g=>by omega,ask:=fun g=>N9 hc hh (fun m hm=>(cI hh).1 (hl' m hm)) h,arm:=fun g=>by omega,ra:=fun g=>by omega }
   ·have h':((decide (x.a=2) && decide ((x.l.length:Int)=2)) || ((decide (x.a=1) || decide (x.a=3)) && decide ((x.l.length:Int)=1)))=true:=h
    simp only [Bool.or_eq_true,Bool.and_eq_true,decide_eq_true_eq] at h'
    exact { op:=by omega,a1:=fun g=>by omega,a2:=fun g=>by omega,a3:=fun g=>by omega,b0:=fun g=>c9.1 h3,b1:=fun g=>by omega,b3:=fun g=>by omega,c0:=fun _ _ _=>c9.1 h4,c1:=fun g=>by omega,v:=hv,v0:=fun g=>hz rfl,n0:=fun g=>by omega,n1:=fun g=>by omega,n5:=fun g=>by omega,ns:=fun g=>by omega,l1:=fun _ m hm=>(cI hh).1 (hl' m hm),l3:=fun g=>by omega,un:=fun g=>by omega,bi:=fun g=>by omega,ca:=fun g=>by omega,ask:=fun g=>by omega,arm:=fun g=>by omega,ra:=fun g=>by omega }
   ·exact { op:=by omega,a1:=fun _=>(cI hh).1 h2,a2:=fun g=>by omega,a3:=fun g=>by omega,b0:=fun g=>c9.1 h3,b1:=fun g=>by omega,b3:=fun g=>by omega,c0:=fun _ _ _=>c9.1 h4,c1:=fun g=>by omega,v:=hv,v0:=fun g=>hz rfl,n0:=fun g=>by omega,n1:=fun g=>by omega,n5:=fun g=>by omega,ns:=fun g=>by have a:(1:Int)≤(x.l.length:Int):=h5.1;omega,l1:=fun g=>absurd e g,l3:=fun _ m hm=>(qE hh).1 (hl' m hm),un:=fun g=>by omega,bi:=fun g=>by omega,ca:=fun g=>by omega,ask:=fun g=>by omega,arm:=fun g=>by omega,ra:=fun g=>by omega }
   ·exact { op:=by omega,a1:=fun _=>(cI hh).1 h2,a2:=fun g=>by omega,a3:=fun g=>by omega,b0:=fun g=>by omega,b1:=fun g=>by omega,b3:=fun g=>(qE hh).1 h3,c0:=fun _ _ _=>c9.1 h4,c1:=fun g=>by omega,v:=hv,v0:=fun g=>hz rfl,n0:=fun _=>by have:(x.l.length:Int)≤0:=h5.2;omega,n1:=fun g=>by omega,n5:=fun g=>by omega,ns:=fun g=>by omega,l1:=fun _ m hm=>(cI hh).1 (hl' m hm),l3:=fun g=>by omega,un:=fun g=>by omega,bi:=fun g=>by omega,ca:=fun g=>by omega,ask:=fun g=>by omega,arm:=fun g=>by omega,ra:=fun g=>by omega }
   ·have ha:=(cI hh).1 h2
    exact { op:=by omega,a1:=fun _=>ha,a2:=fun g=>by omega,a3:=fun g=>by omega,b0:=fun g=>c9.1 h3,b1:=fun g=>by omega,b3:=fun g=>by omega,c0:=fun _ _ _=>c9.1 h4,c1:=fun g=>by omega,v:=hv,v0:=fun g=>hz rfl,n0:=fun _=>by have:(x.l.length:Int)≤0:=h5.2;omega,n1:=fun g=>by omega,n5:=fun g=>by omega,ns:=fun g=>by omega,l1:=fun _ m hm=>(cI hh).1 (hl' m hm),l3:=fun g=>by omega,un:=fun g=>by omega,bi:=fun g=>by omega,ca:=fun g=>by omega,ask:=fun g=>by omega,arm:=fun g=>by omega,ra:=fun g=>(rB hh ha.1 ha.2).1 h }
theorem G7 (h:jC f=false):nQ f:=by
 unfold jC at h
 simp only [Bool.or_eq_false_iff,Bool.not_eq_false',cD,decide_eq_false_iff_not] at h
 obtain ⟨h1,h2,h3,h4,h5⟩:=h
 exact ⟨by omega,by omega,by omega,by omega,by omega,by omega,by omega⟩
theorem zO (hh:nQ f) {g:Gd}:o9 f g=true↔(0≤g.fr∧g.fr < (f.code.length:Int))∧(g.fr < g.to∧g.to≤(f.code.length:Int))∧(0≤g.at'∧g.at' < (f.code.length:Int))∧0≤g.slot∧g.slot + 1 < f.slots:=by
 have:=hh.n0;have:=hh.n1
 unfold o9
 simp only [Bool.and_eq_true]
 rw [show iA ((f.code.length:Int) - 1)=(f.code.length:Int) - 1 from aL (by omega) (by omega),cD,qE hh,cI hh]
 constructor
 ·rintro ⟨h1,h2,h3,h4,h5⟩
  rw [show iA (g.fr + 1)=g.fr + 1 from aL (by omega) (by omega),cD] at h2
  exact ⟨by omega,by omega,h3,h4.1,(rB hh h4.1 h4.2).1 h5⟩
 ·rintro ⟨h1,h2,h3,h4,h5⟩
  refine ⟨by omega,?_,h3,by omega,(rB hh h4 (by omega)).2 h5⟩
  rw [show iA (g.fr + 1)=g.fr + 1 from aL (by omega) (by omega),cD]
  omega
theorem OV (hc:1≤c.length∧c.length≤16) (h:r4 c f=true):QV c f:=by
 unfold r4 at h
 cases hb:jC f with
 | true=>rw [hb] at h;cases h
 | false =>
  rw [hb] at h
  have hh:=G7 hb
  have:=hh.n0;have:=hh.n1
  cases hs:fN f.code.length (fun i=>!iJ c f i) with
  | false=>rw [hs] at h;cases h
  | true =>
   rw [hs] at h
   simp only [cond_false,cond_true,Bool.and_eq_true,Bool.not_eq_true'] at h
   rw [dN] at hs
   have hs':∀ i,i < f.code.length→iJ c f i=false:=fun i hi=>by simpa using hs i hi
   refine ⟨hh,fun x hx=>?_,fun i hi h1 h2=>?_,?_,fun g hg=>?_⟩
   ·obtain ⟨i,hi,rfl⟩:=List.getElem_of_mem hx
    have:=hs' i hi
    unfold iJ at this
    rw [bK hi] at this
    simp only [Bool.or_eq_false_iff,Bool.not_eq_false'] at this
    exact O1 hc hh this.1
   ·have:=hs' i hi
    unfold iJ at this
    rw [h1,h2] at this
    simp only [Bool.or_eq_false_iff,decide_true,Bool.and_true,Bool.true_and,decide_eq_false_iff_not] at this
    omega
   ·rw [show iA ((f.code.length:Int) - 1)=(f.code.length:Int) - 1 from aL (by omega) (by omega)] at h
    exact h.1
   ·have:=h.2
    rw [List.any_eq_false] at this
    have:=this g hg
    exact (zO hh).1 (by simpa using this)
theorem eL (h:cC c=0):dR c:=by
 unfold cC at h
 cases hq:(bI c.length 1 16 && fN c.length (lK c)) with
 | false=>rw [hq] at h;cases h
 | true =>
  rw [Bool.and_eq_true,cD,dN] at hq
  have hc:1≤c.length∧c.length≤16:=by omega
  refine ⟨hc,fun f hf=>?_⟩
  obtain ⟨i,hi,rfl⟩:=List.getElem_of_mem hf
  have:=hq.2 i hi
  unfold lK at this
  rw [bK hi] at this
  simp only [Bool.not_eq_true',Bool.or_eq_false_iff,Bool.not_eq_false'] at this
  exact OV hc this.2
end
theorem dM {α:Type} [Inhabited α] {l:List α} {i:Int} (h0:0≤i) (h1:i < (l.length:Int)):aC l i ∈ l:=by
 obtain ⟨k,rfl⟩:=Int.eq_ofNat_of_zero_le h0
 have hk:k < l.length:=by omega
 rw [bK hk];exact List.getElem_mem hk
theorem PB {α:Type} [Inhabited α] {l:List α} {p:α→Prop} (h:∀ x ∈ l,p x) (hd:p default) (i:Int):p (aC l i):=by
 unfold aC
 rw [List.getD_eq_getElem?_getD]
 cases hg:l[i.toNat]? with
 | none=>exact hd
 | some x=>exact h x (List.mem_of_getElem? hg)
theorem vvD:bH (default:Va)=true:=rfl
structure jS (c:List Fc) (t:Fm):Prop where
 f0:0≤t.fn
 f1:t.fn < (c.length:Int)
 p0:0≤t.pc
 p1:t.pc < ((aC c t.fn).code.length:Int)
 sl:(t.slots.length:Int)=(aC c t.fn).slots
 vv:∀ v ∈ t.slots,bH v=true
def SZ (c:List Fc) (t u:Fm):Prop:=(aN c u).op=7∧(aN c u).b=t.fn∧(aN c u).a=t.to
def vA (c:List Fc):List Fm→Prop
 | []=>False
 | [t]=>t.to=-1
 | t::u::r=>SZ c t u∧vA c (u::r)
structure eK (c:List Fc) (ts:List Fm):Prop where
 n:ts.length≤24
 fr:∀ t ∈ ts,jS c t
 ch:vA c ts
section
variable {c:List Fc} {t u:Fm} {r ts:List Fm} {n:Int} {v:Va} {f:Fa}
theorem oB (hc:dR c) (F:jS c t):QV c (aC c t.fn):=hc.fs _ (dM F.f0 F.f1)
theorem vG (hc:dR c) (F:jS c t):N0 c (aC c t.fn) (aN c t):=(oB hc F).ins _ (dM F.p0 F.p1)
theorem kR (F:jS c t) (n:Int):bH (aD t n)=true:=PB F.vv vvD n
theorem rC (hc:dR c) (F:jS c t) (hg:(gS (aN c t).op).goes=true):t.pc + 1 < ((aC c t.fn).code.length:Int):=by
 have:=F.p1
 have hl:=(oB hc F).last
 by_cases h:t.pc + 1 < ((aC c t.fn).code.length:Int)
 ·exact h
 ·have e:t.pc=((aC c t.fn).code.length:Int) - 1:=by omega
  unfold aN at hg
  rw [e,hl] at hg
  cases hg
theorem vA.head (h:vA c (t::r)) {t':Fm} (h1:t'.fn=t.fn) (h2:t'.to=t.to):vA c (t'::r):=by
 cases r with
 | nil=>exact h2.trans h
 | cons u r=>exact ⟨⟨h.1.1,h.1.2.1.trans h1.symm,h.1.2.2.trans h2.symm⟩,h.2⟩
theorem eK.head (h:eK c (t::r)) {t':Fm} (h1:t'.fn=t.fn) (h2:t'.to=t.to) (F:jS c t'):eK c (t'::r) :=
 ⟨h.n,fun u hu=>by rcases List.mem_cons.1 hu with rfl | hu;exact F;exact h.fr u (List.mem_cons_of_mem _ hu),h.ch.head h1 h2⟩
theorem jS.put (F:jS c t) (hv:bH v=true):jS c (fK t n v) :=
 ⟨F.f0,F.f1,F.p0,F.p1,by show ((t.slots.set _ _).length:Int)=_;rw [List.length_set];exact F.sl,fun w hw=>by
  have hw:w ∈ t.slots.set n.toNat v:=hw
  rcases List.mem_or_eq_of_mem_set hw with h | rfl
  ·exact F.vv w h
  ·exact hv⟩
theorem jS.adv (F:jS c t) (h:t.pc + 1 < ((aC c t.fn).code.length:Int)):jS c (dS t) :=
 ⟨F.f0,F.f1,by show 0≤t.pc + 1;have:=F.p0;omega,h,F.sl,F.vv⟩
theorem jS.go (F:jS c t) (h0:0≤n) (h:n < ((aC c t.fn).code.length:Int)):jS c (BV t n) :=
 ⟨F.f0,F.f1,h0,h,F.sl,F.vv⟩
theorem zP {f:Fc} {pc:Int} (h:¬ cH f pc < 0):aC f.guards (cH f pc) ∈ f.guards:=by
 have:=tG (MD pc) f.guards
 exact dM (by omega) this.1
theorem jS.caught (hc:dR c) (F:jS c t) (hf:zA f) (h:¬ cH (aC c t.fn) t.pc < 0):jS c (o5 c t f):=by
 obtain ⟨g1,g2,g3,g4,g5⟩:=(oB hc F).gd _ (zP h)
 have hk:=TQ hf
 refine ⟨F.f0,F.f1,g3.1,g3.2,?_,fun w hw=>?_⟩
 ·show (((t.slots.set _ _).set _ _).length:Int)=_
  rw [List.length_set,List.length_set];exact F.sl
 ·have hw:w ∈ ((t.slots.set (aC (aC c t.fn).guards (cH (aC c t.fn) t.pc)).slot.toNat ⟨1,f.k,⟨#[]⟩⟩).set ((aC (aC c t.fn).guards (cH (aC c t.fn) t.pc)).slot + 1).toNat ⟨3,0,f.t⟩):=hw
  rcases List.mem_or_eq_of_mem_set hw with hw | rfl
  ·rcases List.mem_or_eq_of_mem_set hw with hw | rfl
   ·exact F.vv w hw
   ·exact YS (by omega) (by omega)
  ·exact vvT (TR hf)
theorem pH (hc:dR c) (hf:zA f):∀ ts:List Fm,ts.length≤24→(∀ t ∈ ts,jS c t)→(ts=[]∨vA c ts)→cT c f ts=[]∨eK c (cT c f ts)
 | [],_,_,_ => .inl rfl
 | t::r,hn,hF,hch=>by
  have hch:vA c (t::r):=hch.resolve_left (by simp)
  unfold cT
  split
  ·refine pH hc hf r (by simp at hn;omega) (fun u hu=>hF u (List.mem_cons_of_mem _ hu)) ?_
   cases r with
   | nil=>exact .inl rfl
   | cons u r=>exact .inr hch.2
  ·rename_i h
   have G:eK c (t::r):=⟨hn,hF,hch⟩
   exact .inr (G.head rfl rfl ((hF t (by simp)).caught hc hf h))
theorem iR (hc:dR c) (hf:zA f) (G:eK c ts) {ts':List Fm} (h:dE c f ts = .more ts'):eK c ts':=by
 unfold dE at h
 have:=pH hc hf ts G.n G.fr (.inr G.ch)
 generalize cT c f ts=q at h this
 cases q with
 | nil=>simp at h
 | cons a b =>
  simp at h
  rcases this with h' | h'
  ·simp at h'
  ·rw [← h];exact h'
theorem eK.top (G:eK c (t::r)):jS c t:=G.fr t (by simp)
theorem eK.tail (G:eK c (t::u::r)):eK c (u::r):=⟨by have:=G.n;simp at this ⊢;omega,fun w hw=>G.fr w (List.mem_cons_of_mem _ hw),G.ch.2⟩
theorem AH (hc:dR c) (G:eK c (t::r)) {p:Va × Fa} (hp:P7 p) (hn:t.pc + 1 < ((aC c t.fn).code.length:Int)) {ts':List Fm} (h:jW c t r n p.1 p.2 = .more ts'):eK c ts':=by
 unfold jW at h
 split at h
 ·exact iR hc hp.1 G h
 ·rename_i h0
  have h0:p.2.k=0:=by simpa using h0
  have hv:=hp.2 h0
  injection h with h
  rw [← h]
  split
  ·exact G.head rfl rfl ((G.top.put hv).adv hn)
  ·exact G.head rfl rfl (G.top.adv hn)
theorem II {fn tt:Int} {args:List Va} (h:(args.length:Int)≤(aC c fn).slots):((eW c fn tt args).slots.length:Int)=(aC c fn).slots:=by
 show ((args++List.replicate ((aC c fn).slots.toNat - args.length) g9).length:Int)=_
 rw [List.length_append,List.length_replicate];omega
theorem wX {fn tt:Int} {args:List Va} (hc:dR c) (h0:0≤fn) (h1:fn < (c.length:Int)) (hn:(args.length:Int)=(aC c fn).params) (hv:∀ v ∈ args,bH v=true):jS c (eW c fn tt args):=by
 have hd:=(hc.fs _ (dM h0 h1)).hd
 have:=hd.s0;have:=hd.n0
 refine ⟨h0,h1,Int.le_refl _,by show (0:Int) < ((aC c fn).code.length:Int);omega,II (by omega),fun v h=>?_⟩
 have h:v ∈ args++List.replicate ((aC c fn).slots.toNat - args.length) g9:=h
 rcases List.mem_append.1 h with h | h
 ·exact hv v h
 ·rw [(List.mem_replicate.1 h).2];rfl
theorem NM (F:jS c t) (l:List Int):∀ v ∈ aY t l,bH v=true:=by
 intro v hv
 obtain ⟨m,_,rfl⟩:=List.mem_map.1 hv
 exact kR F m
theorem G3 (F:jS c t) {k:Int} (h:cS t k=true):zA (dJ t k):=by
 unfold cS at h
 simp only [Bool.and_eq_true] at h
 exact h.2.2
theorem rN (hc:dR c) (G:eK c (t::r)) (h:cE c t r = .more ts):eK c ts:=by
 have F:=G.top
 have I:=vG hc F
 have hgo:=rC hc F
 unfold cE at h
 simp only at h
 generalize hx:aN c t=x at *
 by_cases e1:x.op=1
 ·rw [if_pos e1] at h;cases h
  exact G.head rfl rfl ((F.put I.v).adv (hgo (by rw [e1];rfl)))
 rw [if_neg e1] at h
 by_cases e2:x.op=2
 ·rw [if_pos e2] at h;cases h
  exact G.head rfl rfl ((F.put (kR F _)).adv (hgo (by rw [e2];rfl)))
 rw [if_neg e2] at h
 by_cases e3:x.op=3
 ·rw [if_pos e3] at h
  exact AH hc G (z7 _ _) (hgo (by rw [e3];rfl)) h
 rw [if_neg e3] at h
 by_cases e4:x.op=4
 ·rw [if_pos e4] at h
  have hb:=I.bi e4
  refine AH hc G ?_ (hgo (by rw [e4];rfl)) h
  have:=HG (op:=x.b) (by omega) (kR F x.c) (kR F (aC x.l 0))
  rwa [LE (by omega) (kR F x.c) (kR F (aC x.l 0))] at this
 rw [if_neg e4] at h
 by_cases e5:x.op=5
 ·rw [if_pos e5] at h;cases h
  have:=I.a3 e5
  exact G.head rfl rfl (F.go this.1 this.2)
 rw [if_neg e5] at h
 by_cases e6:x.op=6
 ·rw [if_pos e6] at h
  have:=I.b3 (.inl e6)
  split at h
  ·exact iR hc (CS yM) G h
  split at h
  ·cases h;exact G.head rfl rfl (F.go this.1 this.2)
  ·cases h;exact G.head rfl rfl (F.adv (hgo (by rw [e6];rfl)))
 rw [if_neg e6] at h
 by_cases e7:x.op=7
 ·rw [if_pos e7] at h
  split at h
  ·exact iR hc (CS YL) G h
  ·cases h
   rename_i h24
   obtain ⟨b0,b1,b2⟩:=I.ca e7
   have hn:=G.n
   refine ⟨by simp at hn ⊢;omega,fun u hu=>?_,⟨⟨by rw [hx];exact e7,by rw [hx];rfl,by rw [hx];rfl⟩,G.ch⟩⟩
   rcases List.mem_cons.1 hu with rfl | hu
   ·exact wX hc b0 b1 (by rw [b2];simp [aY]) (NM F _)
   ·exact G.fr u hu
 rw [if_neg e7] at h
 by_cases e8:x.op=8
 ·rw [if_pos e8] at h
  cases r with
  | nil=>cases h
  | cons u r =>
   cases h
   have Fu:=G.tail.top
   have L:=G.ch.1
   have hn:=rC hc Fu (by rw [L.1];rfl)
   have hv:bH (if x.a≥0 then aD t x.a else g9)=true:=by
    split
    ·exact kR F _
    ·rfl
   split
   ·exact G.tail.head rfl rfl ((Fu.put hv).adv hn)
   ·exact G.tail.head rfl rfl (Fu.adv hn)
 rw [if_neg e8] at h
 by_cases e9:x.op=9
 ·rw [if_pos e9] at h
  refine iR hc ?_ G h
  split
  ·rename_i hk;exact CS (VF (kR F _) hk).2
  ·exact CS yM
 rw [if_neg e9] at h
 by_cases e10:x.op=10
 ·rw [if_pos e10] at h
  split at h
  ·cases h
  ·exact iR hc (CS yM) G h
 rw [if_neg e10] at h
 by_cases e11:x.op=11
 ·rw [if_pos e11] at h;cases h
  exact G.head rfl rfl (F.adv (hgo (by rw [e11];rfl)))
 rw [if_neg e11] at h
 by_cases e12:x.op=12
 ·rw [if_pos e12] at h
  split at h
  ·cases h
   rename_i hk
   have:=I.l3 e12 _ (dM hk.2.1 hk.2.2)
   exact G.head rfl rfl (F.go this.1 this.2)
  ·exact iR hc (CS yM) G h
 rw [if_neg e12] at h
 by_cases e13:x.op=13
 ·rw [if_pos e13] at h
  have:=I.b3 (.inr e13)
  split at h
  ·cases h;exact G.head rfl rfl (F.adv (hgo (by rw [e13];rfl)))
  ·cases h;exact G.head rfl rfl (F.go this.1 this.2)
 rw [if_neg e13] at h
 refine iR hc ?_ G h
 split
 ·rename_i hk;exact G3 F hk.1
 ·exact CS yM
theorem FR (hc:dR c) (G:eK c (t::r)):nE c (cV c t r (aN c t))=cE c t r:=by
 have F:=G.top
 have I:=vG hc F
 have hn0:dO kW=true:=rfl
 have hnt:∀ s:ByteArray,dO (l9 s)=false:=fun s=>by unfold dO;simp
 have plain:∀ q:List Fm,nE c (lF q) = .more q:=fun q=>rfl
 have fail0:∀ q:List Fm,nE c (k9 q kW) = .more q:=fun q=>rfl
 have failF:∀ (q:List Fm) (f:Fa),dO f=false→nE c (k9 q f)=dE c f q:=fun q f h=>by
  unfold nE k9 dE
  simp only [h]
  rw [if_neg (by decide),if_neg (by decide),if_neg (by decide)]
  all_goals (cases cT c f q <;> rfl)
 have set':∀ (n:Int) (p:Va × Fa),P7 p→n≥0→nE c (k9 ((bif dO p.2 then dS (fK t n p.1) else t)::r) p.2)=jW c t r n p.1 p.2:=fun n p hp hn=>by
  unfold jW
  by_cases h0:p.2.k=0
  ·rw [if_neg (by simpa using h0),if_pos hn,L0 hp.1 h0,hn0]
   exact fail0 _
  ·have e:dO p.2=false:=by rw [CT hp.1];simpa using h0
   rw [if_pos h0,e]
   exact failF _ _ e
 unfold cV cE
 simp only
 generalize hx:aN c t=x at *
 by_cases e1:x.op=1
 ·rw [if_pos e1,if_pos e1];rfl
 rw [if_neg e1,if_neg e1]
 by_cases e2:x.op=2
 ·rw [if_pos e2,if_pos e2];rfl
 rw [if_neg e2,if_neg e2]
 by_cases e3:x.op=3
 ·rw [if_pos e3,if_pos e3]
  exact set' _ _ (z7 _ _) (I.a1 (by omega)).1
 rw [if_neg e3,if_neg e3]
 by_cases e4:x.op=4
 ·rw [if_pos e4,if_pos e4]
  have hb:=I.bi e4
  rw [← LE (by omega) (kR F x.c) (kR F (aC x.l 0))]
  exact set' _ _ (HG (by omega) (kR F x.c) (kR F (aC x.l 0))) (I.a1 (by omega)).1
 rw [if_neg e4,if_neg e4]
 by_cases e5:x.op=5
 ·rw [if_pos e5,if_pos e5];rfl
 rw [if_neg e5,if_neg e5]
 by_cases e6:x.op=6
 ·rw [if_pos e6,if_pos e6]
  by_cases k:(aD t x.a).k≠2
  ·rw [if_pos k,if_pos k,if_pos k];exact failF _ _ (hnt _)
  ·rw [if_neg k,if_neg k,if_neg k,fail0];split <;> rfl
 rw [if_neg e6,if_neg e6]
 by_cases e7:x.op=7
 ·rw [if_pos e7,if_pos e7]
  by_cases k:r.length + 1=24
  ·rw [if_pos k,if_pos k,if_pos k];exact failF _ _ (hnt _)
  ·rw [if_neg k,if_neg k,if_neg k,fail0]
 rw [if_neg e7,if_neg e7]
 by_cases e8:x.op=8
 ·rw [if_pos e8,if_pos e8]
  cases r <;> rfl
 rw [if_neg e8,if_neg e8]
 by_cases e9:x.op=9
 ·rw [if_pos e9,if_pos e9]
  refine failF _ _ ?_
  split <;> exact hnt _
 rw [if_neg e9,if_neg e9]
 by_cases e10:x.op=10
 ·rw [if_pos e10,if_pos e10]
  have hb:=(I.ask e10).b
  by_cases k:bT c t x=true
  ·rw [if_pos k,if_pos k,if_pos k]
   have hk:(bX c t x).kind=x.b:=by
    unfold bX
    repeat' split
    all_goals rfl
   unfold nE
   simp only
   rw [if_neg (by decide),if_pos (by rw [hk];omega)]
  ·rw [if_neg k,if_neg k,if_neg k];exact failF _ _ (hnt _)
 rw [if_neg e10,if_neg e10]
 by_cases e11:x.op=11
 ·rw [if_pos e11,if_pos e11];rfl
 rw [if_neg e11,if_neg e11]
 by_cases e12:x.op=12
 ·rw [if_pos e12,if_pos e12]
  by_cases k1:(aD t x.a).k≠1
  ·rw [if_pos k1,if_pos k1,if_neg (by omega)];exact failF _ _ (hnt _)
  rw [if_neg k1,if_neg k1]
  by_cases k2:(aD t x.a).n < 0
  ·rw [if_pos k2,if_pos k2,if_neg (by omega)];exact failF _ _ (hnt _)
  rw [if_neg k2,if_neg k2]
  by_cases k3:(aD t x.a).n≥(x.l.length:Int)
  ·rw [if_pos k3,if_pos k3,if_neg (by omega)];exact failF _ _ (hnt _)
  rw [if_neg k3,if_neg k3,if_pos (by omega)];exact fail0 _
 rw [if_neg e12,if_neg e12]
 by_cases e13:x.op=13
 ·rw [if_pos e13,if_pos e13,plain]
  have hi:∀ v:Va,rQ v=decide (v=⟨1,1,⟨#[]⟩⟩):=fun v=>by
   obtain ⟨k,n,s⟩:=v
   unfold rQ
   simp [Bool.decide_and]
  rw [hi]
  by_cases k:aD t x.a=⟨1,1,⟨#[]⟩⟩
  ·rw [if_pos k,decide_eq_true k];rfl
  ·rw [if_neg k,decide_eq_false k];rfl
 rw [if_neg e13,if_neg e13]
 by_cases k:cS t x.a=true∧(dJ t x.a).k≠0
 ·rw [if_pos k]
  refine failF _ _ ?_
  rw [CT (G3 F k.1)];simpa using k.2
 ·rw [if_neg k];exact failF _ _ (hnt _)
structure EP (c:List Fc) (t:Fm):Prop where
 f0:0≤t.fn
 f1:t.fn < (c.length:Int)
 sl:(t.slots.length:Int)=(aC c t.fn).slots
theorem jS.w (F:jS c t):EP c t:=⟨F.f0,F.f1,F.sl⟩
theorem m4 (hc:dR c) (F:EP c t):gX c t:=by
 have hf:=hc.fs _ (dM F.f0 F.f1)
 refine ⟨F.f0,F.f1,fun h=>?_⟩
 obtain ⟨g1,g2,g3,g4,g5⟩:=hf.gd _ (zP h)
 have:fU (aC c t.fn) t.pc=aC (aC c t.fn).guards (cH (aC c t.fn) t.pc):=by unfold fU;rw [if_neg h]
 rw [this,F.sl]
 exact ⟨g4,g5,hf.hd.s1⟩
theorem B4 {l:List In}:∀ {a j:Nat},gA l a≤j→j < a→(aC l (j:Int)).op=11
 | 0,j,_,h=>by omega
 | a + 1,j,h1,h2=>by
  simp only [gA] at h1
  split at h1
  ·rename_i h
   by_cases e:j=a
   ·rw [e];exact h
   ·exact B4 h1 (by omega)
  ·omega
theorem K6 {l:List In} {a i:Nat} (ha:a≤l.length) (hi:i < (d5 l a).length):aC (d5 l a) (i:Int) ∈ l∧(aC (d5 l a) (i:Int)).op=11:=by
 have hn:=n7 l a
 have hl:(d5 l a).length=a - gA l a:=by unfold d5;rw [List.length_take,List.length_drop];omega
 have e:aC (d5 l a) (i:Int)=aC l ((gA l a + i:Nat):Int):=by
  rw [bK hi,bK (by omega)]
  simp only [d5,List.getElem_take,List.getElem_drop]
 rw [e]
 exact ⟨dM (by omega) (by omega),B4 (a:=a) (by omega) (by omega)⟩
theorem lB (hc:dR c) (F:jS c t) (h10:(aN c t).op=10):oY c t (aN c t):=by
 have I:=vG hc F
 have A:=I.ask h10
 have hd:=(oB hc F).hd
 have h5:=I.n5 (.inr h10)
 have hs:=F.sl
 have hs1:=hd.s1
 have hp:=F.p1
 have hp0:=F.p0
 have hk:∀ i:Nat,i < (aN c t).l.length→0≤aC (aN c t).l (i:Int)∧aC (aN c t).l (i:Int) < (t.slots.length:Int):=fun i hi=>by
  rw [hs];exact I.l1 (by omega) _ (dM (by omega) (by omega))
 refine ⟨by omega,hk,by omega,fun hb=>?_,fun hb=>?_,fun hb h0=>?_,fun hb=>⟨fun i hi=>?_,?_⟩⟩
 ·have:=(A.lo (by omega)).1
  rcases hb with e | e | e | e | e | e | e | e | e | e | e | e | e <;> rw [e] at this
  all_goals first
   | (have h':(1:Int)≤_:=this;omega)
   | (have h':(2:Int)≤_:=this;omega)
 ·have:=(A.lo (by omega)).1
  rw [hb] at this
  have h':(2:Int)≤_:=this
  omega
 ·have:=(A.lo (by omega)).2
  rw [hb] at this
  have h':_≤(1:Int):=this
  rw [hs]
  exact A.lf hb (by omega)
 ·obtain ⟨m1,m2⟩:=K6 (l:=(aC c t.fn).code) (a:=t.pc.toNat) (by omega) hi
  have J:=(oB hc F).ins _ m1
  have ha:=J.arm m2
  change wO t (aC (d5 (aC c t.fn).code t.pc.toNat) (i:Int))
  refine ⟨by omega,by omega,by omega,fun h=>by omega,fun k hk=>?_⟩
  rw [hs];exact J.l1 (by omega) _ (dM (by omega) (by omega))
 ·show (d5 (aC c t.fn).code t.pc.toNat).length≤4000
  unfold d5
  rw [List.length_take,List.length_drop]
  have:=hd.n1
  omega
theorem sR (hc:dR c) (G:eK c (t::r)):q9 c t r (aN c t):=by
 have F:=G.top
 have I:=vG hc F
 have hd:=(oB hc F).hd
 have hs:=F.sl
 have hs1:=hd.s1
 have hp:=F.p1
 have hn1:=hd.n1
 have hn:=G.n
 refine { op:=I.op,f0:=F.f0,f1:=F.f1,p0:=F.p0,p1:=F.p1,pc:=by omega,s:=by omega,n:=by simp at hn;omega,a:=fun h=>?_,b:=fun h=>?_,cc:=fun h=>?_,un:=I.un,bi:=fun h=>?_,ca:=fun h=>?_,re:=fun h=>⟨fun h0=>?_,fun u q hr=>?_⟩,ask:=lB hc F,ra:=fun h=>?_ }
 ·rw [hs];exact I.a1 (by omega)
 ·rw [hs];exact I.b1 h
 ·rw [hs];exact ⟨I.c1 h,kR F _⟩
 ·have h1:=I.n1 h
  have h2:=I.bi h
  have h3:=I.l1 (by omega) _ (dM (l:=(aN c t).l) (i:=0) (by omega) (by omega))
  rw [hs]
  exact ⟨by omega,by omega,h3.1,h3.2,kR F _⟩
 ·obtain ⟨b0,b1,b2⟩:=I.ca h
  have h5:=I.n5 (.inl h)
  have hd':=(hc.fs _ (dM b0 b1)).hd
  have:=hd'.p0;have:=hd'.s0;have:=hd'.s1
  refine ⟨b0,b1,by omega,by omega,by omega,by omega,fun i hi=>?_⟩
  rw [hs];exact I.l1 (by omega) _ (dM (by omega) (by omega))
 ·rw [hs];exact (I.a2 (by omega)).2
 ·subst hr
  have Fu:=G.tail.top
  have L:=G.ch.1
  have Iu:=vG hc Fu
  have:=Iu.a2 (.inl L.1)
  have h1:=Fu.p1
  have h2:=(oB hc Fu).hd.n1
  refine ⟨fun h0=>?_,Fu.p0,by omega⟩
  rw [Fu.sl,← L.2.2];exact this.2
 ·rw [hs];have:=I.a1 (by omega);exact ⟨this.1,I.ra h⟩
theorem EP.put (F:EP c t):EP c (fK t n v):=⟨F.f0,F.f1,by show ((t.slots.set _ _).length:Int)=_;rw [List.length_set];exact F.sl⟩
theorem EP.adv (F:EP c t):EP c (dS t):=⟨F.f0,F.f1,F.sl⟩
theorem EP.go (F:EP c t):EP c (BV t n):=⟨F.f0,F.f1,F.sl⟩
theorem BM (hc:dR c) (G:eK c (t::r)):(cV c t r (aN c t)).ts.length≤1000∧∀ u ∈ (cV c t r (aN c t)).ts,EP c u:=by
 have F:=G.top
 have W:=F.w
 have I:=vG hc F
 have hn:r.length≤23:=by have:=G.n;simp at this;omega
 have hr:∀ u ∈ r,EP c u:=fun u hu=>(G.fr u (List.mem_cons_of_mem _ hu)).w
 have one:∀ t':Fm,EP c t'→(t'::r).length≤1000∧∀ u ∈ t'::r,EP c u:=fun t' h'=>⟨by simp;omega,fun u hu=>by
  rcases List.mem_cons.1 hu with rfl | hu
  ·exact h'
  ·exact hr u hu⟩
 unfold cV
 generalize hx:aN c t=x at *
 by_cases e1:x.op=1
 ·rw [if_pos e1];exact one _ W.put.adv
 rw [if_neg e1]
 by_cases e2:x.op=2
 ·rw [if_pos e2];exact one _ W.put.adv
 rw [if_neg e2]
 by_cases e3:x.op=3
 ·rw [if_pos e3]
  refine one _ ?_
  cases dO (eN x.b (aD t x.c)).2
  ·exact W
  ·exact W.put.adv
 rw [if_neg e3]
 by_cases e4:x.op=4
 ·rw [if_pos e4]
  refine one _ ?_
  cases dO (bA x.b (aD t x.c) (aD t (aC x.l 0))).2
  ·exact W
  ·exact W.put.adv
 rw [if_neg e4]
 by_cases e5:x.op=5
 ·rw [if_pos e5];exact one _ W.go
 rw [if_neg e5]
 by_cases e6:x.op=6
 ·rw [if_pos e6]
  refine one _ ?_
  split
  ·exact W
  split
  ·exact W.go
  ·exact W.adv
 rw [if_neg e6]
 by_cases e7:x.op=7
 ·rw [if_pos e7]
  show (if r.length + 1=24 then t::r else eW c x.b x.a (aY t x.l)::t::r).length≤1000∧∀ u ∈ (if r.length + 1=24 then t::r else eW c x.b x.a (aY t x.l)::t::r),EP c u
  split
  ·exact one _ W
  ·obtain ⟨b0,b1,b2⟩:=I.ca e7
   refine ⟨by simp;omega,fun u hu=>?_⟩
   rcases List.mem_cons.1 hu with rfl | hu
   ·exact (wX hc b0 b1 (by rw [b2];simp [aY]) (NM F _)).w
   ·exact (one _ W).2 u hu
 rw [if_neg e7]
 by_cases e8:x.op=8
 ·rw [if_pos e8]
  cases r with
  | nil=>exact ⟨by simp,fun u hu=>by simp at hu⟩
  | cons u r =>
   show (_::r).length≤1000∧_
   have Wu:=hr u (by simp)
   refine ⟨by simp at hn ⊢;omega,fun w hw=>?_⟩
   have hw:w ∈ dS (if t.to≥0 then fK u t.to (if x.a≥0 then aD t x.a else g9) else u)::r:=hw
   rcases List.mem_cons.1 hw with rfl | hw
   ·split
    ·exact Wu.put.adv
    ·exact Wu.adv
   ·exact hr w (List.mem_cons_of_mem _ hw)
 rw [if_neg e8]
 by_cases e9:x.op=9
 ·rw [if_pos e9];exact one _ W
 rw [if_neg e9]
 by_cases e10:x.op=10
 ·rw [if_pos e10];exact one _ W
 rw [if_neg e10]
 by_cases e11:x.op=11
 ·rw [if_pos e11];exact one _ W.adv
 rw [if_neg e11]
 by_cases e12:x.op=12
 ·rw [if_pos e12]
  refine one _ ?_
  split
  ·exact W
  split
  ·exact W
  split
  ·exact W
  ·exact W.go
 rw [if_neg e12]
 by_cases e13:x.op=13
 ·rw [if_pos e13]
  refine one _ ?_
  cases rQ (aD t x.a)
  ·exact W.go
  ·exact W.adv
 rw [if_neg e13]
 exact one _ W
theorem sE {fn:Int} {args:List Va} (hc:dR c) (h:lT c fn args=true):eK c [eW c fn (-1) args]:=by
 unfold lT at h
 simp only [Bool.and_eq_true,decide_eq_true_eq,Bool.not_eq_true',List.any_eq_false] at h
 obtain ⟨⟨⟨h0,h1⟩,h2⟩,h3⟩:=h
 refine ⟨by simp,fun u hu=>?_,rfl⟩
 rcases List.mem_singleton.1 hu with rfl
 exact wX hc h0 h1 h2 fun v hv=>by simpa using h3 v hv
end
end Go.Ab
