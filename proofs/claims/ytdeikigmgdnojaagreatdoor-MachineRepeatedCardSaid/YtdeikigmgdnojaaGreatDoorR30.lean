import Derived.Test.YtdeikigmgdnojaaGreatDoorR29
import Derived.Test.YtdeikigmgdnojaaGreatDoorR16
import Derived.Lib.SliceRun
/- A part of the proof of one law. -/
set_option maxRecDepth 100000
set_option maxHeartbeats 8000000
set_option linter.unusedVariables false
set_option linter.unusedSimpArgs false
namespace Go.Ab
open Go
section
variable {c:List Fc} {f:Fc} {x:In} {a:Nat}
theorem gG (h1:(jU o8 x.op).isSome=true) (h2:cP f x.a (gS x.op).a=true) (h3:cP f x.b (gS x.op).b=true) (h4:cP f x.c (gS x.op).c=true) (h5:(gS x.op).lo≤(x.l.length:Int)∧(x.l.length:Int)≤(gS x.op).hi)
  (h6:(gS x.op).val=true∨x.v=g9) (h7:bH x.v=true) (h8:∀ m ∈ x.l,cP f m (bif (gS x.op).arms then 3 else 1)=true)
  (h9:(bif decide (x.op=3) then bI x.b 5 6 else bif decide (x.op=4) then bI x.b 9 19 else bif decide (x.op=7) then nM c x.b x.l.length
   else bif decide (x.op=10) then nR c f x
   else bif decide (x.op=11) then ((decide (x.a=2) && decide ((x.l.length:Int)=2)) || ((decide (x.a=1) || decide (x.a=3)) && decide ((x.l.length:Int)=1)))
   else bif decide (x.op=14) then cP f (iA (x.a + 1)) 1 else true)=true):iO c f x=true:=by
 have hb:oE f x=false:=by
  unfold oE
  have h5':=cD.2 h5
  have h7':cQ x.v.k x.v.n x.v.s=true:=h7
  rw [h1,h2,h3,h4,h5',h7']
  rcases h6 with h6 | h6 <;> rw [h6] <;> simp
 have hl:(x.l.any (fun n=>!cP f n (bif (gS x.op).arms then 3 else 1)))=false:=by
  rw [List.any_eq_false]
  intro m hm
  rw [h8 m hm];simp
 unfold iO
 rw [hb,hl]
 exact h9
theorem JM {n:Int} (h:1≤n∧n≤14):vH n = !(gS n).goes:=by
 have g:n=1∨n=2∨n=3∨n=4∨n=5∨n=6∨n=7∨n=8∨n=9∨n=10∨n=11∨n=12∨n=13∨n=14:=by omega
 rcases g with rfl | rfl | rfl | rfl | rfl | rfl | rfl | rfl | rfl | rfl | rfl | rfl | rfl | rfl <;> rfl
theorem O6 {n:Int} (h:vH n=true):n=5∨n=8∨n=9∨n=12∨n=14:=by
 unfold vH at h
 by_cases h5:n=5
 ·exact .inl h5
 by_cases h8:n=8
 ·exact .inr (.inl h8)
 by_cases h9:n=9
 ·exact .inr (.inr (.inl h9))
 by_cases h12:n=12
 ·exact .inr (.inr (.inr (.inl h12)))
 rw [decide_eq_false h5,decide_eq_false h8,decide_eq_false h9,decide_eq_false h12] at h
 exact .inr (.inr (.inr (.inr (of_decide_eq_true h))))
theorem tI (hh:nQ f) {n:Int} {l:List Int}:zJ c f n l=true↔(0≤n∧n < (c.length:Int)∧(aC c n).params=(l.length:Int))∧∀ m ∈ l,0≤m∧m < f.slots:=by
 unfold zJ
 simp only [Bool.and_eq_true,decide_eq_true_eq,gK hh]
 constructor
 ·rintro ⟨⟨h1,h2⟩,h3,h4⟩;exact ⟨⟨h1,h2,h3.symm⟩,h4⟩
 ·rintro ⟨⟨h1,h2,h3⟩,h4⟩;exact ⟨⟨h1,h2⟩,h3.symm,h4⟩
theorem RX {l:List Int} (h:l.length=1):l=[aC l 0]:=by
 match l,h with
 | [y],_=>rfl
theorem PO (hh : nQ f) (A : QU c f x) (hl : ∀ m ∈ x.l, 0 ≤ m ∧ m < f.slots) (hs : x.b = 15 → (d5 f.code a).length ≤ 4) (ha : a ≤ f.code.length) : x7 c f x a = true := by
  have hl' := (gK hh).2 hl
  have hal : (d5 f.code a).length = a - gA f.code a := by
    have := n7 f.code a
    unfold d5; rw [List.length_take, List.length_drop]; omega
  rw [hal] at hs
  obtain ⟨b, sp, lf, lo, cc⟩ := A
  have g : x.b = 1 ∨ x.b = 2 ∨ x.b = 3 ∨ x.b = 4 ∨ x.b = 5 ∨ x.b = 6 ∨ x.b = 7 ∨ x.b = 8 ∨ x.b = 9 ∨ x.b = 10 ∨ x.b = 11 ∨ x.b = 12 ∨ x.b = 13 ∨ x.b = 14 ∨ x.b = 15 ∨ x.b = 16 ∨ x.b = 17 ∨ x.b = 18 ∨ x.b = 19 ∨ x.b = 20 ∨ x.b = 21 := by omega
  unfold x7
  by_cases h5 : x.b = 5
  · rw [decide_eq_true h5]; exact (tI hh).2 ⟨sp h5, hl⟩
  have lo := lo h5
  have cc := cc h5
  rw [decide_eq_false h5]
  simp only [cond_false]
  rcases g with e | e | e | e | e | e | e | e | e | e | e | e | e | e | e | e | e | e | e | e | e <;> first | exact absurd e h5 | skip
  all_goals rw [e] at lo cc
  all_goals rw [e]
  all_goals first
    | (have l1 : (0 : Int) ≤ _ := lo.1; have l2 : _ ≤ (0 : Int) := lo.2; have c2 : _ ≤ (0 : Int) := cc.2; have c1 := cc.1; have e1 : x.c = 0 := by omega
       have e2 : (x.l.length : Int) = 0 := by omega
       simp [e1, e2]; done)
    | (have l1 : (1 : Int) ≤ _ := lo.1; have l2 : _ ≤ (1 : Int) := lo.2; have c2 : _ ≤ (0 : Int) := cc.2; have c1 := cc.1; have e1 : x.c = 0 := by omega
       have e2 : (x.l.length : Int) = 1 := by omega
       simp [e1, e2, hl']; done)
    | (have l1 : (2 : Int) ≤ _ := lo.1; have l2 : _ ≤ (2 : Int) := lo.2; have c2 : _ ≤ (0 : Int) := cc.2; have c1 := cc.1; have e1 : x.c = 0 := by omega
       have e2 : (x.l.length : Int) = 2 := by omega
       simp [e1, e2, hl']; done)
    | (have l1 : (1 : Int) ≤ _ := lo.1; have l2 : _ ≤ (1 : Int) := lo.2; have c2 : _ ≤ (2 : Int) := cc.2; have c1 := cc.1
       have e2 : (x.l.length : Int) = 1 := by omega
       simp [e2, hl', c1, c2]; done)
    | (have l1 : (1 : Int) ≤ _ := lo.1; have l2 : _ ≤ (1 : Int) := lo.2; have c2 : _ ≤ (1 : Int) := cc.2; have c1 := cc.1
       have e2 : (x.l.length : Int) = 1 := by omega
       have s4 : ((a - gA f.code a : Nat) : Int) ≤ 4 := by have := hs e; omega
       simp [e2, hl', c1, c2] <;> omega)
    | (have l2 : _ ≤ (1 : Int) := lo.2; have c2 : _ ≤ (1 : Int) := cc.2; have c1 := cc.1
       simp [hl', c1, c2, l2] <;> omega)
    | (have l2 : _ ≤ (1 : Int) := lo.2; have c2 : _ ≤ (0 : Int) := cc.2; have c1 := cc.1; have e1 : x.c = 0 := by omega
       by_cases h0 : x.l.length = 0
       · simp [e1, List.eq_nil_of_length_eq_zero h0]
       · have h1 : x.l.length = 1 := by omega
         have s2 : fG f (aC x.l 0) 2 = true := (D9 hh).2 ⟨(hl _ (dM (by omega) (by omega))).1, lf e h1⟩
         simp [e1, h1, s2])
theorem PQ (hh:nQ f) (I:N0 c f x) (hs:x.op=10→x.b=15→(d5 f.code a).length≤4) (ha:a≤f.code.length):kI c f x a=true:=by
 have hv:(decide (x.op≠1) && !m6 x.v)=false:=by
  by_cases h:x.op=1
  ·simp [h]
  ·rw [xW.2 (I.v0 h)];simp
 have hv':cQ x.v.k x.v.n x.v.s=true:=I.v
 have hop:=I.op
 have g:x.op=1∨x.op=2∨x.op=3∨x.op=4∨x.op=5∨x.op=6∨x.op=7∨x.op=8∨x.op=9∨x.op=10∨x.op=11∨x.op=12∨x.op=13∨x.op=14:=by omega
 unfold kI
 rw [hv]
 simp only [cond_false]
 have s1:∀ {n:Int},0≤n∧n < f.slots→fG f n 1=true:=fun h=>(qT hh).2 h
 have sO:-1≤x.a∧x.a < f.slots→(decide (x.a=-1) || fG f x.a 1)=true:=fun h=>by
  by_cases e:x.a=-1
  ·simp [e]
  ·rw [s1 ⟨by omega,h.2⟩];simp
 rcases g with e | e | e | e | e | e | e | e | e | e | e | e | e | e
 ·have a1:=s1 (I.a1 (by omega));have n0:=I.n0 (by omega);have b0:=I.b0 (by omega);have c0:=I.c0 (by omega) (by omega) (by omega)
  simp [e,a1,n0,b0,c0,hv']
 ·have a1:=s1 (I.a1 (by omega));have n0:=I.n0 (by omega);have b1:=s1 (I.b1 e);have c0:=I.c0 (by omega) (by omega) (by omega)
  simp [e,a1,n0,b1,c0]
 ·have a1:=s1 (I.a1 (by omega));have n0:=I.n0 (by omega);have b1:=I.un e;have c0:=s1 (I.c1 (by omega))
  rcases b1 with b1 | b1 <;> simp [e,a1,n0,b1,c0]
 ·have a1:=s1 (I.a1 (by omega));have n0:=I.n1 (by omega);have b1:=I.bi e;have c0:=s1 (I.c1 (by omega));have hl:=(gK hh).2 (I.l1 (by omega))
  simp [e,a1,n0,b1.1,b1.2,c0,hl]
 ·have a1:=iQ.2 (I.a3 e);have n0:=I.n0 (by omega);have b0:=I.b0 (by omega);have c0:=I.c0 (by omega) (by omega) (by omega)
  simp [e,a1,n0,b0,c0,bare]
 ·have a1:=s1 (I.a1 (by omega));have n0:=I.n0 (by omega);have b1:=iQ.2 (I.b3 (by omega));have c0:=I.c0 (by omega) (by omega) (by omega)
  simp [e,a1,n0,b1,c0]
 ·have a1:=sO (I.a2 (by omega));have b1:=(tI hh).2 ⟨I.ca e,I.l1 (by omega)⟩;have c0:=I.c0 (by omega) (by omega) (by omega)
  rw [Bool.or_eq_true,decide_eq_true_eq] at a1
  simp [e,a1,b1,c0]
 ·have a1:=sO (I.a2 (by omega));have n0:=I.n0 (by omega);have b0:=I.b0 (by omega);have c0:=I.c0 (by omega) (by omega) (by omega)
  rw [Bool.or_eq_true,decide_eq_true_eq] at a1
  simp [e,a1,n0,b0,c0,bare]
 ·have a1:=s1 (I.a1 (by omega));have n0:=I.n0 (by omega);have b0:=I.b0 (by omega);have c0:=I.c0 (by omega) (by omega) (by omega)
  simp [e,a1,n0,b0,c0,bare]
 ·have a1:=sO (I.a2 (by omega));have k:=PO hh (I.ask e) (I.l1 (by omega)) (hs e) ha
  rw [Bool.or_eq_true,decide_eq_true_eq] at a1
  simp [e,a1,k]
 ·have b0:=I.b0 (by omega);have c0:=I.c0 (by omega) (by omega) (by omega);have hl:=(gK hh).2 (I.l1 (by omega))
  rcases I.arm e with ⟨h1,h2⟩ | ⟨h1 | h1,h2⟩ <;> simp [e,h1,h2,b0,c0,hl]
 ·have a1:=s1 (I.a1 (by omega));have b0:=I.b0 (by omega);have c0:=I.c0 (by omega) (by omega) (by omega);have hl:=x3.2 (I.l3 e);have n1:=I.ns e
  have n2:x.l≠[]:=by intro h;rw [h] at n1;simp at n1
  simp [e,a1,b0,c0,hl,n2]
 ·have a1:=s1 (I.a1 (by omega));have n0:=I.n0 (by omega);have b1:=iQ.2 (I.b3 (by omega));have c0:=I.c0 (by omega) (by omega) (by omega)
  simp [e,a1,n0,b1,c0]
 ·have a1:=I.a1 (by omega);have n0:=I.n0 (by omega);have b0:=I.b0 (by omega);have c0:=I.c0 (by omega) (by omega) (by omega)
  have s2:=(D9 hh).2 ⟨a1.1,I.ra e⟩
  simp [e,s2,n0,b0,c0,bare]
theorem EY (hc:1≤c.length∧c.length≤16) (hh:nQ f) (ha:a≤f.code.length) (hp:∀ n:Int,0≤n→n < (c.length:Int)→(aC c n).params≤5) (h:x7 c f x a=true):nR c f x=true∧(x.l.length≤5∧(∀ m ∈ x.l,0≤m∧m < f.slots))∧(x.b=15→(d5 f.code a).length≤4):=by
 have hal:(d5 f.code a).length=a - gA f.code a:=by
  have:=n7 f.code a
  unfold d5;rw [List.length_take,List.length_drop];omega
 have nil0:(x.l.length:Int)=0→∀ m ∈ x.l,0≤m∧m < f.slots:=fun h0 m hm=>by
  rw [List.eq_nil_of_length_eq_zero (show x.l.length=0 by omega)] at hm;simp at hm
 have mk:x.b≠5→(x.b=17→(x.l.length:Int)=1→cP f (iA (aC x.l 0 + 1)) 1=true)→(jU sX x.b).isSome=true→((uJ x.b).lo≤(x.l.length:Int)∧(x.l.length:Int)≤(uJ x.b).hi)→(0≤x.c∧x.c≤(uJ x.b).c)→nR c f x=true:=fun h5 h17 h1 h2 h3=>by
  unfold nR
  rw [decide_eq_false h5,h1,cD.2 h2,cD.2 h3]
  have:(decide (x.b=17) && (decide ((x.l.length:Int)=1) && !cP f (iA (aC x.l 0 + 1)) 1))=false:=by
   by_cases e1:x.b=17
   ·by_cases e2:(x.l.length:Int)=1
    ·rw [h17 e1 e2];simp
    ·simp [e2]
   ·simp [e1]
  rw [this];rfl
 unfold x7 at h
 by_cases h5:x.b=5
 ·rw [decide_eq_true h5] at h
  have h':=(tI hh).1 h
  refine ⟨?_,⟨?_,h'.2⟩,fun g=>by omega⟩
  ·unfold nR
   rw [decide_eq_true h5]
   exact (pE hc.1 hc.2).2 h'.1
  ·have:=hp _ h'.1.1 h'.1.2.1;omega
 rw [decide_eq_false h5] at h
 by_cases h8:x.b=8
 ·rw [decide_eq_true h8] at h
  simp only [cond_false,cond_true,Bool.and_eq_true,decide_eq_true_eq,gK hh] at h
  obtain ⟨q1,q2,q3,q4⟩:=h
  exact ⟨mk h5 (fun g=>by omega) (by rw [h8];rfl) (by rw [h8];exact ⟨by show (1:Int)≤_;omega,by show _≤(1:Int);omega⟩) (by rw [h8];exact ⟨q1,q2⟩),⟨by omega,q4⟩,fun g=>by omega⟩
 rw [decide_eq_false h8] at h
 by_cases h15:x.b=15
 ·rw [decide_eq_true h15] at h
  simp only [cond_false,cond_true,Bool.and_eq_true,decide_eq_true_eq,gK hh] at h
  obtain ⟨q1,q2,q3,q4,q5⟩:=h
  exact ⟨mk h5 (fun g=>by omega) (by rw [h15];rfl) (by rw [h15];exact ⟨by show (1:Int)≤_;omega,by show _≤(1:Int);omega⟩) (by rw [h15];exact ⟨q1,q2⟩),⟨by omega,q4⟩,fun g=>by rw [hal];omega⟩
 rw [decide_eq_false h15] at h
 by_cases h16:x.b=16
 ·rw [decide_eq_true h16] at h
  simp only [cond_false,cond_true,Bool.and_eq_true,decide_eq_true_eq,gK hh] at h
  obtain ⟨q1,q2,q3,q4⟩:=h
  exact ⟨mk h5 (fun g=>by omega) (by rw [h16];rfl) (by rw [h16];exact ⟨by show (0:Int)≤_;omega,by show _≤(1:Int);omega⟩) (by rw [h16];exact ⟨q1,q2⟩),⟨by omega,q4⟩,fun g=>by omega⟩
 rw [decide_eq_false h16] at h
 by_cases h17:x.b=17
 ·rw [decide_eq_true h17] at h
  simp only [cond_false,cond_true,Bool.and_eq_true,Bool.or_eq_true,decide_eq_true_eq,D9 hh] at h
  obtain ⟨q1,q2⟩:=h
  refine ⟨mk h5 (fun _ g=>?_) (by rw [h17];rfl) (by rw [h17];exact ⟨by show (0:Int)≤_;omega,by show _≤(1:Int);omega⟩) (by rw [h17];exact ⟨by omega,by show _≤(0:Int);omega⟩),⟨by omega,fun m hm=>?_⟩,fun g=>by omega⟩
  ·have q:=(q2.resolve_left (by omega)).2
   exact (rB hh q.1 (by omega)).2 q.2
  ·rcases q2 with q2 | q2
   ·exact nil0 q2 m hm
   ·have e:=RX (show x.l.length=1 by omega)
    rw [e] at hm
    rcases List.mem_singleton.1 hm with rfl
    omega
 rw [decide_eq_false h17] at h
 by_cases h1:x.b=1∨x.b=4∨x.b=18∨x.b=19
 ·have e:(decide (x.b=1) || (decide (x.b=4) || (decide (x.b=18) || decide (x.b=19))))=true:=by
   simp only [Bool.or_eq_true,decide_eq_true_eq];exact h1
  rw [e] at h
  simp only [cond_false,cond_true,Bool.and_eq_true,decide_eq_true_eq] at h
  obtain ⟨q1,q2⟩:=h
  refine ⟨?_,⟨by omega,nil0 q2⟩,fun g=>by omega⟩
  rcases h1 with e | e | e | e <;> exact mk h5 (fun g=>by omega) (by rw [e];rfl) (by rw [e];exact ⟨by show (0:Int)≤_;omega,by show _≤(0:Int);omega⟩) (by rw [e];exact ⟨by omega,by show _≤(0:Int);omega⟩)
 have e:(decide (x.b=1) || (decide (x.b=4) || (decide (x.b=18) || decide (x.b=19))))=false:=by
  simp only [Bool.or_eq_false_iff,decide_eq_false_iff_not];omega
 rw [e] at h
 by_cases h9:x.b=9
 ·rw [decide_eq_true h9] at h
  simp only [cond_false,cond_true,Bool.and_eq_true,decide_eq_true_eq,gK hh] at h
  obtain ⟨q1,q2,q3⟩:=h
  exact ⟨mk h5 (fun g=>by omega) (by rw [h9];rfl) (by rw [h9];exact ⟨by show (2:Int)≤_;omega,by show _≤(2:Int);omega⟩) (by rw [h9];exact ⟨by omega,by show _≤(0:Int);omega⟩),⟨by omega,q3⟩,fun g=>by omega⟩
 rw [decide_eq_false h9] at h
 simp only [cond_false,Bool.and_eq_true,decide_eq_true_eq,gK hh] at h
 obtain ⟨q1,q2,q3,q4,q5⟩:=h
 refine ⟨?_,⟨by omega,q5⟩,fun g=>by omega⟩
 have g:x.b=2∨x.b=3∨x.b=6∨x.b=7∨x.b=10∨x.b=11∨x.b=12∨x.b=13∨x.b=14∨x.b=20∨x.b=21:=by omega
 rcases g with e | e | e | e | e | e | e | e | e | e | e <;> exact mk h5 (fun g=>by omega) (by rw [e];rfl) (by rw [e];exact ⟨by show (1:Int)≤_;omega,by show _≤(1:Int);omega⟩) (by rw [e];exact ⟨by omega,by show _≤(0:Int);omega⟩)
theorem MG (hc:1≤c.length∧c.length≤16) (hh:nQ f) (ha:a≤f.code.length) (hp:∀ n:Int,0≤n→n < (c.length:Int)→(aC c n).params≤5) (hL:x.l.length≤9223372036854775807) (h:kI c f x a=true):iO c f x=true∧(x.op=10→x.b=15→(d5 f.code a).length≤4):=by
 unfold kI at h
 cases hq:(decide (x.op≠1) && !m6 x.v) with
 | true=>rw [hq] at h;cases h
 | false =>
 rw [hq] at h
 have hnv:x.op≠1→x.v=g9:=fun g=>by
  rw [decide_eq_true g] at hq
  exact xW.1 (by simpa using hq)
 clear hq
 have nil0:(x.l.length:Int)=0→∀ m ∈ x.l,False:=fun h0 m hm=>by
  rw [List.eq_nil_of_length_eq_zero (show x.l.length=0 by omega)] at hm;simp at hm
 have sO:((decide (x.a=-1) || fG f x.a 1)=true)→-1≤x.a∧x.a < f.slots:=fun h=>by
  rw [Bool.or_eq_true,decide_eq_true_eq,qT hh] at h
  have:=hh.p0;have:=hh.s0
  omega
 have hvv:x.op≠1→bH x.v=true:=fun g=>by rw [hnv g];rfl
 have z:∀ {P:Prop},x.op≠10→(iO c f x=true)→(iO c f x=true∧(x.op=10→x.b=15→(d5 f.code a).length≤4)):=fun g k=>⟨k,fun e=>absurd e g⟩
 by_cases e1:x.op=1
 ·rw [decide_eq_true e1] at h
  simp only [cond_false,cond_true,Bool.and_eq_true,decide_eq_true_eq,qT hh] at h
  obtain ⟨q1,q2,q3,q4,q5⟩:=h
  refine z (P:=True) (by omega) (gG (by rw [e1];rfl) (by rw [e1];exact (cI hh).2 q1) (by rw [e1];exact c9.2 q2) (by rw [e1];exact c9.2 q3) (by rw [e1];exact ⟨by show (0:Int)≤_;omega,by show _≤(0:Int);omega⟩) (.inl (by rw [e1];rfl)) q5 (fun m hm=>(nil0 q4 m hm).elim) (by rw [e1];rfl))
 rw [decide_eq_false e1] at h
 by_cases e2:x.op=2
 ·rw [decide_eq_true e2] at h
  simp only [cond_false,cond_true,Bool.and_eq_true,decide_eq_true_eq,qT hh] at h
  obtain ⟨q1,q2,q3,q4⟩:=h
  refine z (P:=True) (by omega) (gG (by rw [e2];rfl) (by rw [e2];exact (cI hh).2 q1) (by rw [e2];exact (cI hh).2 q2) (by rw [e2];exact c9.2 q3) (by rw [e2];exact ⟨by show (0:Int)≤_;omega,by show _≤(0:Int);omega⟩) (.inr (hnv e1)) (hvv e1) (fun m hm=>(nil0 q4 m hm).elim) (by rw [e2];rfl))
 rw [decide_eq_false e2] at h
 by_cases e3:x.op=3
 ·rw [decide_eq_true e3] at h
  simp only [cond_false,cond_true,Bool.and_eq_true,Bool.or_eq_true,decide_eq_true_eq,qT hh] at h
  obtain ⟨q1,q2,q3,q4⟩:=h
  refine z (P:=True) (by omega) (gG (by rw [e3];rfl) (by rw [e3];exact (cI hh).2 q1) (by rw [e3];exact uO) (by rw [e3];exact (cI hh).2 q3) (by rw [e3];exact ⟨by show (0:Int)≤_;omega,by show _≤(0:Int);omega⟩) (.inr (hnv e1)) (hvv e1) (fun m hm=>(nil0 q4 m hm).elim) (by rw [e3];exact cD.2 (by omega)))
 rw [decide_eq_false e3] at h
 by_cases e4:x.op=4
 ·rw [decide_eq_true e4] at h
  simp only [cond_false,cond_true,Bool.and_eq_true,decide_eq_true_eq,qT hh,gK hh] at h
  obtain ⟨q1,q2,q3,q4,q5,q6⟩:=h
  refine z (P:=True) (by omega) (gG (by rw [e4];rfl) (by rw [e4];exact (cI hh).2 q1) (by rw [e4];exact uO) (by rw [e4];exact (cI hh).2 q4) (by rw [e4];exact ⟨by show (1:Int)≤_;omega,by show _≤(1:Int);omega⟩) (.inr (hnv e1)) (hvv e1) (fun m hm=>by rw [e4];exact (cI hh).2 (q6 m hm)) (by rw [e4];exact cD.2 (by omega)))
 rw [decide_eq_false e4] at h
 by_cases e5:x.op=5
 ·rw [decide_eq_true e5] at h
  simp only [cond_false,cond_true,Bool.and_eq_true,decide_eq_true_eq,iQ,bare] at h
  obtain ⟨q1,q2,q3,q4⟩:=h
  refine z (P:=True) (by omega) (gG (by rw [e5];rfl) (by rw [e5];exact (qE hh).2 q1) (by rw [e5];exact c9.2 q2) (by rw [e5];exact c9.2 q3) (by rw [e5];exact ⟨by show (0:Int)≤_;omega,by show _≤(0:Int);omega⟩) (.inr (hnv e1)) (hvv e1) (fun m hm=>(nil0 q4 m hm).elim) (by rw [e5];rfl))
 rw [decide_eq_false e5] at h
 by_cases e6:x.op=6∨x.op=13
 ·have e:(decide (x.op=6) || decide (x.op=13))=true:=by simp only [Bool.or_eq_true,decide_eq_true_eq];exact e6
  rw [e] at h
  simp only [cond_false,cond_true,Bool.and_eq_true,decide_eq_true_eq,qT hh,iQ] at h
  obtain ⟨q1,q2,q3,q4⟩:=h
  rcases e6 with e | e <;> exact z (P:=True) (by omega) (gG (by rw [e];rfl) (by rw [e];exact (cI hh).2 q1) (by rw [e];exact (qE hh).2 q2) (by rw [e];exact c9.2 q3) (by rw [e];exact ⟨by show (0:Int)≤_;omega,by show _≤(0:Int);omega⟩) (.inr (hnv e1)) (hvv e1) (fun m hm=>(nil0 q4 m hm).elim) (by rw [e];rfl))
 have e:(decide (x.op=6) || decide (x.op=13))=false:=by simp only [Bool.or_eq_false_iff,decide_eq_false_iff_not];omega
 rw [e] at h
 by_cases e7:x.op=7
 ·rw [decide_eq_true e7] at h
  simp only [cond_false,cond_true,Bool.and_eq_true,decide_eq_true_eq,tI hh] at h
  obtain ⟨q1,⟨q2,q3⟩,q4⟩:=h
  have:=hp _ q2.1 q2.2.1
  refine z (P:=True) (by omega) (gG (by rw [e7];rfl) (by rw [e7];exact (uN hh).2 (sO q1)) (by rw [e7];exact uO) (by rw [e7];exact c9.2 q4) (by rw [e7];exact ⟨by show (0:Int)≤_;omega,by show _≤(5:Int);omega⟩) (.inr (hnv e1)) (hvv e1) (fun m hm=>by rw [e7];exact (cI hh).2 (q3 m hm)) (by rw [e7];exact (pE hc.1 hc.2).2 q2))
 rw [decide_eq_false e7] at h
 by_cases e8:x.op=8
 ·rw [decide_eq_true e8] at h
  simp only [cond_false,cond_true,bare] at h
  rw [Bool.and_eq_true,Bool.and_eq_true,Bool.and_eq_true,decide_eq_true_eq,decide_eq_true_eq,decide_eq_true_eq] at h
  obtain ⟨q1,q2,q3,q4⟩:=h
  refine z (P:=True) (by omega) (gG (by rw [e8];rfl) (by rw [e8];exact (uN hh).2 (sO q1)) (by rw [e8];exact c9.2 q2) (by rw [e8];exact c9.2 q3) (by rw [e8];exact ⟨by show (0:Int)≤_;omega,by show _≤(0:Int);omega⟩) (.inr (hnv e1)) (hvv e1) (fun m hm=>(nil0 q4 m hm).elim) (by rw [e8];rfl))
 rw [decide_eq_false e8] at h
 by_cases e9:x.op=9
 ·rw [decide_eq_true e9] at h
  simp only [cond_false,cond_true,bare,Bool.and_eq_true,decide_eq_true_eq,qT hh] at h
  obtain ⟨q1,q2,q3,q4⟩:=h
  refine z (P:=True) (by omega) (gG (by rw [e9];rfl) (by rw [e9];exact (cI hh).2 q1) (by rw [e9];exact c9.2 q2) (by rw [e9];exact c9.2 q3) (by rw [e9];exact ⟨by show (0:Int)≤_;omega,by show _≤(0:Int);omega⟩) (.inr (hnv e1)) (hvv e1) (fun m hm=>(nil0 q4 m hm).elim) (by rw [e9];rfl))
 rw [decide_eq_false e9] at h
 by_cases e10:x.op=10
 ·rw [decide_eq_true e10] at h
  simp only [cond_false,cond_true] at h
  rw [Bool.and_eq_true] at h
  obtain ⟨q1,q2⟩:=h
  obtain ⟨k1,⟨k2,k3⟩,k4⟩:=EY hc hh ha hp q2
  refine ⟨gG (by rw [e10];rfl) (by rw [e10];exact (uN hh).2 (sO q1)) (by rw [e10];exact uO) (by rw [e10];exact uO) (by rw [e10];exact ⟨by show (0:Int)≤_;omega,by show _≤(5:Int);omega⟩) (.inr (hnv e1)) (hvv e1) (fun m hm=>by rw [e10];exact (cI hh).2 (k3 m hm)) (by rw [e10];exact k1),fun _=>k4⟩
 rw [decide_eq_false e10] at h
 by_cases e11:x.op=11
 ·rw [decide_eq_true e11] at h
  simp only [cond_false,cond_true,Bool.and_eq_true,decide_eq_true_eq,gK hh] at h
  obtain ⟨q1,q2,q3,q4,q5,q6⟩:=h
  have hk:(x.a=2∧(x.l.length:Int)=2)∨((x.a=1∨x.a=3)∧(x.l.length:Int)=1):=by
   by_cases k:x.a=2
   ·rw [decide_eq_true k] at q5;exact .inl ⟨k,of_decide_eq_true q5⟩
   ·rw [decide_eq_false k] at q5;exact .inr ⟨by omega,of_decide_eq_true q5⟩
  refine z (P:=True) (by omega) (gG (by rw [e11];rfl) (by rw [e11];exact uO) (by rw [e11];exact c9.2 q3) (by rw [e11];exact c9.2 q4) (by rw [e11];exact ⟨by show (1:Int)≤_;omega,by show _≤(2:Int);omega⟩) (.inr (hnv e1)) (hvv e1) (fun m hm=>by rw [e11];exact (cI hh).2 (q6 m hm)) ?_)
  rw [e11]
  show ((decide (x.a=2) && decide ((x.l.length:Int)=2)) || ((decide (x.a=1) || decide (x.a=3)) && decide ((x.l.length:Int)=1)))=true
  simp only [Bool.or_eq_true,Bool.and_eq_true,decide_eq_true_eq]
  exact hk
 rw [decide_eq_false e11] at h
 by_cases e12:x.op=12
 ·rw [decide_eq_true e12] at h
  cases hpl:rI f x.l with
  | false=>rw [hpl] at h;simp at h
  | true =>
   rw [hpl] at h
   simp only [cond_false,cond_true,Bool.and_eq_true,Bool.not_eq_true',decide_eq_true_eq,decide_eq_false_iff_not,qT hh] at h
   obtain ⟨q1,q2,q3,q4⟩:=h
   have q5:=x3.1 hpl
   refine z (P:=True) (by omega) (gG (by rw [e12];rfl) (by rw [e12];exact (cI hh).2 q1) (by rw [e12];exact c9.2 q2) (by rw [e12];exact c9.2 q3) (by rw [e12];exact ⟨by show (1:Int)≤_;omega,by show _≤(9223372036854775807:Int);omega⟩) (.inr (hnv e1)) (hvv e1) (fun m hm=>by rw [e12];exact (qE hh).2 (q5 m hm)) (by rw [e12];rfl))
 rw [decide_eq_false e12] at h
 simp only [cond_false,bare,Bool.and_eq_true,decide_eq_true_eq,D9 hh] at h
 obtain ⟨e14,q1,q2,q3,q4⟩:=h
 exact z (P:=True) (by omega) (gG (by rw [e14];rfl) (by rw [e14];exact (cI hh).2 ⟨q1.1,by omega⟩) (by rw [e14];exact c9.2 q2) (by rw [e14];exact c9.2 q3) (by rw [e14];exact ⟨by show (0:Int)≤_;omega,by show _≤(0:Int);omega⟩) (.inr (hnv e1)) (hvv e1) (fun m hm=>(nil0 q4 m hm).elim) (by rw [e14];exact (rB hh q1.1 (by omega)).2 q1.2))
end
section
variable {c:List Fc} {f:Fc}
theorem vF:jC f=false↔jD f.name=true∧nQ f:=by
 constructor
 ·intro h
  refine ⟨?_,G7 h⟩
  unfold jC at h
  simp only [Bool.or_eq_false_iff,Bool.not_eq_false'] at h
  exact h.1
 ·rintro ⟨h1,h2⟩
  unfold jC
  rw [h1,cD.2 ⟨h2.p0,h2.p1⟩,cD.2 ⟨h2.s0,h2.s1⟩,cD.2 (by have:=h2.n0;have:=h2.n1;omega),decide_eq_false (by have:=h2.g1;omega)]
  rfl
theorem zR:zQ f=false↔jD f.name=true∧nQ f∧vH (aC f.code ((f.code.length:Int) - 1)).op=true:=by
 unfold zQ
 simp only [Bool.or_eq_false_iff,Bool.not_eq_false',decide_eq_false_iff_not]
 constructor
 ·rintro ⟨h1,h2,h3,h4,h5,h6,h7,h8,h9⟩
  rw [show iA ((f.code.length:Int) - 1)=(f.code.length:Int) - 1 from aL (by omega) (by omega)] at h9
  exact ⟨h1,⟨by omega,by omega,by omega,by omega,by omega,by omega,by omega⟩,h9⟩
 ·rintro ⟨h1,h2,h3⟩
  have:=h2.p0;have:=h2.p1;have:=h2.s0;have:=h2.s1;have:=h2.n0;have:=h2.n1;have:=h2.g1
  rw [show iA ((f.code.length:Int) - 1)=(f.code.length:Int) - 1 from aL (by omega) (by omega)]
  exact ⟨h1,by omega,by omega,by omega,by omega,by omega,by omega,by omega,h3⟩
theorem zL (hh:nQ f) {g:Gd}:G5 f g=false↔(0≤g.fr∧g.fr < (f.code.length:Int))∧(g.fr < g.to∧g.to≤(f.code.length:Int))∧(0≤g.at'∧g.at' < (f.code.length:Int))∧0≤g.slot∧g.slot + 1 < f.slots:=by
 unfold G5
 simp only [Bool.or_eq_false_iff,Bool.not_eq_false',decide_eq_false_iff_not,iQ,D9 hh]
 constructor
 ·rintro ⟨h1,h2,h3,h4,h5⟩;exact ⟨h2,by omega,h4,h5⟩
 ·rintro ⟨h1,h2,h3,h4⟩;exact ⟨by omega,h1,by omega,h3,h4⟩
theorem G0 {i:Nat} (hi:i < c.length):fN i (CK c i)=true↔(c.take i).any (fun g=>decide (g.name=(aC c (i:Int)).name))=false:=by
 rw [dN,List.any_eq_false]
 constructor
 ·intro h g hg
  obtain ⟨j,hj,rfl⟩:=List.getElem_of_mem hg
  rw [List.length_take] at hj
  have:=h j (by omega)
  unfold CK at this
  rw [bK (i:=j) (by omega)] at this
  rw [List.getElem_take]
  simpa using this
 ·intro h j hj
  have hm:c[j]'(by omega) ∈ c.take i:=List.mem_take_iff_getElem.2 ⟨j,by omega,rfl⟩
  have:=h _ hm
  unfold CK
  rw [bK (i:=j) (by omega)]
  simpa using this
theorem rP (hL:∀ f ∈ c,∀ x ∈ f.code,x.l.length≤9223372036854775807):cC c=0↔fX c=true:=by
 constructor
 ·intro h
  have hc:=eL h
  have hn:=hc.n
  unfold fX
  rw [decide_eq_false (show ¬ (c.length:Int) < 1 by omega),decide_eq_false (show ¬ (c.length:Int) > 16 by omega)]
  show (fN c.length (vZ c) && fN c.length (yI c))=true
  rw [Bool.and_eq_true,dN,dN]
  have h':∀ i,i < c.length→lK c i=true:=by
   unfold cC at h
   cases hq:(bI c.length 1 16 && fN c.length (lK c)) with
   | false=>rw [hq] at h;cases h
   | true=>rw [Bool.and_eq_true,dN] at hq;exact hq.2
  refine ⟨fun i hi=>?_,fun i hi=>?_⟩
  ·have s:=h' i hi
   have F:=hc.fs _ (dM (l:=c) (i:=(i:Int)) (by omega) (by omega))
   unfold lK at s
   simp only [Bool.not_eq_true',Bool.or_eq_false_iff,Bool.not_eq_false'] at s
   unfold vZ
   rw [Bool.and_eq_true,Bool.not_eq_true',zR,G0 hi]
   have hb:jC (aC c (i:Int))=false:=by
    have:=s.2
    unfold r4 at this
    cases hb:jC (aC c (i:Int)) with
    | false=>rfl
    | true=>rw [hb] at this;cases this
   have hd:=F.hd
   have hn0:=hd.n0
   refine ⟨⟨(vF.1 hb).1,hd,?_⟩,s.1⟩
   have I:=F.ins _ (dM (l:=(aC c (i:Int)).code) (i:=((aC c (i:Int)).code.length:Int) - 1) (by omega) (by omega))
   rw [JM I.op,F.last];rfl
  ·have F:=hc.fs _ (dM (l:=c) (i:=(i:Int)) (by omega) (by omega))
   unfold yI
   rw [Bool.and_eq_true,dN,dN]
   refine ⟨fun p hp=>?_,fun p hp=>?_⟩
   ·exact PQ F.hd (F.ins _ (dM (by omega) (by omega))) (F.sel p hp) (by omega)
   ·unfold RJ
    rw [Bool.not_eq_true',zL F.hd]
    exact F.gd _ (dM (by omega) (by omega))
 ·intro h
  unfold fX at h
  cases hq:(decide ((c.length:Int) < 1) || decide ((c.length:Int) > 16)) with
  | true=>rw [hq] at h;cases h
  | false =>
   rw [hq] at h
   simp only [Bool.or_eq_false_iff,decide_eq_false_iff_not] at hq
   have hc:1≤c.length∧c.length≤16:=by omega
   have h:(fN c.length (vZ c) && fN c.length (yI c))=true:=h
   rw [Bool.and_eq_true,dN,dN] at h
   have hH:∀ i,i < c.length→(jD (aC c (i:Int)).name=true∧nQ (aC c (i:Int))∧vH (aC (aC c (i:Int)).code (((aC c (i:Int)).code.length:Int) - 1)).op=true)∧(c.take i).any (fun g=>decide (g.name=(aC c (i:Int)).name))=false:=fun i hi=>by
    have s:=h.1 i hi
    unfold vZ at s
    rwa [Bool.and_eq_true,Bool.not_eq_true',zR,G0 hi] at s
   have hp:∀ n:Int,0≤n→n < (c.length:Int)→(aC c n).params≤5:=fun n h0 h1=>by
    obtain ⟨k,rfl⟩:=Int.eq_ofNat_of_zero_le h0
    exact (hH k (by omega)).1.2.1.p1
   unfold cC
   rw [cD.2 (show (1:Int)≤(c.length:Int)∧(c.length:Int)≤16 by omega)]
   have:fN c.length (lK c)=true:=by
    rw [dN]
    intro i hi
    obtain ⟨⟨g1,hd,g2⟩,g3⟩:=hH i hi
    have s:=h.2 i hi
    unfold yI at s
    rw [Bool.and_eq_true,dN,dN] at s
    have hn0:=hd.n0;have hn1:=hd.n1
    unfold lK
    rw [g3]
    have hins:∀ p,p < (aC c (i:Int)).code.length→iO c (aC c (i:Int)) (aC (aC c (i:Int)).code (p:Int))=true∧((aC (aC c (i:Int)).code (p:Int)).op=10→(aC (aC c (i:Int)).code (p:Int)).b=15→(d5 (aC c (i:Int)).code p).length≤4):=fun p hp' =>
     MG hc hd (by omega) hp (hL _ (dM (by omega) (by omega)) _ (dM (by omega) (by omega))) (s.1 p hp')
    have hf:r4 c (aC c (i:Int))=true:=by
     unfold r4
     rw [vF.2 ⟨g1,hd⟩]
     have a1:fN (aC c (i:Int)).code.length (fun i'=>!iJ c (aC c (i:Int)) i')=true:=by
      rw [dN]
      intro p hp'
      have:=hins p hp'
      unfold iJ
      rw [this.1]
      by_cases e1:(aC (aC c (i:Int)).code (p:Int)).op=10
      ·by_cases e2:(aC (aC c (i:Int)).code (p:Int)).b=15
       ·have:=this.2 e1 e2
        rw [decide_eq_false (show ¬ (((d5 (aC c (i:Int)).code p).length:Int) > 4) by omega)];simp
       ·simp [e2]
      ·simp [e1]
     have a2:(gS (aC (aC c (i:Int)).code (iA (((aC c (i:Int)).code.length:Int) - 1))).op).goes=false:=by
      rw [show iA (((aC c (i:Int)).code.length:Int) - 1)=((aC c (i:Int)).code.length:Int) - 1 from aL (by omega) (by omega)]
      rcases O6 g2 with e | e | e | e | e <;> rw [e] <;> rfl
     have a3:(aC c (i:Int)).guards.any (fun g=>!o9 (aC c (i:Int)) g)=false:=by
      rw [List.any_eq_false]
      intro g hg
      obtain ⟨p,hp',rfl⟩:=List.getElem_of_mem hg
      have:=s.2 p hp'
      unfold RJ at this
      rw [Bool.not_eq_true',zL hd,bK hp'] at this
      rw [(zO hd).2 this];simp
     rw [a1,a2,a3];rfl
    rw [hf];rfl
   rw [this];rfl
theorem KF {t:Fm} {r ts:List Fm} {u:Tn} (h:cE c t r = .turn ts u) (hu:u.done=true):ts=[]:=by
 have ro:∀ (f:Fa) (q:List Fm),dE c f q = .turn ts u→ts=[]:=fun f q h=>by
  unfold dE at h
  generalize cT c f q=w at h
  cases w with
  | nil=>injection h with h1 h2;exact h1.symm
  | cons a b=>cases h
 have so:∀ (n:Int) (v:Va) (f:Fa),jW c t r n v f = .turn ts u→ts=[]:=fun n v f h=>by
  unfold jW at h
  split at h
  ·exact ro _ _ h
  ·cases h
 unfold cE at h
 simp only at h
 generalize hx:aN c t=x at *
 by_cases e1:x.op=1
 ·rw [if_pos e1] at h;cases h
 rw [if_neg e1] at h
 by_cases e2:x.op=2
 ·rw [if_pos e2] at h;cases h
 rw [if_neg e2] at h
 by_cases e3:x.op=3
 ·rw [if_pos e3] at h;exact so _ _ _ h
 rw [if_neg e3] at h
 by_cases e4:x.op=4
 ·rw [if_pos e4] at h;exact so _ _ _ h
 rw [if_neg e4] at h
 by_cases e5:x.op=5
 ·rw [if_pos e5] at h;cases h
 rw [if_neg e5] at h
 by_cases e6:x.op=6
 ·rw [if_pos e6] at h
  split at h
  ·exact ro _ _ h
  split at h <;> cases h
 rw [if_neg e6] at h
 by_cases e7:x.op=7
 ·rw [if_pos e7] at h
  split at h
  ·exact ro _ _ h
  ·cases h
 rw [if_neg e7] at h
 by_cases e8:x.op=8
 ·rw [if_pos e8] at h
  cases r with
  | nil=>injection h with h1 h2;exact h1.symm
  | cons a b=>cases h
 rw [if_neg e8] at h
 by_cases e9:x.op=9
 ·rw [if_pos e9] at h;exact ro _ _ h
 rw [if_neg e9] at h
 by_cases e10:x.op=10
 ·rw [if_pos e10] at h
  split at h
  ·injection h with h1 h2;rw [← h2] at hu;cases hu
  ·exact ro _ _ h
 rw [if_neg e10] at h
 by_cases e11:x.op=11
 ·rw [if_pos e11] at h;cases h
 rw [if_neg e11] at h
 by_cases e12:x.op=12
 ·rw [if_pos e12] at h
  split at h
  ·cases h
  ·exact ro _ _ h
 rw [if_neg e12] at h
 by_cases e13:x.op=13
 ·rw [if_pos e13] at h
  split at h <;> cases h
 rw [if_neg e13] at h
 exact ro _ _ h
theorem DO:∀ (n:Nat) (ts ts':List Fm) (u:Tn),sQ c n ts=some (ts',u)→u.done=true→ts'=[]
 | 0,[],_,_,h,_=>by cases h
 | 0,_::_,_,_,h,_=>by cases h
 | n + 1,[],_,_,h,_=>by cases h
 | n + 1,t::r,ts',u,h,hu=>by
  unfold sQ at h
  cases hs:cE c t r with
  | more q=>rw [hs] at h;exact DO n q ts' u h hu
  | turn q v=>rw [hs] at h;cases h;exact KF hs hu
def oL (o:Option (List Fm × Tn)):List Fm × Tn × Int:=match o with
 | none=>([],iK,7)
 | some (ts,u)=>(ts.reverse,u,0)
def mP (c:List Fc) (fn:Int) (args:List Va):List Fm × Tn × Int :=
 if lT c fn args=false then ([],iK,2) else oL (sQ c 20000 [eW c fn (-1) args])
theorem s7 (hc:dR c) {n:Nat} {ts:List Fm} (G:eK c ts):iC (jV c n ts)=oL (sQ c n ts):=by
 rw [M1 hc n ts G]
 cases h:sQ c n ts with
 | none=>rfl
 | some p =>
  obtain ⟨q,u⟩:=p
  show (if u.done=true then ([],u,0) else (q.reverse,u,0))=(q.reverse,u,(0:Int))
  split
  ·rename_i hu;rw [DO n ts q u h hu];rfl
  ·rfl
end
end Go.Ab
namespace Go.Ab
open Go Go.Ab.Tryz Go.Proofs
theorem uI {c:List Fc} {fn:Int} {args:List Va}:lT c fn args=true↔0≤fn∧fn < (c.length:Int)∧(args.length:Int)=(aC c fn).params∧args.all bH=true:=by
 unfold lT
 simp only [c5,dT,b0,List.any_eq_false,List.all_eq_true,b0,Bool.not_eq_false]
 constructor
 ·rintro ⟨⟨⟨h0,h1⟩,h2⟩,h3⟩;exact ⟨h0,h1,h2,fun x hx=>by simpa using h3 x hx⟩
 ·rintro ⟨h0,h1,h2,h3⟩;exact ⟨⟨⟨h0,h1⟩,h2⟩,fun x hx=>by simpa using h3 x hx⟩
def A8 (k:Int):Bool:=decide (k≥1) && decide (k≤21)
def sN (k:Int):Bool:=bif decide (k=1) then true else bif decide (k=2) then true else bif decide (k=6) then true else bif decide (k=9) then true else bif decide (k=10) then true else bif decide (k=13) then true else decide (k=15)
def zU (a:Ak):Int:=bif decide (a.kind≠15) then 0 else bif decide (a.n=1) then (a.arms.length:Int) else iA ((a.arms.length:Int) - 1)
def zE (a:Ak) (i:Int):Int :=
 bif decide (a.kind=4) then 1 else bif decide (a.kind=6) then 1 else bif decide (a.kind=10) then 1 else bif decide (a.kind=5) then 5 else bif decide (a.kind=8) then 4 else bif decide (a.kind=12) then 6
 else bif decide (a.kind=15) then (bif decide (i < (a.arms.length:Int)) && decide ((aC a.arms i).op=1) then 1 else 0) else 0
abbrev An.dv (x:An):DV := .agg (x.enc.map .d)
def xE (a:Ak) (x:An):Bool:=A8 a.kind && (cQ x.v.k x.v.n x.v.s && gW x.f.k x.f.t)
def tH (a:Ak) (x:An):Bool :=
 bif decide (x.f.k=0) then xE a x && (decide (x.ix≥0) && (decide (x.ix≤zU a) && decide (x.v.k=zE a x.ix)))
 else bif decide (x.f.k=2) then xE a x && ((sN a.kind || decide (a.kind=17)) && (m6 x.v && decide (x.ix=0)))
 else xE a x && (m6 x.v && decide (x.ix=0))
def i3 (a:Ak) (x:An):Int:=bif tH a x then 0 else 10
theorem MI (a:Ak) :
  bY Tryz.prog 139 [a.dv] (bv (A8 a.kind)):=by
 refine of_body Tryz.func139 rfl rfl (nB rfl) ?_
 rw [Tryz.ntmps139]
 repeat' (first | ((with_reducible refine kw ?_);first | refine Wg ?_ | refine W0 ?_ | refine W1 ?_ | refine W2 ?_ | refine W6 ?_ | refine bJ ?_ | refine eT ?_ | refine cW ?_) | refine GX ?_ | (refine bW (fun hb=>?_) (fun hb=>?_) <;> rw [hb]) | refine GA ?_ | refine GG ?_ | ((with_reducible refine kf ?_);refine aP 0 Tryz.results139 rfl rfl rfl ?_) | refine GR ?_ | ((with_reducible refine kr ?_);refine aG rfl ?_) | fail)
 all_goals (refine dG ?_;show bv _=bv _;(try dsimp only [A8] at *);first | (simp only [*,b2,b3,b4,cond_true,cond_false,b5,b6,b7,b8,c1,c2,b9,c0];done) | (simp_all only [b2,b3,b4,cond_true,cond_false,b5,b6,b7,b8,c1,c2,b9,c0];done) | (simp_all [b2,b3,b4,cond_true,cond_false,b5,b6,b7,b8,c1,c2,b9,c0];done))
theorem FH (a:Ak) :
  bY Tryz.prog 143 [a.dv] (bv (sN a.kind)):=by
 refine of_body Tryz.func143 rfl rfl (nB rfl) ?_
 rw [Tryz.ntmps143]
 repeat' (first | ((with_reducible refine kw ?_);first | refine W1 ?_ | refine W2 ?_ | refine W6 ?_ | refine bJ ?_ | refine cW ?_) | refine GA ?_ | refine GG ?_ | (refine cJ (fun hb=>?_) (fun hb=>?_) <;> try rw [hb]) | ((with_reducible refine kf ?_);refine aP 0 Tryz.results143 rfl rfl rfl ?_) | refine GR ?_ | ((with_reducible refine kr ?_);refine aG rfl ?_) | fail)
 all_goals (refine dG ?_;show bv _=bv _;(try dsimp only [sN] at *);first | (simp only [*,b2,b3,b4,cond_true,cond_false,b5,b6,b7,b8,c1,c2,b9,c0];done) | (simp_all only [b2,b3,b4,cond_true,cond_false,b5,b6,b7,b8,c1,c2,b9,c0];done) | (simp_all [b2,b3,b4,cond_true,cond_false,b5,b6,b7,b8,c1,c2,b9,c0];done))
theorem O4 (a:Ak) :
  bY Tryz.prog 141 [a.dv] (iv (zU a)):=by
 refine of_body Tryz.func141 rfl rfl (nB rfl) ?_
 rw [Tryz.ntmps141]
 repeat' (first | ((with_reducible refine kw ?_);first | refine W1 ?_ | refine W2 ?_ | refine W6 ?_ | refine bJ ?_ | refine gZ ?_ | refine cW ?_) | refine GA ?_ | refine GG ?_ | (refine cJ (fun hb=>?_) (fun hb=>?_) <;> try rw [hb]) | ((with_reducible refine kf ?_);refine aP 0 Tryz.results141 rfl rfl rfl ?_) | refine GR ?_ | ((with_reducible refine kr ?_);refine aG rfl ?_) | fail)
 all_goals (refine dG ?_;show iv _=iv _;(try dsimp only [zU] at *);first | (simp only [*,b2,b3,b4,cond_true,cond_false,b5,b6,b7,b8,c1,c2,b9,c0];done) | (simp_all only [b2,b3,b4,cond_true,cond_false,b5,b6,b7,b8,c1,c2,b9,c0];done) | (simp_all [b2,b3,b4,cond_true,cond_false,b5,b6,b7,b8,c1,c2,b9,c0];done))
theorem BZ (a:Ak) (i:Int) (hi:0≤i) :
  bY Tryz.prog 142 [a.dv,iv i] (iv (zE a i)):=by
 refine of_body Tryz.func142 rfl rfl (nB rfl) ?_
 rw [Tryz.ntmps142]
 repeat' (first | ((with_reducible refine kw ?_);first | refine Wg ?_ | refine W0 ?_ | refine W1 ?_ | refine W2 ?_ | refine W6 ?_ | refine bJ ?_ | (refine fO ?_;refine cK (aF (el rfl) rfl rfl hi (oT ‹decide (i < (a.arms.length:Int))=true›) ⟨rfl,by decide⟩) rfl rfl ?_) | refine eT ?_ | refine gZ ?_ | refine cW ?_) | refine GX ?_ | (refine bW (fun hb=>?_) (fun hb=>?_) <;> rw [hb]) | refine GA ?_ | refine GG ?_ | (refine cJ (fun hb=>?_) (fun hb=>?_) <;> try rw [hb]) | ((with_reducible refine kf ?_);refine aP 0 Tryz.results142 rfl rfl rfl ?_) | refine GR ?_ | ((with_reducible refine kr ?_);refine aG rfl ?_) | fail)
 all_goals (refine dG ?_;show iv _=iv _;(try dsimp only [zE] at *);first | (simp only [*,b2,b3,b4,cond_true,cond_false,b5,b6,b7,b8,c1,c2,b9,c0];done) | (simp_all only [b2,b3,b4,cond_true,cond_false,b5,b6,b7,b8,c1,c2,b9,c0];done) | (simp_all [b2,b3,b4,cond_true,cond_false,b5,b6,b7,b8,c1,c2,b9,c0];done))
theorem OW (a:Ak) (x:An) :
  bY Tryz.prog 97 [a.dv,x.dv] (iv (i3 a x)):=by
 refine of_body Tryz.func97 rfl rfl (nB rfl) ?_
 rw [Tryz.ntmps97]
 repeat' (first | ((with_reducible refine kw ?_);first | refine Wg ?_ | refine W0 ?_ | refine W1 ?_ | refine W3 ?_ | refine W2 ?_ | refine W6 ?_ | refine W8 ?_ | refine bJ ?_ | (refine aJ ?_;first | refine tD (MI a) ?_ | refine tD (l7 x.v.k x.v.n x.v.s) ?_ | refine tD (yQ x.f.k x.f.t) ?_ | refine tD (FH a) ?_) | refine eT ?_ | refine gQ ?_ | refine cW ?_ | refine eV ?_) | refine GX ?_ | (refine bW (fun hb=>?_) (fun hb=>?_) <;> rw [hb]) | refine GN ?_ | refine GD ?_ | (refine kX (fun hb=>?_) (fun hb=>?_) <;> rw [hb]) | ((with_reducible refine kd ?_);first | refine D0 ?_ | refine D1 ?_ | refine D3 ?_ | refine D2 ?_ | refine D6 ?_ | refine iY ?_ | (refine bM ?_;first | refine dD (O4 a) ?_ | refine dD (BZ a x.ix (oT ‹decide (x.ix≥0)=true›)) ?_) | refine uF ?_) | refine GA ?_ | refine GG ?_ | (refine cJ (fun hb=>?_) (fun hb=>?_) <;> try rw [hb]) | ((with_reducible refine kf ?_);refine aP 0 Tryz.results97 rfl rfl rfl ?_) | refine GR ?_ | ((with_reducible refine kr ?_);refine aG rfl ?_) | fail)
 all_goals (refine dG ?_;show iv _=iv _;(try dsimp only [i3,tH,xE,m6] at *);first | (simp only [*,b2,b3,b4,cond_true,cond_false,b5,b6,b7,b8,c1,c2,b9,c0];done) | (simp_all only [b2,b3,b4,cond_true,cond_false,b5,b6,b7,b8,c1,c2,b9,c0];done) | (simp_all [b2,b3,b4,cond_true,cond_false,b5,b6,b7,b8,c1,c2,b9,c0];done))
end Go.Ab
namespace Go.Ab
open Go
section
variable {P:Program} {nt:Nat} {Q:Exit→aW→aA→Prop} {e:aW} {σ:aA}
theorem JO {w:World} {M:Nat→Prop} {es:List (List aR)} {v:Value} (h:dL w M (.lst es) v):∃ A n c,v = .slice A n c∧(A.isNone=true→es=[]):=by
 cases h with
 | emp A c=>exact ⟨A,0,c,rfl,fun _=>rfl⟩
 | lst b o n c size es vs hn=>exact ⟨_,_,_,rfl,fun h=>by cases h⟩
theorem IC {id t a b:Nat} {ty sl el ry ty2:TypeId} {p1 p2:String} {f1 f2:Array Edge} {es:List (List aR)} (ht:e.get t=some (.d (.lst es))) (ha:fQ nt (some a)=true) (hb:fQ nt (some b)=true) (hu:P.underlying sl=some (.slice el))
  (k:∀ c:Bool,(c=true→es=[])→Q .normal ((e.put (some a) (.d (.lst es))).put (some b) (.d (.sc (.bool c)))) σ) :
  AC P nt (.region id #[⟨some a,.move (.tmp t),ty,p1,f1,none⟩,⟨some b,.binOp .eql sl (.tmp a) (.const (.slice none 0 0)) ry,ty2,p2,f2,none⟩] false) e σ Q:=by
 have ha':a < nt:=by simpa [fQ] using ha
 have hb':b < nt:=by simpa [fQ] using hb
 refine ⟨fun X w0 ι0 σ0 ι ac w hst=>?_⟩
 refine wp_region ?_
 have hr:List.range (Array.size #[(⟨some a,.move (.tmp t),ty,p1,f1,none⟩:Oper),⟨some b,.binOp .eql sl (.tmp a) (.const (.slice none 0 0)) ry,ty2,p2,f2,none⟩])=[0,1]:=rfl
 rw [hr]
 have hs:r9 P nt (⟨some a,.move (.tmp t),ty,p1,f1,none⟩:Oper) e σ (fun e' σ'=>e'=e.put (some a) (.d (.lst es))∧σ'=σ):=by
  refine ⟨by simpa [i0] using ha',?_⟩
  simp [aZ,aK,aW.ev,ht]
 simp only [wpOps]
 refine .inl (yL hst hs fun e' σ' ι' a' w' ⟨he,hσ⟩ hst'=>?_)
 subst he hσ
 have key:Oper.wp P (⟨some b,.binOp .eql sl (.tmp a) (.const (.slice none 0 0)) ry,ty2,p2,f2,none⟩:Oper) a' w' (fun x x_1=>∃ ι' e' σ',Q Exit.normal e' σ'∧St P X nt w0 ι0 σ0 ι' e' σ' x x_1) (fun ex a' w'=>∃ ι' e' σ',Q ex e' σ'∧St P X nt w0 ι0 σ0 ι' e' σ' a' w'):=?_
 exact .inl key
 have hv:=hst'.env.get a (.d (.lst es)) (by simp [aW.get_put])
 obtain ⟨A,n,c,hv',hA⟩:∃ A n c,a'.tmps.getD a undef = .slice A n c∧(A.isNone=true→es=[]):=by
  generalize a'.tmps.getD a undef=v at hv
  cases hv with
  | d h=>exact JO h
 have hex:(execOp a'.eval (⟨some b,.binOp .eql sl (.tmp a) (.const (.slice none 0 0)) ry,ty2,p2,f2,none⟩:Oper)).run P w' = .ok (.value (.bool A.isNone)) w':=by
  have:=Lib.run_eql_slice_nil (P:=P) w' sl el A n c 0 0 hu
  have hg:(eqGuard .eql sl (.tmp a) (.const (.slice none 0 0)) (.slice A n c) (.slice none 0 0)).run P w' = .ok () w':=by simp [eqGuard]
  simp [execOp,Act.eval,hv',this,hg]
 unfold Oper.wp
 rw [hex]
 exact ⟨ι',_,_,k A.isNone hA,hst'.put (fun t ht=>by cases ht;exact hb') (.d (.sc _ rfl))⟩
theorem N7 {id a sz:Nat} {sl el ty:TypeId} {p1:String} {f1:Array Edge} {rest:List Oper} (ha:fQ nt (some a)=true) (hops:rest.all (i0 nt)=true) (hu:dU P sl=some (el,sz)) (hz:((P.info? el).bind (·.zero)).isSome=true)
  (h:WS P nt ((⟨some a,.buildSlice sl 0 #[],ty,p1,f1,none⟩:Oper)::rest).toArray rest (e.put (some a) .nils) σ (Q .normal)) :
  AC P nt (.region id ((⟨some a,.buildSlice sl 0 #[],ty,p1,f1,none⟩:Oper)::rest).toArray false) e σ Q:=by
 have ha':a < nt:=by simpa [fQ] using ha
 obtain ⟨hu',inf,hinf,rfl⟩:=fE hu
 rw [hinf] at hz
 refine ⟨fun X w0 ι0 σ0 ι ac w hst=>?_⟩
 refine wp_region ?_
 rw [List.range_eq_range']
 have hsz:Array.size ((⟨some a,.buildSlice sl 0 #[],ty,p1,f1,none⟩:Oper)::rest).toArray=rest.length + 1:=by simp
 rw [hsz,List.range'_succ]
 obtain ⟨cells,hrun,-⟩:=qO (P:=P) (w:=w) (parts:=#[]) (ρ:=ac.eval) (len:=0) hu' hinf hz rfl (fun p hp=>by simp at hp) (by omega)
 have hcm:=Comes'.push hst.comes.heap (.cells cells el)
 have hst2:=(hst.step (⟨hcm,fun i hi=>rfl,Nat.le_refl _⟩:fA P X ι σ σ w ι _)).put (o:=some a) (fun t ht=>by cases ht;exact ha') (.nils (some ⟨w.heap.size,0,none⟩))
 have hex:(execOp ac.eval (⟨some a,.buildSlice sl 0 #[],ty,p1,f1,none⟩:Oper)).run P w = .ok (.value (.slice (some ⟨w.heap.size,0,none⟩) 0 0)) { w with heap:=w.heap.push (.cells cells el) }:=by
  simp only [execOp,Sem.run_bind,hrun,Result.andThen_ok,Sem.run_pure]
 have key:Oper.wp P (⟨some a,.buildSlice sl 0 #[],ty,p1,f1,none⟩:Oper) ac w (wpOps P ((⟨some a,.buildSlice sl 0 #[],ty,p1,f1,none⟩:Oper)::rest).toArray (fun ex a' w'=>∃ ι' e' σ',Q ex e' σ'∧St P X nt w0 ι0 σ0 ι' e' σ' a' w') (List.range' 1 rest.length)) (fun ex a' w'=>∃ ι' e' σ',Q ex e' σ'∧St P X nt w0 ι0 σ0 ι' e' σ' a' w'):=by
  unfold Oper.wp
  rw [hex]
  exact rM (K:=Q .normal) (fun j o t hj ht=>by
   rw [List.getElem?_toArray] at hj
   cases j with
   | zero=>simp at hj;subst hj;cases ht;exact ha'
   | succ j =>
    have:=(List.all_eq_true.1 hops) o (List.mem_of_getElem? (by simpa using hj))
    simpa [i0,ht] using this) (fun e' σ' ι' a' w' hk hst'=>⟨ι',e',σ',hk,hst'⟩) rest 1 _ σ ι _ _ (fun j=>by rw [List.getElem?_toArray,Nat.add_comm];rfl) hst2 h.h
 simp only [wpOps]
 exact .inl key
end
end Go.Ab
