import Derived.Test.YtdeikigmgdnojaaGreatDoorT11
/- A part of the proof of one law. -/
set_option maxRecDepth 100000
set_option maxHeartbeats 8000000
set_option linter.unusedVariables false
set_option linter.unusedSimpArgs false
namespace Go.Ab
open Go Go.Ab.Tryz Go.Proofs
theorem gP (n lo hi:Int) :
  bY Tryz.prog 77 [iv n,iv lo,iv hi] (bv (decide (lo≤n) && decide (n≤hi))):=by
 refine of_body Tryz.func77 rfl rfl (nB rfl) ?_
 rw [Tryz.ntmps77]
 repeat' (first | ((with_reducible refine kw ?_);first | refine Wg ?_ | refine W0 ?_ | refine W6 ?_ | refine bJ ?_ | refine eT ?_) | refine GX ?_ | (refine bW (fun hb=>?_) (fun hb=>?_) <;> rw [hb]) | refine GA ?_ | refine GG ?_ | ((with_reducible refine kf ?_);refine aP 0 Tryz.results77 rfl rfl rfl ?_) | refine GR ?_ | ((with_reducible refine kr ?_);refine aG rfl ?_) | fail)
 all_goals first | rfl | simp_all [DV.norm,DV.norms,bG]
theorem JL (c:Int) :
  bY Tryz.prog 86 [cv c] (bv (decide (97≤c) && decide (c≤122))):=by
 refine of_body Tryz.func86 rfl rfl (nB rfl) ?_
 rw [Tryz.ntmps86]
 repeat' (first | ((with_reducible refine kw ?_);first | refine Wg ?_ | refine W0 ?_ | refine W6 ?_ | refine bJ ?_ | refine eT ?_) | refine GX ?_ | (refine bW (fun hb=>?_) (fun hb=>?_) <;> rw [hb]) | refine GA ?_ | refine GG ?_ | ((with_reducible refine kf ?_);refine aP 0 Tryz.results86 rfl rfl rfl ?_) | refine GR ?_ | ((with_reducible refine kr ?_);refine aG rfl ?_) | fail)
 all_goals first | rfl | simp_all [DV.norm,DV.norms,bG]
theorem LU (c:Int) :
  bY Tryz.prog 87 [cv c] (bv (decide (48≤c) && decide (c≤57))):=by
 refine of_body Tryz.func87 rfl rfl (nB rfl) ?_
 rw [Tryz.ntmps87]
 repeat' (first | ((with_reducible refine kw ?_);first | refine Wg ?_ | refine W0 ?_ | refine W6 ?_ | refine bJ ?_ | refine eT ?_) | refine GX ?_ | (refine bW (fun hb=>?_) (fun hb=>?_) <;> rw [hb]) | refine GA ?_ | refine GG ?_ | ((with_reducible refine kf ?_);refine aP 0 Tryz.results87 rfl rfl rfl ?_) | refine GR ?_ | ((with_reducible refine kr ?_);refine aG rfl ?_) | fail)
 all_goals first | rfl | simp_all [DV.norm,DV.norms,bG]
theorem FK (c:Int) :
  bY Tryz.prog 195 [cv c] (bv (decide (97≤c) && decide (c≤122))):=by
 refine of_body Tryz.func195 rfl rfl (nB rfl) ?_
 rw [Tryz.ntmps195]
 repeat' (first | ((with_reducible refine kw ?_);first | refine Wg ?_ | refine W0 ?_ | refine W6 ?_ | refine bJ ?_ | refine eT ?_) | refine GX ?_ | (refine bW (fun hb=>?_) (fun hb=>?_) <;> rw [hb]) | refine GA ?_ | refine GG ?_ | ((with_reducible refine kf ?_);refine aP 0 Tryz.results195 rfl rfl rfl ?_) | refine GR ?_ | ((with_reducible refine kr ?_);refine aG rfl ?_) | fail)
 all_goals first | rfl | simp_all [DV.norm,DV.norms,bG]
theorem IY (c:Int) :
  bY Tryz.prog 197 [cv c] (bv (decide (48≤c) && decide (c≤57))):=by
 refine of_body Tryz.func197 rfl rfl (nB rfl) ?_
 rw [Tryz.ntmps197]
 repeat' (first | ((with_reducible refine kw ?_);first | refine Wg ?_ | refine W0 ?_ | refine W6 ?_ | refine bJ ?_ | refine eT ?_) | refine GX ?_ | (refine bW (fun hb=>?_) (fun hb=>?_) <;> rw [hb]) | refine GA ?_ | refine GG ?_ | ((with_reducible refine kf ?_);refine aP 0 Tryz.results197 rfl rfl rfl ?_) | refine GR ?_ | ((with_reducible refine kr ?_);refine aG rfl ?_) | fail)
 all_goals first | rfl | simp_all [DV.norm,DV.norms,bG]
theorem oU (t:ByteArray) :
  bY Tryz.prog 136 [sv t] (.agg [iv 1,sv t]):=by
 refine of_body Tryz.func136 rfl rfl (nB rfl) ?_
 rw [Tryz.ntmps136]
 repeat' (first | ((with_reducible refine kw ?_);first | refine W0 ?_ | (refine aE ?_;refine p5 ?_) | refine dH ?_ | refine eV ?_) | refine GA ?_ | refine GG ?_ | ((with_reducible refine kf ?_);refine aP 0 Tryz.results136 rfl rfl rfl ?_) | refine GR ?_ | ((with_reducible refine kr ?_);refine aG rfl ?_) | fail)
 all_goals first | rfl | simp_all [DV.norm,DV.norms,bG]
theorem mY (t:ByteArray) :
  bY Tryz.prog 246 [sv t] (.agg [iv 1,sv t]):=by
 refine of_body Tryz.func246 rfl rfl (nB rfl) ?_
 rw [Tryz.ntmps246]
 repeat' (first | ((with_reducible refine kw ?_);first | refine W0 ?_ | (refine aE ?_;refine p5 ?_) | refine dH ?_ | refine eV ?_) | refine GA ?_ | refine GG ?_ | ((with_reducible refine kf ?_);refine aP 0 Tryz.results246 rfl rfl rfl ?_) | refine GR ?_ | ((with_reducible refine kr ?_);refine aG rfl ?_) | fail)
 all_goals first | rfl | simp_all [DV.norm,DV.norms,bG]
theorem mR (t:ByteArray) :
  bY Tryz.prog 262 [sv t] (.agg [iv 1,sv t]):=by
 refine of_body Tryz.func262 rfl rfl (nB rfl) ?_
 rw [Tryz.ntmps262]
 repeat' (first | ((with_reducible refine kw ?_);first | refine W0 ?_ | (refine aE ?_;refine p5 ?_) | refine dH ?_ | refine eV ?_) | refine GA ?_ | refine GG ?_ | ((with_reducible refine kf ?_);refine aP 0 Tryz.results262 rfl rfl rfl ?_) | refine GR ?_ | ((with_reducible refine kr ?_);refine aG rfl ?_) | fail)
 all_goals first | rfl | simp_all [DV.norm,DV.norms,bG]
theorem pA (n:Int) :
  bY Tryz.prog 89 [iv n] (bv (decide (n=5) || decide (n=6))):=by
 refine of_body Tryz.func89 rfl rfl (nB rfl) ?_
 rw [Tryz.ntmps89]
 repeat' (first | ((with_reducible refine kw ?_);first | refine Wg ?_ | refine W0 ?_ | refine W6 ?_ | refine bJ ?_ | refine eT ?_) | refine GX ?_ | (refine bW (fun hb=>?_) (fun hb=>?_) <;> rw [hb]) | refine GA ?_ | refine GG ?_ | ((with_reducible refine kf ?_);refine aP 0 Tryz.results89 rfl rfl rfl ?_) | refine GR ?_ | ((with_reducible refine kr ?_);refine aG rfl ?_) | fail)
 all_goals first | rfl | simp_all [DV.norm,DV.norms,bG]
def kS (b:Bool):Va:=⟨2,if b then 1 else 0,⟨#[]⟩⟩
theorem EC (b:Bool) :
  bY Tryz.prog 163 [bv b] ((kS b).dv):=by
 refine of_body Tryz.func163 rfl rfl (nB rfl) ?_
 rw [Tryz.ntmps163]
 repeat' (first | ((with_reducible refine kw ?_);first | refine W0 ?_ | (refine aE ?_;refine p5 ?_) | refine dH ?_ | refine eV ?_) | refine GA ?_ | refine GG ?_ | (refine cJ (fun hb=>?_) (fun hb=>?_) <;> try rw [hb]) | ((with_reducible refine kf ?_);refine aP 0 Tryz.results163 rfl rfl rfl ?_) | refine GR ?_ | ((with_reducible refine kr ?_);refine aG rfl ?_) | fail)
 all_goals first | rfl | simp_all [DV.norm,DV.norms,bG,kS,aH]
theorem oV (b:Bool) :
  bY Tryz.prog 257 [bv b] (.tup [(kS b).dv,kW.dv]):=by
 refine of_body Tryz.func257 rfl rfl (nB rfl) ?_
 rw [Tryz.ntmps257]
 repeat' (first | ((with_reducible refine kw ?_);first | refine W0 ?_ | refine W1 ?_ | refine W3 ?_ | (refine aE ?_;refine p5 ?_) | refine dH ?_ | refine eV ?_) | refine GA ?_ | refine GG ?_ | (refine cJ (fun hb=>?_) (fun hb=>?_) <;> try rw [hb]) | ((with_reducible refine kf ?_);refine aP 0 Tryz.results257 rfl rfl rfl ?_) | refine GR ?_ | ((with_reducible refine kr ?_);refine aG rfl ?_) | fail)
 all_goals first | rfl | simp_all [DV.norm,DV.norms,bG,kS,aH]
def nW (s:ByteArray) (i:Nat):Bool:=decide (32≤bt s i) && decide (bt s i≤126)
def bP (s:ByteArray):Bool:=fN s.size (nW s) && decide (s.size≤60)
def cQ (k n:Int) (s:ByteArray):Bool :=
 if k=0 then decide (n=0) && decide (s=⟨#[]⟩)
 else if k=1 then decide (s=⟨#[]⟩) && (decide (-1000000000000≤n) && decide (n≤1000000000000))
 else if k=2 then decide (s=⟨#[]⟩) && (decide (n=0) || decide (n=1))
 else if k=3 then decide (n=0) && bP s
 else decide (4≤k) && decide (k≤6) && decide (s=⟨#[]⟩) && (decide (1≤n) && decide (n≤1000000000000))
theorem xY {s:ByteArray} {i:Nat} (h:bt s i < 32∨126 < bt s i):nW s i=false:=by
 unfold nW
 rcases h with h | h
 ·simp [show ¬ 32≤bt s i by omega]
 ·simp [show ¬ bt s i≤126 by omega]
def gW (k:Int) (t:ByteArray):Bool:=if k=0∨k=2 then decide (t=⟨#[]⟩) else decide (k=1) && bP t
abbrev kH (r:Va × Fa):DV := .tup [r.1.dv,r.2.dv]
abbrev l9 (t:ByteArray):Fa:=⟨1,t⟩
abbrev RW:ByteArray:=⟨#[98,105,103]⟩
abbrev eA:ByteArray:=⟨#[107,105,110,100]⟩
abbrev HL:ByteArray:=⟨#[122,101,114,111]⟩
abbrev QI:ByteArray:=⟨#[108,111,110,103]⟩
def dY (n:Int):Va × Fa:=if n > 1000000000000∨n < -1000000000000 then (g9,l9 RW) else (⟨1,n,⟨#[]⟩⟩,kW)
abbrev q7:Va × Fa:=(g9,l9 eA)
def eN (op:Int) (v:Va):Va × Fa :=
 if op=5∧v.k=2 then (kS (decide (v.n=0)),kW)
 else if op=6∧v.k=1 then dY (iA (0 - v.n))
 else q7
def m8 (v w:Va):Int:=if v.n < w.n∨lR v.s w.s=true then -1 else if v.n > w.n∨(lR v.s w.s || decide (v.s=w.s))=false then 1 else 0
def vU (a:Int):Int:=if iA (0 - a) > a then iA (0 - a) else a
def u6 (a b:Int):Int:=if vU a≠0∧vU b > iA ((1000000000000:Int).tdiv (vU a)) then 1000000000001 else iA (a * b)
def eU (op a b:Int):Int :=
 if a≠b∨a=-1 then -1
 else if op=5∨op=7∨op=8 then (if a=2 then 2 else -1)
 else if op=9∨op=10 then 2
 else if 11≤op∧op≤14 then (if a=1∨a=3 then 2 else -1)
 else if op=15 then (if a=1∨a=3 then a else -1)
 else if a=1 then 1 else -1
theorem iU (k n:Int) (s:ByteArray) :
  bY Tryz.prog 28 [.agg [iv k,iv n,sv s]] (bv (cQ k n s)):=by
 refine aB.assume rfl fun hok _=>?_
 have hlen:=wG (hok (.agg [iv k,iv n,sv s]) eS (.sc (.string s)) eS)
 unfold maxLen at hlen
 refine of_body Tryz.func28 rfl rfl (nB rfl) ?_
 rw [Tryz.ntmps28]
 repeat' (first | ((with_reducible refine kw ?_);first | refine Wg ?_ | refine W0 ?_ | refine W1 ?_ | refine W2 ?_ | refine W6 ?_ | refine bJ ?_ | refine eT ?_ | refine K2 ?_ | refine cW ?_ | refine P9 ?_) | refine GX ?_ | (refine bW (fun hb=>?_) (fun hb=>?_) <;> rw [hb]) | refine GA ?_ | refine GG ?_ | (refine cJ (fun hb=>?_) (fun hb=>?_) <;> try rw [hb]) | ((with_reducible refine kf ?_);refine aP 0 Tryz.results28 rfl rfl rfl ?_) | refine GR ?_ | ((with_reducible refine kr ?_);refine aG rfl ?_) | fail)
 any_goals (refine dG ?_;first | (simp_all only [cQ,dT,dF,gt_iff_lt,ge_iff_le,b0,b1,b2,b3,b4,true_or,or_true,false_or,or_false,true_and,and_true,and_false,false_and,and_self,or_self,if_true,if_false,ite_true,ite_false,not_true_eq_false,not_false_eq_true,b5,b6,b7,b8,c1,c2,b9,c0,c3,c4,decide_true,decide_false,reduceCtorEq,ne_eq];first | done | rfl) | (simp_all [DV.norm,DV.norms,bG,aH,cQ];first | done | omega))
 refine cF [1,3] rfl ?_
 refine i2 (n:=_) (fun n e σ=>∃ (i:Nat) (m:Int),n=s.size - i∧(m=i∧i≤s.size∧fN i (nW s)=true)∧e=[(1,_),(3,iv m)]∧σ=_) ⟨0,0,rfl,⟨rfl,Nat.zero_le _,rfl⟩,rfl,rfl⟩ ?_
 rintro n e σ ⟨i,m,rfl,⟨rfl,hi,hall⟩,rfl,rfl⟩
 repeat' (first | ((with_reducible refine kw ?_);first | refine Wg ?_ | refine W0 ?_ | refine W1 ?_ | refine W2 ?_ | refine W6 ?_ | refine bJ ?_ | refine eT ?_ | refine K2 ?_ | refine cW ?_ | refine P9 ?_) | refine GX ?_ | (refine bW (fun hb=>?_) (fun hb=>?_) <;> rw [hb]) | refine GA ?_ | refine GG ?_ | (refine cJ (fun hb=>?_) (fun hb=>?_) <;> try rw [hb]) | ((with_reducible refine kf ?_);refine aP 0 Tryz.results28 rfl rfl rfl ?_) | refine GR ?_ | ((with_reducible refine kr ?_);refine aG rfl ?_) | fail)
 all_goals first
  | (refine dG ?_;have hx:=eD (n:=s.size) (p:=nW s) (i:=i) VY (by apply xY;simp_all);first | (simp_all only [cQ,bP,dT,dF,gt_iff_lt,ge_iff_le,b0,b1,b2,b3,b4,true_or,or_true,false_or,or_false,true_and,and_true,and_false,false_and,and_self,or_self,if_true,if_false,ite_true,ite_false,not_true_eq_false,not_false_eq_true,b5,b6,b7,b8,c1,c2,b9,c0,c3,c4,decide_true,decide_false,reduceCtorEq,ne_eq];first | done | rfl) | (simp_all [DV.norm,DV.norms,bG,aH,cQ,bP];first | done | omega))
  | (have hlt:=oT ‹decide ((i:Int) < (s.size:Int))=true›;refine ⟨_,_,?_,aW.pick_get _ [1,3],i + 1,_,rfl,⟨aL aI aI,by omega,fH hall (by simp_all [nW])⟩,rfl,rfl⟩;omega)
  | (refine dG ?_;have hx:=gC (n:=s.size) VX hi hall;first | (simp_all only [cQ,bP,dT,dF,gt_iff_lt,ge_iff_le,b0,b1,b2,b3,b4,true_or,or_true,false_or,or_false,true_and,and_true,and_false,false_and,and_self,or_self,if_true,if_false,ite_true,ite_false,not_true_eq_false,not_false_eq_true,b5,b6,b7,b8,c1,c2,b9,c0,c3,c4,decide_true,decide_false,reduceCtorEq,ne_eq];first | done | rfl) | (simp_all [DV.norm,DV.norms,bG,aH,cQ,bP];first | done | omega))
theorem zT (s:ByteArray) :
  bY Tryz.prog 149 [sv s] (bv (bP s)):=by
 refine aB.assume rfl fun hok _=>?_
 have hlen:=wG (hok (sv s) eS)
 unfold maxLen at hlen
 refine of_body Tryz.func149 rfl rfl (nB rfl) ?_
 rw [Tryz.ntmps149]
 repeat' (first | ((with_reducible refine kw ?_);first | refine Wg ?_ | refine W0 ?_ | refine W6 ?_ | refine bJ ?_ | refine eT ?_ | refine K2 ?_ | refine P9 ?_) | refine GX ?_ | (refine bW (fun hb=>?_) (fun hb=>?_) <;> rw [hb]) | refine GA ?_ | refine GG ?_ | (refine cJ (fun hb=>?_) (fun hb=>?_) <;> try rw [hb]) | ((with_reducible refine kf ?_);refine aP 0 Tryz.results149 rfl rfl rfl ?_) | refine GR ?_ | ((with_reducible refine kr ?_);refine aG rfl ?_) | fail)
 refine cF [0,5,6] rfl ?_
 refine i2 (n:=_) (fun n e σ=>∃ (i:Nat) (m:Int),n=s.size - i∧(m=i∧i≤s.size∧fN i (nW s)=true)∧e=[(0,_),(5,_),(6,iv m)]∧σ=_) ⟨0,0,rfl,⟨rfl,Nat.zero_le _,rfl⟩,rfl,rfl⟩ ?_
 rintro n e σ ⟨i,m,rfl,⟨rfl,hi,hall⟩,rfl,rfl⟩
 repeat' (first | ((with_reducible refine kw ?_);first | refine Wg ?_ | refine W0 ?_ | refine W6 ?_ | refine bJ ?_ | refine eT ?_ | refine K2 ?_ | refine P9 ?_) | refine GX ?_ | (refine bW (fun hb=>?_) (fun hb=>?_) <;> rw [hb]) | refine GA ?_ | refine GG ?_ | (refine cJ (fun hb=>?_) (fun hb=>?_) <;> try rw [hb]) | ((with_reducible refine kf ?_);refine aP 0 Tryz.results149 rfl rfl rfl ?_) | refine GR ?_ | ((with_reducible refine kr ?_);refine aG rfl ?_) | fail)
 all_goals first
  | (refine dG ?_;have hx:=eD (n:=s.size) (p:=nW s) (i:=i) VY (by apply xY;simp_all);first | (simp_all only [bP,dT,dF,gt_iff_lt,ge_iff_le,b0,b1,b2,b3,b4,true_or,or_true,false_or,or_false,true_and,and_true,and_false,false_and,and_self,or_self,if_true,if_false,ite_true,ite_false,not_true_eq_false,not_false_eq_true,b5,b6,b7,b8,c1,c2,b9,c0,c3,c4,decide_true,decide_false,reduceCtorEq,ne_eq];first | done | rfl) | (simp_all [DV.norm,DV.norms,bG,aH,bP];first | done | omega))
  | (have hlt:=oT ‹decide ((i:Int) < (s.size:Int))=true›;refine ⟨_,_,?_,aW.pick_get _ [0,5,6],i + 1,_,rfl,⟨aL aI aI,by omega,fH hall (by simp_all [nW])⟩,rfl,rfl⟩;omega)
  | (refine dG ?_;have hx:=gC (n:=s.size) VX hi hall;first | (simp_all only [bP,dT,dF,gt_iff_lt,ge_iff_le,b0,b1,b2,b3,b4,true_or,or_true,false_or,or_false,true_and,and_true,and_false,false_and,and_self,or_self,if_true,if_false,ite_true,ite_false,not_true_eq_false,not_false_eq_true,b5,b6,b7,b8,c1,c2,b9,c0,c3,c4,decide_true,decide_false,reduceCtorEq,ne_eq];first | done | rfl) | (simp_all [DV.norm,DV.norms,bG,aH,bP];first | done | omega))
theorem AP (k:Int) (t:ByteArray) :
  bY Tryz.prog 29 [.agg [iv k,sv t]] (bv (gW k t)):=by
 refine of_body Tryz.func29 rfl rfl (nB rfl) ?_
 rw [Tryz.ntmps29]
 repeat' (first | ((with_reducible refine kw ?_);first | refine Wg ?_ | refine W0 ?_ | refine W1 ?_ | refine W2 ?_ | refine W6 ?_ | refine bJ ?_ | (refine aJ ?_;refine tD (iU _ _ _) ?_) | refine eT ?_ | refine cW ?_ | refine eV ?_) | refine GX ?_ | (refine bW (fun hb=>?_) (fun hb=>?_) <;> rw [hb]) | refine GA ?_ | refine GG ?_ | (refine cJ (fun hb=>?_) (fun hb=>?_) <;> try rw [hb]) | ((with_reducible refine kf ?_);refine aP 0 Tryz.results29 rfl rfl rfl ?_) | refine GR ?_ | ((with_reducible refine kr ?_);refine aG rfl ?_) | fail)
 all_goals (refine dG ?_;first | (simp_all only [gW,cQ,dT,dF,gt_iff_lt,ge_iff_le,b0,b1,b2,b3,b4,true_or,or_true,false_or,or_false,true_and,and_true,and_false,false_and,and_self,or_self,if_true,if_false,ite_true,ite_false,not_true_eq_false,not_false_eq_true,b5,b6,b7,b8,c1,c2,b9,c0,c3,c4,decide_true,decide_false,reduceCtorEq,ne_eq];first | done | rfl) | (simp_all [DV.norm,DV.norms,bG,aH,gW,cQ];first | done | omega))
theorem zZ (n:Int) :
  bY Tryz.prog 175 [iv n] (kH (dY n)):=by
 refine of_body Tryz.func175 rfl rfl (nB rfl) ?_
 rw [Tryz.ntmps175]
 repeat' (first | ((with_reducible refine kw ?_);first | refine Wg ?_ | refine W0 ?_ | refine W6 ?_ | (refine aJ ?_;refine tD (oU _) ?_) | (refine aE ?_;refine p5 ?_) | refine eT ?_ | refine dH ?_ | refine eV ?_) | refine GX ?_ | (refine bW (fun hb=>?_) (fun hb=>?_) <;> rw [hb]) | refine GA ?_ | refine GG ?_ | (refine cJ (fun hb=>?_) (fun hb=>?_) <;> try rw [hb]) | ((with_reducible refine kf ?_);refine aP 0 Tryz.results175 rfl rfl rfl ?_) | refine GR ?_ | ((with_reducible refine kr ?_);refine aG rfl ?_) | fail)
 all_goals (refine dG ?_;first | (simp_all only [dY,dT,dF,gt_iff_lt,ge_iff_le,b0,b1,b2,b3,b4,true_or,or_true,false_or,or_false,true_and,and_true,and_false,false_and,and_self,or_self,if_true,if_false,ite_true,ite_false,not_true_eq_false,not_false_eq_true,b5,b6,b7,b8,c1,c2,b9,c0,c3,c4,decide_true,decide_false,reduceCtorEq,ne_eq];first | done | rfl) | (simp_all [DV.norm,DV.norms,bG,aH,dY];first | done | omega))
theorem lE (n:Int) :
  bY Tryz.prog 258 [iv n] (kH (dY n)):=by
 refine of_body Tryz.func258 rfl rfl (nB rfl) ?_
 rw [Tryz.ntmps258]
 repeat' (first | ((with_reducible refine kw ?_);first | refine Wg ?_ | refine W0 ?_ | refine W6 ?_ | (refine aJ ?_;refine tD (mR _) ?_) | (refine aE ?_;refine p5 ?_) | refine eT ?_ | refine dH ?_ | refine eV ?_) | refine GX ?_ | (refine bW (fun hb=>?_) (fun hb=>?_) <;> rw [hb]) | refine GA ?_ | refine GG ?_ | (refine cJ (fun hb=>?_) (fun hb=>?_) <;> try rw [hb]) | ((with_reducible refine kf ?_);refine aP 0 Tryz.results258 rfl rfl rfl ?_) | refine GR ?_ | ((with_reducible refine kr ?_);refine aG rfl ?_) | fail)
 all_goals (refine dG ?_;first | (simp_all only [dY,dT,dF,gt_iff_lt,ge_iff_le,b0,b1,b2,b3,b4,true_or,or_true,false_or,or_false,true_and,and_true,and_false,false_and,and_self,or_self,if_true,if_false,ite_true,ite_false,not_true_eq_false,not_false_eq_true,b5,b6,b7,b8,c1,c2,b9,c0,c3,c4,decide_true,decide_false,reduceCtorEq,ne_eq];first | done | rfl) | (simp_all [DV.norm,DV.norms,bG,aH,dY];first | done | omega))
theorem fZ  :
  bY Tryz.prog 259 [] (kH q7):=by
 refine of_body Tryz.func259 rfl rfl (nB rfl) ?_
 rw [Tryz.ntmps259]
 repeat' (first | ((with_reducible refine kw ?_);first | (refine aJ ?_;refine tD (mR _) ?_) | (refine aE ?_;refine p5 ?_) | refine dH ?_ | refine eV ?_) | refine GA ?_ | refine GG ?_ | ((with_reducible refine kf ?_);refine aP 0 Tryz.results259 rfl rfl rfl ?_) | refine GR ?_ | ((with_reducible refine kr ?_);refine aG rfl ?_) | fail)
 all_goals (refine dG ?_;first | (simp_all only [dY,dT,dF,gt_iff_lt,ge_iff_le,b0,b1,b2,b3,b4,true_or,or_true,false_or,or_false,true_and,and_true,and_false,false_and,and_self,or_self,if_true,if_false,ite_true,ite_false,not_true_eq_false,not_false_eq_true,b5,b6,b7,b8,c1,c2,b9,c0,c3,c4,decide_true,decide_false,reduceCtorEq,ne_eq];first | done | rfl) | (simp_all [DV.norm,DV.norms,bG,aH,dY];first | done | omega))
theorem NC (op k n:Int) (s:ByteArray) :
  bY Tryz.prog 134 [iv op,.agg [iv k,iv n,sv s]] (kH (eN op ⟨k,n,s⟩)):=by
 refine of_body Tryz.func134 rfl rfl (nB rfl) ?_
 rw [Tryz.ntmps134]
 repeat' (first | ((with_reducible refine kw ?_);first | refine Wg ?_ | refine W0 ?_ | refine W1 ?_ | refine W2 ?_ | refine W6 ?_ | (refine aJ ?_;first | refine tD (oU _) ?_ | refine tD (EC _) ?_ | refine tD (zZ _) ?_) | (refine aE ?_;refine p5 ?_) | refine eT ?_ | refine VP ?_ | refine iZ ?_ | refine cW ?_ | refine dH ?_ | refine eV ?_) | refine GX ?_ | (refine bW (fun hb=>?_) (fun hb=>?_) <;> rw [hb]) | refine GA ?_ | refine GG ?_ | (refine cJ (fun hb=>?_) (fun hb=>?_) <;> try rw [hb]) | ((with_reducible refine kf ?_);refine aP 0 Tryz.results134 rfl rfl rfl ?_) | refine GR ?_ | ((with_reducible refine kr ?_);refine aG rfl ?_) | fail)
 all_goals (refine dG ?_;first | (simp_all only [eN,dT,dF,gt_iff_lt,ge_iff_le,b0,b1,b2,b3,b4,true_or,or_true,false_or,or_false,true_and,and_true,and_false,false_and,and_self,or_self,if_true,if_false,ite_true,ite_false,not_true_eq_false,not_false_eq_true,b5,b6,b7,b8,c1,c2,b9,c0,c3,c4,decide_true,decide_false,reduceCtorEq,ne_eq];first | done | rfl) | (simp_all [DV.norm,DV.norms,bG,aH,eN];first | done | omega))
theorem KI (op k n:Int) (s:ByteArray) :
  bY Tryz.prog 254 [iv op,.agg [iv k,iv n,sv s]] (kH (eN op ⟨k,n,s⟩)):=by
 refine of_body Tryz.func254 rfl rfl (nB rfl) ?_
 rw [Tryz.ntmps254]
 repeat' (first | ((with_reducible refine kw ?_);first | refine Wg ?_ | refine W0 ?_ | refine W1 ?_ | refine W2 ?_ | refine W6 ?_ | refine bJ ?_ | (refine aJ ?_;first | refine tD (oV _) ?_ | refine tD (lE _) ?_ | refine tD fZ ?_) | (refine aE ?_;refine p5 ?_) | refine eT ?_ | refine VP ?_ | refine iZ ?_ | refine cW ?_ | refine dH ?_) | refine GX ?_ | (refine bW (fun hb=>?_) (fun hb=>?_) <;> rw [hb]) | refine GA ?_ | refine GG ?_ | (refine cJ (fun hb=>?_) (fun hb=>?_) <;> try rw [hb]) | ((with_reducible refine kf ?_);refine aP 0 Tryz.results254 rfl rfl rfl ?_) | refine GR ?_ | ((with_reducible refine kr ?_);refine aG rfl ?_) | fail)
 all_goals (refine dG ?_;first | (simp_all only [eN,dT,dF,gt_iff_lt,ge_iff_le,b0,b1,b2,b3,b4,true_or,or_true,false_or,or_false,true_and,and_true,and_false,false_and,and_self,or_self,if_true,if_false,ite_true,ite_false,not_true_eq_false,not_false_eq_true,b5,b6,b7,b8,c1,c2,b9,c0,c3,c4,decide_true,decide_false,reduceCtorEq,ne_eq];first | done | rfl) | (simp_all [DV.norm,DV.norms,bG,aH,eN];first | done | omega))
theorem MP (k n k2 n2:Int) (s s2:ByteArray) :
  bY Tryz.prog 177 [.agg [iv k,iv n,sv s],.agg [iv k2,iv n2,sv s2]] (iv (m8 ⟨k,n,s⟩ ⟨k2,n2,s2⟩)):=by
 refine of_body Tryz.func177 rfl rfl (nB rfl) ?_
 rw [Tryz.ntmps177]
 repeat' (first | ((with_reducible refine kw ?_);first | refine Wg ?_ | refine W0 ?_ | refine W1 ?_ | refine W2 ?_ | refine W6 ?_ | refine bJ ?_ | refine eT ?_ | refine cW ?_) | refine GX ?_ | (refine bW (fun hb=>?_) (fun hb=>?_) <;> rw [hb]) | refine GA ?_ | refine GG ?_ | (refine cJ (fun hb=>?_) (fun hb=>?_) <;> try rw [hb]) | ((with_reducible refine kf ?_);refine aP 0 Tryz.results177 rfl rfl rfl ?_) | refine GR ?_ | ((with_reducible refine kr ?_);refine aG rfl ?_) | fail)
 all_goals (refine dG ?_;first | (simp_all only [m8,dT,dF,gt_iff_lt,ge_iff_le,b0,b1,b2,b3,b4,true_or,or_true,false_or,or_false,true_and,and_true,and_false,false_and,and_self,or_self,if_true,if_false,ite_true,ite_false,not_true_eq_false,not_false_eq_true,b5,b6,b7,b8,c1,c2,b9,c0,c3,c4,decide_true,decide_false,reduceCtorEq,ne_eq];first | done | rfl) | (simp_all [DV.norm,DV.norms,bG,aH,m8];first | done | omega))
theorem NA (a b:Int) :
  bY Tryz.prog 178 [iv a,iv b] (iv (u6 a b)):=by
 refine of_body Tryz.func178 rfl rfl (nB rfl) ?_
 rw [Tryz.ntmps178]
 repeat' (first | ((with_reducible refine kw ?_);first | refine Wg ?_ | refine W0 ?_ | refine W6 ?_ | (refine EK ?_;refine WH ?_) | refine bJ ?_ | refine eT ?_ | refine VP ?_ | refine ZI ?_) | refine GX ?_ | (refine bW (fun hb=>?_) (fun hb=>?_) <;> rw [hb]) | refine GA ?_ | refine GG ?_ | (refine cJ (fun hb=>?_) (fun hb=>?_) <;> try rw [hb]) | ((with_reducible refine kf ?_);refine aP 0 Tryz.results178 rfl rfl rfl ?_) | refine GR ?_ | ((with_reducible refine kr ?_);refine aG rfl ?_) | fail)
 all_goals (refine dG ?_;first | (simp_all only [u6,vU,dT,dF,gt_iff_lt,ge_iff_le,b0,b1,b2,b3,b4,true_or,or_true,false_or,or_false,true_and,and_true,and_false,false_and,and_self,or_self,if_true,if_false,ite_true,ite_false,not_true_eq_false,not_false_eq_true,b5,b6,b7,b8,c1,c2,b9,c0,c3,c4,decide_true,decide_false,reduceCtorEq,ne_eq];first | done | rfl) | (simp_all [DV.norm,DV.norms,bG,aH,u6,vU];first | done | omega))
theorem J3 (op a b:Int) :
  bY Tryz.prog 176 [iv op,iv a,iv b] (iv (eU op a b)):=by
 refine of_body Tryz.func176 rfl rfl (nB rfl) ?_
 rw [Tryz.ntmps176]
 repeat' (first | ((with_reducible refine kw ?_);first | refine Wg ?_ | refine W0 ?_ | refine W6 ?_ | refine bJ ?_ | refine eT ?_) | refine GX ?_ | (refine bW (fun hb=>?_) (fun hb=>?_) <;> rw [hb]) | refine GA ?_ | refine GG ?_ | (refine cJ (fun hb=>?_) (fun hb=>?_) <;> try rw [hb]) | ((with_reducible refine kf ?_);refine aP 0 Tryz.results176 rfl rfl rfl ?_) | refine GR ?_ | ((with_reducible refine kr ?_);refine aG rfl ?_) | fail)
 all_goals (refine dG ?_;first | (simp_all only [eU,dT,dF,gt_iff_lt,ge_iff_le,b0,b1,b2,b3,b4,true_or,or_true,false_or,or_false,true_and,and_true,and_false,false_and,and_self,or_self,if_true,if_false,ite_true,ite_false,not_true_eq_false,not_false_eq_true,b5,b6,b7,b8,c1,c2,b9,c0,c3,c4,decide_true,decide_false,reduceCtorEq,ne_eq];first | done | rfl) | (simp_all [DV.norm,DV.norms,bG,aH,eU];first | done | omega))
end Go.Ab
