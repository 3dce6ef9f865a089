import Derived.Test.YtdeikigmgdnojaaGreatDoorT13
/- A part of the proof of one law. -/
set_option maxRecDepth 100000
set_option maxHeartbeats 8000000
set_option linter.unusedVariables false
set_option linter.unusedSimpArgs false
namespace Go.Ab
open Go Go.Ab.Tryz Go.Proofs
def E3 (a b:Int):Int:=if a < b then -1 else if a > b then 1 else 0
def E4 (a b:ByteArray):Int:=if lR a b=true then -1 else if (lR a b || decide (a=b))=false then 1 else 0
def i9 (op c:Int):Va × Fa:=(kS (if op=11 then decide (c < 0) else if op=12 then decide (c≤0) else if op=13 then decide (c > 0) else decide (c≥0)),kW)
def m9 (a b:Int):Va × Fa:=if vU b > 0∧vU a > iA ((1000000000000:Int).tdiv (vU b)) then (g9,l9 RW) else dY (iA (a * b))
def FT (a b:Int):Va × Fa:=if b=0 then (g9,l9 HL) else dY (iA (a.tdiv b))
def FW (a b:Int):Va × Fa:=if b=0 then (g9,l9 HL) else dY (a.tmod b)
def fF (v w:Va):Bool:=decide (v.k=w.k) && (decide (v.n=w.n) && decide (v.s=w.s))
def dP (op:Int) (v w:Va):Va × Fa :=
 if v.k≠2 then q7 else if (decide (v.n=1) == decide (op=7))=true then (v,kW) else if w.k≠2 then q7 else (w,kW)
def i4 (v w:Va):Va × Fa:=if iA (v.s.size + w.s.size) > 60 then (g9,l9 QI) else (⟨3,0,v.s++w.s⟩,kW)
def mJ (op:Int) (v w:Va):Va × Fa :=
 if op=7∨op=8 then dP op v w
 else if eU op v.k w.k=-1 then q7
 else if op=9 then (kS (fF v w),kW)
 else if op=10 then (kS (!fF v w),kW)
 else if op=11 then (kS (decide (m8 v w < 0)),kW)
 else if op=12 then (kS (decide (m8 v w≤0)),kW)
 else if op=13 then (kS (decide (m8 v w > 0)),kW)
 else if op=14 then (kS (decide (m8 v w≥0)),kW)
 else if op=15 then (if v.k=1 then dY (iA (v.n + w.n)) else i4 v w)
 else if op=16 then dY (iA (v.n - w.n))
 else if op=17 then dY (u6 v.n w.n)
 else if w.n=0 then (g9,l9 HL)
 else if op=18 then dY (iA (v.n.tdiv w.n)) else dY (v.n.tmod w.n)
def bA (op:Int) (v w:Va):Va × Fa :=
 if op=7∨op=8 then dP op v w
 else if op=9∨op=10 then (if v.k≠w.k then q7 else (kS (fF v w == decide (op=9)),kW))
 else if op=11∨op=12∨op=13∨op=14 then
  (if v.k=1∧w.k=1 then i9 op (E3 v.n w.n) else if v.k=3∧w.k=3 then i9 op (E4 v.s w.s) else q7)
 else if op=15∧(v.k=3∧w.k=3) then i4 v w
 else if ¬ (v.k=1∧w.k=1) then q7
 else if op=15 then dY (iA (v.n + w.n))
 else if op=16 then dY (iA (v.n - w.n))
 else if op=17 then m9 v.n w.n
 else if op=18 then FT v.n w.n else FW v.n w.n
theorem RM (a:Int) :
  bY Tryz.prog 276 [iv a] (bv false):=by
 refine of_body Tryz.func276 rfl rfl (nB rfl) ?_
 rw [Tryz.ntmps276]
 repeat' (first | ((with_reducible refine kw ?_);first | refine W0 ?_ | refine W6 ?_ | refine bJ ?_) | refine GA ?_ | refine GG ?_ | ((with_reducible refine kf ?_);refine aP 0 Tryz.results276 rfl rfl rfl ?_) | refine GR ?_ | ((with_reducible refine kr ?_);refine aG rfl ?_) | fail)
 all_goals (refine dG ?_;first | (simp_all only [dT,dF,gt_iff_lt,ge_iff_le,b0,b1,b2,b3,b4,true_or,or_true,false_or,or_false,true_and,and_true,and_false,false_and,and_self,or_self,if_true,if_false,ite_true,ite_false,not_true_eq_false,not_false_eq_true,b5,b6,b7,b8,c1,c2,b9,c0,c3,c4,decide_true,decide_false,reduceCtorEq,ne_eq];first | done | rfl) | (simp_all [DV.norm,DV.norms,bG,aH];first | done | omega))
theorem O9 (s:ByteArray) :
  bY Tryz.prog 277 [sv s] (bv false):=by
 refine of_body Tryz.func277 rfl rfl (nB rfl) ?_
 rw [Tryz.ntmps277]
 repeat' (first | ((with_reducible refine kw ?_);first | refine W0 ?_ | refine W6 ?_ | refine bJ ?_) | refine GA ?_ | refine GG ?_ | ((with_reducible refine kf ?_);refine aP 0 Tryz.results277 rfl rfl rfl ?_) | refine GR ?_ | ((with_reducible refine kr ?_);refine aG rfl ?_) | fail)
 all_goals (refine dG ?_;first | (simp_all only [dT,dF,gt_iff_lt,ge_iff_le,b0,b1,b2,b3,b4,true_or,or_true,false_or,or_false,true_and,and_true,and_false,false_and,and_self,or_self,if_true,if_false,ite_true,ite_false,not_true_eq_false,not_false_eq_true,b5,b6,b7,b8,c1,c2,b9,c0,c3,c4,decide_true,decide_false,reduceCtorEq,ne_eq];first | done | rfl) | (simp_all [DV.norm,DV.norms,bG,aH];first | done | omega))
theorem Q4 (a b:Int) :
  bY Tryz.prog 266 [iv a,iv b] (iv (E3 a b)):=by
 refine of_body Tryz.func266 rfl rfl (nB rfl) ?_
 rw [Tryz.ntmps266]
 repeat' (first | ((with_reducible refine kw ?_);first | refine W0 ?_ | refine W6 ?_ | refine bJ ?_ | (refine aJ ?_;refine tD (RM _) ?_)) | refine GA ?_ | refine GG ?_ | (refine cJ (fun hb=>?_) (fun hb=>?_) <;> try rw [hb]) | ((with_reducible refine kf ?_);refine aP 0 Tryz.results266 rfl rfl rfl ?_) | refine GR ?_ | ((with_reducible refine kr ?_);refine aG rfl ?_) | fail)
 all_goals (refine dG ?_;first | (simp_all only [E3,dT,dF,gt_iff_lt,ge_iff_le,b0,b1,b2,b3,b4,true_or,or_true,false_or,or_false,true_and,and_true,and_false,false_and,and_self,or_self,if_true,if_false,ite_true,ite_false,not_true_eq_false,not_false_eq_true,b5,b6,b7,b8,c1,c2,b9,c0,c3,c4,decide_true,decide_false,reduceCtorEq,ne_eq];first | done | rfl) | (simp_all [DV.norm,DV.norms,bG,aH,E3];first | done | omega))
theorem OJ (a b:ByteArray) :
  bY Tryz.prog 267 [sv a,sv b] (iv (E4 a b)):=by
 refine of_body Tryz.func267 rfl rfl (nB rfl) ?_
 rw [Tryz.ntmps267]
 repeat' (first | ((with_reducible refine kw ?_);first | refine W0 ?_ | refine W6 ?_ | refine bJ ?_ | (refine aJ ?_;refine tD (O9 _) ?_)) | refine GA ?_ | refine GG ?_ | (refine cJ (fun hb=>?_) (fun hb=>?_) <;> try rw [hb]) | ((with_reducible refine kf ?_);refine aP 0 Tryz.results267 rfl rfl rfl ?_) | refine GR ?_ | ((with_reducible refine kr ?_);refine aG rfl ?_) | fail)
 all_goals (refine dG ?_;first | (simp_all only [E4,dT,dF,gt_iff_lt,ge_iff_le,b0,b1,b2,b3,b4,true_or,or_true,false_or,or_false,true_and,and_true,and_false,false_and,and_self,or_self,if_true,if_false,ite_true,ite_false,not_true_eq_false,not_false_eq_true,b5,b6,b7,b8,c1,c2,b9,c0,c3,c4,decide_true,decide_false,reduceCtorEq,ne_eq];first | done | rfl) | (simp_all [DV.norm,DV.norms,bG,aH,E4];first | done | omega))
theorem pD (op a b:Int) :
  bY Tryz.prog 260 [iv op,iv a,iv b] (kH (i9 op (E3 a b))):=by
 refine of_body Tryz.func260 rfl rfl (nB rfl) ?_
 rw [Tryz.ntmps260]
 repeat' (first | ((with_reducible refine kw ?_);first | refine W0 ?_ | refine W6 ?_ | refine bJ ?_ | (refine aJ ?_;first | refine tD (Q4 _ _) ?_ | refine tD (oV _) ?_) | (refine aE ?_;refine p5 ?_) | refine iZ ?_ | refine dH ?_) | refine GA ?_ | refine GG ?_ | (refine cJ (fun hb=>?_) (fun hb=>?_) <;> try rw [hb]) | ((with_reducible refine kf ?_);refine aP 0 Tryz.results260 rfl rfl rfl ?_) | refine GR ?_ | ((with_reducible refine kr ?_);refine aG rfl ?_) | fail)
 all_goals (refine dG ?_;first | (simp_all only [i9,dT,dF,gt_iff_lt,ge_iff_le,b0,b1,b2,b3,b4,true_or,or_true,false_or,or_false,true_and,and_true,and_false,false_and,and_self,or_self,if_true,if_false,ite_true,ite_false,not_true_eq_false,not_false_eq_true,b5,b6,b7,b8,c1,c2,b9,c0,c3,c4,decide_true,decide_false,reduceCtorEq,ne_eq];first | done | rfl) | (simp_all [DV.norm,DV.norms,bG,aH,i9];first | done | omega))
theorem nL (op:Int) (a b:ByteArray) :
  bY Tryz.prog 261 [iv op,sv a,sv b] (kH (i9 op (E4 a b))):=by
 refine of_body Tryz.func261 rfl rfl (nB rfl) ?_
 rw [Tryz.ntmps261]
 repeat' (first | ((with_reducible refine kw ?_);first | refine W0 ?_ | refine W6 ?_ | refine bJ ?_ | (refine aJ ?_;first | refine tD (OJ _ _) ?_ | refine tD (oV _) ?_) | (refine aE ?_;refine p5 ?_) | refine iZ ?_ | refine dH ?_) | refine GA ?_ | refine GG ?_ | (refine cJ (fun hb=>?_) (fun hb=>?_) <;> try rw [hb]) | ((with_reducible refine kf ?_);refine aP 0 Tryz.results261 rfl rfl rfl ?_) | refine GR ?_ | ((with_reducible refine kr ?_);refine aG rfl ?_) | fail)
 all_goals (refine dG ?_;first | (simp_all only [i9,dT,dF,gt_iff_lt,ge_iff_le,b0,b1,b2,b3,b4,true_or,or_true,false_or,or_false,true_and,and_true,and_false,false_and,and_self,or_self,if_true,if_false,ite_true,ite_false,not_true_eq_false,not_false_eq_true,b5,b6,b7,b8,c1,c2,b9,c0,c3,c4,decide_true,decide_false,reduceCtorEq,ne_eq];first | done | rfl) | (simp_all [DV.norm,DV.norms,bG,aH,i9];first | done | omega))
theorem HD (a b:Int) :
  bY Tryz.prog 268 [iv a,iv b] (kH (dY (iA (a + b)))):=by
 refine of_body Tryz.func268 rfl rfl (nB rfl) ?_
 rw [Tryz.ntmps268]
 repeat' (first | ((with_reducible refine kw ?_);first | refine W0 ?_ | refine W6 ?_ | (refine aJ ?_;refine tD (lE _) ?_) | (refine aE ?_;refine p5 ?_) | refine iZ ?_ | refine dH ?_) | refine GA ?_ | refine GG ?_ | ((with_reducible refine kf ?_);refine aP 0 Tryz.results268 rfl rfl rfl ?_) | refine GR ?_ | ((with_reducible refine kr ?_);refine aG rfl ?_) | fail)
 all_goals (refine dG ?_;first | (simp_all only [dT,dF,gt_iff_lt,ge_iff_le,b0,b1,b2,b3,b4,true_or,or_true,false_or,or_false,true_and,and_true,and_false,false_and,and_self,or_self,if_true,if_false,ite_true,ite_false,not_true_eq_false,not_false_eq_true,b5,b6,b7,b8,c1,c2,b9,c0,c3,c4,decide_true,decide_false,reduceCtorEq,ne_eq];first | done | rfl) | (simp_all [DV.norm,DV.norms,bG,aH];first | done | omega))
theorem DA (a b:Int) :
  bY Tryz.prog 269 [iv a,iv b] (kH (dY (iA (a - b)))):=by
 refine of_body Tryz.func269 rfl rfl (nB rfl) ?_
 rw [Tryz.ntmps269]
 repeat' (first | ((with_reducible refine kw ?_);first | refine W0 ?_ | refine W6 ?_ | (refine aJ ?_;refine tD (lE _) ?_) | (refine aE ?_;refine p5 ?_) | refine iZ ?_ | refine dH ?_) | refine GA ?_ | refine GG ?_ | ((with_reducible refine kf ?_);refine aP 0 Tryz.results269 rfl rfl rfl ?_) | refine GR ?_ | ((with_reducible refine kr ?_);refine aG rfl ?_) | fail)
 all_goals (refine dG ?_;first | (simp_all only [dT,dF,gt_iff_lt,ge_iff_le,b0,b1,b2,b3,b4,true_or,or_true,false_or,or_false,true_and,and_true,and_false,false_and,and_self,or_self,if_true,if_false,ite_true,ite_false,not_true_eq_false,not_false_eq_true,b5,b6,b7,b8,c1,c2,b9,c0,c3,c4,decide_true,decide_false,reduceCtorEq,ne_eq];first | done | rfl) | (simp_all [DV.norm,DV.norms,bG,aH];first | done | omega))
theorem x4 (a b:Int) :
  bY Tryz.prog 270 [iv a,iv b] (kH (m9 a b)):=by
 refine of_body Tryz.func270 rfl rfl (nB rfl) ?_
 rw [Tryz.ntmps270]
 repeat' (first | ((with_reducible refine kw ?_);first | refine Wg ?_ | refine W0 ?_ | refine W6 ?_ | (refine EK ?_;refine WH ?_) | refine bJ ?_ | (refine aJ ?_;first | refine tD (mR _) ?_ | refine tD (lE _) ?_) | (refine aE ?_;refine p5 ?_) | refine eT ?_ | refine VP ?_ | refine iZ ?_ | refine dH ?_ | refine eV ?_ | refine ZI ?_) | refine GX ?_ | (refine bW (fun hb=>?_) (fun hb=>?_) <;> rw [hb]) | refine GA ?_ | refine GG ?_ | (refine cJ (fun hb=>?_) (fun hb=>?_) <;> try rw [hb]) | ((with_reducible refine kf ?_);refine aP 0 Tryz.results270 rfl rfl rfl ?_) | refine GR ?_ | ((with_reducible refine kr ?_);refine aG rfl ?_) | fail)
 all_goals (refine dG ?_;first | (simp_all only [m9,vU,dT,dF,gt_iff_lt,ge_iff_le,b0,b1,b2,b3,b4,true_or,or_true,false_or,or_false,true_and,and_true,and_false,false_and,and_self,or_self,if_true,if_false,ite_true,ite_false,not_true_eq_false,not_false_eq_true,b5,b6,b7,b8,c1,c2,b9,c0,c3,c4,decide_true,decide_false,reduceCtorEq,ne_eq];first | done | rfl) | (simp_all [DV.norm,DV.norms,bG,aH,m9,vU];first | done | omega))
theorem RQ (a b:Int) (h:b≠0) :
  bY Tryz.prog 273 [iv a,iv b] (iv (iA (a.tdiv b))):=by
 refine of_body Tryz.func273 rfl rfl (nB rfl) ?_
 rw [Tryz.ntmps273]
 repeat' (first | ((with_reducible refine kw ?_);first | refine W0 ?_ | (refine EK ?_;refine WH ?_) | refine bJ ?_) | refine GA ?_ | refine GG ?_ | ((with_reducible refine kf ?_);refine aP 0 Tryz.results273 rfl rfl rfl ?_) | refine GR ?_ | ((with_reducible refine kr ?_);refine aG rfl ?_) | fail)
 all_goals (refine dG ?_;first | (simp_all only [dT,dF,gt_iff_lt,ge_iff_le,b0,b1,b2,b3,b4,true_or,or_true,false_or,or_false,true_and,and_true,and_false,false_and,and_self,or_self,if_true,if_false,ite_true,ite_false,not_true_eq_false,not_false_eq_true,b5,b6,b7,b8,c1,c2,b9,c0,c3,c4,decide_true,decide_false,reduceCtorEq,ne_eq];first | done | rfl) | (simp_all [DV.norm,DV.norms,bG,aH];first | done | omega))
theorem RS (a b:Int) (h:b≠0) :
  bY Tryz.prog 275 [iv a,iv b] (iv (a.tmod b)):=by
 refine of_body Tryz.func275 rfl rfl (nB rfl) ?_
 rw [Tryz.ntmps275]
 repeat' (first | ((with_reducible refine kw ?_);first | refine W0 ?_ | (refine EK ?_;refine cK (QT rfl rfl (by first | omega | (simp_all;done) | (simp_all;omega))) rfl rfl ?_) | refine bJ ?_) | refine GA ?_ | refine GG ?_ | ((with_reducible refine kf ?_);refine aP 0 Tryz.results275 rfl rfl rfl ?_) | refine GR ?_ | ((with_reducible refine kr ?_);refine aG rfl ?_) | fail)
 all_goals (refine dG ?_;first | (simp_all only [dT,dF,gt_iff_lt,ge_iff_le,b0,b1,b2,b3,b4,true_or,or_true,false_or,or_false,true_and,and_true,and_false,false_and,and_self,or_self,if_true,if_false,ite_true,ite_false,not_true_eq_false,not_false_eq_true,b5,b6,b7,b8,c1,c2,b9,c0,c3,c4,decide_true,decide_false,reduceCtorEq,ne_eq];first | done | rfl) | (simp_all [DV.norm,DV.norms,bG,aH];first | done | omega))
theorem RB (a b:Int) :
  bY Tryz.prog 272 [iv a,iv b,.fn (.func 273) [] []] (kH (FT a b)):=by
 refine of_body Tryz.func272 rfl rfl (nB rfl) ?_
 rw [Tryz.ntmps272]
 repeat' (first | ((with_reducible refine kw ?_);first | refine W0 ?_ | refine W6 ?_ | (refine aJ ?_;first | refine bB rfl rfl rfl rfl (bY.at (RQ _ _ (by simp_all)) rfl rfl ?_) | refine tD (mR _) ?_ | refine tD (lE _) ?_) | (refine aE ?_;refine p5 ?_) | refine iZ ?_ | refine dH ?_ | refine eV ?_) | refine GA ?_ | refine GG ?_ | (refine cJ (fun hb=>?_) (fun hb=>?_) <;> try rw [hb]) | ((with_reducible refine kf ?_);refine aP 0 Tryz.results272 rfl rfl rfl ?_) | refine GR ?_ | ((with_reducible refine kr ?_);refine aG rfl ?_) | fail)
 all_goals (refine dG ?_;first | (simp_all only [FT,dT,dF,gt_iff_lt,ge_iff_le,b0,b1,b2,b3,b4,true_or,or_true,false_or,or_false,true_and,and_true,and_false,false_and,and_self,or_self,if_true,if_false,ite_true,ite_false,not_true_eq_false,not_false_eq_true,b5,b6,b7,b8,c1,c2,b9,c0,c3,c4,decide_true,decide_false,reduceCtorEq,ne_eq];first | done | rfl) | (simp_all [DV.norm,DV.norms,bG,aH,FT];first | done | omega))
theorem OP (a b:Int) :
  bY Tryz.prog 272 [iv a,iv b,.fn (.func 275) [] []] (kH (FW a b)):=by
 refine of_body Tryz.func272 rfl rfl (nB rfl) ?_
 rw [Tryz.ntmps272]
 repeat' (first | ((with_reducible refine kw ?_);first | refine W0 ?_ | refine W6 ?_ | (refine aJ ?_;first | refine bB rfl rfl rfl rfl (bY.at (RS _ _ (by simp_all)) rfl rfl ?_) | refine tD (mR _) ?_ | refine tD (lE _) ?_) | (refine aE ?_;refine p5 ?_) | refine iZ ?_ | refine dH ?_ | refine eV ?_) | refine GA ?_ | refine GG ?_ | (refine cJ (fun hb=>?_) (fun hb=>?_) <;> try rw [hb]) | ((with_reducible refine kf ?_);refine aP 0 Tryz.results272 rfl rfl rfl ?_) | refine GR ?_ | ((with_reducible refine kr ?_);refine aG rfl ?_) | fail)
 all_goals (refine dG ?_;first | (simp_all only [FW,dT,dF,gt_iff_lt,ge_iff_le,b0,b1,b2,b3,b4,true_or,or_true,false_or,or_false,true_and,and_true,and_false,false_and,and_self,or_self,if_true,if_false,ite_true,ite_false,not_true_eq_false,not_false_eq_true,b5,b6,b7,b8,c1,c2,b9,c0,c3,c4,decide_true,decide_false,reduceCtorEq,ne_eq];first | done | rfl) | (simp_all [DV.norm,DV.norms,bG,aH,FW];first | done | omega))
theorem QG (a b:Int) :
  bY Tryz.prog 271 [iv a,iv b] (kH (FT a b)):=by
 refine of_body Tryz.func271 rfl rfl (nB rfl) ?_
 rw [Tryz.ntmps271]
 repeat' (first | ((with_reducible refine kw ?_);first | refine W0 ?_ | (refine aJ ?_;refine tD (RB _ _) ?_) | (refine aE ?_;refine p5 ?_) | refine iZ ?_ | refine dH ?_) | refine GA ?_ | refine GG ?_ | ((with_reducible refine kf ?_);refine aP 0 Tryz.results271 rfl rfl rfl ?_) | refine GR ?_ | ((with_reducible refine kr ?_);refine aG rfl ?_) | fail)
 all_goals (refine dG ?_;first | (simp_all only [dT,dF,gt_iff_lt,ge_iff_le,b0,b1,b2,b3,b4,true_or,or_true,false_or,or_false,true_and,and_true,and_false,false_and,and_self,or_self,if_true,if_false,ite_true,ite_false,not_true_eq_false,not_false_eq_true,b5,b6,b7,b8,c1,c2,b9,c0,c3,c4,decide_true,decide_false,reduceCtorEq,ne_eq];first | done | rfl) | (simp_all [DV.norm,DV.norms,bG,aH];first | done | omega))
theorem QH (a b:Int) :
  bY Tryz.prog 274 [iv a,iv b] (kH (FW a b)):=by
 refine of_body Tryz.func274 rfl rfl (nB rfl) ?_
 rw [Tryz.ntmps274]
 repeat' (first | ((with_reducible refine kw ?_);first | refine W0 ?_ | (refine aJ ?_;refine tD (OP _ _) ?_) | (refine aE ?_;refine p5 ?_) | refine iZ ?_ | refine dH ?_) | refine GA ?_ | refine GG ?_ | ((with_reducible refine kf ?_);refine aP 0 Tryz.results274 rfl rfl rfl ?_) | refine GR ?_ | ((with_reducible refine kr ?_);refine aG rfl ?_) | fail)
 all_goals (refine dG ?_;first | (simp_all only [dT,dF,gt_iff_lt,ge_iff_le,b0,b1,b2,b3,b4,true_or,or_true,false_or,or_false,true_and,and_true,and_false,false_and,and_self,or_self,if_true,if_false,ite_true,ite_false,not_true_eq_false,not_false_eq_true,b5,b6,b7,b8,c1,c2,b9,c0,c3,c4,decide_true,decide_false,reduceCtorEq,ne_eq];first | done | rfl) | (simp_all [DV.norm,DV.norms,bG,aH];first | done | omega))
def MO:List (Value × DV):=[(.int .i64 15,.fn (.func 268) [] []),(.int .i64 16,.fn (.func 269) [] []),(.int .i64 17,.fn (.func 270) [] []),(.int .i64 18,.fn (.func 271) [] []),(.int .i64 19,.fn (.func 274) [] [])]
theorem m7:aB Tryz.prog 263 [] [] (fun r σ=>r = .mp 0∧σ=[some (.map MO)]):=by
 refine of_body Tryz.func263 rfl rfl (nB rfl) ?_
 rw [Tryz.ntmps263]
 repeat' (first | ((with_reducible refine kw ?_);first | refine W0 ?_ | refine bJ ?_ | refine HQ V1 rfl rfl rfl rfl rfl rfl rfl rfl ?_ | refine VQ ?_) | refine GA ?_ | refine GG ?_ | ((with_reducible refine kf ?_);refine aP 1 Tryz.results263 rfl rfl rfl ?_) | refine GR ?_ | ((with_reducible refine kr ?_);refine t8 rfl ?_) | fail)
 exact ⟨rfl,rfl⟩
theorem IK (op k n k2 n2:Int) (s s2:ByteArray) (h1:s.size≤60) (h2:s2.size≤60) :
  bY Tryz.prog 135 [iv op,.agg [iv k,iv n,sv s],.agg [iv k2,iv n2,sv s2]] (kH (mJ op ⟨k,n,s⟩ ⟨k2,n2,s2⟩)):=by
 refine of_body Tryz.func135 rfl rfl (nB rfl) ?_
 rw [Tryz.ntmps135]
 repeat' (first | ((with_reducible refine kw ?_);first | refine Wg ?_ | refine W0 ?_ | refine W1 ?_ | refine W2 ?_ | refine W3 ?_ | refine W6 ?_ | refine W9 ?_ | refine W8 ?_ | refine W7 ?_ | refine WK ?_ | (refine EK ?_;first | refine cK (QS rfl rfl (by first | omega | (simp_all;done) | (simp_all;omega))) rfl rfl ?_ | refine cK (QT rfl rfl (by first | omega | (simp_all;done) | (simp_all;omega))) rfl rfl ?_) | refine bJ ?_ | (refine aJ ?_;first | refine tD (oU _) ?_ | refine tD (EC _) ?_ | refine tD (zZ _) ?_ | refine tD (MP _ _ _ _ _ _) ?_ | refine tD (NA _ _) ?_ | refine tD (J3 _ _ _) ?_) | (refine aE ?_;refine p5 ?_) | refine eT ?_ | refine iZ ?_ | refine K2 ?_ | refine cW ?_ | refine dH ?_ | refine eV ?_) | refine GX ?_ | (refine bW (fun hb=>?_) (fun hb=>?_) <;> rw [hb]) | refine GA ?_ | refine GG ?_ | (refine cJ (fun hb=>?_) (fun hb=>?_) <;> try rw [hb]) | ((with_reducible refine kf ?_);refine aP 0 Tryz.results135 rfl rfl rfl ?_) | refine GR ?_ | ((with_reducible refine kr ?_);refine aG rfl ?_) | fail)
 all_goals (refine dG ?_;first | (simp_all only [mJ,dP,fF,i4,Bool.and_assoc,dT,dF,gt_iff_lt,ge_iff_le,b0,b1,b2,b3,b4,true_or,or_true,false_or,or_false,true_and,and_true,and_false,false_and,and_self,or_self,if_true,if_false,ite_true,ite_false,not_true_eq_false,not_false_eq_true,b5,b6,b7,b8,c1,c2,b9,c0,c3,c4,decide_true,decide_false,reduceCtorEq,ne_eq];first | done | rfl) | (simp_all [DV.norm,DV.norms,bG,aH,mJ,dP,fF,i4,Bool.and_assoc];first | done | omega))
end Go.Ab
