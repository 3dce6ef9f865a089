import Derived.Test.YtdeikigmgdnojaaGreatDoorT15
/- A part of the proof of one law. -/
set_option maxRecDepth 100000
set_option maxHeartbeats 8000000
set_option linter.unusedVariables false
set_option linter.unusedSimpArgs false
namespace Go.Ab
open Go Go.Ab.Tryz Go.Proofs
theorem S9 (op k n k2 n2:Int) (s s2:ByteArray) (hop:op=15) (h1:s.size≤60) (h2:s2.size≤60) :
  bY Tryz.prog 255 [iv op,.agg [iv k,iv n,sv s],.agg [iv k2,iv n2,sv s2]] (kH (bA op ⟨k,n,s⟩ ⟨k2,n2,s2⟩)):=by
 subst hop
 have hw1:IntKind.i64.wrap ((s.size:Int) + (s2.size:Int))=(s.size:Int) + (s2.size:Int):=aL aI aI
 have hw2:iA ((s.size:Int) + (s2.size:Int))=(s.size:Int) + (s2.size:Int):=hw1
 refine of_body Tryz.func255 rfl rfl (nB rfl) ?_
 rw [Tryz.ntmps255]
 repeat' (first | ((with_reducible refine kw ?_);first | refine Wg ?_ | refine W0 ?_ | refine W1 ?_ | refine W2 ?_ | refine W6 ?_ | refine WK ?_ | refine bJ ?_ | (refine aJ ?_;first | refine tD fZ ?_ | refine tD (mR _) ?_ | refine tD (HD _ _) ?_) | (refine aE ?_;refine p5 ?_) | refine eT ?_ | refine gQ ?_ | refine iZ ?_ | refine K2 ?_ | refine cW ?_ | refine dH ?_ | refine eV ?_) | refine nP cN ?_ | refine GX ?_ | refine GN ?_ | (with_reducible refine T4 ?_) | ((with_reducible refine kQ ?_);refine kP rfl ?_) | refine GD ?_ | (refine kX (fun hb=>?_) (fun hb=>?_) <;> rw [hb]) | ((with_reducible refine kd ?_);first | refine D0 ?_ | refine D1 ?_ | refine D2 ?_ | refine D6 ?_ | refine iY ?_ | (refine bM ?_;first | refine CI rfl rfl rfl rfl rfl rfl m7 rfl rfl ?_ | refine dD (HD _ _) ?_) | (refine aV ?_;refine P5 ?_) | refine uF ?_ | refine wP ?_ | refine SV ?_) | ((with_reducible refine ka ?_);refine p6 (id:=32) [1,3,4,5,6,0,2,7,8,9,10,11] JB rfl rfl rfl rfl rfl ?_) | refine GA ?_ | refine GG ?_ | refine qG cN ?_ | refine qF cN ?_ | refine nP cN ?_ | (refine cJ (fun hb=>?_) (fun hb=>?_) <;> try rw [hb]) | ((with_reducible refine kf ?_);refine aP 0 Tryz.results255 rfl rfl rfl ?_) | refine GR ?_ | ((with_reducible refine kr ?_);refine aG rfl ?_) | fail)
 all_goals (refine dG ?_;first | first | (simp_all only [bA,dP,fF,i4,Bool.and_assoc,Int.reduceEq,Int.reduceNe,dT,dF,gt_iff_lt,ge_iff_le,b0,b1,b2,b3,b4,true_or,or_true,false_or,or_false,true_and,and_true,and_false,false_and,and_self,or_self,if_true,if_false,ite_true,ite_false,not_true_eq_false,not_false_eq_true,b5,b6,b7,b8,c1,c2,b9,c0,c3,c4,decide_true,decide_false,reduceCtorEq,ne_eq];first | done | rfl) | (simp_all [DV.norm,DV.norms,bG,aH,bA,dP,fF,i4,Bool.and_assoc,Int.reduceEq,Int.reduceNe];first | done | omega) | (simp_all [DV.norm,DV.norms,bG,aH,bA,dP,fF,i4,Bool.and_assoc,Int.reduceEq,Int.reduceNe];split <;> first | omega | (simp_all;done) | rfl | (simp_all;omega)))
theorem TA (op k n k2 n2:Int) (s s2:ByteArray) (hop:op=16) (h1:s.size≤60) (h2:s2.size≤60) :
  bY Tryz.prog 255 [iv op,.agg [iv k,iv n,sv s],.agg [iv k2,iv n2,sv s2]] (kH (bA op ⟨k,n,s⟩ ⟨k2,n2,s2⟩)):=by
 subst hop
 refine of_body Tryz.func255 rfl rfl (nB rfl) ?_
 rw [Tryz.ntmps255]
 repeat' (first | ((with_reducible refine kw ?_);first | refine Wg ?_ | refine W0 ?_ | refine W6 ?_ | refine bJ ?_ | (refine aJ ?_;first | refine tD fZ ?_ | refine tD (DA _ _) ?_) | (refine aE ?_;refine p5 ?_) | refine eT ?_ | refine gQ ?_ | refine iZ ?_ | refine cW ?_ | refine dH ?_) | refine pX cN ?_ | refine GX ?_ | refine GN ?_ | (with_reducible refine T4 ?_) | ((with_reducible refine kQ ?_);refine kP rfl ?_) | refine GD ?_ | (refine kX (fun hb=>?_) (fun hb=>?_) <;> rw [hb]) | ((with_reducible refine kd ?_);first | refine D0 ?_ | refine D1 ?_ | refine D2 ?_ | refine D6 ?_ | refine iY ?_ | (refine bM ?_;first | refine CI rfl rfl rfl rfl rfl rfl m7 rfl rfl ?_ | refine dD (DA _ _) ?_) | (refine aV ?_;refine P5 ?_) | refine uF ?_ | refine wP ?_ | refine SV ?_) | ((with_reducible refine ka ?_);refine p6 (id:=32) [1,3,4,5,6,0,2,7,8,9,10,11] JB rfl rfl rfl rfl rfl ?_) | refine GA ?_ | refine GG ?_ | refine qG cN ?_ | refine qF cN ?_ | refine pX cN ?_ | (refine cJ (fun hb=>?_) (fun hb=>?_) <;> try rw [hb]) | ((with_reducible refine kf ?_);refine aP 0 Tryz.results255 rfl rfl rfl ?_) | refine GR ?_ | ((with_reducible refine kr ?_);refine aG rfl ?_) | fail)
 all_goals (refine dG ?_;first | (simp_all only [bA,dP,fF,i4,Bool.and_assoc,Int.reduceEq,Int.reduceNe,dT,dF,gt_iff_lt,ge_iff_le,b0,b1,b2,b3,b4,true_or,or_true,false_or,or_false,true_and,and_true,and_false,false_and,and_self,or_self,if_true,if_false,ite_true,ite_false,not_true_eq_false,not_false_eq_true,b5,b6,b7,b8,c1,c2,b9,c0,c3,c4,decide_true,decide_false,reduceCtorEq,ne_eq];first | done | rfl) | (simp_all [DV.norm,DV.norms,bG,aH,bA,dP,fF,i4,Bool.and_assoc,Int.reduceEq,Int.reduceNe];first | done | omega))
end Go.Ab
