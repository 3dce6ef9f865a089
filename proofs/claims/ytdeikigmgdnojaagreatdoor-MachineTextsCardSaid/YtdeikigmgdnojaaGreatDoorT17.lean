import Derived.Test.YtdeikigmgdnojaaGreatDoorT16
/- A part of the proof of one law. -/
set_option maxRecDepth 100000
set_option maxHeartbeats 8000000
set_option linter.unusedVariables false
set_option linter.unusedSimpArgs false
namespace Go.Ab
open Go Go.Ab.Tryz Go.Proofs
def m6 (v:Va):Bool:=decide (v.k=0) && (decide (v.n=0) && decide (v.s=⟨#[]⟩))
def bare (x:In):Bool:=decide (x.b=0) && (decide (x.c=0) && decide ((x.l.length:Int)=0))
def rI (f:Fc) (l:List Int):Bool:=fN l.length (fun i=>kF f (aC l (i:Int)))
def kI (fs:List Fc) (f:Fc) (x:In) (pc:Nat):Bool :=
 bif decide (x.op≠1) && !m6 x.v then false
 else bif decide (x.op=1) then fG f x.a 1 && (decide (x.b=0) && (decide (x.c=0) && (decide ((x.l.length:Int)=0) && cQ x.v.k x.v.n x.v.s)))
 else bif decide (x.op=2) then fG f x.a 1 && (fG f x.b 1 && (decide (x.c=0) && decide ((x.l.length:Int)=0)))
 else bif decide (x.op=3) then fG f x.a 1 && ((decide (x.b=5) || decide (x.b=6)) && (fG f x.c 1 && decide ((x.l.length:Int)=0)))
 else bif decide (x.op=4) then fG f x.a 1 && (decide (x.b≥9) && (decide (x.b≤19) && (fG f x.c 1 && (decide ((x.l.length:Int)=1) && lJ f x.l))))
 else bif decide (x.op=5) then kF f x.a && bare x
 else bif decide (x.op=6) || decide (x.op=13) then fG f x.a 1 && (kF f x.b && (decide (x.c=0) && decide ((x.l.length:Int)=0)))
 else bif decide (x.op=7) then (decide (x.a=-1) || fG f x.a 1) && (zJ fs f x.b x.l && decide (x.c=0))
 else bif decide (x.op=8) then (decide (x.a=-1) || fG f x.a 1) && bare x
 else bif decide (x.op=9) then fG f x.a 1 && bare x
 else bif decide (x.op=10) then (decide (x.a=-1) || fG f x.a 1) && x7 fs f x pc
 else bif decide (x.op=11) then decide (x.a≥1) && (decide (x.a≤3) && (decide (x.b=0) && (decide (x.c=0) && ((bif decide (x.a=2) then decide ((x.l.length:Int)=2) else decide ((x.l.length:Int)=1)) && lJ f x.l))))
 else bif decide (x.op=12) then (bif rI f x.l then fG f x.a 1 && (decide (x.b=0) && (decide (x.c=0) && !decide ((x.l.length:Int)=0))) else false)
 else decide (x.op=14) && (fG f x.a 2 && bare x)
theorem mT (fs:List Fc) (f:Fc) (x:In) (a:Nat) (ha:a≤f.code.length):bY Tryz.prog 48 [GV fs f,x.dv,iv (a:Int)] (bv (kI fs f x a)):=by
 refine aB.assume rfl fun hok _=>?_
 have hlen:=dK (hok x.dv eS (.lst (uS x.l)) eS)
 simp only [List.length_map] at hlen
 refine of_body Tryz.func48 rfl rfl (nB rfl) ?_
 rw [Tryz.ntmps48]
 repeat' (first | ((with_reducible refine kw ?_);first | refine Wg ?_ | refine W0 ?_ | refine W1 ?_ | refine W2 ?_ | refine W3 ?_ | refine W6 ?_ | refine W7 ?_ | refine bJ ?_ | (refine aJ ?_;first | refine tD (oN fs f _ x.l) ?_ | refine tD (lI fs f x.l) ?_ | refine tD (wI fs f x a ha) ?_ | refine tD (hZ fs f _) ?_ | refine tD (gJ fs f _ _) ?_ | refine tD (iU _ _ _) ?_ | refine tD (pA _) ?_) | refine eT ?_ | refine gQ ?_ | refine gZ ?_ | refine cW ?_ | refine eV ?_) | refine GX ?_ | (refine bW (fun hb=>?_) (fun hb=>?_) <;> rw [hb]) | refine GN ?_ | ((with_reducible refine kd ?_);first | refine D0 ?_ | refine D1 ?_ | refine D2 ?_ | refine D3 ?_ | (refine bM ?_;first | refine dD (oN fs f _ x.l) ?_ | refine dD (lI fs f x.l) ?_ | refine dD (wI fs f x a ha) ?_ | refine dD (hZ fs f _) ?_ | refine dD (gJ fs f _ _) ?_ | refine dD (iU _ _ _) ?_ | refine dD (pA _) ?_) | (refine c7 ?_;refine WC ?_) | refine KV ?_) | refine GA ?_ | refine GG ?_ | (refine cJ (fun hb=>?_) (fun hb=>?_) <;> try rw [hb]) | ((with_reducible refine kf ?_);refine aP 0 Tryz.results48 rfl rfl rfl ?_) | refine GR ?_ | ((with_reducible refine kr ?_);refine aG rfl ?_) | fail)
 all_goals first | (refine dG ?_;show bv _=bv _;(try dsimp only [kI,m6,bare,List.length_map] at *);first | (simp only [*,b2,b3,b4,cond_true,cond_false,b5,b6,b7,b8,c1,c2,b9,c0];done) | (simp_all only [b2,b3,b4,cond_true,cond_false,b5,b6,b7,b8,c1,c2,b9,c0];done) | (simp_all [b2,b3,b4,cond_true,cond_false,b5,b6,b7,b8,c1,c2,b9,c0];done)) | (exfalso;have h1:=oF ‹decide (x.op≠1)=false›;have h2:=oF ‹decide (x.op=1)=false›;exact h1 h2) | skip
 refine cF [3,4,7,9] rfl ?_
 refine i2 (n:=_) (fun n e σ=>∃ (i:Nat) (m:Int),n=x.l.length - i + 1∧(m=i∧i≤x.l.length∧fN i (fun i=>kF f (aC x.l (i:Int)))=true)∧e=[(3,_),(4,_),(7,_),(9,iv m)]∧σ=_) ⟨0,0,rfl,⟨rfl,Nat.zero_le _,rfl⟩,rfl,rfl⟩ ?_
 rintro n e σ ⟨i,m,rfl,⟨rfl,hi,hall⟩,rfl,rfl⟩
 repeat' (first | ((with_reducible refine kw ?_);first | refine Wg ?_ | refine W0 ?_ | refine W1 ?_ | refine W2 ?_ | refine W3 ?_ | refine W6 ?_ | refine W7 ?_ | refine bJ ?_ | (refine aJ ?_;first | refine tD (oN fs f _ x.l) ?_ | refine tD (lI fs f x.l) ?_ | refine tD (wI fs f x a ha) ?_ | refine tD (hZ fs f _) ?_ | refine tD (gJ fs f _ _) ?_ | refine tD (iU _ _ _) ?_ | refine tD (pA _) ?_) | refine eT ?_ | refine gQ ?_ | refine gZ ?_ | refine cW ?_ | refine eV ?_) | refine GX ?_ | (refine bW (fun hb=>?_) (fun hb=>?_) <;> rw [hb]) | refine GN ?_ | ((with_reducible refine kd ?_);first | refine D0 ?_ | refine D1 ?_ | refine D2 ?_ | refine D3 ?_ | (refine bM ?_;first | refine dD (oN fs f _ x.l) ?_ | refine dD (lI fs f x.l) ?_ | refine dD (wI fs f x a ha) ?_ | refine dD (hZ fs f _) ?_ | refine dD (gJ fs f _ _) ?_ | refine dD (iU _ _ _) ?_ | refine dD (pA _) ?_) | (refine c7 ?_;refine WC ?_) | refine KV ?_) | refine GA ?_ | refine GG ?_ | (refine cJ (fun hb=>?_) (fun hb=>?_) <;> try rw [hb]) | ((with_reducible refine kf ?_);refine aP 0 Tryz.results48 rfl rfl rfl ?_) | refine GR ?_ | ((with_reducible refine kr ?_);refine aG rfl ?_) | fail)
 all_goals first
  | (have hlt:=oT ‹decide ((i:Int) < (x.l.length:Int))=true›;have hs:=eD (n:=x.l.length) (p:=(fun i=>kF f (aC x.l (i:Int)))) (i:=i) aI (by simpa using ‹(!kF f (aC x.l (i:Int)))=true›);(refine dG ?_;show bv _=bv _;(try dsimp only [kI,m6,bare,rI,List.length_map] at *);first | (simp only [*,b2,b3,b4,cond_true,cond_false,b5,b6,b7,b8,c1,c2,b9,c0];done) | (simp_all only [b2,b3,b4,cond_true,cond_false,b5,b6,b7,b8,c1,c2,b9,c0];done) | (simp_all [b2,b3,b4,cond_true,cond_false,b5,b6,b7,b8,c1,c2,b9,c0];done)))
  | (have hlt:=oT ‹decide ((i:Int) < (x.l.length:Int))=true›;have hs:=fH (p:=(fun i=>kF f (aC x.l (i:Int)))) (i:=i) hall (by simpa using ‹(!kF f (aC x.l (i:Int)))=false›);refine ⟨_,_,?_,aW.pick_get _ [3,4,7,9],i + 1,_,rfl,⟨aL aI aI,by omega,hs⟩,rfl,rfl⟩;omega)
  | (have hge:=oF ‹decide ((i:Int) < (x.l.length:Int))=false›;have hs:=gC (n:=x.l.length) aI hi hall;(refine dG ?_;show bv _=bv _;(try dsimp only [kI,m6,bare,rI,List.length_map] at *);first | (simp only [*,b2,b3,b4,cond_true,cond_false,b5,b6,b7,b8,c1,c2,b9,c0];done) | (simp_all only [b2,b3,b4,cond_true,cond_false,b5,b6,b7,b8,c1,c2,b9,c0];done) | (simp_all [b2,b3,b4,cond_true,cond_false,b5,b6,b7,b8,c1,c2,b9,c0];done)))
end Go.Ab
