import Derived.Test.YtdeikigmgdnojaaGreatDoorT26
import Derived.Test.YtdeikigmgdnojaaGreatDoorT17
/- A part of the proof of one law. -/
set_option maxRecDepth 100000
set_option maxHeartbeats 8000000
set_option linter.unusedVariables false
set_option linter.unusedSimpArgs false
namespace Go.Ab
open Go Go.Ab.Tryz Go.Proofs
def zQ (f:Fc):Bool:=!jD f.name || (decide (f.params < 0) || (decide (f.params > 5) || (decide (f.slots < f.params) || (decide (f.slots > 200) || (decide ((f.code.length:Int) < 1) || (decide ((f.code.length:Int) > 4000) || (decide ((f.guards.length:Int) > 400) || !vH (aC f.code (iA ((f.code.length:Int) - 1))).op)))))))
def CK (fs:List Fc) (i j:Nat):Bool:=!decide ((aC fs (j:Int)).name=(aC fs (i:Int)).name)
def vZ (fs:List Fc) (i:Nat):Bool:=!zQ (aC fs (i:Int)) && fN i (CK fs i)
def G5 (f:Fc) (g:Gd):Bool:=decide (g.fr≥g.to) || (!kF f g.fr || (decide (g.to > (f.code.length:Int)) || (!kF f g.at' || !fG f g.slot 2)))
def JC (fs:List Fc) (f:Fc) (p:Nat):Bool:=kI fs f (aC f.code (p:Int)) p
def RJ (f:Fc) (p:Nat):Bool:=!G5 f (aC f.guards (p:Int))
def yI (fs:List Fc) (i:Nat):Bool:=fN (aC fs (i:Int)).code.length (JC fs (aC fs (i:Int))) && fN (aC fs (i:Int)).guards.length (RJ (aC fs (i:Int)))
def fX (fs:List Fc):Bool:=bif decide ((fs.length:Int) < 1) || decide ((fs.length:Int) > 16) then false else fN fs.length (vZ fs) && fN fs.length (yI fs)
theorem xM {c:List Fc} (h:EQ (.lst (c.map Fc.enc))) {i:Nat} (hi:i < c.length):((aC c (i:Int)).code.length:Int)≤140737488355328∧((aC c (i:Int)).guards.length:Int)≤140737488355328:=by
 have h1:=(rG h).2 (Fc.enc (aC c (i:Int))) (List.mem_map.2 ⟨_,by rw [bK hi];exact List.getElem_mem hi,rfl⟩)
 have h2:=dK (h1 (ld ((aC c (i:Int)).code.map In.enc)) eS)
 have h3:=dK (h1 (ld ((aC c (i:Int)).guards.map Gd.enc)) eS)
 simp only [List.length_map] at h2 h3
 exact ⟨h2,h3⟩
theorem oP (fs:List Fc):bY Tryz.prog 16 [.agg [lv (fs.map Fc.enc)]] (bv (fX fs)):=by
 refine aB.assume rfl fun hok _=>?_
 have hokd:=hok (.agg [lv (fs.map Fc.enc)]) eS (.lst (fs.map Fc.enc)) eS
 have hlen:=dK hokd
 simp only [List.length_map] at hlen
 refine of_body Tryz.func16 rfl rfl (nB rfl) ?_
 rw [Tryz.ntmps16]
 repeat' (first | ((with_reducible refine kw ?_);first | refine Wg ?_ | refine W0 ?_ | refine W1 ?_ | refine W2 ?_ | refine W3 ?_ | refine W6 ?_ | refine bJ ?_ | (refine aJ ?_;first | refine tD (mS (aC fs (i:Int)).name) ?_ | refine tD (oO _) ?_ | refine tD (hZ fs (aC fs (i:Int)) _) ?_ | refine tD (gJ fs (aC fs (i:Int)) _ _) ?_) | (refine fO ?_;refine SG ?_) | (refine aE ?_;refine KX ?_) | refine eT ?_ | refine gQ ?_ | refine gZ ?_ | refine cW ?_ | refine dH ?_) | refine GX ?_ | (refine bW (fun hb=>?_) (fun hb=>?_) <;> rw [hb]) | refine GN ?_ | ((with_reducible refine kd ?_);first | refine D0 ?_ | refine D1 ?_ | refine D2 ?_ | refine D3 ?_ | refine D6 ?_ | (refine bM ?_;refine eM [] rfl rfl rfl rfl (fun σ2 _=>bY.at (mT fs (aC fs (i:Int)) (aC (aC fs (i:Int)).code (j:Int)) j aI) rfl rfl ⟨rfl,rfl⟩) rfl ?_) | (refine c7 ?_;refine SF ?_) | (refine aV ?_;refine QX ?_) | refine KV ?_ | refine pZ ?_ | refine sU ?_) | refine GA ?_ | refine GG ?_ | (refine cJ (fun hb=>?_) (fun hb=>?_) <;> try rw [hb]) | ((with_reducible refine kf ?_);refine aP 0 Tryz.results16 rfl rfl rfl ?_) | refine GR ?_ | ((with_reducible refine kr ?_);refine aG rfl ?_) | fail)
 all_goals first | (refine dG ?_;show bv _=bv _;simp only [fX, *,b2,b3,b4,cond_true,cond_false,b5,b6,b7,b8,c1,c2,b9,c0];done) | skip
 have hn1:(decide ((fs.length:Int) < 1) || decide ((fs.length:Int) > 16))=false:=(by simp only [*,b2,b3,b4,cond_true,cond_false,b5,b6,b7,b8,c1,c2,b9,c0])
 refine cF [1,3] rfl ?_
 refine fS 1 (n:=_) (fun n e σ=>∃ (i:Nat) (m:Int),n=fs.length - i + 1∧(m=i∧i≤fs.length∧fN i (vZ fs)=true)∧e=[(1,_),(3,iv m)]∧σ=_) rfl ⟨0,0,rfl,⟨rfl,Nat.zero_le _,rfl⟩,rfl,rfl⟩ ?_
 rintro n e σ ⟨i,m,rfl,⟨rfl,hi,hall⟩,rfl,rfl⟩
 have hlc:(i:Int) < fs.length→((aC fs (i:Int)).code.length:Int)≤140737488355328∧((aC fs (i:Int)).guards.length:Int)≤140737488355328:=fun h=>xM hokd aI
 have hw1:(i:Int) < fs.length→IntKind.i64.wrap (((aC fs (i:Int)).code.length:Int) - 1)=((aC fs (i:Int)).code.length:Int) - 1:=fun h=>wl _ (hlc h).1
 repeat' (first | ((with_reducible refine kw ?_);first | refine Wg ?_ | refine W0 ?_ | refine W1 ?_ | refine W2 ?_ | refine W3 ?_ | refine W6 ?_ | refine bJ ?_ | (refine aJ ?_;first | refine tD (mS (aC fs (i:Int)).name) ?_ | refine tD (oO _) ?_ | refine tD (hZ fs (aC fs (i:Int)) _) ?_ | refine tD (gJ fs (aC fs (i:Int)) _ _) ?_) | (refine fO ?_;refine SG ?_) | (refine aE ?_;refine KX ?_) | refine eT ?_ | refine gQ ?_ | refine gZ ?_ | refine cW ?_ | refine dH ?_) | refine GX ?_ | (refine bW (fun hb=>?_) (fun hb=>?_) <;> rw [hb]) | refine GN ?_ | ((with_reducible refine kd ?_);first | refine D0 ?_ | refine D1 ?_ | refine D2 ?_ | refine D3 ?_ | refine D6 ?_ | (refine bM ?_;refine eM [] rfl rfl rfl rfl (fun σ2 _=>bY.at (mT fs (aC fs (i:Int)) (aC (aC fs (i:Int)).code (j:Int)) j aI) rfl rfl ⟨rfl,rfl⟩) rfl ?_) | (refine c7 ?_;refine SF ?_) | (refine aV ?_;refine QX ?_) | refine KV ?_ | refine pZ ?_ | refine sU ?_) | refine GA ?_ | refine GG ?_ | (refine cJ (fun hb=>?_) (fun hb=>?_) <;> try rw [hb]) | ((with_reducible refine kf ?_);refine aP 0 Tryz.results16 rfl rfl rfl ?_) | refine GR ?_ | ((with_reducible refine kr ?_);refine aG rfl ?_) | fail)
 all_goals first
  | (have hlt:=oT ‹decide ((i:Int) < (fs.length:Int))=true›;have hs:=eD (n:=fs.length) (p:=vZ fs) (i:=i) aI (by clear hw1;simp only [vZ,zQ, *,b2,b3,b4,cond_true,cond_false,b5,b6,b7,b8,c1,c2,b9,c0]);refine dG ?_;show bv _=bv _;simp only [fX,hn1,hs,b8,cond_false])
  | skip
 ·have hH:zQ (aC fs (i:Int))=false:=(by clear hw1;simp only [zQ, *,b2,b3,b4,cond_true,cond_false,b5,b6,b7,b8,c1,c2,b9,c0])
  have hlt:=oT ‹decide ((i:Int) < (fs.length:Int))=true›
  refine cF [1,3,4,5] rfl ?_
  refine fS 2 (n:=_) (fun n e σ=>∃ (j:Nat) (m:Int),n=i - j + 1∧(m=j∧j≤i∧fN j (CK fs i)=true)∧e=[(1,_),(3,_),(4,_),(5,iv m)]∧σ=_) rfl ⟨0,0,rfl,⟨rfl,Nat.zero_le _,rfl⟩,rfl,rfl⟩ ?_
  rintro n e σ ⟨j,m,rfl,⟨rfl,hj,hjall⟩,rfl,rfl⟩
  repeat' (first | ((with_reducible refine kw ?_);first | refine Wg ?_ | refine W0 ?_ | refine W1 ?_ | refine W2 ?_ | refine W3 ?_ | refine W6 ?_ | refine bJ ?_ | (refine aJ ?_;first | refine tD (mS (aC fs (i:Int)).name) ?_ | refine tD (oO _) ?_ | refine tD (hZ fs (aC fs (i:Int)) _) ?_ | refine tD (gJ fs (aC fs (i:Int)) _ _) ?_) | (refine fO ?_;refine SG ?_) | (refine aE ?_;refine KX ?_) | refine eT ?_ | refine gQ ?_ | refine gZ ?_ | refine cW ?_ | refine dH ?_) | refine GX ?_ | (refine bW (fun hb=>?_) (fun hb=>?_) <;> rw [hb]) | refine GN ?_ | ((with_reducible refine kd ?_);first | refine D0 ?_ | refine D1 ?_ | refine D2 ?_ | refine D3 ?_ | refine D6 ?_ | (refine bM ?_;refine eM [] rfl rfl rfl rfl (fun σ2 _=>bY.at (mT fs (aC fs (i:Int)) (aC (aC fs (i:Int)).code (j:Int)) j aI) rfl rfl ⟨rfl,rfl⟩) rfl ?_) | (refine c7 ?_;refine SF ?_) | (refine aV ?_;refine QX ?_) | refine KV ?_ | refine pZ ?_ | refine sU ?_) | refine GA ?_ | refine GG ?_ | (refine cJ (fun hb=>?_) (fun hb=>?_) <;> try rw [hb]) | ((with_reducible refine kf ?_);refine aP 0 Tryz.results16 rfl rfl rfl ?_) | refine GR ?_ | ((with_reducible refine kr ?_);refine aG rfl ?_) | fail)
  all_goals first
   | (have hlj:=oT ‹decide ((j:Int) < (i:Int))=true›;have hs0:=eD (n:=i) (p:=CK fs i) (i:=j) aI ZN;have hlt:=oT ‹decide ((i:Int) < (fs.length:Int))=true›;have hs:=eD (n:=fs.length) (p:=vZ fs) (i:=i) aI (by simp only [vZ,hs0,b2,b3,b4,cond_true,cond_false,b5,b6,b7,b8,c1,c2,b9,c0]);refine dG ?_;show bv _=bv _;simp only [fX,hn1,hs,b8,cond_false])
   | (have hlj:=oT ‹decide ((j:Int) < (i:Int))=true›;have hs:=fH (p:=CK fs i) (i:=j) hjall ZN;refine ⟨_,_,?_,aW.pick_get _ [1,3,4,5],⟨rfl,rfl⟩,j + 1,_,rfl,⟨aL aI aI,by omega,hs⟩,rfl,rfl⟩;omega)
   | (have hgj:=oF ‹decide ((j:Int) < (i:Int))=false›;have hs0:=gC (n:=i) aI hj hjall;have hs:=fH (p:=vZ fs) (i:=i) hall (by simp only [vZ,hH,hs0,b2,b3,b4,cond_true,cond_false,b5,b6,b7,b8,c1,c2,b9,c0]);refine ⟨_,_,?_,aW.pick_get _ [1,3],⟨rfl,rfl⟩,i + 1,_,rfl,⟨aL aI aI,by omega,hs⟩,rfl,rfl⟩;omega)
 have hge:=oF ‹decide ((i:Int) < (fs.length:Int))=false›
 have hfst:=gC (n:=fs.length) aI hi hall
 clear hlc hw1 hall hb
 refine cF [1,6] rfl ?_
 refine fS 1 (n:=_) (fun n e σ=>∃ (i:Nat) (m:Int),n=fs.length - i + 1∧(m=i∧i≤fs.length∧fN i (yI fs)=true)∧e=[(1,_),(6,iv m)]∧σ=_) rfl ⟨0,0,rfl,⟨rfl,Nat.zero_le _,rfl⟩,rfl,rfl⟩ ?_
 rintro n e σ ⟨i,m,rfl,⟨rfl,hi,hall⟩,rfl,rfl⟩
 have hlc:(i:Int) < fs.length→((aC fs (i:Int)).code.length:Int)≤140737488355328∧((aC fs (i:Int)).guards.length:Int)≤140737488355328:=fun h=>xM hokd aI
 have hw1:(i:Int) < fs.length→IntKind.i64.wrap (((aC fs (i:Int)).code.length:Int) - 1)=((aC fs (i:Int)).code.length:Int) - 1:=fun h=>wl _ (hlc h).1
 repeat' (first | ((with_reducible refine kw ?_);first | refine Wg ?_ | refine W0 ?_ | refine W1 ?_ | refine W2 ?_ | refine W3 ?_ | refine W6 ?_ | refine bJ ?_ | (refine aJ ?_;first | refine tD (mS (aC fs (i:Int)).name) ?_ | refine tD (oO _) ?_ | refine tD (hZ fs (aC fs (i:Int)) _) ?_ | refine tD (gJ fs (aC fs (i:Int)) _ _) ?_) | (refine fO ?_;refine SG ?_) | (refine aE ?_;refine KX ?_) | refine eT ?_ | refine gQ ?_ | refine gZ ?_ | refine cW ?_ | refine dH ?_) | refine GX ?_ | (refine bW (fun hb=>?_) (fun hb=>?_) <;> rw [hb]) | refine GN ?_ | ((with_reducible refine kd ?_);first | refine D0 ?_ | refine D1 ?_ | refine D2 ?_ | refine D3 ?_ | refine D6 ?_ | (refine bM ?_;refine eM [] rfl rfl rfl rfl (fun σ2 _=>bY.at (mT fs (aC fs (i:Int)) (aC (aC fs (i:Int)).code (j:Int)) j aI) rfl rfl ⟨rfl,rfl⟩) rfl ?_) | (refine c7 ?_;refine SF ?_) | (refine aV ?_;refine QX ?_) | refine KV ?_ | refine pZ ?_ | refine sU ?_) | refine GA ?_ | refine GG ?_ | (refine cJ (fun hb=>?_) (fun hb=>?_) <;> try rw [hb]) | ((with_reducible refine kf ?_);refine aP 0 Tryz.results16 rfl rfl rfl ?_) | refine GR ?_ | ((with_reducible refine kr ?_);refine aG rfl ?_) | fail)
 rotate_left
 ·have hge:=oF ‹decide ((i:Int) < (fs.length:Int))=false›
  have hs:=gC (n:=fs.length) aI hi hall
  refine dG ?_;show bv _=bv _;simp only [fX,hn1,hfst,hs,cond_false,Bool.and_self]
 have hlt:=oT ‹decide ((i:Int) < (fs.length:Int))=true›
 obtain ⟨hl1,hl2⟩:=hlc hlt
 refine cF [1,6,7,8] rfl ?_
 refine fS 2 (n:=_) (fun n e σ=>∃ (j:Nat) (m:Int),n=(aC fs (i:Int)).code.length - j + 1∧(m=j∧j≤(aC fs (i:Int)).code.length∧fN j (JC fs (aC fs (i:Int)))=true)∧e=[(1,_),(6,_),(7,_),(8,iv m)]∧σ=_) rfl ⟨0,0,rfl,⟨rfl,Nat.zero_le _,rfl⟩,rfl,rfl⟩ ?_
 rintro n e σ ⟨j,m,rfl,⟨rfl,hj,hjall⟩,rfl,rfl⟩
 repeat' (first | ((with_reducible refine kw ?_);first | refine Wg ?_ | refine W0 ?_ | refine W1 ?_ | refine W2 ?_ | refine W3 ?_ | refine W6 ?_ | refine bJ ?_ | (refine aJ ?_;first | refine tD (mS (aC fs (i:Int)).name) ?_ | refine tD (oO _) ?_ | refine tD (hZ fs (aC fs (i:Int)) _) ?_ | refine tD (gJ fs (aC fs (i:Int)) _ _) ?_) | (refine fO ?_;refine SG ?_) | (refine aE ?_;refine KX ?_) | refine eT ?_ | refine gQ ?_ | refine gZ ?_ | refine cW ?_ | refine dH ?_) | refine GX ?_ | (refine bW (fun hb=>?_) (fun hb=>?_) <;> rw [hb]) | refine GN ?_ | ((with_reducible refine kd ?_);first | refine D0 ?_ | refine D1 ?_ | refine D2 ?_ | refine D3 ?_ | refine D6 ?_ | (refine bM ?_;refine eM [] rfl rfl rfl rfl (fun σ2 _=>bY.at (mT fs (aC fs (i:Int)) (aC (aC fs (i:Int)).code (j:Int)) j aI) rfl rfl ⟨rfl,rfl⟩) rfl ?_) | (refine c7 ?_;refine SF ?_) | (refine aV ?_;refine QX ?_) | refine KV ?_ | refine pZ ?_ | refine sU ?_) | refine GA ?_ | refine GG ?_ | (refine cJ (fun hb=>?_) (fun hb=>?_) <;> try rw [hb]) | ((with_reducible refine kf ?_);refine aP 0 Tryz.results16 rfl rfl rfl ?_) | refine GR ?_ | ((with_reducible refine kr ?_);refine aG rfl ?_) | fail)
 all_goals first
  | (have hlj:=oT ‹decide ((j:Int) < ((aC fs (i:Int)).code.length:Int))=true›;have hs0:=eD (n:=(aC fs (i:Int)).code.length) (p:=JC fs (aC fs (i:Int))) (i:=j) aI (by unfold JC;simpa using ‹(!kI fs (aC fs (i:Int)) (aC (aC fs (i:Int)).code (j:Int)) j)=true›);have hlt:=oT ‹decide ((i:Int) < (fs.length:Int))=true›;have hs:=eD (n:=fs.length) (p:=yI fs) (i:=i) aI ZM;refine dG ?_;show bv _=bv _;simp only [fX,hn1,hs,b7,cond_false])
  | (have hlj:=oT ‹decide ((j:Int) < ((aC fs (i:Int)).code.length:Int))=true›;have hs:=fH (p:=JC fs (aC fs (i:Int))) (i:=j) hjall (by unfold JC;simpa using ‹(!kI fs (aC fs (i:Int)) (aC (aC fs (i:Int)).code (j:Int)) j)=false›);refine ⟨_,_,?_,aW.pick_get _ [1,6,7,8],⟨rfl,rfl⟩,j + 1,_,rfl,⟨aL aI aI,by omega,hs⟩,rfl,rfl⟩;omega)
  | skip
 have hgj:=oF ‹decide ((j:Int) < ((aC fs (i:Int)).code.length:Int))=false›
 have hins:=gC (n:=(aC fs (i:Int)).code.length) aI hj hjall
 clear hj hjall hb hgj
 refine cF [1,6,7,9] rfl ?_
 refine fS 2 (n:=_) (fun n e σ=>∃ (j:Nat) (m:Int),n=(aC fs (i:Int)).guards.length - j + 1∧(m=j∧j≤(aC fs (i:Int)).guards.length∧fN j (RJ (aC fs (i:Int)))=true)∧e=[(1,_),(6,_),(7,_),(9,iv m)]∧σ=_) rfl ⟨0,0,rfl,⟨rfl,Nat.zero_le _,rfl⟩,rfl,rfl⟩ ?_
 rintro n e σ ⟨j,m,rfl,⟨rfl,hj,hjall⟩,rfl,rfl⟩
 repeat' (first | ((with_reducible refine kw ?_);first | refine Wg ?_ | refine W0 ?_ | refine W1 ?_ | refine W2 ?_ | refine W3 ?_ | refine W6 ?_ | refine bJ ?_ | (refine aJ ?_;first | refine tD (mS (aC fs (i:Int)).name) ?_ | refine tD (oO _) ?_ | refine tD (hZ fs (aC fs (i:Int)) _) ?_ | refine tD (gJ fs (aC fs (i:Int)) _ _) ?_) | (refine fO ?_;refine SG ?_) | (refine aE ?_;refine KX ?_) | refine eT ?_ | refine gQ ?_ | refine gZ ?_ | refine cW ?_ | refine dH ?_) | refine GX ?_ | (refine bW (fun hb=>?_) (fun hb=>?_) <;> rw [hb]) | refine GN ?_ | ((with_reducible refine kd ?_);first | refine D0 ?_ | refine D1 ?_ | refine D2 ?_ | refine D3 ?_ | refine D6 ?_ | (refine bM ?_;refine eM [] rfl rfl rfl rfl (fun σ2 _=>bY.at (mT fs (aC fs (i:Int)) (aC (aC fs (i:Int)).code (j:Int)) j aI) rfl rfl ⟨rfl,rfl⟩) rfl ?_) | (refine c7 ?_;refine SF ?_) | (refine aV ?_;refine QX ?_) | refine KV ?_ | refine pZ ?_ | refine sU ?_) | refine GA ?_ | refine GG ?_ | (refine cJ (fun hb=>?_) (fun hb=>?_) <;> try rw [hb]) | ((with_reducible refine kf ?_);refine aP 0 Tryz.results16 rfl rfl rfl ?_) | refine GR ?_ | ((with_reducible refine kr ?_);refine aG rfl ?_) | fail)
 all_goals first
  | (have hlj:=oT ‹decide ((j:Int) < ((aC fs (i:Int)).guards.length:Int))=true›;have hs0:=eD (n:=(aC fs (i:Int)).guards.length) (p:=RJ (aC fs (i:Int))) (i:=j) aI ZK;have hlt:=oT ‹decide ((i:Int) < (fs.length:Int))=true›;have hs:=eD (n:=fs.length) (p:=yI fs) (i:=i) aI ZM;refine dG ?_;show bv _=bv _;simp only [fX,hn1,hs,b7,cond_false])
  | (have hlj:=oT ‹decide ((j:Int) < ((aC fs (i:Int)).guards.length:Int))=true›;have hs:=fH (p:=RJ (aC fs (i:Int))) (i:=j) hjall ZK;refine ⟨_,_,?_,aW.pick_get _ [1,6,7,9],⟨rfl,rfl⟩,j + 1,_,rfl,⟨aL aI aI,by omega,hs⟩,rfl,rfl⟩;omega)
  | (have hgj:=oF ‹decide ((j:Int) < ((aC fs (i:Int)).guards.length:Int))=false›;have hs0:=gC (n:=(aC fs (i:Int)).guards.length) aI hj hjall;have hs:=fH (p:=yI fs) (i:=i) hall (by simp only [yI,hins,hs0,Bool.and_self]);refine ⟨_,_,?_,aW.pick_get _ [1,6],⟨rfl,rfl⟩,i + 1,_,rfl,⟨aL aI aI,by omega,hs⟩,rfl,rfl⟩;omega)
end Go.Ab
