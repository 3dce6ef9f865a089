import Derived.Test.YtdeikigmgdnojaaGreatDoorT41
import Derived.Test.YtdeikigmgdnojaaGreatDoorT34
import Derived.Test.YtdeikigmgdnojaaGreatDoorT32
/- A part of the proof of one law. -/
set_option maxRecDepth 100000
set_option maxHeartbeats 8000000
set_option linter.unusedVariables false
set_option linter.unusedSimpArgs false
namespace Go.Ab
open Go Go.Ab.Tryz Go.Proofs
def e7 (vs:List Va):List UInt8:=vs.flatMap fun v=>32::(hI v).data.toList
def p0 (t:Fm):List UInt8:=Lib.itoa t.fn++32::(Lib.itoa t.pc++32::Lib.itoa t.to)
def l1 (t:Fm):List UInt8:=p0 t++e7 t.slots++[10]
def e5 (fs:List Fm):List UInt8:=fs.flatMap l1
def i64 (n:Int):Prop:=-9223372036854775808≤n∧n≤9223372036854775807
structure s1 (t:Fm):Prop where
 slots:t.slots.length≤300
 fn:i64 t.fn
 pc:i64 t.pc
 tt:i64 t.to
theorem aBo (t:ByteArray) (h:t.size≤60):(HE t).size≤122:=by
 rw [p4]
 show (t1 t.data.toList).toArray.size≤122
 rw [List.size_toArray,← t0,List.length_append]
 have:=k7 t t.size
 simp only [List.length_cons,List.length_nil]
 omega
theorem aCQ {v:Va} (h:c6 v=true):i64 v.n:=by
 obtain ⟨k,n,s⟩:=v
 unfold c6 cQ at h
 unfold i64
 simp only at h ⊢
 split at h
 ·simp at h;omega
 ·split at h
  ·simp at h;omega
  ·split at h
   ·simp at h;omega
   ·split at h
    ·simp at h;omega
    ·simp at h;omega
theorem x1 {v:Va} (h:c6 v=true):(hI v).size≤130:=by
 have hn:=aCQ h
 have hl:=a1 v.n hn.1 hn.2
 unfold hI
 split
 ·show 4≤130;omega
 ·split
  ·omega
  ·split
   ·unfold e0;cases decide (v.n=1) <;> decide
   ·split
    ·rename_i h3
     have h60:v.s.size≤60:=by
      unfold c6 cQ at h
      rw [h3] at h
      simp [bP] at h
      exact h.2.2
     have:=aBo v.s h60
     omega
    ·rw [ByteArray.size_append,ByteArray.size_append]
     have h1:hC.size=1:=rfl
     have h2:∀ b:Bool,(if v.k=4 then l2 else if v.k=5 then m0 else l3).size≤4:=fun _=>by
      split
      ·decide
      ·split <;> decide
     have:=h2 true
     omega
theorem f4 {α:Type} [Inhabited α] {l:List α} {i:Nat} (h:i < l.length):aC l (i:Int) ∈ l:=by rw [bK h];exact List.getElem_mem h
theorem x2 {l:List Va} {k:Nat} (h:k < l.length):e7 (l.take (k + 1))=e7 (l.take k)++32::(hI (aC l (k:Int))).data.toList:=by
 rw [gL h];simp [e7,List.flatMap_append]
theorem n1 {l:List Fm} {k:Nat} (h:k < l.length):e5 (l.take (k + 1))=e5 (l.take k)++l1 (aC l (k:Int)):=by
 rw [gL h];simp [e5,List.flatMap_append]
theorem hJ:∀ (l:List Va),(∀ v ∈ l,c6 v=true)→(e7 l).length≤131 * l.length
 | [],_=>by simp [e7]
 | v::l,h=>by
  have h1:=hJ l (fun x hx=>h x (List.mem_cons_of_mem _ hx))
  have h2:=x1 (h v List.mem_cons_self)
  have h3:=d3 (hI v)
  simp only [e7,List.flatMap_cons,List.length_append,List.length_cons] at h1 ⊢
  omega
theorem p1 {t:Fm} (h:s1 t):(p0 t).length≤62:=by
 have h1:=g0 t.fn h.fn.1 h.fn.2
 have h2:=g0 t.pc h.pc.1 h.pc.2
 have h3:=g0 t.to h.tt.1 h.tt.2
 simp only [p0,List.length_append,List.length_cons]
 omega
theorem p3 {t:Fm} (h:s1 t) (hv:∀ v ∈ t.slots,c6 v=true):(l1 t).length≤40000:=by
 have h1:=p1 h
 have h2:=hJ t.slots hv
 have h3:=h.slots
 simp only [l1,List.length_append,List.length_cons,List.length_nil]
 omega
theorem hE:∀ (l:List Fm),(∀ t ∈ l,s1 t)→(∀ t ∈ l,∀ v ∈ t.slots,c6 v=true)→(e5 l).length≤40000 * l.length
 | [],_,_=>by simp [e5]
 | t::l,h,hv=>by
  have h1:=hE l (fun x hx=>h x (List.mem_cons_of_mem _ hx)) (fun x hx=>hv x (List.mem_cons_of_mem _ hx))
  have h2:=p3 (h t List.mem_cons_self) (hv t List.mem_cons_self)
  simp only [e5,List.flatMap_cons,List.length_append,List.length_cons] at h1 ⊢
  omega
theorem f5 (a c:ByteArray):(a++c).data.toList=a.data.toList++c.data.toList:=by rw [ByteArray.data_append,Array.toList_append]
theorem k8 (n:Int):(a0 n).data.toList=Lib.itoa n:=rfl
theorem aC8 (l:List UInt8):(⟨l.toArray⟩:ByteArray).data.toList=l:=rfl
theorem aBR {s:ByteArray} {l:List UInt8} (h:s.data.toList=l):s=⟨l.toArray⟩:=ByteArray.ext (by rw [← Array.toList_inj,h])
def aCJ (fs:List Fm):ByteArray:=⟨(e5 fs).toArray⟩
theorem aB4 (fs:List Fm) (hl:fs.length≤25) (hf:∀ t ∈ fs,s1 t) (hv:∀ t ∈ fs,∀ v ∈ t.slots,c6 v=true):bY Tryz.prog 38 [lv (fs.map Fm.enc)] (sv (aCJ fs)):=by
 have hsp:(⟨#[32]⟩:ByteArray).size=1:=rfl
 have hnl:(⟨#[10]⟩:ByteArray).size=1:=rfl
 refine of_body Tryz.func38 rfl rfl (nB rfl) ?_
 rw [Tryz.ntmps38]
 repeat' (first | ((with_reducible refine kw ?_);first | refine W0 ?_ | refine W1 ?_ | refine W2 ?_ | refine W3 ?_ | (refine EK ?_;refine cK (VB rfl rfl (by first | (simp only [ByteArray.size_append];omega) | (have h9:=hk1 (by have:=(oT ‹decide ((k:Int) < ((aC fs (i:Int)).slots.length:Int))=true›);omega);simp only [ByteArray.size_append];omega) | omega)) rfl rfl ?_) | refine W6 ?_ | refine WK ?_ | refine bJ ?_ | (refine fO ?_;first | refine cK (aF (el rfl) rfl rfl aI (oT ‹decide ((i:Int) < (fs.length:Int))=true›) ⟨rfl,by decide⟩) rfl rfl ?_ | refine cK (aF (el rfl) rfl rfl aI hlt ⟨rfl,by decide⟩) rfl rfl ?_ | refine cK (aF (el rfl) rfl rfl aI (oT ‹decide ((k:Int) < ((aC fs (i:Int)).slots.length:Int))=true›) ⟨rfl,by decide⟩) rfl rfl ?_) | refine wR ?_ | refine W14 ?_ | refine W15 ?_ | refine gZ ?_ | refine W23 ?_ | refine W24 ?_ | refine W25 ?_) | refine GN ?_ | ((with_reducible refine kd ?_);first | refine D0 ?_ | refine D1 ?_ | refine D2 ?_ | refine D3 ?_ | (refine TN ?_;refine IX (VB rfl rfl (by first | (simp only [ByteArray.size_append];omega) | (have h9:=hk1 (by have:=(oT ‹decide ((k:Int) < ((aC fs (i:Int)).slots.length:Int))=true›);omega);simp only [ByteArray.size_append];omega) | omega)) rfl rfl rfl ?_) | refine D6 ?_ | refine sO ?_ | refine iY ?_ | (refine c7 ?_;first | refine dC (aF (el rfl) rfl rfl aI (oT ‹decide ((i:Int) < (fs.length:Int))=true›) ⟨rfl,by decide⟩) rfl rfl rfl rfl ?_ | refine dC (aF (el rfl) rfl rfl aI hlt ⟨rfl,by decide⟩) rfl rfl rfl rfl ?_ | refine dC (aF (el rfl) rfl rfl aI (oT ‹decide ((k:Int) < ((aC fs (i:Int)).slots.length:Int))=true›) ⟨rfl,by decide⟩) rfl rfl rfl rfl ?_) | refine YZ ?_ | refine D14 ?_ | refine D15 ?_) | refine GA ?_ | refine GG ?_ | (refine cJ (fun hb=>?_) (fun hb=>?_) <;> try rw [hb]) | ((with_reducible refine kf ?_);refine aP 0 Tryz.results38 rfl rfl rfl ?_) | refine GR ?_ | ((with_reducible refine kr ?_);refine aG rfl ?_) | refine GO ?_ ?_ | exact GB | fail)
 refine cF [0,3,4] rfl ?_
 refine i2 (n:=_) (fun n e σ=>∃ (i:Nat) (m:Int) (s:ByteArray),n=fs.length - i∧(m=i∧i≤fs.length∧s.data.toList=e5 (fs.take i))∧e=[(0,_),(3,sv s),(4,iv m)]∧σ=_) ⟨0,0,_,rfl,⟨rfl,Nat.zero_le _,rfl⟩,rfl,rfl⟩ ?_
 rintro n e σ ⟨i,m,s,rfl,⟨rfl,hi,hs⟩,rfl,rfl⟩
 have hs1:s.size≤1000000:=by
  have h1:=hE (fs.take i) (fun t ht=>hf t (List.mem_of_mem_take ht)) (fun t ht=>hv t (List.mem_of_mem_take ht))
  rw [← hs,d3,List.length_take] at h1
  omega
 have hf1:i < fs.length→(a0 (aC fs (i:Int)).fn).size≤20∧(a0 (aC fs (i:Int)).pc).size≤20∧(a0 (aC fs (i:Int)).to).size≤20:=fun h=>by
  have F:=hf _ (f4 h)
  exact ⟨a1 _ F.fn.1 F.fn.2,a1 _ F.pc.1 F.pc.2,a1 _ F.tt.1 F.tt.2⟩
 repeat' (first | ((with_reducible refine kw ?_);first | refine W0 ?_ | refine W1 ?_ | refine W2 ?_ | refine W3 ?_ | (refine EK ?_;refine cK (VB rfl rfl (by have h9:=hf1 (by have:=(oT ‹decide ((i:Int) < (fs.length:Int))=true›);omega);have h8:=h9.1;have h7:=h9.2.1;have h6:=h9.2.2;first | omega | (simp only [ByteArray.size_append];omega))) rfl rfl ?_) | refine W6 ?_ | refine WK ?_ | refine bJ ?_ | (refine fO ?_;first | refine cK (aF (el rfl) rfl rfl aI (oT ‹decide ((i:Int) < (fs.length:Int))=true›) ⟨rfl,by decide⟩) rfl rfl ?_ | refine cK (aF (el rfl) rfl rfl aI hlt ⟨rfl,by decide⟩) rfl rfl ?_ | refine cK (aF (el rfl) rfl rfl aI (oT ‹decide ((k:Int) < ((aC fs (i:Int)).slots.length:Int))=true›) ⟨rfl,by decide⟩) rfl rfl ?_) | refine wR ?_ | refine W14 ?_ | refine W15 ?_ | refine gZ ?_ | refine W23 ?_ | refine W24 ?_ | refine W25 ?_) | refine GN ?_ | ((with_reducible refine kd ?_);first | refine D0 ?_ | refine D1 ?_ | refine D2 ?_ | refine D3 ?_ | (refine TN ?_;refine IX (VB rfl rfl (by have h9:=hf1 (by have:=(oT ‹decide ((i:Int) < (fs.length:Int))=true›);omega);have h8:=h9.1;have h7:=h9.2.1;have h6:=h9.2.2;first | omega | (simp only [ByteArray.size_append];omega))) rfl rfl rfl ?_) | refine D6 ?_ | refine sO ?_ | refine iY ?_ | (refine bM ?_;refine dD (eF _) ?_) | (refine c7 ?_;first | refine dC (aF (el rfl) rfl rfl aI (oT ‹decide ((i:Int) < (fs.length:Int))=true›) ⟨rfl,by decide⟩) rfl rfl rfl rfl ?_ | refine dC (aF (el rfl) rfl rfl aI hlt ⟨rfl,by decide⟩) rfl rfl rfl rfl ?_ | refine dC (aF (el rfl) rfl rfl aI (oT ‹decide ((k:Int) < ((aC fs (i:Int)).slots.length:Int))=true›) ⟨rfl,by decide⟩) rfl rfl rfl rfl ?_) | refine YZ ?_ | refine D14 ?_ | refine D15 ?_) | refine GA ?_ | refine GG ?_ | (refine cJ (fun hb=>?_) (fun hb=>?_) <;> try rw [hb]) | ((with_reducible refine kf ?_);refine aP 0 Tryz.results38 rfl rfl rfl ?_) | refine GR ?_ | ((with_reducible refine kr ?_);refine aG rfl ?_) | refine GO ?_ ?_ | exact GB | fail)
 all_goals first
  | (obtain rfl:i=fs.length:=(by have:=oF ‹decide ((i:Int) < (fs.length:Int))=false›;omega);rw [List.take_length] at hs;refine dG ?_;rw [aBR hs];rfl)
  | skip
 have hlt:=(oT ‹decide ((i:Int) < (fs.length:Int))=true›)
 have F:=hf _ (f4 (show i < fs.length by omega))
 have hv1:=hv _ (f4 (show i < fs.length by omega))
 have h3:=hf1 aI
 have h31:=h3.1
 have h32:=h3.2.1
 have h33:=h3.2.2
 refine cF [0,3,4,5] rfl ?_
 refine i2 (n:=_) (fun n e σ=>∃ (k:Nat) (mk:Int) (s2:ByteArray),n=(aC fs (i:Int)).slots.length - k∧(mk=k∧k≤(aC fs (i:Int)).slots.length∧s2.data.toList=e5 (fs.take i)++p0 (aC fs (i:Int))++e7 ((aC fs (i:Int)).slots.take k))∧e=[(0,_),(3,sv s2),(4,iv (i:Int)),(5,iv mk)]∧σ=_) ⟨0,0,_,rfl,⟨rfl,Nat.zero_le _,?_⟩,rfl,rfl⟩ ?_
 ·simp [f5,hs,k8,p0,e7]
 rintro n e σ ⟨k,mk,s2,rfl,⟨rfl,hk,hs2⟩,rfl,rfl⟩
 have hs3:s2.size≤2000000:=by
  have h1:=hE (fs.take i) (fun t ht=>hf t (List.mem_of_mem_take ht)) (fun t ht=>hv t (List.mem_of_mem_take ht))
  have h2:=p1 F
  have h3:=hJ ((aC fs (i:Int)).slots.take k) (fun v hx=>hv1 v (List.mem_of_mem_take hx))
  have h4:=F.slots
  have h5:=congrArg List.length hs2
  rw [d3,List.length_append,List.length_append] at h5
  rw [List.length_take] at h1 h3
  omega
 have hsl:=F.slots
 have hk1:k < (aC fs (i:Int)).slots.length→(hI (aC (aC fs (i:Int)).slots (k:Int))).size≤130:=fun h=>x1 (hv1 _ (f4 h))
 repeat' (first | ((with_reducible refine kw ?_);first | refine W0 ?_ | refine W1 ?_ | refine W2 ?_ | refine W3 ?_ | (refine EK ?_;refine cK (VB rfl rfl (by first | (simp only [ByteArray.size_append];omega) | (have h9:=hk1 (by have:=(oT ‹decide ((k:Int) < ((aC fs (i:Int)).slots.length:Int))=true›);omega);simp only [ByteArray.size_append];omega) | omega)) rfl rfl ?_) | refine W6 ?_ | refine WK ?_ | refine bJ ?_ | (refine aJ ?_;refine bB rfl rfl rfl rfl (bY.at (u0 (aC (aC fs (i:Int)).slots (k:Int)) (hv1 _ (f4 (by have:=(oT ‹decide ((k:Int) < ((aC fs (i:Int)).slots.length:Int))=true›);omega)))) rfl rfl ?_)) | (refine fO ?_;first | refine cK (aF (el rfl) rfl rfl aI (oT ‹decide ((i:Int) < (fs.length:Int))=true›) ⟨rfl,by decide⟩) rfl rfl ?_ | refine cK (aF (el rfl) rfl rfl aI hlt ⟨rfl,by decide⟩) rfl rfl ?_ | refine cK (aF (el rfl) rfl rfl aI (oT ‹decide ((k:Int) < ((aC fs (i:Int)).slots.length:Int))=true›) ⟨rfl,by decide⟩) rfl rfl ?_) | refine wR ?_ | refine W14 ?_ | refine W15 ?_ | refine gZ ?_ | refine W23 ?_ | refine W24 ?_ | refine W25 ?_) | refine GN ?_ | ((with_reducible refine kd ?_);first | refine D0 ?_ | refine D1 ?_ | refine D2 ?_ | refine D3 ?_ | (refine TN ?_;refine IX (VB rfl rfl (by first | (simp only [ByteArray.size_append];omega) | (have h9:=hk1 (by have:=(oT ‹decide ((k:Int) < ((aC fs (i:Int)).slots.length:Int))=true›);omega);simp only [ByteArray.size_append];omega) | omega)) rfl rfl rfl ?_) | refine D6 ?_ | refine sO ?_ | refine iY ?_ | (refine bM ?_;refine eM [] rfl rfl rfl rfl (fun σ2 _=>bY.at (u0 (aC (aC fs (i:Int)).slots (k:Int)) (hv1 _ (f4 (by have:=(oT ‹decide ((k:Int) < ((aC fs (i:Int)).slots.length:Int))=true›);omega)))) rfl rfl ⟨rfl,rfl⟩) rfl ?_) | (refine c7 ?_;first | refine dC (aF (el rfl) rfl rfl aI (oT ‹decide ((i:Int) < (fs.length:Int))=true›) ⟨rfl,by decide⟩) rfl rfl rfl rfl ?_ | refine dC (aF (el rfl) rfl rfl aI hlt ⟨rfl,by decide⟩) rfl rfl rfl rfl ?_ | refine dC (aF (el rfl) rfl rfl aI (oT ‹decide ((k:Int) < ((aC fs (i:Int)).slots.length:Int))=true›) ⟨rfl,by decide⟩) rfl rfl rfl rfl ?_) | refine YZ ?_ | refine D14 ?_ | refine D15 ?_) | refine GA ?_ | refine GG ?_ | (refine cJ (fun hb=>?_) (fun hb=>?_) <;> try rw [hb]) | ((with_reducible refine kf ?_);refine aP 0 Tryz.results38 rfl rfl rfl ?_) | refine GR ?_ | ((with_reducible refine kr ?_);refine aG rfl ?_) | refine GO ?_ ?_ | exact GB | fail)
 all_goals first
  | (have hlk:=(oT ‹decide ((k:Int) < ((aC fs (i:Int)).slots.length:Int))=true›);refine ⟨_,_,?_,aW.pick_get _ [0,3,4,5],k + 1,_,_,rfl,⟨aL aI aI,by omega,by rw [x2 (l:=(aC fs (i:Int)).slots) (k:=k) aI,f5,f5,hs2];simp only [List.append_assoc];rfl⟩,rfl,rfl⟩;omega)
  | (have hgk:=oF ‹decide ((k:Int) < ((aC fs (i:Int)).slots.length:Int))=false›;obtain rfl:k=(aC fs (i:Int)).slots.length:=aI;rw [List.take_length] at hs2;refine ⟨_,_,?_,aW.pick_get _ [0,3,4],i + 1,_,_,rfl,⟨aL aI aI,by omega,by rw [n1 (l:=fs) (k:=i) aI,f5,hs2];simp only [l1,List.append_assoc];try rfl⟩,rfl,rfl⟩;omega)
  | skip
section
variable {P:Program} {L:aA}
theorem aB.frontB {α:Sort _} {f:FuncId} {args:List DV} {o0:aU} {o:α→aU} {rr:α→DV} {C:α→Prop} (h:aB P f args [some o0] (fun r s=>∃ y,C y∧r=rr y∧s=[some (o y)])) (h0:o0.under 1=true) (h1:∀ y,(o y).under 1=true) (ha:DV.unders 1 args=true) (hr:∀ y,(rr y).under 1=true) :
  aB P f args (some o0::L) (fun r s=>∃ y,C y∧r=rr y∧s=some (o y)::L):=by
 have hg:∀ i,i < 1→bL [0] (some o0::L).length i=i:=fun i hi=>by
  obtain rfl:i=0:=by omega
  rfl
 refine (aB.within h [0] ⟨rfl,fun k hk=>?_,by simp,fun i o k h2 h3=>?_,fun i o h2=>?_⟩ ha (rK hg args ha)).mono ?_
 ·simp at hk;subst hk;simp
 ·have hi:=a7 h2
  obtain rfl:i=0:=by simp at hi;exact hi
  simp at h3;subst h3
  cases h2
  show some o0=some (o0.ren _)
  rw [nF hg o0 h0]
 ·have hi:=a7 h2
  obtain rfl:i=0:=by simp at hi;exact hi
  cases h2;exact h0
 ·rintro r s ⟨r0,σ0,⟨y,hc,rfl,rfl⟩,_,rfl,rfl⟩
  refine ⟨y,hc,x8 hg _ (hr y),?_⟩
  have:=nF hg (o y) (h1 y)
  simp only [kC,dX,Option.map_some,this]
  simp
end
theorem zBq:∀ w,(zeroValue 132).run Tryz.prog w = .ok (.agg #[.pointer none,.slice none 0 0]) w:=Tryz.lays156.v72
def u1 (v:Va):ByteArray:=bif c6 v then hI v else ⟨#[]⟩
def k4 (v:Va):Int:=bif c6 v then 0 else 2
theorem v2 (v:Va):bY Tryz.prog 66 [v.dv] (.tup [sv (u1 v),iv (k4 v)]):=by
 cases hv:c6 v with
 | true=>have h:=aCA v hv;simp only [u1,k4,hv,cond_true];exact h
 | false=>have h:=aB7 v.k v.n v.s hv;simp only [u1,k4,hv,cond_false];exact h
theorem aBS {v:Va} (h:decide (k4 v≠0)=true):c6 v=false:=by
 cases hv:c6 v with
 | true=>simp [k4,hv] at h
 | false=>rfl
theorem aCi {v:Va} (h:decide (k4 v≠0)=false):c6 v=true:=by
 cases hv:c6 v with
 | true=>rfl
 | false=>simp [k4,hv] at h
def wRq (l:List ByteArray):List (List aR):=l.map fun s=>[.sc (.string s)]
def a2 (t:Fm) (k:Nat):List ByteArray:=[a0 t.fn,a0 t.pc,a0 t.to]++(t.slots.take k).map hI
theorem aC0 (l:List ByteArray):(aO (wRq l)).length=l.length:=by simp [aO,wRq]
theorem aBK (t:Fm) (k:Nat) (h:t.slots.length≤300):(a2 t k).length≤303:=by
 simp only [a2,List.length_append,List.length_cons,List.length_nil,List.length_map,List.length_take];omega
theorem aBD {t:Fm} {k:Nat} (hk:k < t.slots.length) (hv:c6 (aC t.slots (k:Int))=true):aO (wRq (a2 t k))++[[DV.d (.sc (.string (u1 (aC t.slots (k:Int)))))]]=aO (wRq (a2 t (k + 1))):=by
 unfold a2
 rw [gL hk]
 simp [aO,wRq,u1,hv]
theorem m1 {σ:aA} {id:Nat} {l:List ByteArray} (h:σ.look id=some (.arr 9 (aO (wRq l)))):cA Tryz.prog σ (.arr id) (.d (.lst (l.map fun s=>[.sc (.string s)]))):=by
 refine cA.arr h (by simp [wRq,aO]) (fun i e he=>?_)
 simp only [wRq,aO,List.map_map,List.getElem?_map] at he
 obtain ⟨r,hr,rfl⟩:=Option.map_eq_some_iff.1 he
 exact ⟨[.sc (.string r)],by rw [List.getElem?_map,hr];rfl,kO _⟩
theorem l0 (t:Fm):(hG (a2 t t.slots.length) ⟨#[32]⟩++⟨#[10]⟩:ByteArray).data.toList=l1 t:=by
 rw [f5]
 have e:(hG (a2 t t.slots.length) ⟨#[32]⟩).data.toList=Lib.join ((a2 t t.slots.length).map (·.data.toList)) [32]:=rfl
 rw [e]
 unfold a2 l1 p0 e7
 rw [List.take_length]
 simp only [List.cons_append,List.nil_append,List.map_cons,Lib.join_cons,Lib.joinTail,k8,List.map_map,List.flatten_cons,List.append_assoc]
 congr 1
structure aC3 (G:Prop):Prop where
 h:G
theorem aCI {G:Prop} (k:aC3 G):G:=k.h
def aDc (fs:List Fm):Bool:=fs.all fun t=>t.slots.all c6
theorem y0 {fs:List Fm} (h:aDc fs=true):∀ t ∈ fs,∀ v ∈ t.slots,c6 v=true:=fun t ht v hv=>List.all_eq_true.1 (List.all_eq_true.1 h t ht) v hv
def r3 (fs:List Fm):DV := .tup [sv (bif e6 fs then aCJ fs else ⟨#[]⟩),iv (bif e6 fs then 0 else 2)]
theorem aBI (t:Fm) (h:s1 t) (hv:∀ v ∈ t.slots,c6 v=true):(hG (a2 t t.slots.length) ⟨#[32]⟩).size≤40000:=by
 have h1:=p3 h hv
 rw [← l0 t,d3,ByteArray.size_append] at h1
 omega
theorem aCB (fs:List Fm) (hl:fs.length≤25) (hf:∀ t ∈ fs,s1 t):bY Tryz.prog 36 [lv (fs.map Fm.enc)] (r3 fs):=by
 refine of_body Tryz.func36 rfl rfl (nB rfl) ?_
 rw [Tryz.ntmps36]
 repeat' (first | ((with_reducible refine kw ?_);first | refine W0 ?_ | refine W1 ?_ | refine W3 ?_ | refine W2 ?_ | refine W6 ?_ | refine WK ?_ | refine bJ ?_ | (refine fO ?_;first | refine cK (aF (el rfl) rfl rfl aI (oT ‹decide ((i:Int) < (fs.length:Int))=true›) ⟨rfl,by decide⟩) rfl rfl ?_ | refine cK (aF (el rfl) rfl rfl aI (oT ‹decide ((k:Int) < ((aC fs (i:Int)).slots.length:Int))=true›) ⟨rfl,by decide⟩) rfl rfl ?_) | refine wR ?_ | refine W14 ?_ | refine W15 ?_ | (refine aE ?_;refine q8 ?_) | refine iZ ?_ | refine gZ ?_ | refine W23 ?_ | refine W24 ?_ | refine W25 ?_ | refine dH ?_ | refine KS ?_ | refine W48 ?_ | refine W49 ?_) | refine GN ?_ | (with_reducible refine T4 ?_) | ((with_reducible refine kQ ?_);refine kP rfl ?_) | ((with_reducible refine kd ?_);first | refine D1 ?_ | refine D3 ?_ | refine D2 ?_ | refine iY ?_ | refine NX ?_ | refine Y0 ?_ | refine D53 ?_ | refine D52 ?_ | refine NX ?_) | ((with_reducible refine ka ?_);((with_reducible refine i5 1 ?_);refine fI ?_;refine aCL (el:=5) zBq rfl fun bs=>?_)) | refine GA ?_ | refine GG ?_ | (refine cJ (fun hb=>?_) (fun hb=>?_) <;> try rw [hb]) | ((with_reducible refine kf ?_);refine aP 0 Tryz.results36 rfl rfl rfl ?_) | refine GR ?_ | ((with_reducible refine kr ?_);refine aG rfl ?_) | refine GO ?_ ?_ | exact GB | fail)
 refine cF [4,12,13,14] rfl ?_
 refine jY 1 (n:=_) (fun n e σ=>∃ (i:Nat) (m:Int) (bs:List Nat),n=fs.length - i∧(m=i∧i≤fs.length∧aDc (fs.take i)=true)∧e=[(4,.ptr 0 0),(12,lv (fs.map Fm.enc)),(13,iv (fs.length:Int)),(14,iv m)]∧σ=[some (aBH (e5 (fs.take i)) bs)]) rfl ⟨0,0,_,rfl,⟨rfl,Nat.zero_le _,rfl⟩,rfl,rfl⟩ ?_
 rintro n e σ ⟨i,m,bs,rfl,⟨rfl,hi,hva⟩,rfl,rfl⟩
 have hs1:=hE (fs.take i) (fun t ht=>hf t (List.mem_of_mem_take ht)) (y0 hva)
 have hs2:(e5 (fs.take i)).length≤1000000:=by rw [List.length_take] at hs1;omega
 have hF:i < fs.length→s1 (aC fs (i:Int)):=fun h=>hf _ (f4 h)
 repeat' (first | ((with_reducible refine kw ?_);first | refine W0 ?_ | refine W1 ?_ | refine W3 ?_ | refine W2 ?_ | refine W6 ?_ | refine WK ?_ | refine bJ ?_ | (refine aJ ?_;refine bB rfl rfl rfl rfl (aB.mono (aBA _ _ (by have:=hs2;omega)) fun r s' h=>?_);obtain ⟨bs2,_,rfl,rfl⟩:=h) | (refine fO ?_;first | refine cK (aF (el rfl) rfl rfl aI (oT ‹decide ((i:Int) < (fs.length:Int))=true›) ⟨rfl,by decide⟩) rfl rfl ?_ | refine cK (aF (el rfl) rfl rfl aI (oT ‹decide ((k:Int) < ((aC fs (i:Int)).slots.length:Int))=true›) ⟨rfl,by decide⟩) rfl rfl ?_) | refine wR ?_ | refine W14 ?_ | refine W15 ?_ | (refine aE ?_;refine q8 ?_) | refine iZ ?_ | refine gZ ?_ | refine W23 ?_ | refine W24 ?_ | refine W25 ?_ | refine dH ?_ | refine KS ?_ | refine W48 ?_ | refine W49 ?_) | refine GN ?_ | ((with_reducible refine kd ?_);first | refine D1 ?_ | refine D3 ?_ | refine D2 ?_ | refine iY ?_ | (refine bM ?_;first | refine eM [] rfl rfl rfl rfl (fun σ2 _=>bY.at (d2 (aC fs (i:Int)).fn (hF (by have:=(oT ‹decide ((i:Int) < (fs.length:Int))=true›);omega)).fn.1 (hF (by have:=(oT ‹decide ((i:Int) < (fs.length:Int))=true›);omega)).fn.2) rfl rfl ⟨rfl,rfl⟩) rfl ?_ | refine eM [] rfl rfl rfl rfl (fun σ2 _=>bY.at (d2 (aC fs (i:Int)).pc (hF (by have:=(oT ‹decide ((i:Int) < (fs.length:Int))=true›);omega)).pc.1 (hF (by have:=(oT ‹decide ((i:Int) < (fs.length:Int))=true›);omega)).pc.2) rfl rfl ⟨rfl,rfl⟩) rfl ?_ | refine eM [] rfl rfl rfl rfl (fun σ2 _=>bY.at (d2 (aC fs (i:Int)).to (hF (by have:=(oT ‹decide ((i:Int) < (fs.length:Int))=true›);omega)).tt.1 (hF (by have:=(oT ‹decide ((i:Int) < (fs.length:Int))=true›);omega)).tt.2) rfl rfl ⟨rfl,rfl⟩) rfl ?_) | refine NX ?_ | refine Y0 ?_ | refine D53 ?_ | refine D52 ?_ | refine NX ?_) | refine GA ?_ | refine GG ?_ | (refine cJ (fun hb=>?_) (fun hb=>?_) <;> try rw [hb]) | ((with_reducible refine kf ?_);refine aP 0 Tryz.results36 rfl rfl rfl ?_) | refine GR ?_ | ((with_reducible refine kr ?_);refine aG rfl ?_) | refine GO ?_ ?_ | exact GB | fail)
 all_goals first
  | (obtain rfl:i=fs.length:=(by have:=oF ‹decide ((i:Int) < (fs.length:Int))=false›;omega);rw [List.take_length] at hva ⊢;have e:e6 fs=true:=hva;refine dG ?_;unfold r3;rw [e];rfl)
  | skip
 have hlt:=(oT ‹decide ((i:Int) < (fs.length:Int))=true›)
 have F:=hF aI
 have hsl:=F.slots
 refine dB (kK 9 ?_)
 refine dB (qR 7 (m:=3) (s:=wRq (a2 (aC fs (i:Int)) 0)) rfl rfl rfl rfl fun u=>?_)
 refine cF [4,7,12,13,14,29,30,31] rfl ?_
 refine jY 4 (n:=_) (fun n e σ=>∃ (k:Nat) (mk:Int) (u:Value),n=(aC fs (i:Int)).slots.length - k∧(mk=k∧k≤(aC fs (i:Int)).slots.length∧((aC fs (i:Int)).slots.take k).all c6=true)∧e=[(4,.ptr 0 0),(7,.d (.sc u)),(12,lv (fs.map Fm.enc)),(13,iv (fs.length:Int)),(14,iv (i:Int)),(29,lv ((aC fs (i:Int)).slots.map Va.enc)),(30,iv ((aC fs (i:Int)).slots.length:Int)),(31,iv mk)]∧σ=[some (aBH (e5 (fs.take i)) bs),_,none,some (bS Tryz.prog 9 [(u,wRq (a2 (aC fs (i:Int)) k))])]) rfl ⟨0,0,u,rfl,⟨rfl,Nat.zero_le _,rfl⟩,rfl,rfl⟩ ?_
 rintro n e σ ⟨k,mk,u,rfl,⟨rfl,hk,hvk⟩,rfl,rfl⟩
 have hwl:=aBK (aC fs (i:Int)) k hsl
 refine dB (wK 7 (m:=3) rfl (List.Perm.refl _) rfl ?_)
 repeat' (first | ((with_reducible refine kw ?_);first | refine W0 ?_ | refine W1 ?_ | refine W3 ?_ | refine W2 ?_ | (refine EK ?_;refine cK (VB rfl rfl aI) rfl rfl ?_) | refine W6 ?_ | refine WK ?_ | refine bJ ?_ | (refine aJ ?_;refine tD (v2 (aC (aC fs (i:Int)).slots (k:Int))) ?_) | (refine fO ?_;first | refine cK (aF (el rfl) rfl rfl aI (oT ‹decide ((i:Int) < (fs.length:Int))=true›) ⟨rfl,by decide⟩) rfl rfl ?_ | refine cK (aF (el rfl) rfl rfl aI (oT ‹decide ((k:Int) < ((aC fs (i:Int)).slots.length:Int))=true›) ⟨rfl,by decide⟩) rfl rfl ?_) | refine wR ?_ | refine W14 ?_ | refine W15 ?_ | (refine aE ?_;refine q8 ?_) | refine iZ ?_ | refine gZ ?_ | refine W23 ?_ | refine W24 ?_ | refine W25 ?_ | refine dH ?_ | refine KS ?_ | refine W48 ?_ | (refine vQ ?_;refine cK (fY (el rfl) (sl rfl) rfl rfl rfl (ap rfl) (mM rfl rfl) (iI eS) (e8 (by simp only [aC0,List.length_append,List.length_map,List.length_cons,List.length_nil];omega) cN)) rfl rfl ?_) | refine W49 ?_) | refine GN ?_ | (with_reducible refine T4 ?_) | ((with_reducible refine kQ ?_);refine kP rfl ?_) | ((with_reducible refine kd ?_);first | refine D1 ?_ | refine D3 ?_ | refine D2 ?_ | refine iY ?_ | (refine bM ?_;refine dD (v2 (aC (aC fs (i:Int)).slots (k:Int))) ?_) | refine Y0 ?_ | refine D53 ?_ | refine D52 ?_ | refine NX ?_) | ((with_reducible refine ka ?_);first | ((with_reducible refine i5 14 ?_);refine aCI ?_) | ((with_reducible refine QE 14 ?_);refine aCI ?_)) | refine GA ?_ | refine GG ?_ | (refine cJ (fun hb=>?_) (fun hb=>?_) <;> try rw [hb]) | ((with_reducible refine kf ?_);refine aP 0 Tryz.results36 rfl rfl rfl ?_) | refine GR ?_ | ((with_reducible refine kr ?_);refine aG rfl ?_) | refine GO ?_ ?_ | exact GB | fail)
 all_goals first
  | (have hv:=aBS ‹decide (k4 (aC (aC fs (i:Int)).slots (k:Int))≠0)=true›;have hlk:=(oT ‹decide ((k:Int) < ((aC fs (i:Int)).slots.length:Int))=true›);have e:e6 fs=false:=BY (p:=fun t:Fm=>t.slots.all c6) (i:=i) aI (BY (i:=k) aI hv);have e2:k4 (aC (aC fs (i:Int)).slots (k:Int))=2:=(by simp [k4,hv]);refine dG ?_;unfold r3;rw [e,e2];rfl)
  | (have hv:=aCi ‹decide (k4 (aC (aC fs (i:Int)).slots (k:Int))≠0)=false›;have hlk:=(oT ‹decide ((k:Int) < ((aC fs (i:Int)).slots.length:Int))=true›);refine gE (qR 7 (m:=3) (s:=wRq (a2 (aC fs (i:Int)) (k + 1))) rfl rfl (aBD aI hv) rfl fun u2=>?_);refine gE (jM [4,7,12,13,14,29,30,31] rfl ?_);refine gU 4 rfl rfl rfl ?_;refine gT ⟨_,?_,k + 1,_,u2,rfl,⟨aL aI aI,by omega,p7 aI hvk hv⟩,rfl,rfl⟩;omega)
  | skip
 refine ⟨?_⟩
 obtain rfl:k=(aC fs (i:Int)).slots.length:=by have:=oF ‹decide ((k:Int) < ((aC fs (i:Int)).slots.length:Int))=false›;omega
 rw [List.take_length] at hvk
 have hjs:=aBI (aC fs (i:Int)) F (fun v hv=>List.all_eq_true.1 hvk v hv)
 have hnl:(⟨#[10]⟩:ByteArray).size=1:=rfl
 have e:e5 (fs.take i)++(hG (a2 (aC fs (i:Int)) (aC fs (i:Int)).slots.length) ⟨#[32]⟩++⟨#[10]⟩:ByteArray).data.toList=e5 (fs.take (i + 1)):=by rw [l0,n1 (l:=fs) (k:=i) aI]
 repeat' (first | ((with_reducible refine kw ?_);first | refine W0 ?_ | refine W1 ?_ | refine W3 ?_ | refine W2 ?_ | (refine EK ?_;refine cK (VB rfl rfl aI) rfl rfl ?_) | refine W6 ?_ | refine WK ?_ | refine bJ ?_ | (refine aJ ?_;first | refine bB rfl rfl rfl rfl (bY.borrow (p2 (a2 (aC fs (i:Int)) (aC fs (i:Int)).slots.length) (by simp [a2]) aI aI) (jX.cons (m1 rfl) jX.nil) rfl ?_) | refine bB rfl rfl rfl rfl (aB.mono (aB.frontB (aBL _ _ _ (by rw [ByteArray.size_append];omega) (by rw [ByteArray.size_append];omega)) rfl (fun _=>rfl) rfl (fun _=>rfl)) fun r s' h=>?_);obtain ⟨bs2,_,rfl,rfl⟩:=h) | (refine fO ?_;first | refine cK (aF (el rfl) rfl rfl aI (oT ‹decide ((i:Int) < (fs.length:Int))=true›) ⟨rfl,by decide⟩) rfl rfl ?_ | refine cK (aF (el rfl) rfl rfl aI (oT ‹decide ((k:Int) < ((aC fs (i:Int)).slots.length:Int))=true›) ⟨rfl,by decide⟩) rfl rfl ?_) | refine wR ?_ | refine W14 ?_ | refine W15 ?_ | (refine aE ?_;refine q8 ?_) | refine iZ ?_ | refine gZ ?_ | refine W23 ?_ | refine W24 ?_ | refine W25 ?_ | refine dH ?_ | refine KS ?_ | refine W48 ?_ | refine W49 ?_) | refine GN ?_ | ((with_reducible refine kd ?_);first | refine D1 ?_ | refine D3 ?_ | refine D2 ?_ | refine iY ?_ | (refine bM ?_;refine eM [] rfl rfl rfl rfl (fun σ2 _=>bY.borrow (p2 (a2 (aC fs (i:Int)) (aC fs (i:Int)).slots.length) (by simp [a2]) aI aI) (jX.cons (m1 rfl) jX.nil) rfl ⟨rfl,rfl⟩) rfl ?_) | refine Y0 ?_ | refine D53 ?_ | refine D52 ?_ | refine NX ?_) | refine GA ?_ | refine GG ?_ | (refine cJ (fun hb=>?_) (fun hb=>?_) <;> try rw [hb]) | ((with_reducible refine kf ?_);refine aP 0 Tryz.results36 rfl rfl rfl ?_) | refine GR ?_ | ((with_reducible refine kr ?_);refine aG rfl ?_) | refine GO ?_ ?_ | exact GB | fail)
 all_goals first
  | refine gE (jM [4,12,13,14] rfl ?_);refine gU 1 rfl rfl rfl ?_;refine gT ⟨_,?_,i + 1,_,bs2,rfl,⟨aL aI aI,by omega,p7 (p:=fun t:Fm=>t.slots.all c6) aI hva hvk⟩,rfl,by rw [← e];rfl⟩;omega
  | skip
theorem aCl {fs:List Fm} (h:∀ t ∈ fs,i64 t.fn∧i64 t.pc∧i64 t.to):(jT fs).length≤25∧∀ t ∈ jT fs,s1 t:=by
 constructor
 ·simp [jT];omega
 ·intro t ht
  obtain ⟨x,hx,rfl⟩:=List.mem_map.1 ht
  obtain ⟨h1,h2,h3⟩:=h x (List.mem_of_mem_take hx)
  exact ⟨by simp [LJ];omega,h1,h2,h3⟩
theorem z0 {P:Program} {e:aW} {σ:aA} {n:Nat} {t yt:TypeId} {x y:Operand} {a c:ByteArray} (hx:e.ev x=some (sv a)) (hy:e.ev y=some (sv c)) (h:a=c):Ev P (.binOp .eql t x y yt) e σ n (bv true) σ :=
 EF hx hy (by subst h;simp [p9,AI])
theorem aBn {fs:List Fm} (hok:WJ (lv (fs.map Fm.enc))):∀ t ∈ fs,i64 t.fn∧i64 t.pc∧i64 t.to:=by
 intro t ht
 have h1:=(rG hok).2 (Fm.enc t) (List.mem_map.2 ⟨t,ht,rfl⟩)
 exact ⟨a6 (h1 (di t.fn) eS),a6 (h1 (di t.pc) eS),a6 (h1 (di t.to) eS)⟩
theorem aBJ (fs:List Fm) (hs:∀ t ∈ fs,t.slots.length * 32≤140737488351232):bY Tryz.prog 9 [lv (fs.map Fm.enc)] (bv true):=by
 refine aB.assume rfl fun hok _=>?_
 obtain ⟨f1,f2⟩:=aCl (aBn (hok (lv (fs.map Fm.enc)) eS))
 have hT:=aCB (jT fs) f1 f2
 have hR:=aBZ (jT fs)
 unfold r3 at hT
 cases hr:e6 (jT fs) with
 | true =>
  have hX:=aB4 (jT fs) f1 f2 (y0 hr)
  rw [hr] at hT hR
  simp only [cond_true] at hT
  refine of_body Tryz.func9 rfl rfl (nB rfl) ?_
  rw [Tryz.ntmps9]
  repeat' (first | ((with_reducible refine kw ?_);first | refine Wg ?_ | refine W0 ?_ | (refine EK ?_;refine cK (z0 rfl rfl rfl) rfl rfl ?_) | refine W6 ?_ | refine bJ ?_ | (refine aJ ?_;first | refine tD (FB fs hs) ?_ | refine tD hT ?_ | refine tD hR ?_ | refine tD hX ?_ | refine tD p8 ?_) | refine eT ?_ | refine gQ ?_ | refine iZ ?_) | refine nP cN ?_ | refine pX cN ?_ | refine GX ?_ | (refine bW (fun hb=>?_) (fun hb=>?_) <;> rw [hb]) | refine GA ?_ | refine GG ?_ | refine qG cN ?_ | refine qF cN ?_ | refine nP cN ?_ | refine pX cN ?_ | (refine cJ (fun hb=>?_) (fun hb=>?_) <;> try rw [hb]) | ((with_reducible refine kf ?_);refine aP 0 Tryz.results9 rfl rfl rfl ?_) | refine GR ?_ | ((with_reducible refine kr ?_);refine aG rfl ?_) | refine GO ?_ ?_ | exact GB | fail)
  all_goals first | rfl | skip
 | false =>
  rw [hr] at hT hR
  simp only [cond_false] at hT
  refine of_body Tryz.func9 rfl rfl (nB rfl) ?_
  rw [Tryz.ntmps9]
  repeat' (first | ((with_reducible refine kw ?_);first | refine Wg ?_ | refine W0 ?_ | (refine EK ?_;refine cK (z0 rfl rfl rfl) rfl rfl ?_) | refine W6 ?_ | refine bJ ?_ | (refine aJ ?_;first | refine tD (FB fs hs) ?_ | refine tD hT ?_ | refine tD hR ?_ | refine tD p8 ?_) | refine eT ?_ | refine gQ ?_ | refine iZ ?_) | refine nP cN ?_ | refine pX cN ?_ | refine GX ?_ | (refine bW (fun hb=>?_) (fun hb=>?_) <;> rw [hb]) | refine GA ?_ | refine GG ?_ | refine qG cN ?_ | refine qF cN ?_ | refine nP cN ?_ | refine pX cN ?_ | (refine cJ (fun hb=>?_) (fun hb=>?_) <;> try rw [hb]) | ((with_reducible refine kf ?_);refine aP 0 Tryz.results9 rfl rfl rfl ?_) | refine GR ?_ | ((with_reducible refine kr ?_);refine aG rfl ?_) | refine GO ?_ ?_ | exact GB | fail)
  all_goals first | rfl | skip
end Go.Ab
