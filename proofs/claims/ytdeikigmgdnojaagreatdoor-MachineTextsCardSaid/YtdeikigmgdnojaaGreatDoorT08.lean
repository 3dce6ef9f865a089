import Derived.Test.YtdeikigmgdnojaaGreatDoorT06
import GoSem.ClaimChange
import GoSem.ClaimJoined
/- A part of the proof of one law. -/
set_option maxRecDepth 100000
set_option maxHeartbeats 8000000
set_option linter.unusedVariables false
set_option linter.unusedSimpArgs false
namespace Go.Ab
mutual
def DV.ren (f:Nat→Nat):DV→DV
 | .d x => .d x
 | .nils => .nils
 | .ptr id o => .ptr (f id) o
 | .iptr cs o => .iptr cs o
 | .eptr id i s o => .eptr (f id) i s o
 | .arr id => .arr (f id)
 | .mp id => .mp (f id)
 | .fn g a b => .fn g (DV.rens f a) (DV.rens f b)
 | .agg cs => .agg (DV.rens f cs)
 | .tup cs => .tup (DV.rens f cs)
 | .ifc t x => .ifc t (DV.ren f x)
def DV.rens (f:Nat→Nat):List DV→List DV
 | []=>[]
 | x::xs=>DV.ren f x::DV.rens f xs
end
theorem cU (f:Nat→Nat) (l:List DV):DV.rens f l=l.map (DV.ren f):=by
 induction l with
 | nil=>rfl
 | cons x l ih=>simp [DV.rens,ih]
def aU.ren (f:Nat→Nat):aU→aU
 | .box t cs => .box t (DV.rens f cs)
 | .arr t es => .arr t (es.map (DV.rens f))
 | .map es => .map (es.map fun p=>(p.1,DV.ren f p.2))
 | .deep T bs => .deep T bs
section
variable {P:Program} {X:Nat→Prop} {ι ι':bZ} {σ:aA} {w:World} {M:Nat→Prop} {f:Nat→Nat}
theorem oM {l:List DV} {i:Nat} {x:DV} (h:(DV.rens f l)[i]? = some x):∃ y,l[i]? = some y∧y.ren f=x:=by
 rw [cU,List.getElem?_map] at h
 simpa using h
theorem aX.renUp (hι:∀ id u,ι id=some u→ι' (f id)=some u) {d:DV} {v:Value} (h:aX ι w M d v):aX ι' w M (d.ren f) v:=by
 induction h with
 | d h=>exact .d h
 | nils A=>exact .nils A
 | ptr id off b h=>exact .ptr _ off b (hι _ _ h)
 | iptr cs off b o vs a b' c d=>exact .iptr cs off b o vs a b' c d
 | eptr id i sz off b o n c h=>exact .eptr _ i sz off b o n c (hι _ _ h)
 | arr id v h hv=>exact .arr _ v (hι _ _ h) hv
 | mp id v h hv=>exact .mp _ v (hι _ _ h) hv
 | fn g first cap fi ca h1 h2 hf hc ih1 ih2 =>
  refine .fn g _ _ fi ca (by rw [cU];simpa using h1) (by rw [cU];simpa using h2) (fun i x y hx hy=>?_) (fun i x y hx hy=>?_)
  ·obtain ⟨z,hz,rfl⟩:=oM hx;exact ih1 i z y hz hy
  ·obtain ⟨z,hz,rfl⟩:=oM hx;exact ih2 i z y hz hy
 | agg cs vs hl h ih =>
  refine .agg _ vs (by rw [cU];simpa using hl) (fun i x y hx hy=>?_)
  obtain ⟨z,hz,rfl⟩:=oM hx;exact ih i z y hz hy
 | tup cs vs hl h ih =>
  refine .tup _ vs (by rw [cU];simpa using hl) (fun i x y hx hy=>?_)
  obtain ⟨z,hz,rfl⟩:=oM hx;exact ih i z y hz hy
 | ifc t x v h ih=>exact .ifc t _ v ih
theorem aX.renDown {n:Nat} (hι:∀ i,i < n→ι' i=ι (f i)) {x:DV} {v:Value} (h:aX ι w M x v):∀ d:DV,d.ren f=x→d.under n=true→aX ι' w M d v:=by
 induction h with
 | d h=>intro d hd hu;cases d <;> simp only [DV.ren] at hd <;> cases hd;exact .d h
 | nils A=>intro d hd hu;cases d <;> simp only [DV.ren] at hd <;> cases hd;exact .nils A
 | ptr id off b h =>
  intro d hd hu;cases d <;> simp only [DV.ren] at hd <;> cases hd
  simp only [DV.under,decide_eq_true_eq] at hu
  exact .ptr _ off b (by rw [hι _ hu];exact h)
 | iptr cs off b o vs a b' c e=>intro d hd hu;cases d <;> simp only [DV.ren] at hd <;> cases hd;exact .iptr cs off b o vs a b' c e
 | eptr id i sz off b o n c h =>
  intro d hd hu;cases d <;> simp only [DV.ren] at hd <;> cases hd
  simp only [DV.under,decide_eq_true_eq] at hu
  exact .eptr _ i sz off b o n c (by rw [hι _ hu];exact h)
 | arr id v h hv =>
  intro d hd hu;cases d <;> simp only [DV.ren] at hd <;> cases hd
  simp only [DV.under,decide_eq_true_eq] at hu
  exact .arr _ v (by rw [hι _ hu];exact h) hv
 | mp id v h hv =>
  intro d hd hu;cases d <;> simp only [DV.ren] at hd <;> cases hd
  simp only [DV.under,decide_eq_true_eq] at hu
  exact .mp _ v (by rw [hι _ hu];exact h) hv
 | fn g first cap fi ca h1 h2 hf hc ih1 ih2 =>
  intro d hd hu;cases d <;> simp only [DV.ren] at hd <;> cases hd
  rename_i a b
  simp only [DV.under,Bool.and_eq_true] at hu
  refine .fn g a b fi ca (by rw [cU] at h1;simpa using h1) (by rw [cU] at h2;simpa using h2) (fun i x y hx hy=>?_) (fun i x y hx hy=>?_)
  ·exact ih1 i (x.ren f) y (by rw [cU,List.getElem?_map,hx];rfl) hy x rfl (d7 hu.1 hx)
  ·exact ih2 i (x.ren f) y (by rw [cU,List.getElem?_map,hx];rfl) hy x rfl (d7 hu.2 hx)
 | agg cs vs hl h ih =>
  intro d hd hu;cases d <;> simp only [DV.ren] at hd <;> cases hd
  simp only [DV.under] at hu
  exact .agg _ vs (by rw [cU] at hl;simpa using hl) (fun i x y hx hy=>ih i (x.ren f) y (by rw [cU,List.getElem?_map,hx];rfl) hy x rfl (d7 hu hx))
 | tup cs vs hl h ih =>
  intro d hd hu;cases d <;> simp only [DV.ren] at hd <;> cases hd
  simp only [DV.under] at hu
  exact .tup _ vs (by rw [cU] at hl;simpa using hl) (fun i x y hx hy=>ih i (x.ren f) y (by rw [cU,List.getElem?_map,hx];rfl) hy x rfl (d7 hu hx))
 | ifc t x v h ih =>
  intro d hd hu;cases d <;> simp only [DV.ren] at hd <;> cases hd
  exact .ifc t _ v (ih _ rfl (by simpa [DV.under] using hu))
theorem xJ {d:DV}:f7 (d.ren f)=f7 d:=by cases d <;> rfl
theorem bE.renUp (hι:∀ id u,ι id=some u→ι' (f id)=some u) {o:aU} {v:Value} (h:bE P ι w M v o):bE P ι' w M v (o.ren f):=by
 cases h with
 | box ty cells b cs h1 hl h h2=>exact .box ty _ b cs h1 (by rw [cU];simpa using hl) (fun j x y hx hy=>by obtain ⟨z,hz,rfl⟩:=oM hx;exact (h j z y hz hy).renUp hι) h2
 | nil elem A=>exact .nil elem A
 | arr elem es b o c cs h1 hc hn hm hs hcl h =>
  have:bE P ι' w M (.slice (some ⟨b,o,none⟩) (es.map (DV.rens f)).length c) (.arr elem (es.map (DV.rens f))):=by
   refine .arr elem (es.map (DV.rens f)) b o c cs h1 hc (by simpa using hn) (by simpa using hm) (fun e he=>?_) (fun e he x hx=>?_) (fun i j e x y he hx hy=>?_)
   ·obtain ⟨e',he',rfl⟩:=List.mem_map.1 he;rw [cU];simpa using hs e' he'
   ·obtain ⟨e',he',rfl⟩:=List.mem_map.1 he
    rw [cU] at hx
    obtain ⟨x',hx',rfl⟩:=List.mem_map.1 hx
    rw [xJ];exact hcl e' he' x' hx'
   ·rw [List.getElem?_map] at he
    obtain ⟨e',he',rfl⟩:=Option.map_eq_some_iff.1 he
    obtain ⟨x',hx',rfl⟩:=oM hx
    exact (h i j e' x' y he' hx' hy).renUp hι
  simpa [aU.ren] using this
 | map es r ms clock hh hl hk h =>
  refine .map _ r ms clock hh (by simpa using hl) (fun i m k d h1 h2=>?_) (fun i m k d h1 h2=>?_)
  ·rw [List.getElem?_map] at h2
   obtain ⟨p,hp,he⟩:=Option.map_eq_some_iff.1 h2
   cases he
   exact hk i m p.1 p.2 h1 hp
  ·rw [List.getElem?_map] at h2
   obtain ⟨p,hp,he⟩:=Option.map_eq_some_iff.1 h2
   cases he
   exact (h i m p.1 p.2 h1 hp).renUp hι
 | deep T bs v h hs hlt=>exact .deep T bs _ h hs hlt
theorem bE.renDown {n:Nat} (hι:∀ i,i < n→ι' i=ι (f i)) {o:aU} {v:Value} (h:bE P ι w M v (o.ren f)) (hu:o.under n=true):bE P ι' w M v o:=by
 cases o with
 | box ty cells =>
  simp only [aU.ren] at h
  cases h with
  | box _ _ b cs h1 hl h h2 =>
   exact .box ty cells b cs h1 (by rw [cU] at hl;simpa using hl) (fun j x y hx hy=>(h j (x.ren f) y (by rw [cU,List.getElem?_map,hx];rfl) hy).renDown hι x rfl (d7 (by simpa [aU.under] using hu) hx)) h2
 | arr elem es =>
  simp only [aU.ren] at h
  generalize hg:es.map (DV.rens f)=es' at h
  cases h with
  | nil _ A =>
   obtain rfl:es=[]:=by simpa using hg
   exact .nil elem A
  | arr _ _ b o c cs h1 hc hn hm hs hcl h =>
   subst hg
   have:bE P ι' w M (.slice (some ⟨b,o,none⟩) es.length c) (.arr elem es):=by
    refine .arr elem es b o c cs h1 hc (by simpa using hn) (by simpa using hm) (fun e he=>?_) (fun e he x hx=>?_) (fun i j e x y he hx hy=>?_)
    ·have:=hs _ (List.mem_map.2 ⟨e,he,rfl⟩);rw [cU] at this;simpa using this
    ·have:=hcl _ (List.mem_map.2 ⟨e,he,rfl⟩) (x.ren f) (by rw [cU];exact List.mem_map.2 ⟨x,hx,rfl⟩)
     rwa [xJ] at this
    ·refine (h i j (DV.rens f e) (x.ren f) y (by rw [List.getElem?_map,he];rfl) (by rw [cU,List.getElem?_map,hx];rfl) hy).renDown hι x rfl ?_
     have:=List.all_eq_true.1 (show es.all (DV.unders n)=true by simpa [aU.under] using hu) e (List.mem_of_getElem? he)
     exact d7 this hx
   simpa using this
 | map es =>
  simp only [aU.ren] at h
  cases h with
  | map _ r ms clock hh hl hk h =>
   refine .map es r ms clock hh (by simpa using hl) (fun i m k d h1 h2=>hk i m k (d.ren f) h1 (by rw [List.getElem?_map,h2];rfl)) (fun i m k d h1 h2=>?_)
   refine (h i m k (d.ren f) h1 (by rw [List.getElem?_map,h2];rfl)).renDown hι d rfl ?_
   exact List.all_eq_true.1 (show es.all (fun p=>DV.under n p.2)=true from hu) (k,d) (List.mem_of_getElem? h2)
 | deep T bs =>
  simp only [aU.ren] at h
  cases h with
  | deep _ _ _ h hs hlt=>exact .deep T bs _ h hs hlt
end
def bL (fs:List Nat) (len:Nat) (i:Nat):Nat:=match fs[i]? with
 | some k=>k
 | none=>len + (i - fs.length)
def dX (g:Nat→Nat):aA→List Nat→aA→aA
 | σ,k::fs,o::σ0=>dX g (σ.set k (o.map (aU.ren g))) fs σ0
 | σ,[],σ0=>σ++σ0.map (Option.map (aU.ren g))
 | σ,_::_,[]=>σ
def kC (σ:aA) (fs:List Nat) (σ0:aA):aA:=dX (bL fs σ.length) σ fs σ0
theorem tQ {σ:aA} {k j:Nat} {o:Option aU} (hk:k < σ.length):aA.look (σ.set k o) j=if j=k then o else σ.look j:=by
 have:=aA.look_put (σ:=σ) (id:=k) (o:=o) (Nat.le_of_lt hk) j
 rw [aA.put_eq] at this
 rw [if_pos hk] at this
 exact this
theorem vI (g:Nat→Nat):∀ (fs:List Nat) (σ σ0:aA),fs.length≤σ0.length→(dX g σ fs σ0).length=σ.length + (σ0.length - fs.length)
 | [],σ,σ0,_=>by simp [dX]
 | k::fs,σ,[],h=>by simp at h
 | k::fs,σ,o::σ0,h=>by
  simp only [dX]
  rw [vI g fs _ σ0 (by simpa using h)]
  simp
theorem vJ (g:Nat→Nat):∀ (fs:List Nat) (σ σ0:aA) (i:Nat),(∀ k ∈ fs,k < σ.length)→fs.length≤σ0.length→aA.look (dX g σ fs σ0) (σ.length + i)=(aA.look σ0 (fs.length + i)).map (aU.ren g)
 | [],σ,σ0,i,_,_=>by
  simp only [dX,aA.look]
  rw [List.getElem?_append_right (by omega)]
  simp
  cases h:σ0[i]? <;> simp
 | k::fs,σ,[],i,_,h=>by simp at h
 | k::fs,σ,o::σ0,i,hk,h=>by
  simp only [dX]
  have:=vJ g fs (σ.set k (o.map (aU.ren g))) σ0 i (fun j hj=>by simpa using hk j (by simp [hj])) (by simpa using h)
  rw [List.length_set] at this
  rw [this]
  simp only [aA.look,List.length_cons]
  rw [show fs.length + 1 + i=(fs.length + i) + 1 by omega]
  simp
theorem nV (g:Nat→Nat):∀ (fs:List Nat) (σ σ0:aA) (j:Nat),(∀ k ∈ fs,k < σ.length)→j < σ.length→j ∉ fs→aA.look (dX g σ fs σ0) j=σ.look j
 | [],σ,σ0,j,_,hj,_=>by
  simp only [dX,aA.look]
  rw [List.getElem?_append_left hj]
 | k::fs,σ,[],j,_,_,_=>rfl
 | k::fs,σ,o::σ0,j,hk,hj,hn=>by
  simp only [dX]
  rw [nV g fs _ σ0 j (fun i hi=>by simpa using hk i (by simp [hi])) (by simpa using hj) (fun h=>hn (by simp [h])),tQ (hk k (by simp)),if_neg (fun h=>hn (by simp [h]))]
theorem vK (g:Nat→Nat):∀ (fs:List Nat) (σ σ0:aA) (i k:Nat),(∀ k ∈ fs,k < σ.length)→fs.Nodup→fs[i]? = some k→fs.length≤σ0.length→aA.look (dX g σ fs σ0) k=(aA.look σ0 i).map (aU.ren g)
 | [],σ,σ0,i,k,_,_,h,_=>by simp at h
 | _::_,σ,[],i,k,_,_,_,h=>by simp at h
 | k0::fs,σ,o::σ0,i,k,hk,hd,hi,hl=>by
  simp only [dX]
  obtain ⟨h1,h2⟩:=List.nodup_cons.1 hd
  cases i with
  | zero =>
   simp at hi;subst hi
   rw [nV g fs _ σ0 k0 (fun i hi=>by simpa using hk i (by simp [hi])) (by simpa using hk k0 (by simp)) h1,tQ (hk k0 (by simp)),if_pos rfl]
   simp [aA.look]
  | succ i =>
   rw [vK g fs _ σ0 i k (fun i hi=>by simpa using hk i (by simp [hi])) h2 (by simpa using hi) (by simpa using hl)]
   simp [aA.look]
theorem oJ {fs:List Nat} {len i k:Nat} (h:fs[i]? = some k):bL fs len i=k:=by simp [bL,h]
theorem JS {fs:List Nat} {len i:Nat} (h:fs.length≤i):bL fs len i=len + (i - fs.length):=by simp [bL,List.getElem?_eq_none h]
end Go.Ab
namespace Go.Ab
theorem mK {g:Nat→Nat} {o:aU} {v:Value} {b:Nat}:kV (o.ren g) v b↔kV o v b:=by cases o <;> exact Iff.rfl
structure SY (σs σ:aA) (fs:List Nat):Prop where
 len:fs.length=σs.length
 lt:∀ k ∈ fs,k < σ.length
 nodup:fs.Nodup
 look:∀ i o k,σs.look i=some o→fs[i]? = some k→σ.look k=some (o.ren (bL fs σ.length))
 under:∀ i o,σs.look i=some o→o.under σs.length=true
section
variable {P:Program}
theorem aB.within {f:FuncId} {args:List DV} {σs σ:aA} {R:DV→aA→Prop} (h:aB P f args σs R) (fs:List Nat) (hl:SY σs σ fs) (hu:DV.unders σs.length args=true) {args':List DV} (ha:DV.rens (bL fs σ.length) args=args') :
  aB P f args' σ (fun r σ'=>∃ r0 σ0,R r0 σ0∧σs.length≤σ0.length∧r=r0.ren (bL fs σ.length)∧σ'=kC σ fs σ0):=by
 subst ha
 refine ⟨h.body,fun X ι w vs hh hr=>?_⟩
 let n:=σs.length
 let g:=bL fs σ.length
 have hgk:∀ i,i < n→∃ k,fs[i]? = some k∧g i=k∧k < σ.length:=fun i hi=>by
  have hi':i < fs.length:=by rw [hl.len];exact hi
  have h1:fs[i]? = some fs[i]:=List.getElem?_eq_getElem hi'
  exact ⟨_,h1,oJ h1,hl.lt _ (List.getElem_mem _)⟩
 have hgn:∀ i,n≤i→g i=σ.length + (i - n):=fun i hi=>by
  show bL fs σ.length i=_
  rw [JS (by rw [hl.len];exact hi),hl.len]
 let ιs:bZ:=fun i=>if i < n then ι (g i) else none
 let Out:Nat→Prop:=fun b=>∃ j o v,j ∉ fs∧σ.look j=some o∧ι j=some v∧kV o v b
 let X':Nat→Prop:=fun b=>X b∨Out b
 have hιs:∀ i,i < n→ιs i=ι (g i):=fun i hi=>by simp [ιs,hi]
 have hlk:∀ i o,σs.look i=some o→i < n:=fun i o h=>a7 h
 have hbig:∀ i o,σs.look i=some o→σ.look (g i)=some (o.ren g):=fun i o ho=>by
  obtain ⟨k,h1,h2,_⟩:=hgk i (hlk i o ho)
  rw [h2];exact hl.look i o k ho h1
 have hginj:∀ i j,i < n→j < n→g i=g j→i=j:=fun i j hi hj he=>by
  obtain ⟨k,h1,h2,_⟩:=hgk i hi
  obtain ⟨k',h3,h4,_⟩:=hgk j hj
  have:k=k':=by rw [← h2,← h4,he]
  subst this
  exact (List.getElem?_inj (by rw [hl.len];exact hi) hl.nodup).1 (h1.trans h3.symm)
 have hown:∀ b,g8 ιs σs b→g8 ι σ b:=by
  rintro b ⟨i,o,v,h1,h2,h3⟩
  exact ⟨g i,_,v,hbig i o h1,by rw [← hιs i (hlk i o h1)];exact h2,mK.2 h3⟩
 have hmut:∀ b,bQ X' ιs σs b→bQ X ι σ b:=by
  rintro b ((hb | ⟨j,o,v,_,h1,h2,h3⟩) | hb)
  ·exact .inl hb
  ·exact .inr ⟨j,o,v,h1,h2,h3⟩
  ·exact .inr (hown b hb)
 have hmut2:∀ b,bQ X ι σ b→bQ X' ιs σs b∨∃ j o v,j ∈ fs∧σ.look j=some o∧ι j=some v∧kV o v b:=by
  rintro b (hb | ⟨j,o,v,h1,h2,h3⟩)
  ·exact .inl (.inl (.inl hb))
  ·by_cases hj:j ∈ fs
   ·exact .inr ⟨j,o,v,hj,h1,h2,h3⟩
   ·exact .inl (.inl (.inr ⟨j,o,v,hj,h1,h2,h3⟩))
 have hhs:aQ P X' ιs σs w:=by
  refine ⟨fun i hi=>by simp [ιs];intro hlt;exact absurd hlt (Nat.not_lt.2 hi),fun i o ho=>?_,fun i i' o o' v v' b h1 h2 h3 h4 h5 h6=>?_,fun b hb=>?_,fun b hb hx=>?_,fun g' hg'=>by
   obtain ⟨g1,g2,g3⟩:=hh.glob g' hg'
   exact ⟨g1,fun hm=>g2 (hmut g' hm),g3⟩⟩
  ·have hi:=hlk i o ho
   obtain ⟨v,h1,h2⟩:=hh.obj _ _ (hbig i o ho)
   refine ⟨v,by rw [hιs i hi];exact h1,?_⟩
   have:=h2.renDown (ι':=ιs) (n:=n) hιs (hl.under i o ho)
   exact bE.mono (fun _ _ h=>h) (a8.refl (bQ X ι σ) w) (fun b _ hb=>hmut b hb) this (fun _ _=>rfl)
  ·have hi:=hlk _ _ h1
   have hi':=hlk _ _ h2
   rw [hιs i hi] at h3
   rw [hιs i' hi'] at h4
   exact hginj i i' hi hi' (hh.inj _ _ _ _ v v' b (hbig _ _ h1) (hbig _ _ h2) h3 h4 (mK.2 h5) (mK.2 h6))
  ·rcases hb with hb | ⟨j,o,v,_,h1,h2,h3⟩
   ·exact hh.xlt b hb
   ·exact hh.mut_lt (.inr ⟨j,o,v,h1,h2,h3⟩)
  ·rcases hx with hx | ⟨j,o,v,hj,h1,h2,h3⟩
   ·exact hh.apart b (hown b hb) hx
   ·obtain ⟨i,o',u,g1,g2,g3⟩:=hb
    have hi:=hlk i o' g1
    rw [hιs i hi] at g2
    have:=hh.inj _ _ _ _ u v b (hbig i o' g1) h1 g2 h2 (mK.2 g3) h3
    obtain ⟨k,k1,k2,_⟩:=hgk i hi
    rw [k2] at this
    exact hj (this ▸ List.mem_of_getElem? k1)
 have hrs:cM ιs w (bQ X' ιs σs) args vs:=⟨by have:=hr.len;rw [cU] at this;simpa using this,fun i x y hx hy=>by
  have:=hr.get i (x.ren g) y (by rw [cU,List.getElem?_map,hx];rfl) hy
  exact (this.renDown hιs x rfl (d7 hu hx)).mono (fun _ _ h=>h) (a8.refl (bQ X ι σ) w) (fun b _ hb=>hmut b hb)⟩
 refine (h.run X' ιs w vs hhs hrs).mono ?_
 rintro en w' ⟨v,r0,σ0,ι1,rfl,hR,hc,hv⟩
 have hlen:n≤σ0.length:=hc.len
 have hfl:fs.length≤σ0.length:=by rw [hl.len];exact hlen
 let ι2:bZ:=fun j=>if j < σ.length then ι j else ι1 (n + (j - σ.length))
 have hσ':(kC σ fs σ0).length=σ.length + (σ0.length - n):=by
  unfold kC;rw [vI _ _ _ _ hfl,hl.len]
 have hι2g:∀ i,ι2 (g i)=ι1 i:=fun i=>by
  by_cases hi:i < n
  ·obtain ⟨k,_,k2,k3⟩:=hgk i hi
   simp only [ι2,k2,k3,if_true]
   rw [hc.keep i hi,hιs i hi,k2]
  ·rw [hgn i (by omega)]
   simp only [ι2]
   rw [if_neg (by omega)]
   congr 1;omega
 have lookOther:∀ j,j < σ.length→j ∉ fs→(kC σ fs σ0).look j=σ.look j:=fun j h1 h2=>nV _ fs σ σ0 j hl.lt h1 h2
 have lookG:∀ i,(kC σ fs σ0).look (g i)=(σ0.look i).map (aU.ren g):=fun i=>by
  by_cases hi:i < n
  ·obtain ⟨k,k1,k2,k3⟩:=hgk i hi
   rw [k2];exact vK _ fs σ σ0 i k hl.lt hl.nodup k1 hfl
  ·rw [hgn i (by omega)]
   have:=vJ (bL fs σ.length) fs σ σ0 (i - n) hl.lt hfl
   rw [hl.len] at this
   rw [show σs.length + (i - n)=i by omega] at this
   exact this
 have kinds:∀ j o,(kC σ fs σ0).look j=some o→(∃ i o0,j=g i∧σ0.look i=some o0∧o=o0.ren g)∨(j < σ.length∧j ∉ fs∧σ.look j=some o):=by
  intro j o ho
  by_cases hj:j < σ.length
  ·by_cases hf:j ∈ fs
   ·obtain ⟨i,hi⟩:=List.mem_iff_getElem?.1 hf
    have hg:g i=j:=oJ hi
    rw [← hg,lookG i] at ho
    obtain ⟨o0,h1,h2⟩:=Option.map_eq_some_iff.1 ho
    exact .inl ⟨i,o0,hg.symm,h1,h2.symm⟩
   ·exact .inr ⟨hj,hf,by rw [← lookOther j hj hf];exact ho⟩
  ·have hlt:=a7 ho
   have hg:g (n + (j - σ.length))=j:=by rw [hgn _ (by omega)];omega
   rw [← hg,lookG] at ho
   obtain ⟨o0,h1,h2⟩:=Option.map_eq_some_iff.1 ho
   exact .inl ⟨_,o0,hg.symm,h1,h2.symm⟩
 have hotherι:∀ j,j < σ.length→ι2 j=ι j:=fun j hj=>by simp [ι2,hj]
 have hup:∀ id u,ι1 id=some u→ι2 (g id)=some u:=fun id u h=>by rw [hι2g];exact h
 have own2:∀ b,g8 ι2 (kC σ fs σ0) b→g8 ι1 σ0 b∨Out b:=by
  rintro b ⟨j,o,u,h1,h2,h3⟩
  rcases kinds j o h1 with ⟨i,o0,rfl,g2,rfl⟩ | ⟨g1,g2,g3⟩
  ·rw [hι2g] at h2;exact .inl ⟨i,o0,u,g2,h2,mK.1 h3⟩
  ·rw [hotherι j g1] at h2;exact .inr ⟨j,o,u,g2,g3,h2,h3⟩
 have mut2:∀ b,bQ X ι2 (kC σ fs σ0) b→bQ X' ι1 σ0 b:=by
  rintro b (hb | hb)
  ·exact .inl (.inl hb)
  ·rcases own2 b hb with hb | hb
   ·exact .inr hb
   ·exact .inl (.inr hb)
 have hfr:a8 (g8 ι σ) w w':=hc.frame.mono (fun b _ hb=>hown b hb)
 have hmuts:∀ b,b < w.heap.size→g8 ι2 (kC σ fs σ0) b→g8 ι σ b:=by
  intro b hb ho
  rcases own2 b ho with ho | ⟨j,o,v,_,h1,h2,h3⟩
  ·exact hown b (hc.muts b hb ho)
  ·exact ⟨j,o,v,h1,h2,h3⟩
 have hkeepι:∀ id u,ι id=some u→ι2 id=some u:=fun id u h=>by
  have hid:id < σ.length:=by
   rcases Nat.lt_or_ge id σ.length with h' | h'
   ·exact h'
   ·rw [hh.fresh id h'] at h;cases h
  rw [hotherι id hid];exact h
 have hheap:aQ P X ι2 (kC σ fs σ0) w':=by
  refine ⟨fun id hid=>?_,fun j o ho=>?_,fun j j' o o' v v' b h1 h2 h3 h4 h5 h6=>?_,fun b hb=>Nat.lt_of_lt_of_le (hh.xlt b hb) hfr.size,fun b hb hx=>?_,fun g' hg'=>by
   obtain ⟨g1,g2,g3⟩:=hc.heap.glob g' hg'
   exact ⟨g1,fun hm=>g2 (mut2 g' hm),g3⟩⟩
  ·rw [hσ'] at hid
   simp only [ι2]
   rw [if_neg (by omega)]
   exact hc.heap.fresh _ (by omega)
  ·rcases kinds j o ho with ⟨i,o0,rfl,g2,rfl⟩ | ⟨g1,g2,g3⟩
   ·obtain ⟨v,k1,k2⟩:=hc.heap.obj i o0 g2
    refine ⟨v,by rw [hι2g];exact k1,?_⟩
    exact bE.mono (fun _ _ h=>h) (a8.refl (bQ X' ι1 σ0) w') (fun b _ hb=>mut2 b hb) (k2.renUp hup) (fun _ _=>rfl)
   ·obtain ⟨v,k1,k2⟩:=hh.obj j o g3
    refine ⟨v,by rw [hotherι j g1];exact k1,?_⟩
    refine k2.mono hkeepι (hfr.mono (M':=bQ X ι σ) fun _ _ h => .inr h) (bQ.of_own hmuts) (fun b hb=>?_)
    refine hc.frame.block b (k2.block_lt hb) (fun hos=>?_)
    exact hhs.apart b hos (.inr ⟨j,o,v,g2,g3,k1,hb⟩)
  ·have sep:∀ j j' i o0 o' v v',j=g i→σ0.look i=some o0→ι2 j=some v→j' < σ.length→j' ∉ fs→σ.look j'=some o'→ι2 j'=some v'→kV o0 v b→kV o' v' b→False:=by
    intro j j' i o0 o' v v' he k1 k2 k3 k4 k5 k6 k7 k8
    subst he
    rw [hι2g] at k2
    rw [hotherι j' k3] at k6
    exact hc.heap.apart b ⟨i,o0,v,k1,k2,k7⟩ (.inr ⟨j',o',v',k4,k5,k6,k8⟩)
   rcases kinds j o h1 with ⟨i,o0,e1,g2,g3⟩ | ⟨g1,g2,g3⟩ <;> rcases kinds j' o' h2 with ⟨i',o0',e2,g2',g3'⟩ | ⟨g1',g2',g3'⟩
   ·subst e1 e2
    rw [hι2g] at h3 h4
    subst g3 g3';rw [hc.heap.inj i i' o0 o0' v v' b g2 g2' h3 h4 (mK.1 h5) (mK.1 h6)]
   ·subst g3;exact (sep j j' i o0 o' v v' e1 g2 h3 g1' g2' g3' h4 (mK.1 h5) h6).elim
   ·subst g3';exact (sep j' j i' o0' o v' v e2 g2' h4 g1 g2 g3 h3 (mK.1 h6) h5).elim
   ·rw [hotherι j g1] at h3
    rw [hotherι j' g1'] at h4
    exact hh.inj j j' o o' v v' b g3 g3' h3 h4 h5 h6
  ·rcases own2 b hb with hb | ⟨j,o,v,_,h1,h2,h3⟩
   ·exact hc.heap.apart b hb (.inl hx)
   ·exact hh.apart b ⟨j,o,v,h1,h2,h3⟩ hx
 refine ⟨v,r0.ren g,kC σ fs σ0,ι2,rfl,⟨r0,σ0,hR,hlen,rfl,rfl⟩,⟨⟨hkeepι,hfr,hheap,hmuts⟩,fun i hi=>hotherι i hi,by rw [hσ'];omega⟩,?_⟩
 exact (hv.renUp hup).mono (fun _ _ h=>h) (a8.refl (bQ X' ι1 σ0) w') (fun b _ hb=>mut2 b hb)
end
def cA (P:Program) (σ:aA) (d d':DV):Prop:=∀ X ι w v,aQ P X ι σ w→aX ι w (bQ X ι σ) d v→aX (fun _=>none) w X d' v
inductive jX (P:Program) (σ:aA):List DV→List DV→Prop
 | nil:jX P σ [] []
 | cons {d d':DV} {l l':List DV} (h:cA P σ d d') (t:jX P σ l l'):jX P σ (d::l) (d'::l')
section
variable {P:Program} {σ:aA}
theorem jX.get {l l':List DV} (h:jX P σ l l'):l'.length=l.length∧∀ (i:Nat) d,l[i]? = some d→∃ d',l'[i]? = some d'∧cA P σ d d':=by
 induction h with
 | nil=>exact ⟨rfl,fun i d h=>by simp at h⟩
 | cons h t ih =>
  refine ⟨by simp [ih.1],fun i d hd=>?_⟩
  cases i with
  | zero=>simp at hd;subst hd;exact ⟨_,rfl,h⟩
  | succ i=>simpa using ih.2 i d (by simpa using hd)
theorem cA.d {x:aR}:cA P σ (.d x) (.d x):=fun X ι w v _ h=>by
 cases h with
 | d h=>exact .d (h.mono (a8.refl (bQ X ι σ) w) (fun b _ hb => .inl hb))
theorem cA.nils:cA P σ .nils (.d (.lst [])):=fun X ι w v _ h=>by
 cases h with
 | nils A=>exact .d (.emp A 0)
theorem cA.agg {l l':List DV} (h:jX P σ l l'):cA P σ (.agg l) (.agg l'):=fun X ι w v hh hr=>by
 cases hr with
 | agg _ vs hl hr =>
  obtain ⟨h1,h2⟩:=h.get
  refine .agg _ vs (by rw [h1];exact hl) (fun i x y hx hy=>?_)
  have hi:i < l.length:=by rw [← h1];exact (List.getElem?_eq_some_iff.1 hx).1
  obtain ⟨d',k1,k2⟩:=h2 i _ (List.getElem?_eq_getElem hi)
  rw [hx] at k1;cases k1
  exact k2 X ι w y hh (hr i _ y (List.getElem?_eq_getElem hi) hy)
theorem cA.tup {l l':List DV} (h:jX P σ l l'):cA P σ (.tup l) (.tup l'):=fun X ι w v hh hr=>by
 cases hr with
 | tup _ vs hl hr =>
  obtain ⟨h1,h2⟩:=h.get
  refine .tup _ vs (by rw [h1];exact hl) (fun i x y hx hy=>?_)
  have hi:i < l.length:=by rw [← h1];exact (List.getElem?_eq_some_iff.1 hx).1
  obtain ⟨d',k1,k2⟩:=h2 i _ (List.getElem?_eq_getElem hi)
  rw [hx] at k1;cases k1
  exact k2 X ι w y hh (hr i _ y (List.getElem?_eq_getElem hi) hy)
theorem cA.arr {id:Nat} {el:TypeId} {es:List (List DV)} {ds:List (List aR)} (hl:σ.look id=some (.arr el es)) (hlen:ds.length=es.length) (h:∀ (i:Nat) e,es[i]? = some e→∃ cs,ds[i]? = some cs∧jX P σ e (cs.map .d)):cA P σ (.arr id) (.d (.lst ds)):=fun X ι w v hh hr=>by
 cases hr with
 | arr _ _ hid hv =>
  obtain ⟨v',h1,h2⟩:=hh.obj id _ hl
  rw [hid] at h1;cases h1
  cases h2 with
  | nil _ A =>
   obtain rfl:ds=[]:=List.eq_nil_of_length_eq_zero (by simpa using hlen)
   exact .d (.emp A 0)
  | arr _ _ b o c cs h1 hc hn hm hs hcl hrel =>
   cases hes:es with
   | nil =>
    subst hes
    obtain rfl:ds=[]:=List.eq_nil_of_length_eq_zero (by simpa using hlen)
    exact .d (.emp _ c)
   | cons e1 es1 =>
    rw [← hes]
    have hpos:0 < es.length:=by rw [hes];simp
    obtain ⟨c',rfl⟩:∃ c',c=c' + 1:=⟨c - 1,by omega⟩
    have hown:g8 ι σ b:=⟨id,_,_,hl,hid,by
     obtain ⟨m,hm'⟩:∃ m,es.length=m + 1:=⟨es.length - 1,by omega⟩
     rfl⟩
    have hcs:∀ (i:Nat) (x:List aR),ds[i]? = some x→∃ e,es[i]? = some e∧jX P σ e (x.map .d)∧x.length=P.cellsOf el:=by
     intro i x hx
     have hi:i < es.length:=by rw [← hlen];exact (List.getElem?_eq_some_iff.1 hx).1
     obtain ⟨cs',k1,k2⟩:=h i _ (List.getElem?_eq_getElem hi)
     rw [hx] at k1;cases k1
     refine ⟨_,List.getElem?_eq_getElem hi,k2,?_⟩
     have:=k2.get.1
     rw [List.length_map] at this
     rw [this];exact hs _ (List.getElem_mem hi)
    have hlt:∀ i j,i < es.length→j < P.cellsOf el→o + (i * P.cellsOf el + j) < cs.size:=by
     intro i j hi hj
     have h3:(i + 1) * P.cellsOf el≤(c' + 1) * P.cellsOf el:=Nat.mul_le_mul_right _ (by omega)
     rw [Nat.add_mul,Nat.one_mul] at h3
     omega
    refine .d (.lst b o es.length (c' + 1) (P.cellsOf el) ds (fun i j=>cs.getD (o + (i * P.cellsOf el + j)) undef) hlen hn hm (Array.getElem?_eq_some_iff.1 h1).1 (hh.apart b hown) (fun i x hx=>(hcs i x hx).choose_spec.2.2) (fun i j x y hx hy=>?_) (fun i j x y hx hy=>?_))
    ·obtain ⟨e,k1,k2,k3⟩:=hcs i x hx
     have hi:=(List.getElem?_eq_some_iff.1 k1).1
     have hj:j < P.cellsOf el:=by rw [← k3];exact (List.getElem?_eq_some_iff.1 hy).1
     have:=hlt i j hi hj
     unfold World.cell?
     simp only [h1]
     simp [this]
    ·obtain ⟨e,k1,k2,k3⟩:=hcs i x hx
     have hi:=(List.getElem?_eq_some_iff.1 k1).1
     have hj:j < P.cellsOf el:=by rw [← k3];exact (List.getElem?_eq_some_iff.1 hy).1
     have hlt':=hlt i j hi hj
     have hje:j < e.length:=by have:=k2.get.1;rw [List.length_map] at this;omega
     obtain ⟨d',m1,m2⟩:=k2.get.2 j _ (List.getElem?_eq_getElem hje)
     rw [List.getElem?_map,hy] at m1
     cases m1
     have:=m2 X ι w _ hh (hrel i j e _ (cs.getD (o + (i * P.cellsOf el + j)) undef) k1 (List.getElem?_eq_getElem hje) (by simp [hlt']))
     cases this with
     | d h=>exact h
theorem cA.map {id:Nat} {es:List (Value × DV)} {ds:List (Value × Bool × List aR)} (hl:σ.look id=some (.map es)) (hlen:ds.length=es.length)
  (h:∀ (i:Nat) k d,es[i]? = some (k,d)→∃ b cs,ds[i]? = some (k,b,cs)∧((b=true∧∃ l,d = .agg l∧jX P σ l (cs.map .d))∨(b=false∧∃ x,cs=[x]∧cA P σ d (.d x)))):cA P σ (.mp id) (.d (.mp ds)):=fun X ι w v hh hr=>by
 cases hr with
 | mp _ _ hid hv =>
  obtain ⟨r,rfl⟩:=hv
  obtain ⟨ms,clock,h1,h2,h3,h4⟩:=hh.mapO hl hid
  have hown:g8 ι σ r:=⟨id,_,_,hl,hid,rfl⟩
  have hds:∀ (i:Nat) k b cs,ds[i]? = some (k,b,cs)→∃ d,es[i]? = some (k,d)∧((b=true∧∃ l,d = .agg l∧jX P σ l (cs.map .d))∨(b=false∧∃ x,cs=[x]∧cA P σ d (.d x))):=by
   intro i k b cs hi
   have hlt:i < es.length:=by rw [← hlen];exact (List.getElem?_eq_some_iff.1 hi).1
   obtain ⟨b',cs',k1,k2⟩:=h i es[i].1 es[i].2 (List.getElem?_eq_getElem hlt)
   rw [hi] at k1
   cases k1
   exact ⟨es[i].2,List.getElem?_eq_getElem hlt,k2⟩
  refine .d (.mp r ms clock ds (hh.apart r hown) h1 (by rw [h2,hlen]) (fun i m k b cs hm hi=>?_) (fun i m k b cs hm hi j x u hx hu=>?_))
  ·obtain ⟨d,k1,k2⟩:=hds i k b cs hi
   refine ⟨h3 i m k d hm k1,?_⟩
   have hrel:=h4 i m k d hm k1
   rcases k2 with ⟨rfl,l,rfl,hs⟩ | ⟨rfl,x,rfl,hs⟩
   ·generalize m.val=mv at hrel
    cases hrel with
    | agg _ vs hl _ =>
     have:=hs.get.1
     rw [List.length_map] at this
     simp [uE,hl,this]
   ·simp [uE]
  ·obtain ⟨d,k1,k2⟩:=hds i k b cs hi
   have hrel:=h4 i m k d hm k1
   rcases k2 with ⟨rfl,l,rfl,hs⟩ | ⟨rfl,x',rfl,hs⟩
   ·generalize hmv:m.val=mv at hrel hu
    cases hrel with
    | agg _ vs hl hr =>
     simp only [wM] at hu
     have hj:j < l.length:=by
      have:=hs.get.1;rw [List.length_map] at this
      rw [← this];exact (List.getElem?_eq_some_iff.1 hx).1
     obtain ⟨d',m1,m2⟩:=hs.get.2 j _ (List.getElem?_eq_getElem hj)
     rw [List.getElem?_map,hx] at m1
     cases m1
     have:=m2 X ι w u hh (hr j _ u (List.getElem?_eq_getElem hj) hu)
     cases this with
     | d h=>exact h
   ·simp only [wM] at hu
    split at hu
    ·rename_i hj
     subst hj
     cases hu
     simp at hx
     subst hx
     have:=hs X ι w _ hh hrel
     cases this with
     | d h=>exact h
    ·cases hu
theorem aB.frozen {f:FuncId} {args:List DV} {R:DV→aA→Prop} {x:DV} (h:aB P f args [] R) (hs:∀ r σ',R r σ'→cA P σ' r x):bY P f args x:=by
 refine ⟨h.body,fun X ι w vs hh hr=>(h.run X ι w vs hh hr).mono ?_⟩
 rintro en w' ⟨v,r,σ',ι',rfl,hR,hc,hv⟩
 have hι:ι=fun _=>none:=by funext i;exact hh.fresh i (Nat.zero_le _)
 have hno:∀ b,¬ g8 ι [] b:=fun b ⟨i,o,u,g1,_⟩=>by simp [aA.look] at g1
 have:=hs r σ' hR X ι' w' v hc.heap hv
 refine ⟨v,x,[],ι,rfl,⟨rfl,rfl⟩,⟨⟨fun _ _ h=>h,hc.frame,⟨hh.fresh,fun id o ho=>by simp [aA.look] at ho,fun id id' o o' v v' b ho=>by simp [aA.look] at ho,fun b hb=>Nat.lt_of_lt_of_le (hh.xlt b hb) hc.frame.size,fun b hb=>absurd hb (hno b),fun g hg=>by
   obtain ⟨g1,g2,g3⟩:=hc.heap.glob g hg
   exact ⟨g1,fun hm=>hm.elim (fun h=>g2 (.inl h)) (hno g),g3⟩⟩,fun b _ hb=>absurd hb (hno b)⟩,fun _ _=>rfl,Nat.le_refl _⟩,?_⟩
 subst hι
 exact this.mono (fun _ _ h=>h) (a8.refl X w') (fun b _ hb=>hb.elim (fun h=>h) (fun h=>absurd h (hno b)))
theorem aB.shift {f:FuncId} {args:List DV} {R:DV→aA→Prop} (h:aB P f args [] R) (ha:DV.unders 0 args=true) {R':DV→aA→Prop} (k:∀ r0 σ0,R r0 σ0→R' (r0.ren (bL [] σ.length)) (σ++σ0.map (Option.map (aU.ren (bL [] σ.length))))):aB P f args σ R':=by
 have hr:∀ (g:Nat→Nat),∀ d:DV,d.under 0=true→d.ren g=d:=by
  intro g d
  induction d using DV.rec (motive_2:=fun l=>DV.unders 0 l=true→DV.rens g l=l) with
  | nil=>rfl
  | cons x l h1 h2=>rename_i h;simp only [DV.unders,Bool.and_eq_true] at h;simp only [DV.rens,h1 h.1,h2 h.2]
  | fn f a b h1 h2=>intro h;simp only [DV.under,Bool.and_eq_true] at h;simp only [DV.ren,h1 h.1,h2 h.2]
  | agg cs h1=>intro h;simp only [DV.ren,h1 h]
  | tup cs h1=>intro h;simp only [DV.ren,h1 h]
  | ifc t x h1=>intro h;simp only [DV.ren,h1 h]
  | _=>intro h;first | rfl | (simp [DV.under] at h)
 have hrs:∀ (g:Nat→Nat) (l:List DV),DV.unders 0 l=true→DV.rens g l=l:=by
  intro g l
  induction l with
  | nil=>intro _;rfl
  | cons x l ih=>intro h;simp only [DV.unders,Bool.and_eq_true] at h;simp only [DV.rens,hr g x h.1,ih h.2]
 refine (aB.within h [] ⟨rfl,fun k h=>by simp at h,List.nodup_nil,fun i o k h=>by simp [aA.look] at h,fun i o h=>by simp [aA.look] at h⟩ ha (hrs _ _ ha)).mono ?_
 rintro r σ' ⟨r0,σ0,h1,h2,rfl,rfl⟩
 have e:kC σ [] σ0=σ++σ0.map (Option.map (aU.ren (bL [] σ.length))):=by cases σ0 <;> rfl
 rw [e]
 exact k r0 σ0 h1
end
mutual
inductive gB (P:Program):TypeId→List aR→Prop
 | bool {t:TypeId} {b:Bool} (h:P.underlying t=some .bool):gB P t [.sc (.bool b)]
 | int {t:TypeId} {k:IntKind} {n:Int} (h:P.underlying t=some (.int k)) (hr:pU (.int k n)=true):gB P t [.sc (.int k n)]
 | str {t:TypeId} {s:ByteArray} (h:P.underlying t=some .string) (hr:pU (.string s)=true):gB P t [.sc (.string s)]
 | slice {t e:TypeId} {es:List (List aR)} (h:P.underlying t=some (.slice e)) (hl:es.length≤gY∧es.length * P.bytesOf e≤reachBytes) (hs:∀ cs ∈ es,gB P e cs):gB P t [.lst es]
 | struct {t:TypeId} {fs:Array Field} {xs:List aR} (h:P.underlying t=some (.struct fs)) (hf:pR P (fs.toList.map (·.type)) xs):gB P t xs
inductive pR (P:Program):List TypeId→List aR→Prop
 | nil:pR P [] []
 | cons {t:TypeId} {ts:List TypeId} {xs ys:List aR} (h:gB P t xs) (hs:pR P ts ys):pR P (t::ts) (xs++ys)
end
section
variable {P:Program}
theorem gB.int_inv {t:TypeId} {k:IntKind} {xs:List aR} (h:gB P t xs) (hu:P.underlying t=some (.int k)):∃ n,xs=[.sc (.int k n)]∧pU (.int k n)=true:=by
 cases h with
 | int h hr=>rw [hu] at h;cases h;exact ⟨_,rfl,hr⟩
 | bool h=>rw [hu] at h;cases h
 | str h hr=>rw [hu] at h;cases h
 | slice h hl hs=>rw [hu] at h;cases h
 | struct h hf=>rw [hu] at h;cases h
theorem gB.str_inv {t:TypeId} {xs:List aR} (h:gB P t xs) (hu:P.underlying t=some .string):∃ s,xs=[.sc (.string s)]∧pU (.string s)=true:=by
 cases h with
 | int h hr=>rw [hu] at h;cases h
 | bool h=>rw [hu] at h;cases h
 | str h hr=>exact ⟨_,rfl,hr⟩
 | slice h hl hs=>rw [hu] at h;cases h
 | struct h hf=>rw [hu] at h;cases h
theorem gB.slice_inv {t e:TypeId} {xs:List aR} (h:gB P t xs) (hu:P.underlying t=some (.slice e)):∃ es,xs=[.lst es]∧es.length≤gY∧∀ cs ∈ es,gB P e cs:=by
 cases h with
 | int h hr=>rw [hu] at h;cases h
 | bool h=>rw [hu] at h;cases h
 | str h hr=>rw [hu] at h;cases h
 | slice h hl hs=>rw [hu] at h;cases h;exact ⟨_,rfl,hl.1,hs⟩
 | struct h hf=>rw [hu] at h;cases h
theorem gB.slice_invB {t e:TypeId} {xs:List aR} (h:gB P t xs) (hu:P.underlying t=some (.slice e)):∃ es,xs=[.lst es]∧es.length * P.bytesOf e≤reachBytes∧∀ cs ∈ es,gB P e cs:=by
 cases h with
 | int h hr=>rw [hu] at h;cases h
 | bool h=>rw [hu] at h;cases h
 | str h hr=>rw [hu] at h;cases h
 | slice h hl hs=>rw [hu] at h;cases h;exact ⟨_,rfl,hl.2,hs⟩
 | struct h hf=>rw [hu] at h;cases h
theorem gB.struct_inv {t:TypeId} {fs:Array Field} {xs:List aR} (h:gB P t xs) (hu:P.underlying t=some (.struct fs)):pR P (fs.toList.map (·.type)) xs:=by
 cases h with
 | int h hr=>rw [hu] at h;cases h
 | bool h=>rw [hu] at h;cases h
 | str h hr=>rw [hu] at h;cases h
 | slice h hl hs=>rw [hu] at h;cases h
 | struct h hf=>rw [hu] at h;cases h;exact hf
theorem pR.nil_inv {xs:List aR} (h:pR P [] xs):xs=[]:=by cases h;rfl
theorem pR.cons_inv {t:TypeId} {ts:List TypeId} {xs:List aR} (h:pR P (t::ts) xs):∃ ys zs,xs=ys++zs∧gB P t ys∧pR P ts zs:=by cases h;exact ⟨_,_,rfl,‹_›,‹_›⟩
theorem tP {α:Type} {enc:α→List aR} {ok:α→Prop}:∀ (es:List (List aR)),(∀ cs ∈ es,∃ v,cs=enc v∧ok v)→∃ l:List α,es=l.map enc∧∀ v ∈ l,ok v
 | [],_=>⟨[],rfl,by simp⟩
 | cs::es,h=>by
  obtain ⟨v,rfl,h1⟩:=h cs (by simp)
  obtain ⟨l,rfl,h2⟩:=tP es (fun c hc=>h c (by simp [hc]))
  exact ⟨v::l,rfl,by simpa using ⟨h1,h2⟩⟩
mutual
def i6 (P:Program):Nat→TypeId→Bool
 | 0,_=>false
 | n + 1,t=>match P.underlying t with
  | some .bool=>P.cellsOf t == 1
  | some (.int _)=>P.cellsOf t == 1
  | some .string=>P.cellsOf t == 1
  | some (.slice e)=>P.cellsOf t == 1 && i6 P n e && decide (0 < P.bytesOf e) && decide (0 < P.cellsOf e)
  | some (.struct fs)=>kG P n fs.toList 0 (P.cellsOf t)
  | _=>false
def kG (P:Program):Nat→List Field→Nat→Nat→Bool
 | 0,_,_,_=>false
 | n + 1,fs,o,e=>match fs with
  | []=>o == e
  | f::r=>f.offset == o && i6 P n f.type && kG P n r (o + P.cellsOf f.type) e
end
variable {H:Type} {enc:TypeId × Value→H} {w:World} {sp:Nat→Bool}
theorem C9 {α β:Type} {f:α→Option β} {l:List α} {r:List β} (h:l.mapM f=some r):r.length=l.length∧∀ (i:Nat) x,l[i]? = some x→∃ y,r[i]? = some y∧f x=some y:=by
 obtain ⟨h1,h2⟩:=lZ h
 refine ⟨h1,fun i x hx=>?_⟩
 obtain ⟨y,hy,hz⟩:=h2 i x hx
 exact ⟨y,hy,hz⟩
theorem zH {base:Nat} {a:Addr} {n:Nat} {cs:List Value} (h:w.cells? base a n=some cs):cs.length=n∧∀ j v,cs[j]? = some v→w.cell? (a.add j)=some v:=by
 unfold World.cells? at h
 split at h
 ·obtain ⟨h1,h2⟩:=C9 h
  rw [List.length_range] at h1
  refine ⟨h1,fun j v hv=>?_⟩
  have hj:j < n:=by rw [← h1];exact (List.getElem?_eq_some_iff.1 hv).1
  obtain ⟨y,hy,hz⟩:=h2 j j (by rw [List.getElem?_range hj])
  rw [hv] at hy;cases hy;exact hz
 ·cases h
def GK (P:Program) (w:World) (t:TypeId) (cs:List Value):Prop :=
 ∃ xs,gB P t xs∧xs.length=cs.length∧cs.length=P.cellsOf t∧∀ (j:Nat) x v,xs[j]? = some x→cs[j]? = some v→dL w (fun _=>False) x v
theorem IS {a:Addr} {v:Value} (h:w.cell? a=some v):a.spot=none:=by
 unfold World.cell? at h
 split at h
 ·split at h
  ·cases h
  ·rename_i hs;cases hq:a.spot with
   | none=>rfl
   | some s=>simp [hq] at hs
 ·cases h
theorem tW {n fuel:Nat} (ih:∀ (t:TypeId) (cs:List Value) (d:DataW H) ps,DataW.trod enc P w 0 sp true fuel t cs=some (d,ps)→i6 P n t=true→(d.weights P t).all (·≤reachBytes)=true→GK P w t cs) :
  ∀ (m:Nat) (_:m≤n + 1) (fs:List Field) (o e:Nat) (cs:List Value) (xs:List (DataW H × List MemPlace)),(∀ k,k < m→∀ t,i6 P k t=true→i6 P n t=true)→kG P m fs o e=true→cs.length=e →
   fs.mapM (fun f=>DataW.trod enc P w 0 sp true fuel f.type ((cs.drop f.offset).take (P.cellsOf f.type)))=some xs→(DataW.weightsEach P (fs.map (·.type)) (xs.map (·.1))).all (·≤reachBytes)=true →
   o≤e∧∃ ys,pR P (fs.map (·.type)) ys∧ys.length=e - o∧∀ (j:Nat) x v,ys[j]? = some x→cs[o + j]? = some v→dL w (fun _=>False) x v
 | 0,_,fs,o,e,cs,xs,_,hp,_,_,_=>by simp [kG] at hp
 | m + 1,hm,[],o,e,cs,xs,hmono,hp,hc,hx,hw=>by
  simp only [kG,beq_iff_eq] at hp
  subst hp
  exact ⟨Nat.le_refl _,[],.nil,by simp,fun j x v hx=>by simp at hx⟩
 | m + 1,hm,f::fs,o,e,cs,xs,hmono,hp,hc,hx,hw=>by
  simp only [kG,Bool.and_eq_true,beq_iff_eq] at hp
  obtain ⟨⟨hp1,hp2⟩,hp3⟩:=hp
  simp only [List.mapM_cons,Option.bind_eq_bind] at hx
  cases h1:DataW.trod enc P w 0 sp true fuel f.type ((cs.drop f.offset).take (P.cellsOf f.type)) with
  | none=>simp [h1] at hx
  | some d =>
   cases h2:fs.mapM (fun f=>DataW.trod enc P w 0 sp true fuel f.type ((cs.drop f.offset).take (P.cellsOf f.type))) with
   | none=>simp [h1,h2] at hx
   | some ds =>
    simp [h1,h2] at hx
    subst hx
    simp only [List.map_cons,DataW.weightsEach,List.all_append,Bool.and_eq_true] at hw
    obtain ⟨ys,k1,k2,k3,k4⟩:=ih f.type _ d.1 d.2 h1 (hmono m (Nat.lt_succ_self _) _ hp2) hw.1
    obtain ⟨hle,zs,g1,g2,g3⟩:=tW ih m (by omega) fs (o + P.cellsOf f.type) e cs ds (fun k hk=>hmono k (by omega)) hp3 hc h2 hw.2
    have hlen:ys.length=P.cellsOf f.type:=k2.trans k3
    refine ⟨by omega,ys++zs,.cons k1 g1,by rw [List.length_append];omega,fun j x v hxj hvj=>?_⟩
    rw [List.getElem?_append] at hxj
    split at hxj
    ·rename_i hj
     refine k4 j x v hxj ?_
     rw [List.getElem?_take,if_pos (by omega),List.getElem?_drop,hp1];exact hvj
    ·rename_i hj
     refine g3 _ x v hxj ?_
     rw [show o + P.cellsOf f.type + (j - ys.length)=o + j by omega];exact hvj
theorem qY {e:TypeId}:∀ {l:List (DataW H)} {d:DataW H},(DataW.weightsAll P e l).all (·≤reachBytes)=true→d ∈ l→(d.weights P e).all (·≤reachBytes)=true
 | [],_,_,h=>by simp at h
 | x::l,d,hw,h=>by
  simp only [DataW.weightsAll,List.all_append,Bool.and_eq_true] at hw
  rcases List.mem_cons.1 h with rfl | h
  ·exact hw.1
  ·exact qY hw.2 h
theorem vL:∀ (n:Nat),(∀ t,i6 P n t=true→i6 P (n + 1) t=true)∧(∀ fs o e,kG P n fs o e=true→kG P (n + 1) fs o e=true)
 | 0=>⟨fun t h=>by simp [i6] at h,fun fs o e h=>by simp [kG] at h⟩
 | n + 1=>by
  obtain ⟨h1,h2⟩:=vL n
  constructor
  ·intro t h
   rw [i6] at h ⊢
   split at h <;> first | exact h | skip
   ·simp only [Bool.and_eq_true] at h ⊢
    exact ⟨⟨⟨h.1.1.1,h1 _ h.1.1.2⟩,h.1.2⟩,h.2⟩
   ·exact h2 _ _ _ h
  ·intro fs o e h
   cases fs with
   | nil=>simpa only [kG] using h
   | cons f r =>
    simp only [kG,Bool.and_eq_true] at h ⊢
    exact ⟨⟨h.1.1,h1 _ h.1.2⟩,h2 _ _ _ h.2⟩
theorem JT {m n:Nat} (h:m≤n) {t:TypeId} (hp:i6 P m t=true):i6 P n t=true:=by
 induction h with
 | refl=>exact hp
 | step _ ih=>exact (vL _).1 _ ih
theorem pO:∀ (n fuel:Nat) (t:TypeId) (cs:List Value) (d:DataW H) (ps:List MemPlace),DataW.trod enc P w 0 sp true fuel t cs=some (d,ps)→i6 P n t=true→(d.weights P t).all (·≤reachBytes)=true→GK P w t cs
 | 0,_,_,_,_,_,_,hp,_=>by simp [i6] at hp
 | n + 1,0,_,_,_,_,h,_,_=>by simp [DataW.trod] at h
 | n + 1,fuel + 1,t,cs,d,ps,h,hp,hw=>by
  have one:∀ (x:aR) (v:Value),cs=[v]→P.cellsOf t=1→gB P t [x]→dL w (fun _=>False) x v→GK P w t cs:=by
   rintro x v rfl h1 h2 h3
   exact ⟨[x],h2,rfl,h1.symm,fun j y u hy hu=>by
    cases j with
    | zero=>simp at hy hu;subst hy hu;exact h3
    | succ j=>simp at hy⟩
  simp only [i6] at hp
  cases hu:P.underlying t with
  | none=>rw [hu] at hp;cases hp
  | some td =>
   rw [hu] at hp
   cases td with
   | bool =>
    simp only [beq_iff_eq] at hp
    obtain ⟨v,rfl⟩:∃ v,cs=[v]:=by
     cases cs with
     | nil=>simp [DataW.trod,hu] at h
     | cons v r=>cases r with
      | nil=>exact ⟨v,rfl⟩
      | cons u r=>simp [DataW.trod,hu] at h
    cases v <;> simp only [DataW.trod,hu] at h <;> first | (cases h;done) | skip
    exact one _ _ rfl hp (.bool hu) (.sc _ rfl)
   | int k =>
    simp only [beq_iff_eq] at hp
    obtain ⟨v,rfl⟩:∃ v,cs=[v]:=by
     cases cs with
     | nil=>simp [DataW.trod,hu] at h
     | cons v r=>cases r with
      | nil=>exact ⟨v,rfl⟩
      | cons u r=>simp [DataW.trod,hu] at h
    cases v <;> simp only [DataW.trod,hu] at h <;> first | (cases h;done) | skip
    rename_i k' n'
    split at h
    ·rename_i hk
     obtain ⟨rfl,hwf⟩:=hk
     have hok:pU (.int k' n')=true:=by simpa [Lit.wf,pU] using hwf
     exact one _ _ rfl hp (.int hu hok) (.sc _ hok)
    ·cases h
   | string =>
    simp only [beq_iff_eq] at hp
    obtain ⟨v,rfl⟩:∃ v,cs=[v]:=by
     cases cs with
     | nil=>simp [DataW.trod,hu] at h
     | cons v r=>cases r with
      | nil=>exact ⟨v,rfl⟩
      | cons u r=>simp [DataW.trod,hu] at h
    cases v <;> simp only [DataW.trod,hu] at h <;> first | (cases h;done) | skip
    rename_i s
    split at h
    ·rename_i hk
     have hok:pU (.string s)=true:=by simpa [pU] using hk
     exact one _ _ rfl hp (.str hu hok) (.sc _ hok)
    ·cases h
   | slice e =>
    simp only [Bool.and_eq_true,beq_iff_eq,decide_eq_true_eq] at hp
    obtain ⟨⟨⟨hp1,hp2⟩,hp3⟩,hp4⟩:=hp
    obtain ⟨v,rfl⟩:∃ v,cs=[v]:=by
     cases cs with
     | nil=>simp [DataW.trod,hu] at h
     | cons v r=>cases r with
      | nil=>exact ⟨v,rfl⟩
      | cons u r=>simp [DataW.trod,hu] at h
    cases v <;> simp only [DataW.trod,hu] at h <;> first | (cases h;done) | skip
    rename_i A len cap
    cases A with
    | none =>
     cases len <;> cases cap <;> simp only at h <;> first | (cases h;done) | skip
     exact one (.lst []) _ rfl hp1 (.slice hu ⟨Nat.zero_le _,by simp⟩ (fun cs h=>by simp at h)) (.emp _ _)
    | some a =>
     simp only at h
     split at h
     ·rename_i hc
      obtain ⟨elems,he,h⟩:=Option.bind_eq_some_iff.1 h
      obtain ⟨rest,hr,h⟩:=Option.map_eq_some_iff.1 h
      cases h
      simp only [DataW.weights,hu,List.all_cons,List.all_append,Bool.and_eq_true,decide_eq_true_eq,List.length_map] at hw
      obtain ⟨hw1,hw2,_⟩:=hw
      obtain ⟨hl,hg⟩:=C9 he
      rw [List.length_range] at hl
      have helem:∀ i,i < len→∃ vs,w.cells? 0 (a.add (i * P.cellsOf e)) (P.cellsOf e)=some vs∧GK P w e vs:=by
       intro i hi
       obtain ⟨y,hy,hz⟩:=hg i i (by rw [List.getElem?_range hi])
       obtain ⟨vs,k1,k2⟩:=Option.bind_eq_some_iff.1 hz
       exact ⟨vs,k1,pO n fuel e vs y.1 y.2 k2 hp2 (qY hw2 (List.mem_map.2 ⟨y,List.mem_of_getElem? hy,rfl⟩))⟩
      have hlen:len≤gY:=by
       have h1:len * 1≤(elems.length + rest.length) * P.bytesOf e:=Nat.mul_le_mul (by omega) hp3
       have h2:reachBytes≤gY:=by unfold reachBytes gY;decide
       omega
      have hlenB:len * P.bytesOf e≤reachBytes:=Nat.le_trans (Nat.mul_le_mul_right _ (by omega)) hw1
      rcases Nat.eq_zero_or_pos len with h0 | hpos
      ·subst h0
       exact one (.lst []) _ rfl hp1 (.slice hu ⟨Nat.zero_le _,by simp⟩ (fun cs h=>by simp at h)) (.emp _ _)
      ·have hspot:a.spot=none:=by
        obtain ⟨vs,k1,_⟩:=helem 0 hpos
        obtain ⟨k3,k4⟩:=zH k1
        have h0:0 < vs.length:=by omega
        have:=IS (k4 0 _ (List.getElem?_eq_getElem h0))
        simpa [Addr.add] using this
       obtain ⟨b,o,s⟩:=a
       simp only at hspot
       subst hspot
       have hch:∀ i,∃ xs:List aR,i < len→gB P e xs∧xs.length=P.cellsOf e∧∃ vs,w.cells? 0 ⟨b,o + i * P.cellsOf e,none⟩ (P.cellsOf e)=some vs∧∀ (j:Nat) x v,xs[j]? = some x→vs[j]? = some v→dL w (fun _=>False) x v:=by
        intro i
        by_cases hi:i < len
        ·obtain ⟨vs,k1,xs,k2,k3,k4,k5⟩:=helem i hi
         rw [lS] at k1
         exact ⟨xs,fun _=>⟨k2,k3.trans k4,vs,k1,k5⟩⟩
        ·exact ⟨[],fun h=>absurd h hi⟩
       have ⟨xf,hxf⟩:∃ xf:Nat→List aR,∀ i,i < len→gB P e (xf i)∧(xf i).length=P.cellsOf e∧∃ vs,w.cells? 0 ⟨b,o + i * P.cellsOf e,none⟩ (P.cellsOf e)=some vs∧∀ (j:Nat) x v,(xf i)[j]? = some x→vs[j]? = some v→dL w (fun _=>False) x v :=
        ⟨fun i=>Classical.choose (hch i),fun i=>Classical.choose_spec (hch i)⟩
       have hes:∀ (i:Nat) cs',((List.range len).map xf)[i]? = some cs'→i < len∧cs'=xf i:=by
        intro i cs' h
        rw [List.getElem?_map] at h
        obtain ⟨k,hk,rfl⟩:=Option.map_eq_some_iff.1 h
        have hi:i < len:=by
         have:=(List.getElem?_eq_some_iff.1 hk).1
         simpa using this
        rw [List.getElem?_range hi] at hk
        cases hk
        exact ⟨hi,rfl⟩
       have hcell:∀ (i j:Nat) (cs':List aR) (x:aR),((List.range len).map xf)[i]? = some cs'→cs'[j]? = some x→∃ v,w.cell? ⟨b,o + (i * P.cellsOf e + j),none⟩=some v∧dL w (fun _=>False) x v:=by
        intro i j cs' x h1 h2
        obtain ⟨hi,rfl⟩:=hes i cs' h1
        obtain ⟨_,k2,vs,k3,k4⟩:=hxf i hi
        obtain ⟨k5,k6⟩:=zH k3
        have hj:j < vs.length:=by rw [k5,← k2];exact (List.getElem?_eq_some_iff.1 h2).1
        refine ⟨vs[j],?_,k4 j x _ h2 (List.getElem?_eq_getElem hj)⟩
        have:=k6 j _ (List.getElem?_eq_getElem hj)
        rw [lS] at this
        rw [← this];congr 2;omega
       have hb:b < w.heap.size:=by
        have h0:((List.range len).map xf)[0]? = some (xf 0):=by rw [List.getElem?_map,List.getElem?_range hpos];rfl
        obtain ⟨_,k2,_⟩:=hxf 0 hpos
        obtain ⟨v,hv,_⟩:=hcell 0 0 (xf 0) _ h0 (List.getElem?_eq_getElem (show 0 < (xf 0).length by omega))
        exact sZ hv
       refine one (.lst ((List.range len).map xf)) _ rfl hp1 (.slice hu ⟨by simpa using hlen,by simpa using hlenB⟩ (fun cs' hcs=>?_)) ?_
       ·obtain ⟨i,hi⟩:=List.mem_iff_getElem?.1 hcs
        obtain ⟨h1,rfl⟩:=hes i cs' hi
        exact (hxf i h1).1
       ·refine .lst b o len cap (P.cellsOf e) _ (fun i j=>(w.cell? ⟨b,o + (i * P.cellsOf e + j),none⟩).getD undef) (by simp) hc.2.1 hlen hb (fun h=>h) (fun i cs' hi=>?_) (fun i j cs' x h1 h2=>?_) (fun i j cs' x h1 h2=>?_)
        ·obtain ⟨h1,rfl⟩:=hes i cs' hi
         exact (hxf i h1).2.1
        ·obtain ⟨v,hv,_⟩:=hcell i j cs' x h1 h2
         rw [hv];rfl
        ·obtain ⟨v,hv,hr⟩:=hcell i j cs' x h1 h2
         rw [hv];exact hr
     ·cases h
   | struct fs =>
    simp only [DataW.trod,hu] at h
    split at h
    ·rename_i hlen
     obtain ⟨xs,hx,h⟩:=Option.map_eq_some_iff.1 h
     cases h
     simp only [DataW.weights,hu] at hw
     obtain ⟨_,ys,k1,k2,k3⟩:=tW (n:=n) (fuel:=fuel) (fun t cs d ps h1 h2 h3=>pO n fuel t cs d ps h1 h2 h3) n (by omega) fs.toList 0 (P.cellsOf t) cs xs (fun k hk t ht=>JT (by omega) ht) hp hlen hx hw
     exact ⟨ys,.struct hu k1,by omega,hlen,fun j x v h1 h2=>k3 j x v h1 (by simpa using h2)⟩
    ·cases h
   | _=>cases hp
end
end Go.Ab
namespace Go.Ab
abbrev iv (n:Int):DV := .d (.sc (.int .i64 n))
abbrev bv (b:Bool):DV := .d (.sc (.bool b))
abbrev sv (s:ByteArray):DV := .d (.sc (.string s))
abbrev lv (l:List (List aR)):DV := .d (.lst l)
abbrev cv (n:Int):DV := .d (.sc (.int .u8 n))
abbrev di (n:Int):aR := .sc (.int .i64 n)
abbrev db (b:Bool):aR := .sc (.bool b)
abbrev ds (s:ByteArray):aR := .sc (.string s)
abbrev ld (l:List (List aR)):aR := .lst l
def aC {α:Type} [Inhabited α] (l:List α) (i:Int):α:=l.getD i.toNat default
theorem HB {α:Type} [Inhabited α] {l:List α} {i:Int} (_:0≤i) (h:i < (l.length:Int)):l[i.toNat]? = some (aC l i):=by
 have:i.toNat < l.length:=by omega
 simp [aC,List.getD_eq_getElem?_getD,this]
theorem bK {α:Type} [Inhabited α] {l:List α} {i:Nat} (h:i < l.length):aC l (i:Int)=l[i]:=by
 simp [aC,List.getD_eq_getElem?_getD,h]
section
variable {P:Program} {e:aW} {σ:aA} {n:Nat}
theorem aF {α:Type} [Inhabited α] {f:α→List aR} {l:List α} {x i:Operand} {t el:TypeId} {sz:Nat} {kd:IntKind} {m:Int} (ht:dU P t=some (el,sz)) (hx:e.ev x=some (.d (.lst (l.map f)))) (hi:e.ev i=some (.d (.sc (.int kd m)))) (h0:0≤m) (h1:m < (l.length:Int)) (hsz:(f (aC l m)).length=sz∧sz≠0) :
  Ev P (.indexAddr t x i) e σ n (.iptr (f (aC l m)) 0) σ :=
 R3 ht hx hi h0 (by rw [List.getElem?_map,HB h0 h1];rfl) hsz
theorem NH {α:Type} {f:α→List aR} {l:List α} {x:Operand} {t el:TypeId} (ht:P.underlying t=some (.slice el)) (hx:e.ev x=some (.d (.lst (l.map f)))):Ev P (.call { callee := .builtin .len,args:=#[x],argTypes:=#[t] }) e σ n (.d (.sc (.int .i64 l.length))) σ:=by
 have:=R7 (P:=P) (σ:=σ) (n:=n) ht hx
 rwa [List.length_map] at this
theorem aAK {d h:Nat}:eX e d h none=some d:=rfl
theorem OF {d h:Nat} {x:Operand} {k:IntKind} {m:Int} (hx:e.ev x=some (.d (.sc (.int k m)))) (h0:0≤m) (h1:m≤(h:Int)):eX e d h (some x)=some m.toNat:=by
 simp only [eX,hx,h0,h1,and_self,if_true]
end
section
variable {α:Type} [Inhabited α] {l:List α} {p:α→Bool} {i:Nat}
theorem p7 (h:i < l.length) (h1:(l.take i).all p=true) (h2:p (aC l (i:Int))=true):(l.take (i + 1)).all p=true:=by
 rw [List.take_succ_eq_append_getElem h,List.all_append,h1]
 rw [bK h] at h2
 simp [h2]
theorem BY (h:i < l.length) (h2:p (aC l (i:Int))=false):l.all p=false:=by
 rw [bK h] at h2
 rw [List.all_eq_false]
 exact ⟨l[i],List.getElem_mem h,by simp [h2]⟩
theorem GM {β:Type} {l:List β} {p:β→Bool} (h:¬ i < l.length) (h1:(l.take i).all p=true):l.all p=true:=by
 rwa [List.take_of_length_le (by omega)] at h1
theorem mU (h:i < l.length) (h1:(l.take i).any p=false) (h2:p (aC l (i:Int))=false):(l.take (i + 1)).any p=false:=by
 rw [List.take_succ_eq_append_getElem h,List.any_append,h1]
 rw [bK h] at h2
 simp [h2]
theorem B0 (h:i < l.length) (h2:p (aC l (i:Int))=true):l.any p=true:=by
 rw [bK h] at h2
 rw [List.any_eq_true]
 exact ⟨l[i],List.getElem_mem h,h2⟩
theorem o3 {β:Type} {l:List β} {p:β→Bool} (h:¬ i < l.length) (h1:(l.take i).any p=false):l.any p=false:=by
 rwa [List.take_of_length_le (by omega)] at h1
theorem gL (h:i < l.length):l.take (i + 1)=l.take i++[aC l (i:Int)]:=by
 rw [bK h,List.take_succ_eq_append_getElem h]
end
def fN (n:Nat) (p:Nat→Bool):Bool:=(List.range n).all p
section
variable {n i:Nat} {p:Nat→Bool}
theorem dN:fN n p=true↔∀ i,i < n→p i=true:=by simp [fN,List.all_eq_true,List.mem_range]
theorem fH (h1:fN i p=true) (h2:p i=true):fN (i + 1) p=true:=by
 rw [dN] at h1 ⊢
 intro j hj
 rcases Nat.lt_succ_iff_lt_or_eq.1 hj with h | rfl
 ·exact h1 j h
 ·exact h2
theorem eD (h:i < n) (h2:p i=false):fN n p=false:=by
 cases hh:fN n p with
 | false=>rfl
 | true=>rw [dN] at hh;rw [hh i h] at h2;cases h2
theorem gC (h:¬ i < n) (hi:i≤n) (h1:fN i p=true):fN n p=true:=by
 have:i=n:=by omega
 subst this;exact h1
end
def j8 {α:Type} (p:α→Bool):List α→Int
 | []=>-1
 | x::l=>if p x then 0 else let r:=j8 p l;if r < 0 then r else r + 1
structure AV (P:Program) (e:aW) (σ:aA) (rs:List ResultVar) (ds:List DV):Prop where
 h:rs.mapM (mA P e σ)=some ds
section
variable {P:Program} {e:aW} {σ:aA} {rs:List ResultVar} {ds:List DV}
theorem FX:AV P e σ [] []:=⟨rfl⟩
theorem HK {r:ResultVar} {d:DV} (h:mA P e σ r=some d) (k:AV P e σ rs ds):AV P e σ (r::rs) (d::ds):=⟨by simp [List.mapM_cons,h,k.h]⟩
theorem UG {t:Nat} {d:DV} (h:e.get t=some d) (k:AV P e σ rs ds):AV P e σ (.tmp t::rs) (d::ds):=HK h k
theorem UF {x m:Nat} {t:TypeId} {p:DV} {cells l:List DV} (ht:i7 P t=some true) (hn:P.cellsOf t=m) (hx:e.get x=some p) (hb:wY σ p=some cells) (hc:cells.take m=l) (hle:Nat.ble m l.length=true) (k:AV P e σ rs ds):AV P e σ (.cell x t::rs) (.agg l::ds):=by
 have h:=BR (P:=P) (n:=0) (x := .tmp x) ht hn hx hb hc hle
 refine HK ?_ k
 have:=h.h
 simp only [aZ,Option.map_eq_some_iff] at this
 obtain ⟨y,hy,hz⟩:=this
 cases hz
 exact hy
def bG:List DV→DV
 | [d]=>d
 | ds => .tup ds
structure vT (P:Program) (e:aW) (σ:aA) (R:DV→aA→Prop) (m:Nat) (rs:List ResultVar) (acc:List DV):Prop where
 h:∃ ds,AV P e σ rs ds∧(bG (acc++ds)).norm.under m=true∧R (bG (acc++ds)).norm (σ.take m)
variable {R:DV→aA→Prop} {acc:List DV} {m:Nat}
theorem XU {t:Nat} {d:DV} (h:e.get t=some d) (k:vT P e σ R m rs (acc++[d])):vT P e σ R m (.tmp t::rs) acc:=by
 obtain ⟨ds,h1,h2⟩:=k.h
 exact ⟨d::ds,UG h h1,by simpa using h2⟩
theorem XT {x k':Nat} {t:TypeId} {p:DV} {cells l:List DV} (ht:i7 P t=some true) (hn:P.cellsOf t=k') (hx:e.get x=some p) (hb:wY σ p=some cells) (hc:cells.take k'=l) (hle:Nat.ble k' l.length=true) (k:vT P e σ R m rs (acc++[.agg l])):vT P e σ R m (.cell x t::rs) acc:=by
 obtain ⟨ds,h1,h2⟩:=k.h
 exact ⟨.agg l::ds,UF ht hn hx hb hc hle h1,by simpa using h2⟩
theorem aG {x:DV} (hu:(bG acc).norm.under 0=true) (h:(bG acc).norm=x):vT P e σ (ZF x) 0 [] acc:=⟨[],FX,by simpa using hu,by simpa using h,rfl⟩
theorem t8 (hu:(bG acc).norm.under m=true) (h:R (bG acc).norm (σ.take m)):vT P e σ R m [] acc:=⟨[],FX,by simpa using hu,by simpa using h⟩
def eJ (m:Nat) (σ:aA):Bool:=(σ.take m).all fun o=>match o with | some o=>o.under m | none=>true
theorem aP (m:Nat) {fn:Func} {n:Nat} {ex:Exit} {l:List ResultVar} (hrs:fn.results=l.toArray) (hex:(match ex with | .normal=>true | .ret=>true | _=>false)=true) (hn:Nat.ble n m=true) (ho:eJ m σ=true) (k:vT P e σ R m l []):Fin P fn n R ex e σ:=by
 obtain ⟨ds,h1,h2,h3⟩:=k.h
 have hr:DJ P fn e σ=some (bG ds):=by
  have hm:=h1.h
  unfold DJ
  split
  ·rename_i r0 hrs'
   rw [hrs] at hrs'
   simp only at hrs'
   subst hrs'
   simp only [List.mapM_cons,List.mapM_nil] at hm
   cases h0:mA P e σ r0 with
   | none=>simp [h0] at hm
   | some d=>simp [h0] at hm;subst hm;rfl
  ·rename_i hne
   rw [hrs]
   rw [hm]
   simp only [Option.map]
   congr 1
   unfold bG
   split
   ·have hlen:=(lZ hm).1
    exfalso
    match hl:l,hlen with
    | [r0],_=>exact hne r0 (by rw [hrs])
   ·rfl
 refine ⟨?_,bG ds,m,hr,Nat.le_of_ble_eq_true hn,by simpa using h2,fun i o hi ho'=>?_,by simpa using h3⟩
 ·cases ex <;> first | exact .inl rfl | exact .inr rfl | cases hex
 ·have h4:aA.look (σ.take m) i=some o:=by
   unfold aA.look at ho' ⊢
   rw [List.getElem?_take,if_pos hi];exact ho'
  unfold aA.look at h4
  obtain ⟨x,hx1,hx2⟩:=Option.bind_eq_some_iff.1 h4
  have:=List.all_eq_true.1 ho x (List.mem_of_getElem? hx1)
  subst hx2
  exact this
theorem dG {a b:DV} (h:a=b):a=b:=h
end
end Go.Ab
