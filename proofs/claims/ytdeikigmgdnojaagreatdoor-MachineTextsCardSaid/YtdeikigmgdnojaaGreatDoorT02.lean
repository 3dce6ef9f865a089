import Derived.Test.YtdeikigmgdnojaaGreatDoorT01
/- A part of the proof of one law. -/
set_option maxRecDepth 100000
set_option maxHeartbeats 8000000
set_option linter.unusedVariables false
set_option linter.unusedSimpArgs false
namespace Go.Ab
def rT (P:Program) (σ:aA) (sz:Nat) (d:DV):Option (List (List DV)) :=
 match d with
 | .d (.lst es)=>if es.all (fun c=>c.length == sz) then some (es.map fun e=>e.map DV.d) else none
 | .nils=>some []
 | .arr id=>match σ.look id with
  | some (.arr elem es)=>if P.cellsOf elem=sz then some es else none
  | _=>none
 | .d (.sc (.string s))=>if sz=1 then some (s.data.toList.map fun b=>[.d (.sc (.int .u8 b.toNat))]) else none
 | _=>none
def vB (need bytes:Nat):Bool:=decide ((need + need / 4 + 512) * bytes≤281474976710656) && decide (need≤gY)
def vV (σ:aA) (el:TypeId) (d:DV):Option (List (List DV) × Option Nat) :=
 match d with
 | .nils=>some ([],none)
 | .arr id=>match σ.look id with
  | some (.arr elem es)=>if elem=el then some (es,some id) else none
  | _=>none
 | _=>none
def aA.less (σ:aA):Option Nat→aA
 | some id=>σ.put id none
 | none=>σ
def d8 (P:Program) (op:Op) (e:aW) (σ:aA) (nid:Nat):Option (DV × aA) :=
 match op with
 | .call { callee := .builtin .append,args,argTypes } =>
  match args.toList,argTypes[0]?,argTypes[1]? with
  | [x,y],some t,some u =>
   match dU P t,P.underlying u,e.ev x,e.ev y with
   | some (el,sz),some ud,some dx,some dy =>
    match ud with
    | .int _=>none
    | _=>match P.info? el,vV σ el dx,rT P σ sz dy with
     | some inf,some (es,old),some xs =>
      if vB (es.length + xs.length) inf.bytes && inf.zero.any (fun z=>z.cells.size == inf.size) then
       some (.arr nid,(σ.less old).put nid (some (.arr el (es++xs))))
      else none
     | _,_,_=>none
   | _,_,_,_=>none
  | _,_,_=>none
 | _=>none
section
variable {P:Program} {X:Nat→Prop} {ι:bZ} {σ:aA} {w w':World} {M M':Nat→Prop}
theorem tJ {sz:Nat} (es:List (List DV)) (h:∀ e ∈ es,e.length=sz) (k:Nat):(es.take k).flatten=es.flatten.take (k * sz):=by
 induction es generalizing k with
 | nil=>simp
 | cons e es ih =>
  have h0:=h e (by simp)
  cases k with
  | zero=>simp
  | succ k =>
   have hk:(k + 1) * sz=k * sz + sz:=by rw [Nat.add_mul,Nat.one_mul]
   rw [List.take_succ_cons,List.flatten_cons,ih (fun x hx=>h x (by simp [hx])),List.flatten_cons,List.take_append,hk,h0,List.take_of_length_le (show e.length≤k * sz + sz by omega),Nat.add_sub_cancel]
theorem oS {sz:Nat} {d:DV} {v:Value} {xs:List (List DV)} (hh:aQ P X ι σ w) (hv:aX ι w (bQ X ι σ) d v) (h:rT P σ sz d=some xs) :
  (Builtin.lenOf v).run P w = .ok xs.length w∧(∀ e ∈ xs,e.length=sz)∧(∀ e ∈ xs,∀ x ∈ e,f7 x=true)∧xs.length≤maxLen ∧
  ∀ k,k≤xs.length→∃ c,(Builtin.firstCells sz k v).run P w = .ok c w∧cM ι w (bQ X ι σ) (xs.take k).flatten c.toList:=by
 have lm:gY≤maxLen:=by decide
 unfold rT at h
 split at h
 ·rename_i es
  split at h
  ·rename_i hall
   cases h
   have hall':∀ e ∈ es,e.length=sz:=fun e he=>by simpa using List.all_eq_true.1 hall e he
   cases hv with
   | d hv =>
    have hsl:∃ A n c,v = .slice A n c:=by cases hv with
     | emp A c=>exact ⟨A,0,c,rfl⟩
     | lst b o n c=>exact ⟨_,n,c,rfl⟩
    obtain ⟨A,n,c,rfl⟩:=hsl
    obtain ⟨h1,h2,h3,h4⟩:=hv.flat hall'
    subst h1
    have hm:∀ e ∈ es.map (fun e=>e.map DV.d),e.length=sz:=by
     intro e he
     obtain ⟨e',he',rfl⟩:=List.mem_map.1 he
     simpa using hall' e' he'
    refine ⟨by simp [Builtin.lenOf],hm,?_,by simp;omega,fun k hk=>?_⟩
    ·intro e he x hx
     obtain ⟨e',he',rfl⟩:=List.mem_map.1 he
     obtain ⟨x',_,rfl⟩:=List.mem_map.1 hx
     rfl
    ·simp only [List.length_map] at hk
     rcases h4 with rfl | ⟨b,o,rfl,vs,hvl,hcell,hrel⟩
     ·obtain rfl:k=0:=by simpa using hk
      cases A with
      | none=>exact ⟨#[],by simp [Builtin.firstCells],by simpa using cM.nil⟩
      | some a=>exact ⟨#[],by simp [Builtin.firstCells,loadCells,loadCellsFrom],by simpa using cM.nil⟩
     ·have hle:k * sz≤es.length * sz:=Nat.mul_le_mul_right _ hk
      refine ⟨(vs.take (k * sz)).toArray,?_,?_⟩
      ·have:=iH (P:=P) (w:=w) b o (k * sz) 0 #[] (vs.take (k * sz)) (by simp;omega) (fun j u hj=>by
        rw [Nat.zero_add]
        rw [List.getElem?_take] at hj
        split at hj
        ·exact hcell j u hj
        ·cases hj)
       simp [Builtin.firstCells,loadCells,this]
      ·rw [tJ _ hm]
       simpa using hrel.take (k * sz)
  ·cases h
 ·cases h
  cases hv with
  | nils A =>
   refine ⟨by simp [Builtin.lenOf],by simp,by simp,by simp,fun k hk=>?_⟩
   obtain rfl:k=0:=by simpa using hk
   cases A with
   | none=>exact ⟨#[],by simp [Builtin.firstCells],by simpa using cM.nil⟩
   | some a=>exact ⟨#[],by simp [Builtin.firstCells,loadCells,loadCellsFrom],by simpa using cM.nil⟩
 ·rename_i id
  split at h
  ·rename_i elem es hl
   split at h
   ·rename_i hsz
    injection h with h
    subst h
    cases hv with
    | arr _ v hid hsl =>
     obtain ⟨A,n,c,rfl⟩:=hsl
     obtain ⟨h1,h2,h3,⟨h4,h4c⟩,h5⟩:=hh.arr_flat hl hid
     subst h1
     rw [hsz] at h4
     refine ⟨by simp [Builtin.lenOf],h4,h4c,by omega,fun k hk=>?_⟩
     rcases h5 with ⟨rfl,rfl⟩ | ⟨b,o,cs,rfl,h6,h7,h8⟩
     ·obtain rfl:k=0:=by simpa using hk
      cases A with
      | none=>exact ⟨#[],by simp [Builtin.firstCells],by simpa using cM.nil⟩
      | some a=>exact ⟨#[],by simp [Builtin.firstCells,loadCells,loadCellsFrom],by simpa using cM.nil⟩
     ·rw [hsz] at h7 h8
      have hle:k * sz≤es.length * sz:=Nat.mul_le_mul_right _ hk
      have hle2:es.length * sz≤c * sz:=Nat.mul_le_mul_right _ h3
      refine ⟨((cs.toList.drop o).take (k * sz)).toArray,?_,?_⟩
      ·have:=iH (P:=P) (w:=w) b o (k * sz) 0 #[] ((cs.toList.drop o).take (k * sz)) (by simp;omega) (fun j u hj=>by
        rw [Nat.zero_add,mL h6]
        rw [List.getElem?_take] at hj
        split at hj
        ·rw [List.getElem?_drop] at hj;simpa using hj
        ·cases hj)
       simp [Builtin.firstCells,loadCells,this]
      ·rw [tJ _ h4]
       have:=h8.take (k * sz)
       rw [List.take_take,Nat.min_eq_left hle] at this
       simpa using this
   ·cases h
  ·cases h
 ·rename_i s
  split at h
  ·rename_i hsz
   subst hsz
   cases h
   obtain ⟨rfl,hok⟩:=hv.sc_inv
   have hok':s.size≤maxLen:=by simpa [pU] using hok
   have hsz:s.data.toList.length=s.size:=by simp
   refine ⟨by simp [Builtin.lenOf],?_,?_,by simpa using hok',fun k hk=>?_⟩
   ·intro e he
    obtain ⟨b,_,rfl⟩:=List.mem_map.1 he
    rfl
   ·intro e he x hx
    obtain ⟨b,_,rfl⟩:=List.mem_map.1 he
    simp at hx;subst hx;rfl
   ·refine ⟨_,rfl,?_⟩
    have e1:(s.extract 0 k).data=s.data.extract 0 k:=by simp
    rw [e1,Array.toList_map,Array.toList_extract,List.extract_eq_take_drop,List.drop_zero,Nat.sub_zero,← List.map_take]
    generalize s.data.toList.take k=l
    induction l with
    | nil=>exact cM.nil
    | cons b l ih =>
     simp only [List.map_cons,List.flatten_cons,List.singleton_append]
     refine .cons (.of_sc ?_) ih
     rw [pC]
     have:=b.toNat_lt
     have h1:IntKind.u8.min=0:=rfl
     have h2:IntKind.u8.max=255:=by decide
     rw [h1,h2]
     omega
  ·cases h
 ·cases h
theorem zN (need:Nat):∀ (r c:Nat),c < need→Builtin.growBy need r c≤need + need / 4 + 512
 | 0,c,h=>by unfold Builtin.growBy;omega
 | r + 1,c,h=>by
  unfold Builtin.growBy
  rw [if_neg (by omega)]
  by_cases h2:c + (c + 768) / 4 < need
  ·exact zN need r _ h2
  ·cases r with
   | zero=>unfold Builtin.growBy;omega
   | succ r=>unfold Builtin.growBy;rw [if_pos (by omega)];omega
theorem FP (need old:Nat) (h:old < need):Builtin.nextslicecap need old≤need + need / 4 + 512:=by
 unfold Builtin.nextslicecap
 split
 ·omega
 ·split
  ·omega
  ·exact zN need 4 old h
end
section
variable {P:Program} {X:Nat→Prop} {ι ι1 ι2:bZ} {σ σ1 σ2:aA} {w w1 w2:World}
theorem Comes'.trans (h:Comes' P X ι σ σ1 w ι1 w1) (k:Comes' P X ι1 σ1 σ2 w1 ι2 w2):Comes' P X ι σ σ2 w ι2 w2 :=
 ⟨fun _ _ hv=>k.inj _ _ (h.inj _ _ hv),h.frame.trans k.frame (fun x hx hm=>h.muts x hx hm),k.heap,fun b hb hm=>h.muts b hb (k.muts b (Nat.lt_of_lt_of_le hb h.frame.size) hm)⟩
theorem Comes'.rel (h:Comes' P X ι σ σ1 w ι1 w1) {d:DV} {v:Value} (hv:aX ι w (bQ X ι σ) d v):aX ι1 w1 (bQ X ι1 σ1) d v:=hv.mono h.inj h.frameM h.mutsM
theorem Comes'.relL (h:Comes' P X ι σ σ1 w ι1 w1) {d:List DV} {v:List Value} (hv:cM ι w (bQ X ι σ) d v):cM ι1 w1 (bQ X ι1 σ1) d v:=hv.mono h.inj h.frameM h.mutsM
theorem Comes'.freed (hh:aQ P X ι σ w) {id:Nat} (hl:id < σ.length):Comes' P X ι σ (σ.put id none) w ι w:=by
 obtain ⟨h1,h2⟩:=hh.free hl
 exact ⟨fun _ _ h=>h,a8.refl _ w,h1,fun b _ hb=>h2 b hb⟩
theorem Comes'.drew (hh:aQ P X ι σ w):Comes' P X ι σ σ w ι { w with drawn:=w.drawn + 1 } :=
 ⟨fun _ _ h=>h,a8.drew _ w,hh.change (a8.drew _ w) (fun _ _ h=>h) hh.fresh (fun _ _ h => .inl ⟨h,fun _ _ _ _=>rfl⟩) (fun _ _ h=>h) hh.inj,fun _ _ h=>h⟩
theorem Comes'.push (hh:aQ P X ι σ w) (obj:Obj):Comes' P X ι σ σ w ι { w with heap:=w.heap.push obj } :=
 ⟨fun _ _ h=>h,a8.push _ w obj,hh.pushed obj,fun _ _ h=>h⟩
theorem FO {nid:Nat} {el:TypeId} {es:List (List DV)} {c:Nat} {cells:Array Value} (hh:aQ P X ι σ w) (hn:ι nid=none) (hl:nid≤σ.length) (hsz:∀ e ∈ es,e.length=P.cellsOf el) (hcl:∀ e ∈ es,∀ x ∈ e,f7 x=true)
  (hlen:es.length≤c) (hm:es.length≤gY) (hc:c * P.cellsOf el≤cells.size) (hrel:cM ι w (bQ X ι σ) es.flatten (cells.toList.take (es.length * P.cellsOf el))) :
  ∃ ι',Comes' P X ι σ (σ.put nid (some (.arr el es))) w ι' { w with heap:=w.heap.push (.cells cells el) }∧ι' nid=some (.slice (some ⟨w.heap.size,0,none⟩) es.length c)∧∀ i,i≠nid→ι' i=ι i:=by
 let v':Value := .slice (some ⟨w.heap.size,0,none⟩) es.length c
 have hι:∀ id u,ι id=some u→(bZ.set ι nid v') id=some u:=fun id u h=>by
  unfold bZ.set;rw [if_neg]
  ·exact h
  ·rintro rfl;rw [hn] at h;cases h
 have hb:∀ b,cY v'=some b→b=w.heap.size:=fun b hb=>by
  simp only [v'] at hb
  cases c with
  | zero=>simp [cY] at hb
  | succ c=>simp [cY] at hb;exact hb.symm
 have hM:∀ b,b < w.heap.size→g8 (bZ.set ι nid v') (σ.put nid (some (.arr el es))) b→g8 ι σ b:=by
  rintro b hb' ⟨id,o',u,h1,h2,h3⟩
  rw [aA.look_put hl] at h1
  unfold bZ.set at h2
  split at h1
  ·rename_i he;rw [if_pos he] at h2;cases h2;cases h1;have:=hb b h3;omega
  ·rename_i he;rw [if_neg he] at h2;exact ⟨id,o',u,h1,h2,h3⟩
 obtain ⟨h1,h2,h3⟩:=hh.alloc (nid:=nid) (o := .arr el es) (obj := .cells cells el) (v:=v') hn hl hb
  (bE.arr_of (rJ w _) (by omega) hlen hm hsz hcl (by
   have:=hrel.mono hι (a8.push (bQ X ι σ) w (.cells cells el)) (bQ.of_own (X:=X) hM)
   simpa using this))
 exact ⟨_,⟨h2,a8.push _ w _,h1,h3⟩,by simp [bZ.set,v'],fun i hi=>by simp [bZ.set,hi]⟩
theorem BB {nid:Nat} {el:TypeId} {A:Option Addr} (hh:aQ P X ι σ w) (hn:ι nid=none) (hl:nid≤σ.length) :
  ∃ ι',Comes' P X ι σ (σ.put nid (some (.arr el []))) w ι' w∧ι' nid=some (.slice A 0 0)∧∀ i,i≠nid→ι' i=ι i:=by
 let v':Value := .slice A 0 0
 have hι:∀ id u,ι id=some u→(bZ.set ι nid v') id=some u:=fun id u h=>by
  unfold bZ.set;rw [if_neg]
  ·exact h
  ·rintro rfl;rw [hn] at h;cases h
 have hb:cY v'=none:=by simp only [v'];cases A <;> rfl
 have hM:∀ b,g8 (bZ.set ι nid v') (σ.put nid (some (.arr el []))) b→g8 ι σ b:=by
  rintro b ⟨id,o',u,h1,h2,h3⟩
  rw [aA.look_put hl] at h1
  unfold bZ.set at h2
  split at h1
  ·rename_i he;rw [if_pos he] at h2;cases h2;cases h1;exact absurd (hb.symm.trans h3) (by simp)
  ·rename_i he;rw [if_neg he] at h2;exact ⟨id,o',u,h1,h2,h3⟩
 refine ⟨bZ.set ι nid v',⟨hι,a8.refl _ w,?_,fun b _=>hM b⟩,by simp [bZ.set,v'],fun i hi=>by simp [bZ.set,hi]⟩
 refine hh.change (a8.refl _ w) hι (fun i hi=>?_) (fun i o' hi=>?_) (fun b _=>hM b) (fun i i' o1 o2 u1 u2 x g1 g2 g3 g4 g5 g6=>?_)
 ·rw [aA.length_put] at hi
  unfold bZ.set
  split at hi
  ·rw [if_neg (by omega)];exact hh.fresh i hi
  ·rw [if_neg (by omega)];exact hh.fresh i (by omega)
 ·rw [aA.look_put hl] at hi
  split at hi
  ·rename_i he;subst he;cases hi;exact .inr ⟨v',by simp [bZ.set],.nil el A⟩
  ·exact .inl ⟨hi,fun _ _ _ _=>rfl⟩
 ·rw [aA.look_put hl] at g1 g2
  unfold bZ.set at g3 g4
  by_cases ha:i=nid
  ·rw [if_pos ha] at g3 g1;cases g3;cases g1;exact absurd (hb.symm.trans g5) (by simp)
  ·by_cases hb':i'=nid
   ·rw [if_pos hb'] at g4 g2;cases g4;cases g2;exact absurd (hb.symm.trans g6) (by simp)
   ·rw [if_neg ha] at g1 g3;rw [if_neg hb'] at g2 g4
    exact hh.inj i i' _ _ _ _ x g1 g2 g3 g4 g5 g6
theorem O0 {id nid:Nat} {el:TypeId} {es xs:List (List DV)} {b o c:Nat} {cs:Array Value} {us:List Value} (hh:aQ P X ι σ w) (hlk:σ.look id=some (.arr el es)) (hid:ι id=some (.slice (some ⟨b,o,none⟩) es.length (c + 1)))
  (hn:ι nid=none) (hl:nid≤σ.length) (hne:nid≠id) (hb:w.heap[b]? = some (.cells cs el (0,0))) (hc:o + (c + 1) * P.cellsOf el≤cs.size) (hes:∀ e ∈ es,e.length=P.cellsOf el) (hec:∀ e ∈ es,∀ x ∈ e,f7 x=true)
  (hxs:∀ e ∈ xs,e.length=P.cellsOf el) (hxc:∀ e ∈ xs,∀ x ∈ e,f7 x=true) (hlen:es.length + xs.length≤c + 1) (hm:es.length + xs.length≤gY)
  (h1:cM ι w (bQ X ι σ) es.flatten ((cs.toList.drop o).take (es.length * P.cellsOf el))) (h2:cM ι w (bQ X ι σ) xs.flatten us) :
  ∃ ι' w',(storeCells ⟨b,o + es.length * P.cellsOf el,none⟩ us).run P w = .ok () w'∧Comes' P X ι σ ((σ.put id none).put nid (some (.arr el (es++xs)))) w ι' w'∧ι' nid=some (.slice (some ⟨b,o,none⟩) (es++xs).length (c + 1))∧∀ i,i≠nid→ι' i=ι i:=by
 let v':Value := .slice (some ⟨b,o,none⟩) (es++xs).length (c + 1)
 have hidl:id < σ.length:=by
  unfold aA.look at hlk
  cases h:σ[id]? with
  | none=>simp [h] at hlk
  | some x=>exact (List.getElem?_eq_some_iff.1 h).1
 have husl:us.length=xs.length * P.cellsOf el:=by rw [h2.len];exact eE xs hxs
 have hmul:(es.length + xs.length) * P.cellsOf el≤(c + 1) * P.cellsOf el:=Nat.mul_le_mul_right _ hlen
 rw [Nat.add_mul] at hmul
 have hone:∀ v ∈ us,v.oneCell'=true:=fun v hv=>by
  have hall:xs.flatten.all f7=true:=List.all_eq_true.2 (fun x hx=>by
   obtain ⟨e,he,hx⟩:=List.mem_flatten.1 hx
   exact hxc e he x hx)
  exact (h2.cells hall v hv).2
 have hrun:=run_storeCells_at (P:=P) b (o + es.length * P.cellsOf el) el us 0 cs w hb (by omega) hone
 simp only [Nat.add_zero] at hrun
 let p:=o + es.length * P.cellsOf el
 let cs':Array Value:=(cs.toList.take p++us++cs.toList.drop (p + us.length)).toArray
 have hlen1:(σ.put id none).length=σ.length:=by rw [aA.length_put,if_pos hidl]
 have hι:∀ i u,ι i=some u→(bZ.set ι nid v') i=some u:=fun i u h=>by
  unfold bZ.set;rw [if_neg]
  ·exact h
  ·rintro rfl;rw [hn] at h;cases h
 have hlook:∀ j,((σ.put id none).put nid (some (.arr el (es++xs)))).look j=if j=nid then some (.arr el (es++xs)) else if j=id then none else σ.look j:=fun j=>by
  rw [aA.look_put (by rw [hlen1];exact hl),aA.look_put (by omega)]
 have hMid:g8 ι σ b:=⟨id,_,_,hlk,hid,rfl⟩
 have hM:∀ x,g8 (bZ.set ι nid v') ((σ.put id none).put nid (some (.arr el (es++xs)))) x→g8 ι σ x:=by
  rintro x ⟨i,o',u,g1,g2,g3⟩
  rw [hlook] at g1
  unfold bZ.set at g2
  split at g1
  ·rename_i he;rw [if_pos he] at g2;cases g2;cases g1;simp [v',kV,cY] at g3;subst g3;exact hMid
  ·rename_i he
   rw [if_neg he] at g2
   split at g1
   ·cases g1
   ·exact ⟨i,o',u,g1,g2,g3⟩
 have hf:a8 (g8 ι σ) w (w.setRow b cs'):=(a8.setRow w b cs').mono (fun x _ hx=>by subst hx;exact hMid)
 have hsize:cs'.size=cs.size:=by simp [cs',p,husl];omega
 have hheap:aQ P X (bZ.set ι nid v') ((σ.put id none).put nid (some (.arr el (es++xs)))) (w.setRow b cs'):=by
  refine hh.change hf hι (fun i hi=>?_) (fun i o' hi=>?_) (fun x _=>hM x) (fun i i' o1 o2 u1 u2 x g1 g2 g3 g4 g5 g6=>?_)
  ·rw [aA.length_put,hlen1] at hi
   unfold bZ.set
   split at hi
   ·rw [if_neg (by omega)];exact hh.fresh i hi
   ·rw [if_neg (by omega)];exact hh.fresh i (by omega)
  ·rw [hlook] at hi
   split at hi
   ·rename_i he
    subst he
    cases hi
    refine .inr ⟨v',by simp [bZ.set],?_⟩
    refine bE.arr_of (setRow_heap w b cs cs' el (0,0) hb) (by rw [hsize];exact hc) (by simp;omega) (by simpa using hm) (fun e he=>?_) (fun e he=>?_) ?_
    ·rcases List.mem_append.1 he with h | h
     ·exact hes e h
     ·exact hxs e h
    ·rcases List.mem_append.1 he with h | h
     ·exact hec e h
     ·exact hxc e h
    ·have hr:cM ι w (bQ X ι σ) (es++xs).flatten ((cs.toList.drop o).take (es.length * P.cellsOf el)++us):=by
      rw [List.flatten_append]
      exact h1.append h2
     have he:(cs'.toList.drop o).take ((es++xs).length * P.cellsOf el)=(cs.toList.drop o).take (es.length * P.cellsOf el)++us:=by
      simp only [cs',p,List.length_append,Nat.add_mul]
      rw [List.append_assoc,List.drop_append,List.length_take,List.drop_take]
      have e1:o + es.length * P.cellsOf el - o=es.length * P.cellsOf el:=by omega
      have e2:o - min (o + es.length * P.cellsOf el) cs.toList.length=0:=by simp;omega
      rw [e1,e2,List.drop_zero,List.take_append,List.take_take,List.length_take]
      have e3:min (es.length * P.cellsOf el + xs.length * P.cellsOf el) (es.length * P.cellsOf el)=es.length * P.cellsOf el:=by omega
      have e4:es.length * P.cellsOf el + xs.length * P.cellsOf el - min (es.length * P.cellsOf el) (List.drop o cs.toList).length=us.length:=by simp;omega
      rw [e3,e4,List.take_append,List.take_of_length_le (Nat.le_refl _),Nat.sub_self,List.take_zero,List.append_nil]
     rw [he]
     exact hr.mono hι (hf.mono (M':=bQ X ι σ) fun _ _ h => .inr h) (bQ.of_own fun x _=>hM x)
   ·rename_i hne1
    split at hi
    ·cases hi
    ·rename_i hne2
     refine .inl ⟨hi,fun u x hu hx=>setRow_other w b x cs' (fun e=>hne2 ?_)⟩
     subst e
     exact hh.inj i id _ _ _ _ x hi hlk hu hid hx rfl
  ·rw [hlook] at g1 g2
   unfold bZ.set at g3 g4
   by_cases ha:i=nid
   ·by_cases hb':i'=nid
    ·omega
    ·rw [if_pos ha] at g3 g1;rw [if_neg hb'] at g4 g2
     cases g3;cases g1
     split at g2
     ·cases g2
     ·rename_i hne2
      simp [v',kV,cY] at g5
      subst g5
      exact absurd (hh.inj i' id _ _ _ _ b g2 hlk g4 hid g6 rfl) hne2
   ·rw [if_neg ha] at g3 g1
    split at g1
    ·cases g1
    ·rename_i hne1
     by_cases hb':i'=nid
     ·rw [if_pos hb'] at g4 g2
      cases g4;cases g2
      simp [v',kV,cY] at g6
      subst g6
      exact absurd (hh.inj i id _ _ _ _ b g1 hlk g3 hid g5 rfl) hne1
     ·rw [if_neg hb'] at g4 g2
      split at g2
      ·cases g2
      ·exact hh.inj i i' _ _ _ _ x g1 g2 g3 g4 g5 g6
 exact ⟨_,w.setRow b cs',hrun,⟨hι,hf,hheap,fun x _=>hM x⟩,by simp [bZ.set,v'],fun i hi=>by simp [bZ.set,hi]⟩
end
section
variable {P:Program} {X:Nat→Prop} {ι:bZ} {σ:aA} {w:World}
theorem yS (z:Array Value) (n:Nat):(Builtin.zeroCells z n).size=n * z.size:=by simp [Builtin.zeroCells]
theorem DQ {v:Value} {el:TypeId} {inf:TypeInfo} {sLen n c:Nat} {x:Value} {old new:Array Value} {z:Value} (hi:P.info? el=some inf) (hz:inf.zero=some z)
  (h1:(Builtin.firstCells inf.size sLen v).run P w.drew = .ok old w.drew) (h2:(Builtin.firstCells inf.size n x).run P w.drew = .ok new w.drew) :
  ∃ cap,sLen + n≤cap∧(do
    let newCap ← choose (.appendCap (sLen + n) c el)
    askRoom (newCap * (← typeInfo el).bytes)
    let old ← Builtin.firstCells inf.size sLen v
    let new ← Builtin.firstCells inf.size n x
    let rest:=Builtin.zeroCells (← zeroValue el).cells (newCap - (sLen + n))
    pure (.slice (some (← newRow el (old++new++rest))) (sLen + n) newCap):Sem Value).run P w =
   .ok (.slice (some ⟨w.heap.size,0,none⟩) (sLen + n) cap) { w.drew with heap:=w.drew.heap.push (.cells (old++new++Builtin.zeroCells z.cells (cap - (sLen + n))) el) }:=by
 refine ⟨Question.cut (.appendCap (sLen + n) c el) (w.tape w.drawn (.appendCap (sLen + n) c el)),by simp [Question.cut],?_⟩
 simp [run_choose,Question.forced,typeInfo,hi,h1,h2,zeroValue,hz,newRow]
 rfl
theorem EU {t u : TypeId} {el : TypeId} {inf : TypeInfo} {ud : TypeDesc} {sLen sCap n : Nat} {base : Option Addr} {x : Value} {ty : TypeId} {ts : Array TypeId} (ht0 : ts[0]? = some t) (hu0 : ts[1]? = some u)
    (ht : P.underlying t = some (.slice el)) (hu : P.underlying u = some ud) (hud : ∀ k, ud ≠ .int k)
    (hi : P.info? el = some inf) (hx : (Builtin.lenOf x).run P w = .ok n w) (hcap : ((sLen + n) + (sLen + n) / 4 + 512) * inf.bytes ≤ 281474976710656) (hm : sLen + n ≤ gY) :
    (Builtin.append_ ts ty #[.slice base sLen sCap, x]).run P w =
      if sLen + n ≤ sCap then
        (do let new ← Builtin.firstCells inf.size n x
            if let some a := base then storeCells (a.add (sLen * inf.size)) new.toList
            pure (.slice base (sLen + n) sCap) : Sem Value).run P w
      else
        (do let newCap ← choose (.appendCap (sLen + n) sCap el)
            askRoom (newCap * (← typeInfo el).bytes)
            let old ← Builtin.firstCells inf.size sLen (.slice base sLen sCap)
            let new ← Builtin.firstCells inf.size n x
            let rest := Builtin.zeroCells (← zeroValue el).cells (newCap - (sLen + n))
            pure (.slice (some (← newRow el (old ++ new ++ rest))) (sLen + n) newCap) : Sem Value).run P w := by
  unfold Builtin.append_
  simp only [ht0, hu0, List.getElem?_toArray, List.getElem?_cons_zero, List.getElem?_cons_succ]
  rw [Sem.run_bind]
  have hsl : (underlying t).run P w = .ok (.slice el) w := by simp [underlying, ht]
  have hul : (underlying u).run P w = .ok ud w := by simp [underlying, hu]
  rw [hsl]
  simp only [Result.andThen_ok]
  rw [Sem.run_bind, cL hi]
  simp only [Result.andThen_ok]
  rw [Sem.run_bind, hul]
  simp only [Result.andThen_ok]
  cases ud
  case int k => exact absurd rfl (hud k)
  all_goals
    simp only [Sem.run_bind, Sem.run_pure, Result.andThen_ok, Bool.false_eq_true, if_false, Bool.not_false, if_true, hx]
    by_cases hc : sLen + n ≤ sCap
    · simp only [hc, if_true, Sem.run_bind]
      rfl
    · have hb : (typeInfo el).run P w = .ok inf w := DP hi
      have h63 : ¬ (((sLen + n : Nat) : Int) > IntKind.i64.max) := by
        have : IntKind.i64.max = 9223372036854775807 := by decide
        rw [this]
        simp only [gY] at hm
        omega
      have hcap2 : ¬ (Builtin.nextslicecap (sLen + n) sCap * inf.bytes > 2 ^ 48) := by
        have h1 := FP (sLen + n) sCap (by omega)
        have h2 := Nat.mul_le_mul_right inf.bytes h1
        have h3 : (2 : Nat) ^ 48 = 281474976710656 := by decide
        omega
      simp only [hc, if_false, Sem.run_bind, hb, Result.andThen_ok, Sem.run_ite, h63, false_and, hcap2]
      try rfl
end
section
variable {P:Program} {X:Nat→Prop} {ι:bZ} {σ:aA} {w:World}
theorem a7 {id:Nat} {o:aU} (h:σ.look id=some o):id < σ.length:=by
 unfold aA.look at h
 cases hx:σ[id]? with
 | none=>simp [hx] at h
 | some x=>exact (List.getElem?_eq_some_iff.1 hx).1
theorem I2 {el:TypeId} {d:DV} {v:Value} {es:List (List DV)} {old:Option Nat} (hh:aQ P X ι σ w) (hv:aX ι w (bQ X ι σ) d v) (h:vV σ el d=some (es,old)) :
  ∃ A c,v = .slice A es.length c∧rT P σ (P.cellsOf el) d=some es∧es.length≤c∧((es=[]∧c=0) ∨
   ∃ id b o cs,old=some id∧A=some ⟨b,o,none⟩∧σ.look id=some (.arr el es)∧ι id=some v∧w.heap[b]? = some (.cells cs el (0,0))∧o + c * P.cellsOf el≤cs.size ∧
    cM ι w (bQ X ι σ) es.flatten ((cs.toList.drop o).take (es.length * P.cellsOf el)))∧(∀ id,old=some id→id < σ.length):=by
 unfold vV at h
 split at h
 ·cases h
  cases hv with
  | nils A=>exact ⟨A,0,rfl,rfl,by simp,.inl ⟨rfl,rfl⟩,by simp⟩
 ·rename_i id
  split at h
  ·rename_i elem es' hl
   split at h
   ·rename_i hsz
    subst hsz
    injection h with h
    injection h with h1 h2
    subst h1;subst h2
    cases hv with
    | arr _ v hid hsl =>
     obtain ⟨A,n,c,rfl⟩:=hsl
     obtain ⟨h1,h2,h3,h4,h5⟩:=hh.arr_flat hl hid
     subst h1
     refine ⟨A,c,rfl,by simp [rT,hl],h3,h5.imp (fun h=>h) ?_,fun i hi=>by cases hi;exact a7 hl⟩
     rintro ⟨b,o,cs,rfl,h6,h7,h8⟩
     exact ⟨id,b,o,cs,rfl,rfl,hl,hid,h6,h7,h8⟩
   ·cases h
  ·cases h
 ·cases h
theorem uM {e:aW} {o:Oper} {d:DV} {a:Act} {nid:Nat} {σ':aA} (he:cR ι w (bQ X ι σ) e a) (hh:aQ P X ι σ w) (hn:ι nid=none) (hl:nid≤σ.length) (h:d8 P o.op e σ nid=some (d,σ')) :
  ∃ v ι' w',(execOp a.eval o).run P w = .ok (.value v) w'∧Comes' P X ι σ σ' w ι' w'∧aX ι' w' (bQ X ι' σ') d v∧∀ i,i≠nid→ι' i=ι i:=by
 cases hop:o.op with
 | call c =>
  rw [hop] at h
  obtain ⟨callee,args,ts⟩:=c
  cases callee with
  | builtin b =>
   cases b with
   | append =>
    simp only [d8] at h
    split at h
    ·rename_i x y t u hargs ht hu
     obtain rfl:args=#[x,y]:=by apply Array.toList_inj.1;rw [hargs]
     split at h
     ·rename_i el sz ud dx dy hel hud hdx hdy
      have hudn:∀ k,ud ≠ .int k:=by
       rintro k rfl
       simp at h
      have h':(match P.info? el,vV σ el dx,rT P σ sz dy with
       | some inf,some (es,old),some xs =>
        if vB (es.length + xs.length) inf.bytes && inf.zero.any (fun z=>z.cells.size == inf.size) then
         some (DV.arr nid,(σ.less old).put nid (some (aU.arr el (es++xs))))
        else none
       | _,_,_=>none)=some (d,σ'):=by
       cases ud <;> first | exact h | exact absurd rfl (hudn _)
      clear h
      obtain ⟨hut,inf,hinf,hisz⟩:=fE hel
      subst hisz
      rw [hinf] at h'
      split at h'
      ·rename_i inf' es old xs e1 hd hs
       cases e1
       split at h'
       ·rename_i hc
        simp only [Bool.and_eq_true,vB,decide_eq_true_eq] at hc
        obtain ⟨⟨hcap,hm⟩,hzero⟩:=hc
        obtain ⟨z,hz,hzs⟩:∃ z,inf.zero=some z∧z.cells.size=inf.size:=by
         cases hz:inf.zero with
         | none=>simp [hz] at hzero
         | some z=>exact ⟨z,rfl,by simpa [hz] using hzero⟩
        injection h' with h'
        injection h' with e1 e2
        subst e1;subst e2
        have hxv:=he.ev hdx
        have hyv:=he.ev hdy
        obtain ⟨A,c,hx1,hx2,hx3,hx4,hx5⟩:=I2 hh hxv hd
        have hcells:P.cellsOf el=inf.size:=fJ hinf
        rw [hcells] at hx2 hx4
        obtain ⟨s1,s2,s3,s4,s5⟩:=oS hh hxv hx2
        obtain ⟨t1,t2,t3,t4,t5⟩:=oS hh hyv hs
        have hrun:=EU (P:=P) (w:=w) (base:=A) (sLen:=es.length) (sCap:=c) (x:=a.eval y) (ty:=o.type) ht hu hut hud hudn hinf t1 hcap hm
        have hexec:∀ v w',(Builtin.append_ ts o.type #[.slice A es.length c,a.eval y]).run P w = .ok v w'→(execOp a.eval o).run P w = .ok (.value v) w':=fun v w' hv=>by
         simp [execOp,hop,resolve,invoke,builtin,hx1,hv]
        have hall:∀ e' ∈ es++xs,e'.length=P.cellsOf el:=by
         rw [hcells];intro e' he'
         rcases List.mem_append.1 he' with h1 | h1
         ·exact s2 e' h1
         ·exact t2 e' h1
        have hallc:∀ e' ∈ es++xs,∀ q ∈ e',f7 q=true:=by
         intro e' he'
         rcases List.mem_append.1 he' with h1 | h1
         ·exact s3 e' h1
         ·exact t3 e' h1
        by_cases hroom:es.length + xs.length≤c
        ·rw [if_pos hroom] at hrun
         obtain ⟨new,n1,n2⟩:=t5 xs.length (Nat.le_refl _)
         rw [List.take_of_length_le (Nat.le_refl _)] at n2
         rcases hx4 with ⟨rfl,rfl⟩ | ⟨id,b,ofs,cs,rfl,rfl,hlk,hid,hb,hbc,hrel⟩
         ·
          have hxs:xs=[]:=List.eq_nil_of_length_eq_zero (by simpa using hroom)
          subst hxs
          have hfree:∃ σ1,σ1=σ.less old∧Comes' P X ι σ σ1 w ι w∧nid≤σ1.length:=by
           cases old with
           | none=>exact ⟨_,rfl,Comes'.refl hh,hl⟩
           | some id=>exact ⟨_,rfl,Comes'.freed hh (hx5 id rfl),by simp only [aA.less];rw [aA.length_put,if_pos (hx5 id rfl)];exact hl⟩
          obtain ⟨σ1,rfl,hc1,hl1⟩:=hfree
          obtain ⟨ι',hc2,hid',hoth⟩:=BB (A:=A) (el:=el) hc1.heap hn hl1
          refine ⟨.slice A 0 0,ι',w,hexec _ _ ?_,hc1.trans hc2,.arr nid _ hid' ⟨_,_,_,rfl⟩,hoth⟩
          rw [hrun]
          have hnew:new=#[]:=by
           have:=n2.len
           simp at this
           exact this
          subst hnew
          simp only [List.length_nil] at n1
          simp only [List.length_nil,Nat.add_zero,Sem.run_bind,n1,Result.andThen_ok]
          cases A with
          | none=>rfl
          | some a=>simp [storeCells]
         ·cases c with
          | zero =>
           have hes:es=[]:=List.eq_nil_of_length_eq_zero (by omega)
           have hxs:xs=[]:=List.eq_nil_of_length_eq_zero (by omega)
           subst hes;subst hxs
           obtain ⟨ι',hc2,hid',hoth⟩:=BB (A:=some ⟨b,ofs,none⟩) (el:=el) (Comes'.freed hh (hx5 id rfl)).heap hn (by rw [aA.length_put,if_pos (hx5 id rfl)];exact hl)
           refine ⟨.slice (some ⟨b,ofs,none⟩) 0 0,ι',w,hexec _ _ ?_,(Comes'.freed hh (hx5 id rfl)).trans hc2,.arr nid _ hid' ⟨_,_,_,rfl⟩,hoth⟩
           rw [hrun]
           have hnew:new=#[]:=by
            have:=n2.len
            simp at this
            exact this
           subst hnew
           simp only [List.length_nil] at n1
           simp only [List.length_nil,Nat.add_zero,Sem.run_bind,n1,Result.andThen_ok]
           simp [storeCells]
          | succ c =>
           have hne:nid≠id:=by
            rintro rfl
            rw [hx1] at hid
            rw [hn] at hid
            cases hid
           rw [hx1] at hid
           rw [← hcells] at hbc hrel s2 t2
           obtain ⟨ι',w',g1,g2,g3,g4⟩:=O0 hh hlk hid hn hl hne hb hbc s2 s3 t2 t3 hroom hm hrel n2
           refine ⟨_,ι',w',hexec _ _ ?_,g2,.arr nid _ g3 ⟨_,_,_,rfl⟩,g4⟩
           rw [hrun]
           rw [← hcells] at n1 ⊢
           simp only [Sem.run_bind,n1,Result.andThen_ok,lS,g1,Sem.run_pure,List.length_append]
        ·rw [if_neg hroom] at hrun
         have hd1:aQ P X ι σ w.drew:=(Comes'.drew hh).heap
         have hxv1:=(Comes'.drew hh).rel hxv
         have hyv1:=(Comes'.drew hh).rel hyv
         obtain ⟨_,_,_,_,s5'⟩:=oS hd1 hxv1 hx2
         obtain ⟨_,_,_,_,t5'⟩:=oS hd1 hyv1 hs
         obtain ⟨oldc,m1,m2⟩:=s5' es.length (Nat.le_refl _)
         obtain ⟨newc,n1,n2⟩:=t5' xs.length (Nat.le_refl _)
         rw [List.take_of_length_le (Nat.le_refl _)] at m2 n2
         rw [hx1] at m1
         obtain ⟨cap,hcge,hreal⟩:=DQ (P:=P) (w:=w) (c:=c) hinf hz m1 n1
         have hfree:∃ σ1,σ1=σ.less old∧Comes' P X ι σ σ1 w.drew ι w.drew∧nid≤σ1.length:=by
          cases old with
          | none=>exact ⟨_,rfl,Comes'.refl hd1,hl⟩
          | some id=>exact ⟨_,rfl,Comes'.freed hd1 (hx5 id rfl),by simp only [aA.less];rw [aA.length_put,if_pos (hx5 id rfl)];exact hl⟩
         obtain ⟨σ1,rfl,hc1,hl1⟩:=hfree
         have hlen1:oldc.size=es.length * inf.size:=by
          have:=m2.len
          rw [eE es s2] at this
          simpa using this
         have hlen2:newc.size=xs.length * inf.size:=by
          have:=n2.len
          rw [eE xs t2] at this
          simpa using this
         obtain ⟨ι',hc2,hid',hoth⟩:=FO (el:=el) (es:=es++xs) (c:=cap) (cells:=oldc++newc++Builtin.zeroCells z.cells (cap - (es.length + xs.length))) hc1.heap hn hl1 hall hallc (by simpa using hcge) (by simpa using hm)
          (by
           rw [hcells]
           simp only [Array.size_append,yS,hzs,hlen1,hlen2]
           have:cap=es.length + xs.length + (cap - (es.length + xs.length)):=by omega
           rw [this,Nat.add_mul,Nat.add_mul]
           have:es.length + xs.length + (cap - (es.length + xs.length)) - (es.length + xs.length)=cap - (es.length + xs.length):=by omega
           rw [this]
           exact Nat.le_refl _)
          (by
           have hr:=hc1.relL (m2.append n2)
           rw [← List.flatten_append] at hr
           rw [hcells]
           have e0:(oldc++newc++Builtin.zeroCells z.cells (cap - (es.length + xs.length))).toList.take ((es++xs).length * inf.size)=oldc.toList++newc.toList:=by
            have:(oldc.toList++newc.toList).length=(es++xs).length * inf.size:=by simp [hlen1,hlen2,Nat.add_mul]
            rw [Array.toList_append,Array.toList_append,List.take_append,this,Nat.sub_self,List.take_zero,List.append_nil,List.take_of_length_le (by omega)]
           rw [e0]
           exact hr)
         refine ⟨_,ι',_,hexec _ _ (hrun.trans hreal),(Comes'.drew hh).trans (hc1.trans hc2),.arr nid _ (by simpa using hid') ⟨_,_,_,rfl⟩,hoth⟩
       ·cases h'
      ·cases h'
     ·cases h
    ·cases h
   | _=>simp [d8] at h
  | _=>simp [d8] at h
 | _=>rw [hop] at h;simp [d8] at h
end
def jH:List DV→Option (List aR)
 | []=>some []
 | .d x::ds=>(jH ds).map (x::·)
 | .nils::ds=>(jH ds).map (.lst []::·)
 | _::_=>none
def gM:List (List DV)→Option (List (List aR))
 | []=>some []
 | e::es=>match jH e,gM es with
  | some x,some xs=>some (x::xs)
  | _,_=>none
def ownLit (t len:Nat) (parts:Array (Nat × Operand)):Bool :=
 (t == 134 && len == 3) || (t == 130 && (match parts.toList with | [(_,.const (.int .u8 n))]=>n == 34 | _=>false))
def litD (t len:Nat) (parts:Array (Nat × Operand)) (es:List (List DV)):Option (List (List aR)):=if ownLit t len parts then none else gM es
theorem litD_some {t len:Nat} {parts:Array (Nat × Operand)} {es:List (List DV)} {ds:List (List aR)} (h:litD t len parts es=some ds):gM es=some ds:=by
 unfold litD at h
 split at h
 ·cases h
 ·exact h
def fD (P:Program) (op:Op) (e:aW) (σ:aA) (nid:Nat):Option (DV × aA) :=
 match op with
 | .buildSlice t len parts =>
  match dU P t,parts.toList.mapM (fun p=>e.ev p.2) with
  | some (el,sz),some vs =>
   if parts.toList.map (·.1)=List.range len∧vs.all (fun d=>eO d && (aH d).length == sz)=true∧len≤16777216∧len * sz≤16777216∧((P.info? el).bind (·.zero)).isSome=true then
    match litD t len parts (vs.map aH) with
    | some es=>some (.d (.lst es),σ)
    | none=>some (.arr nid,σ.put nid (some (.arr el (vs.map aH))))
   else none
  | _,_=>none
 | .makeSlice t l c =>
  match dU P t,e.ev l,e.ev c with
  | some (el,sz),some (.d (.sc (.int _ n))),some (.d (.sc (.int _ m))) =>
   match P.info? el,iT P el with
   | some inf,some z =>
    if 0≤n∧n≤m∧m * inf.bytes≤281474976710656∧m≤(gY:Int)∧eO z=true∧(aH z).length=sz then
     some (.arr nid,σ.put nid (some (.arr el (List.replicate n.toNat (aH z)))))
    else none
   | _,_=>none
  | _,_,_=>none
 | _=>none
section
variable {P:Program} {X:Nat→Prop} {ι:bZ} {σ:aA} {w:World} {M:Nat→Prop}
theorem pN:∀ {es:List (List DV)} {xs:List (List aR)},gM es=some xs→xs.length=es.length∧∀ (i:Nat) x,xs[i]? = some x→∃ e,es[i]? = some e∧jH e=some x
 | [],xs,h=>by simp [gM] at h;subst h;simp
 | e::es,xs,h=>by
  simp only [gM] at h
  split at h
  ·rename_i x ys h1 h2
   cases h
   obtain ⟨g1,g2⟩:=pN h2
   refine ⟨by simp [g1],fun i y hy=>?_⟩
   cases i with
   | zero=>simp at hy;subst hy;exact ⟨e,by simp,h1⟩
   | succ i=>obtain ⟨e',h3,h4⟩:=g2 i y (by simpa using hy);exact ⟨e',by simpa using h3,h4⟩
  ·cases h
theorem CV {sz:Nat}:∀ (vs:List Value) (k:Nat) (cells:Array Value),(∀ v ∈ vs,v.cells.size=sz)→(k + vs.length) * sz≤cells.size →
  ∃ out,Instr.fill (fun i=>some (i * sz,sz)) cells ((List.range' k vs.length).zip vs)=some out∧out.toList=cells.toList.take (k * sz)++(vs.map fun v=>v.cells.toList).flatten++cells.toList.drop ((k + vs.length) * sz)
 | [],k,cells,_,h=>⟨cells,by simp [Instr.fill],by simp⟩
 | v::vs,k,cells,hv,h=>by
  have h0:=hv v (by simp)
  have hm:(k + (vs.length + 1)) * sz=k * sz + sz + vs.length * sz:=by rw [← Nat.add_assoc,Nat.add_mul,Nat.add_mul,Nat.one_mul];omega
  simp only [List.length_cons] at h
  rw [hm] at h
  simp only [List.length_cons,List.range'_succ,List.zip_cons_cons,Instr.fill]
  have hb:(decide (v.cells.size≠sz) || decide (k * sz + v.cells.size > cells.size))=false:=by simp [h0];omega
  simp only [hb,Bool.false_eq_true,if_false]
  have hfold:=uR cells (k * sz) v.cells.toList 0 cells (by simp;omega)
  have e1:(Array.foldl (fun (cs:Array Value) x=>match x with | (c,j)=>cs.setIfInBounds (k * sz + j) c) cells v.cells.zipIdx).toList=cells.toList.take (k * sz)++v.cells.toList++cells.toList.drop (k * sz + sz):=by
   have:(Array.foldl (fun (cs:Array Value) (x:Value × Nat)=>cs.setIfInBounds (k * sz + x.2) x.1) cells v.cells.zipIdx).toList=cells.toList.take (k * sz)++v.cells.toList++cells.toList.drop (k * sz + sz):=by
    rw [← Array.foldl_toList,Array.toList_zipIdx,hfold]
    have:v.cells.toList.length=sz:=by simpa using h0
    rw [this];simp
   exact this
  generalize hX:(Array.foldl (fun (cs:Array Value) x=>match x with | (c,j)=>cs.setIfInBounds (k * sz + j) c) cells v.cells.zipIdx)=X at e1 ⊢
  have hXs:X.size=cells.size:=by
   have:=congrArg List.length e1
   simp [h0] at this
   omega
  have hk1:(k + 1) * sz=k * sz + sz:=by rw [Nat.add_mul,Nat.one_mul]
  have hk2:(k + 1 + vs.length) * sz=k * sz + sz + vs.length * sz:=by rw [Nat.add_mul,hk1]
  obtain ⟨out,h1,h2⟩:=CV vs (k + 1) X (fun u hu=>hv u (by simp [hu])) (by rw [hXs,hk2];omega)
  refine ⟨out,h1,?_⟩
  have hl0:v.cells.toList.length=sz:=by simpa using h0
  have hl1:(cells.toList.take (k * sz)).length=k * sz:=by rw [List.length_take];simp;omega
  rw [h2,e1,hk1,hk2,hm,List.map_cons,List.flatten_cons]
  have t1:(cells.toList.take (k * sz)++v.cells.toList++cells.toList.drop (k * sz + sz)).take (k * sz + sz)=cells.toList.take (k * sz)++v.cells.toList:=by
   rw [List.take_append,List.take_of_length_le (by simp [hl0,hl1]),show k * sz + sz - (cells.toList.take (k * sz)++v.cells.toList).length=0 by simp [hl0,hl1],List.take_zero,List.append_nil]
  have t2:(cells.toList.take (k * sz)++v.cells.toList++cells.toList.drop (k * sz + sz)).drop (k * sz + sz + vs.length * sz)=cells.toList.drop (k * sz + sz + vs.length * sz):=by
   rw [List.drop_append,List.drop_of_length_le (by simp [hl0,hl1]),List.nil_append,List.drop_drop]
   congr 1
   simp [hl0,hl1]
  rw [t1,t2]
  simp
end
section
variable {P:Program} {X:Nat→Prop} {ι:bZ} {σ:aA} {w:World} {M:Nat→Prop}
theorem yT {α β:Type}:∀ (l:List (α × β)) (k:List α),l.map (·.1)=k→l=k.zip (l.map (·.2))
 | [],k,h=>by simp at h;subst h;rfl
 | (a,b)::l,k,h=>by
  cases k with
  | nil=>simp at h
  | cons c k =>
   simp at h
   obtain ⟨rfl,h⟩:=h
   simp only [List.map_cons,List.zip_cons_cons]
   rw [← yT l k h]
theorem qO {t el:TypeId} {inf:TypeInfo} {len:Nat} {parts:Array (Nat × Operand)} {ρ:Operand→Value} (hu:P.underlying t=some (.slice el)) (hi:P.info? el=some inf) (hz:inf.zero.isSome=true)
  (hp:parts.toList.map (·.1)=List.range len) (hs:∀ p ∈ parts.toList,(ρ p.2).cells.size=inf.size) (hl:len * inf.size≤16777216) :
  ∃ cells:Array Value,(Instr.buildSlice t len (parts.map fun (i,x)=>(i,ρ x))).run P w = .ok (.slice (some ⟨w.heap.size,0,none⟩) len len) { w with heap:=w.heap.push (.cells cells el) } ∧
   cells.toList=(parts.toList.map fun p=>(ρ p.2).cells.toList).flatten:=by
 obtain ⟨z,hz⟩:=Option.isSome_iff_exists.1 hz
 have hlen:parts.toList.length=len:=by have:=congrArg List.length hp;simpa using this
 let vs:=parts.toList.map fun p=>ρ p.2
 have hpl:(parts.map fun (i,x)=>(i,ρ x)).toList=(List.range' 0 vs.length).zip vs:=by
  have h1:=yT (parts.map fun (i,x)=>(i,ρ x)).toList (List.range len) (by rw [Array.toList_map,List.map_map];exact hp)
  rw [h1,List.range_eq_range']
  simp [vs,Function.comp_def] at hlen ⊢
  rw [hlen]
 let init:Array Value:=(Array.range (len * inf.size)).map ((if len * inf.size=0 then #[] else z.cells)[· % (if len * inf.size=0 then #[] else z.cells).size]!)
 have hinit:init.size=len * inf.size:=by simp [init]
 obtain ⟨out,h1,h2⟩:=CV (sz:=inf.size) vs 0 init (fun v hv=>by
  obtain ⟨p,hp,rfl⟩:=List.mem_map.1 hv
  exact hs p hp) (by rw [hinit];simp [vs];rw [show parts.size=len by simpa using hlen];exact Nat.le_refl _)
 refine ⟨out,?_,?_⟩
 ·have hn:¬ (len * inf.size > 2 ^ 24):=by omega
  simp only [Instr.buildSlice,Sem.run_bind,underlying,run_program,Result.andThen_ok,hu,Sem.run_pure,cL hi,Sem.run_ite]
  rw [if_neg hn]
  have hzr:(zeroValue el).run P w = .ok z w:=by simp [zeroValue,typeInfo,hi,hz]
  rw [hzr]
  simp only [Result.andThen_ok]
  rw [hpl]
  by_cases h0:len * inf.size=0
  ·have hi0:init=(Array.range (len * inf.size)).map (fun x=>(#[]:Array Value)[x % (#[]:Array Value).size]!):=by simp only [init,if_pos h0]
   rw [hi0] at h1
   rw [if_pos h0,h1]
   rfl
  ·have hi0:init=(Array.range (len * inf.size)).map (fun x=>z.cells[x % z.cells.size]!):=by simp only [init,if_neg h0]
   rw [hi0] at h1
   rw [if_neg h0,h1]
   rfl
 ·rw [h2]
  have hd:init.toList.drop ((0 + vs.length) * inf.size)=[]:=by
   apply List.drop_of_length_le
   simp [hinit,vs]
   rw [show parts.size=len by simpa using hlen]
   exact Nat.le_refl _
  rw [hd]
  simp [vs,Function.comp_def]
theorem jQ:∀ {ds:List DV} {xs:List aR},jH ds=some xs→xs.length=ds.length∧∀ (j:Nat) x,xs[j]? = some x→∃ d,ds[j]? = some d∧(d = .d x∨d = .nils∧x = .lst [])
 | [],xs,h=>by simp [jH] at h;subst h;simp
 | d::ds,xs,h=>by
  have key:∀ (x:aR),(d = .d x∨d = .nils∧x = .lst [])→(jH ds).map (x::·)=some xs→xs.length=(d::ds).length∧∀ (j:Nat) x,xs[j]? = some x→∃ d',(d::ds)[j]? = some d'∧(d' = .d x∨d' = .nils∧x = .lst []):=by
   intro x hx hm
   cases hd:jH ds with
   | none=>simp [hd] at hm
   | some ys =>
    simp [hd] at hm
    subst hm
    obtain ⟨h1,h2⟩:=jQ hd
    refine ⟨by simp [h1],fun j x' hj=>?_⟩
    cases j with
    | zero=>simp at hj;subst hj;exact ⟨d,by simp,hx⟩
    | succ j=>obtain ⟨d',h3,h4⟩:=h2 j x' (by simpa using hj);exact ⟨d',by simpa using h3,h4⟩
  cases d <;> simp only [jH] at h <;> try cases h
  ·exact key _ (.inl rfl) h
  ·exact key _ (.inr ⟨rfl,rfl⟩) h
theorem OM {d:DV} {x:aR} {v:Value} {ι:bZ} (h:aX ι w M d v) (hd:d = .d x∨d = .nils∧x = .lst []):dL w M x v:=by
 rcases hd with rfl | ⟨rfl,rfl⟩
 ·cases h with | d h=>exact h
 ·cases h with | nils A=>exact .emp A 0
theorem ML {e:aW} {a:Act} (he:cR ι w M e a) {parts:List (Nat × Operand)} {vs:List DV} (h:parts.mapM (fun p=>e.ev p.2)=some vs) (hc:vs.all eO=true) :
  cM ι w M (vs.map aH).flatten (parts.map fun p=>(a.eval p.2).cells.toList).flatten∧vs.length=parts.length∧∀ (i:Nat) d p,vs[i]? = some d→parts[i]? = some p→(a.eval p.2).cells.size=(aH d).length:=by
 induction parts generalizing vs with
 | nil=>simp at h;subst h;exact ⟨by simpa using cM.nil,rfl,by simp⟩
 | cons p parts ih =>
  simp only [List.mapM_cons,Option.bind_eq_bind] at h
  cases hf:e.ev p.2 with
  | none=>simp [hf] at h
  | some d =>
   cases hm:parts.mapM (fun p=>e.ev p.2) with
   | none=>simp [hf,hm] at h
   | some ds =>
    simp [hf,hm] at h
    subst h
    simp only [List.all_cons,Bool.and_eq_true] at hc
    obtain ⟨h1,h2,h3⟩:=ih hm hc.2
    have hcd:=hc.1
    simp only [eO,Bool.and_eq_true] at hcd
    have hr:=n9 (he.ev hf) hcd.1
    refine ⟨by simpa using hr.append h1,by simp [h2],fun i d' p' hd hp=>?_⟩
    cases i with
    | zero=>simp at hd hp;subst hd;subst hp;simpa using hr.len
    | succ i=>exact h3 i d' p' (by simpa using hd) (by simpa using hp)
theorem rY {e:aW} {o:Oper} {d:DV} {a:Act} {nid:Nat} {σ':aA} (he:cR ι w (bQ X ι σ) e a) (hh:aQ P X ι σ w) (hn:ι nid=none) (hl:nid≤σ.length) (h:fD P o.op e σ nid=some (d,σ')) :
  ∃ v ι' w',(execOp a.eval o).run P w = .ok (.value v) w'∧Comes' P X ι σ σ' w ι' w'∧aX ι' w' (bQ X ι' σ') d v∧∀ i,i≠nid→ι' i=ι i:=by
 cases hop:o.op with
 | buildSlice t len parts =>
  rw [hop] at h
  simp only [fD] at h
  split at h
  ·rename_i el sz vs hel hvs
   split at h
   ·rename_i hc
    obtain ⟨hp,hall,hlen,hlsz,hz⟩:=hc
    obtain ⟨hu,inf,hinf,rfl⟩:=fE hel
    have hcells:P.cellsOf el=inf.size:=fJ hinf
    have hca:vs.all eO=true:=List.all_eq_true.2 (fun x hx=>by have:=List.all_eq_true.1 hall x hx;simp only [Bool.and_eq_true] at this;exact this.1)
    have hcs:∀ x ∈ vs,(aH x).length=inf.size:=fun x hx=>by have:=List.all_eq_true.1 hall x hx;simp only [Bool.and_eq_true,beq_iff_eq] at this;exact this.2
    obtain ⟨h1,h2,h3⟩:=ML he hvs hca
    have hvl:vs.length=len:=by rw [h2];have:=congrArg List.length hp;simpa using this
    rw [hinf] at hz
    obtain ⟨cells,hrun,hcl⟩:=qO (P:=P) (w:=w) (ρ:=a.eval) hu hinf hz hp (fun p hpm=>by
     obtain ⟨i,hi⟩:=List.mem_iff_getElem?.1 hpm
     have hil:i < vs.length:=by rw [h2];exact (List.getElem?_eq_some_iff.1 hi).1
     have:=h3 i _ p (List.getElem?_eq_getElem hil) hi
     rw [this]
     exact hcs _ (List.getElem_mem hil)) hlsz
    rw [← hcl] at h1
    have hexec:(execOp a.eval o).run P w = .ok (.value (.slice (some ⟨w.heap.size,0,none⟩) len len)) { w with heap:=w.heap.push (.cells cells el) }:=by
     simp only [execOp,hop,Sem.run_bind,hrun,Result.andThen_ok,Sem.run_pure]
    have hes:∀ e' ∈ vs.map aH,e'.length=inf.size:=by
     intro e' he'
     obtain ⟨x,hx,rfl⟩:=List.mem_map.1 he'
     exact hcs x hx
    have hesc:∀ e' ∈ vs.map aH,∀ q ∈ e',f7 q=true:=by
     intro e' he' q hq
     obtain ⟨x,hx,rfl⟩:=List.mem_map.1 he'
     have:=List.all_eq_true.1 hca x hx
     simp only [eO,Bool.and_eq_true] at this
     exact List.all_eq_true.1 this.2 q hq
    split at h
    ·rename_i es hes'
     have hes':=litD_some hes'
     cases h
     obtain ⟨g1,g2⟩:=pN hes'
     have hcm:=Comes'.push hh (.cells cells el)
     refine ⟨_,ι,_,hexec,hcm,.d ?_,fun _ _=>rfl⟩
     have h1':=hcm.relL h1
     rcases es with _ | ⟨e0,es⟩
     ·have:len=0:=by simp at g1;omega
      subst this
      exact .emp _ _
     ·refine .lst w.heap.size 0 len len inf.size _ (fun i j=>cells.getD (i * inf.size + j) undef) (by rw [g1];simp [hvl]) (Nat.le_refl _) (by simp only [gY];omega) (by simp) (fun hm=>?_) (fun i cs hi=>?_) (fun i j cs x hi hj=>?_) (fun i j cs x hi hj=>?_)
      ·have:=hh.mut_lt hm;omega
      ·obtain ⟨e',he1,he2⟩:=g2 i cs hi
       rw [(jQ he2).1]
       exact hes _ (List.mem_of_getElem? he1)
      ·obtain ⟨e',he1,he2⟩:=g2 i cs hi
       obtain ⟨d',hd1,hd2⟩:=(jQ he2).2 j x hj
       have hjl:j < inf.size:=by rw [← hes _ (List.mem_of_getElem? he1)];exact (List.getElem?_eq_some_iff.1 hd1).1
       have hfl:(vs.map aH).flatten[i * inf.size + j]? = some d':=by rw [lW _ i j hes hjl,he1];exact hd1
       have hlt:i * inf.size + j < cells.size:=by
        have h5:=(List.getElem?_eq_some_iff.1 hfl).1
        rw [← h1.len] at h5
        simpa using h5
       rw [Nat.zero_add,mL (rJ w _)]
       simp [hlt]
      ·obtain ⟨e',he1,he2⟩:=g2 i cs hi
       obtain ⟨d',hd1,hd2⟩:=(jQ he2).2 j x hj
       have hjl:j < inf.size:=by rw [← hes _ (List.mem_of_getElem? he1)];exact (List.getElem?_eq_some_iff.1 hd1).1
       have hfl:(vs.map aH).flatten[i * inf.size + j]? = some d':=by rw [lW _ i j hes hjl,he1];exact hd1
       have hlt:i * inf.size + j < cells.size:=by
        have h5:=(List.getElem?_eq_some_iff.1 hfl).1
        rw [← h1.len] at h5
        simpa using h5
       exact OM (h1'.get _ _ _ hfl (by simp [hlt])) hd2
    ·cases h
     obtain ⟨ι',hc2,hid,hoth⟩:=FO (el:=el) (es:=vs.map aH) (c:=len) (cells:=cells) hh hn hl (by rw [hcells];exact hes) hesc (by simp [hvl]) (by simp only [gY];simp;omega)
      (by
       rw [hcells]
       have:=h1.len
       rw [eE _ hes] at this
       simp [hvl] at this
       omega)
      (by
       have hfl:cells.toList.length=(vs.map aH).length * inf.size:=by rw [h1.len,eE _ hes]
       rw [hcells,List.take_of_length_le (by omega)]
       exact h1)
     refine ⟨_,ι',_,hexec,hc2,.arr nid _ (by simpa [hvl] using hid) ⟨_,_,_,rfl⟩,hoth⟩
   ·cases h
  ·cases h
 | makeSlice t l c =>
  rw [hop] at h
  simp only [fD] at h
  split at h
  ·rename_i el sz k1 n k2 m hel hn1 hm1
   obtain ⟨hu,inf,hinf,rfl⟩:=fE hel
   rw [hinf] at h
   split at h
   ·rename_i inf' z e1 hz
    cases e1
    split at h
    ·rename_i hc
     obtain ⟨h0,hnm,hb,hml,hca,hzl⟩:=hc
     cases h
     have hcells:P.cellsOf el=inf.size:=fJ hinf
     obtain ⟨zv,hz1,hz2⟩:=lM (w:=w) (ι:=ι) (σ:=σ) hz
     simp only [eO,Bool.and_eq_true] at hca
     have hzr:=n9 hz2 hca.1
     have hzs:zv.cells.size=inf.size:=by rw [← hzl];simpa using hzr.len
     simp only [gY] at hml
     have hwn:IntKind.i64.wrap n=n:=by simp [IntKind.wrap,IntKind.bits,IntKind.signed];split <;> omega
     have hwm:IntKind.i64.wrap m=m:=by simp [IntKind.wrap,IntKind.bits,IntKind.signed];split <;> omega
     let cells:Array Value:=(Array.range (m.toNat * inf.size)).map (fun x=>zv.cells[x % zv.cells.size]!)
     have hrun:(Instr.makeSlice t (a.eval l) (a.eval c)).run P w = .ok (.slice (some ⟨w.heap.size,0,none⟩) n.toNat m.toNat) { w with heap:=w.heap.push (.cells cells el) }:=by
      rw [(he.ev hn1).sc_inv.1,(he.ev hm1).sc_inv.1]
      have ht:¬ (inf.bytes * m > 2 ^ 48):=by
       have:(inf.bytes:Int) * m=m * inf.bytes:=Int.mul_comm _ _
       omega
      have hb1:(decide (m < 0) || decide (inf.bytes * m > 2 ^ 48) || decide (n < 0) || decide (n > m))=false:=by simp;omega
      simp only [Instr.makeSlice,Sem.run_bind,underlying,run_program,Result.andThen_ok,hu,Sem.run_pure,asInt,asIntOf,DP hinf,hwn,hwm,hb1,Bool.false_eq_true,if_false,run_askRoom,cL hinf]
      by_cases h00:m.toNat * inf.size=0
      ·simp only [h00,if_true]
       simp only [newRow,Sem.run_bind,run_newObj,Result.andThen_ok,Sem.run_pure]
       congr 3
       simp [cells,h00]
      ·simp only [h00,if_false,Sem.run_bind,hz1,Result.andThen_ok,Sem.run_pure]
       rfl
     have hes:∀ e' ∈ List.replicate n.toNat (aH z),e'.length=P.cellsOf el:=by
      intro e' he'
      rw [hcells,(List.mem_replicate.1 he').2,hzl]
     have hesc:∀ e' ∈ List.replicate n.toNat (aH z),∀ q ∈ e',f7 q=true:=by
      intro e' he' q hq
      rw [(List.mem_replicate.1 he').2] at hq
      exact List.all_eq_true.1 hca.2 q hq
     have hle:n.toNat * inf.size≤m.toNat * inf.size:=Nat.mul_le_mul_right _ (by omega)
     obtain ⟨ι',hc2,hid,hoth⟩:=FO (el:=el) (es:=List.replicate n.toNat (aH z)) (c:=m.toNat) (cells:=cells) hh hn hl hes hesc (by simp;omega) (by simp only [gY];simp;omega) (by rw [hcells];simp [cells])
      (by
       refine ⟨by rw [eE _ hes,hcells,List.length_take,List.length_replicate];simp only [cells,Array.length_toList,Array.size_map,Array.size_range];omega,fun q x y hx hy=>?_⟩
       obtain ⟨i,j,e',rfl,hj,hi,hjx⟩:=nT _ hes hx
       rw [hcells] at hj hy
       rw [List.getElem?_replicate] at hi
       split at hi
       ·rename_i hilt
        cases hi
        have hql:i * inf.size + j < n.toNat * inf.size:=by
         have:=Nat.mul_le_mul_right inf.size (show i + 1≤n.toNat by omega)
         rw [Nat.add_mul,Nat.one_mul] at this
         omega
        rw [List.getElem?_take,if_pos (by simpa using hql)] at hy
        have hmod:(i * inf.size + j) % inf.size=j:=by rw [Nat.mul_comm,Nat.mul_add_mod,Nat.mod_eq_of_lt hj]
        have hyv:y=zv.cells[j]!:=by
         simp only [cells,Array.toList_map,Array.toList_range,List.getElem?_map,List.getElem?_range (show i * inf.size + j < m.toNat * inf.size by omega),Option.map_some,Option.some.injEq,hzs,hmod] at hy
         exact hy.symm
        have hjz:zv.cells.toList[j]? = some y:=by
         have hjs:j < zv.cells.size:=by omega
         rw [hyv,Array.getElem?_toList,Array.getElem?_eq_getElem hjs,getElem!_pos zv.cells j hjs]
        exact hzr.get j x y hjx hjz
       ·cases hi)
     refine ⟨.slice (some ⟨w.heap.size,0,none⟩) n.toNat m.toNat,ι',{ w with heap:=w.heap.push (.cells cells el) },by simp only [execOp,hop,Sem.run_bind,hrun,Result.andThen_ok,Sem.run_pure],hc2,.arr nid _ (by simpa using hid) ⟨_,_,_,rfl⟩,hoth⟩
    ·cases h
   ·cases h
  ·cases h
 | _=>rw [hop] at h;simp [fD] at h
end
def gF (P:Program) (op:Op) (e:aW) (σ:aA):Option (DV × aA) :=
 match op with
 | .call { callee := .builtin .copy,args,argTypes } =>
  match args.toList,argTypes[0]? with
  | [x,y],some t =>
   match dU P t,e.ev x,e.ev y with
   | some (el,sz),some (.arr id),some dy =>
    match σ.look id,rT P σ sz dy with
    | some (.arr el' es),some xs =>
     if el'=el then some (.d (.sc (.int .i64 (Nat.min xs.length es.length))),σ.put id (some (.arr el (xs.take es.length++es.drop xs.length)))) else none
    | _,_=>none
   | _,_,_=>none
  | _,_=>none
 | _=>none
section
variable {P:Program} {X:Nat→Prop} {ι:bZ} {σ:aA} {w:World}
theorem cX (σ:aA) (id:Nat) (o:Option aU):σ.length≤(σ.put id o).length:=by
 rw [aA.put_eq]
 split <;> simp
theorem tU {σ':aA} (h:∀ id,σ'.look id=σ.look id) {b:Nat}:g8 ι σ' b→g8 ι σ b:=by
 rintro ⟨i,o,v,h1,h2,h3⟩
 exact ⟨i,o,v,(h i) ▸ h1,h2,h3⟩
theorem Comes'.same {σ':aA} (hh:aQ P X ι σ w) (hl:σ.length≤σ'.length) (h:∀ id,σ'.look id=σ.look id):Comes' P X ι σ σ' w ι w :=
 ⟨fun _ _ h=>h,a8.refl _ w,⟨fun id hid=>hh.fresh id (Nat.le_trans hl hid),fun id o ho=>by
   obtain ⟨v,h1,h2⟩:=hh.obj id o ((h id) ▸ ho)
   exact ⟨v,h1,bE.mono (fun _ _ h=>h) (a8.refl (bQ X ι σ) w) (fun b _ hb=>hb.imp (fun h=>h) (tU h)) h2 (fun _ _=>rfl)⟩,
  fun i i' o o' v v' b h1 h2 h3 h4 h5 h6=>hh.inj i i' o o' v v' b ((h i) ▸ h1) ((h i') ▸ h2) h3 h4 h5 h6,hh.xlt,fun b hb=>hh.apart b (tU h hb),fun g hg=>by
   obtain ⟨g1,g2,g3⟩:=hh.glob g hg
   exact ⟨g1,fun hm=>g2 (hm.imp (fun h=>h) (tU h)),g3⟩⟩,fun b _ hb=>tU h hb⟩
theorem xB {e:aW} {o:Oper} {a:Act} {d:DV} {σ':aA} (he:cR ι w (bQ X ι σ) e a) (hh:aQ P X ι σ w) (h:gF P o.op e σ=some (d,σ')) :
  ∃ v w',(execOp a.eval o).run P w = .ok (.value v) w'∧Comes' P X ι σ σ' w ι w'∧aX ι w' (bQ X ι σ') d v:=by
 cases hop:o.op with
 | call c =>
  obtain ⟨callee,args,ts⟩:=c
  cases callee with
  | builtin b =>
   cases b with
   | copy =>
    rw [hop] at h
    simp only [gF] at h
    split at h
    ·rename_i x y t ha h0
     split at h
     ·rename_i el sz id dy h1 h2 h3
      split at h
      ·rename_i el' es xs hl hs
       split at h
       ·rename_i hel
        subst hel
        cases h
        obtain rfl:args=#[x,y]:=by apply Array.toList_inj.1;rw [ha]
        obtain ⟨hut,inf,hinf,hisz⟩:=fE h1
        subst hisz
        have hcells:P.cellsOf el'=inf.size:=fJ hinf
        have hxv:=he.ev h2
        have hyv:=he.ev h3
        obtain ⟨t1,t2,t3,t4,t5⟩:=oS hh hyv hs
        generalize hg:a.eval x=xv at hxv
        cases hxv with
        | arr _ _ hid hv =>
         obtain ⟨A,n,c,rfl⟩:=hv
         obtain ⟨g1,g2,g3,⟨g4,g4c⟩,g5⟩:=hh.arr_flat hl hid
         subst g1
         let k:=Nat.min xs.length es.length
         have hk1:xs.take es.length=xs.take k:=by
          simp only [k]
          rcases Nat.le_total xs.length es.length with h | h
          ·rw [show Nat.min xs.length es.length=xs.length from Nat.min_eq_left h,List.take_of_length_le h,List.take_of_length_le (Nat.le_refl _)]
          ·rw [show Nat.min xs.length es.length=es.length from Nat.min_eq_right h]
         have hk2:es.drop xs.length=es.drop k:=by
          simp only [k]
          rcases Nat.le_total xs.length es.length with h | h
          ·rw [show Nat.min xs.length es.length=xs.length from Nat.min_eq_left h]
          ·rw [show Nat.min xs.length es.length=es.length from Nat.min_eq_right h,List.drop_of_length_le h,List.drop_of_length_le (Nat.le_refl _)]
         have hkx:k≤xs.length:=Nat.min_le_left _ _
         have hke:k≤es.length:=Nat.min_le_right _ _
         obtain ⟨new,n1,n2⟩:=t5 k hkx
         rw [hk1,hk2]
         have hexec:∀ v w',(Builtin.copy_ ts o.type #[.slice A es.length c,a.eval y]).run P w = .ok v w'→(execOp a.eval o).run P w = .ok (.value v) w':=fun v w' hv=>by
          simp [execOp,hop,resolve,invoke,builtin,hg,hv]
         have hsl:(underlying t).run P w = .ok (.slice el') w:=by simp [underlying,hut]
         have hrunc:∀ w',(match A with | some ad=>(storeCells ad new.toList).run P w = .ok () w' | none=>w'=w)→(Builtin.copy_ ts o.type #[.slice A es.length c,a.eval y]).run P w = .ok (.int .i64 (k:Int)) w':=by
          intro w' hst
          have e1:Nat.min xs.length es.length=k:=rfl
          cases A with
          | none =>
           simp only at hst
           subst hst
           simp only [Builtin.copy_,h0,List.getElem?_toArray,List.getElem?_cons_zero,List.getElem?_cons_succ,Sem.run_bind,hsl,Result.andThen_ok,t1,cL hinf,e1,n1,Sem.run_pure,goInt]
          | some ad =>
           simp only at hst
           simp only [Builtin.copy_,h0,List.getElem?_toArray,List.getElem?_cons_zero,List.getElem?_cons_succ,Sem.run_bind,hsl,Result.andThen_ok,t1,cL hinf,e1,n1,hst,Sem.run_pure,goInt]
         have htk:∀ e' ∈ xs.take k,e'.length=inf.size:=fun e' he'=>t2 e' (List.mem_of_mem_take he')
         have hnl:new.toList.length=k * inf.size:=by
          rw [n2.len,eE _ htk,List.length_take,Nat.min_eq_left hkx]
         have hokv:pU (.int .i64 (k:Int))=true:=by
          have:(k:Int)≤140737488355328:=by unfold gY at g2;omega
          simp only [pU,Bool.and_eq_true,decide_eq_true_eq]
          refine ⟨?_,?_⟩
          ·show (-9223372036854775808:Int)≤k;omega
          ·show (k:Int)≤9223372036854775807;omega
         have hel:∀ e' ∈ xs.take k++es.drop k,e'.length=P.cellsOf el':=by
          intro e' he'
          rcases List.mem_append.1 he' with h | h
          ·rw [hcells];exact htk e' h
          ·exact g4 e' (List.mem_of_mem_drop h)
         have helc:∀ e' ∈ xs.take k++es.drop k,∀ q ∈ e',f7 q=true:=by
          intro e' he'
          rcases List.mem_append.1 he' with h | h
          ·exact t3 e' (List.mem_of_mem_take h)
          ·exact g4c e' (List.mem_of_mem_drop h)
         have hlen:(xs.take k++es.drop k).length=es.length:=by
          rw [List.length_append,List.length_take,List.length_drop,Nat.min_eq_left hkx];omega
         rcases g5 with ⟨rfl,rfl⟩ | ⟨b,ofs,cs,rfl,hb,hbc,hrel⟩
         ·have hk0:k=0:=by simp at hke;omega
          have hnew:new.toList=[]:=List.eq_nil_of_length_eq_zero (by rw [hnl,hk0];simp)
          have hsame:∀ i,(σ.put id (some (.arr el' (xs.take k++([]:List (List DV)).drop k)))).look i=σ.look i:=fun i=>by
           rw [aA.look_put (Nat.le_of_lt (a7 hl))]
           split
           ·rename_i hi;subst hi;rw [hk0,hl];simp
           ·rfl
          refine ⟨_,w,hexec _ _ (hrunc w ?_),Comes'.same hh (cX _ _ _) hsame,.d (.sc _ hokv)⟩
          cases A with
          | none=>rfl
          | some ad=>simp [hnew,storeCells]
         ·have hone:=n2.cells (List.all_eq_true.2 (fun q hq=>by
           obtain ⟨e',he',hqe⟩:=List.mem_flatten.1 hq
           exact t3 e' (List.mem_of_mem_take he') q hqe))
          have hkm:k * inf.size≤es.length * inf.size:=Nat.mul_le_mul_right _ hke
          have hcm:es.length * inf.size≤c * inf.size:=Nat.mul_le_mul_right _ g3
          rw [hcells] at hbc hrel
          have hrun:=run_storeCells_at P b ofs el' new.toList 0 cs w hb (by omega) (fun v hv=>(hone v hv).2)
          simp only [Nat.add_zero] at hrun
          let cs':Array Value:=(cs.toList.take ofs++new.toList++cs.toList.drop (ofs + new.toList.length)).toArray
          have hnsz:new.size=k * inf.size:=by simpa using hnl
          have hsize:cs'.size=cs.size:=by
           simp only [cs',List.size_toArray,List.length_append,List.length_take,List.length_drop,Array.length_toList]
           omega
          have hpart:(cs'.toList.drop ofs).take (es.length * inf.size)=new.toList++((cs.toList.drop ofs).take (es.length * inf.size)).drop (k * inf.size):=by
           have hcl:cs.toList.length=cs.size:=by simp
           simp only [cs',List.append_assoc]
           rw [List.drop_append,List.drop_of_length_le (by rw [List.length_take];omega),List.nil_append,List.length_take,show ofs - min ofs cs.toList.length=0 by omega,List.drop_zero,List.take_append,List.take_of_length_le (by omega),hnl,List.drop_take,List.drop_drop]
          have hflat:(xs.take k++es.drop k).flatten=(xs.take k).flatten++es.flatten.drop (k * inf.size):=by
           rw [List.flatten_append]
           congr 1
           have hsp:es.flatten=(es.take k).flatten++(es.drop k).flatten:=by rw [← List.flatten_append,List.take_append_drop]
           have hl1:(es.take k).flatten.length=k * inf.size:=by
            rw [eE (sz:=inf.size) _ (fun e' he'=>by rw [← hcells];exact g4 e' (List.mem_of_mem_take he')),List.length_take,Nat.min_eq_left hke]
           rw [hsp,List.drop_append,List.drop_of_length_le (l:=(es.take k).flatten) (by omega),List.nil_append,hl1,Nat.sub_self,List.drop_zero]
          have hnewrel:cM ι w (bQ X ι σ) (xs.take k++es.drop k).flatten ((cs'.toList.drop ofs).take ((xs.take k++es.drop k).length * P.cellsOf el')):=by
           rw [hlen,hcells,hpart,hflat]
           exact n2.append (hrel.drop _)
          rcases Nat.eq_zero_or_pos c with hc0 | hcpos
          ·subst hc0
           have hes:es=[]:=List.eq_nil_of_length_eq_zero (by omega)
           subst hes
           have hk0:k=0:=by simp at hke;omega
           have hnew:new.toList=[]:=List.eq_nil_of_length_eq_zero (by rw [hnl,hk0];simp)
           have hsame:∀ i,(σ.put id (some (.arr el' (xs.take k++([]:List (List DV)).drop k)))).look i=σ.look i:=fun i=>by
            rw [aA.look_put (Nat.le_of_lt (a7 hl))]
            split
            ·rename_i hi;subst hi;rw [hk0,hl];simp
            ·rfl
           exact ⟨_,w,hexec _ _ (hrunc w (by simp [hnew,storeCells])),Comes'.same hh (cX _ _ _) hsame,.d (.sc _ hokv)⟩
          ·obtain ⟨g1',g2',g3'⟩:=hh.write (o := .arr el' (xs.take k++es.drop k)) (w':=w.setRow b cs') hl hid (b:=b) (by
             obtain ⟨c',rfl⟩:∃ c',c=c' + 1:=⟨c - 1,by omega⟩
             rfl) (fun _ h=>h) (a8.setRow w b cs')
            (fun hM hf=>by
             have:=bE.arr_of (P:=P) (w:=w.setRow b cs') (M:=bQ X ι (σ.put id (some (.arr el' (xs.take k++es.drop k))))) (ι:=ι) (setRow_heap w b cs cs' el' (0,0) hb) (c:=c) (by rw [hsize,hcells];exact hbc) (by rw [hlen];exact g3) (by rw [hlen];exact g2) hel helc (hnewrel.mono (fun _ _ h=>h) hf hM)
             rw [hlen] at this
             exact this)
           exact ⟨_,w.setRow b cs',hexec _ _ (hrunc _ hrun),⟨fun _ _ h=>h,g2',g1',g3'⟩,.d (.sc _ hokv)⟩
       ·cases h
      ·cases h
     ·cases h
    ·cases h
   | _=>rw [hop] at h;simp [gF] at h
  | _=>rw [hop] at h;simp [gF] at h
 | _=>rw [hop] at h;simp [gF] at h
end
end Go.Ab
