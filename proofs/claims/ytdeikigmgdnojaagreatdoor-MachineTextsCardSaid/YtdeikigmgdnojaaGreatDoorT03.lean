import Derived.Test.YtdeikigmgdnojaaGreatDoorT02
import Derived.MapKept
/- A part of the proof of one law. -/
set_option maxRecDepth 100000
set_option maxHeartbeats 8000000
set_option linter.unusedVariables false
set_option linter.unusedSimpArgs false
namespace Go.Ab
def mE {α:Type} (kd:TypeDesc) (k:Value):List (Value × α)→Nat→Option (Option Nat)
 | [],_=>some none
 | (k',_)::es,i=>match Instr.sameNow kd k k' with
  | some true=>some (some i)
  | some false=>mE kd k es (i + 1)
  | none=>none
theorem IN {a b:ByteArray}:(a == b)=true↔a=b:=by
 cases a with
 | mk x =>
 cases b with
 | mk y =>
 constructor
 ·intro h
  have h':(x == y)=true:=h
  rw [eq_of_beq h']
 ·intro h
  cases h
  show (x == x)=true
  simp
section
variable {P:Program} {X:Nat→Prop} {ι:bZ} {σ:aA} {w:World}
theorem o6 {α:Type} {kd:TypeDesc} {k:Value}:∀ (es:List (Value × α)) (ms:List MapEntry) (i:Nat),ms.length=es.length→(∀ (j:Nat) m p,ms[j]? = some m→es[j]? = some p→m.key=p.1)→mE kd k es i=some none→Instr.findNow kd k ms i=some none
 | [],[],_,_,_,_=>rfl
 | [],_::_,_,h,_,_=>by simp at h
 | _::_,[],_,h,_,_=>by simp at h
 | (k',a)::es,m::ms,i,h,hk,hf=>by
  have h0:m.key=k':=hk 0 m (k',a) rfl rfl
  simp only [mE] at hf
  simp only [Instr.findNow,h0]
  split at hf
  ·cases hf
  ·rename_i hs
   rw [hs]
   exact o6 es ms (i + 1) (by simpa using h) (fun j m p h1 h2=>hk (j + 1) m p (by simpa using h1) (by simpa using h2)) hf
  ·cases hf
theorem o7 {α:Type} {kd:TypeDesc} {k:Value} {r:Nat}:∀ (es:List (Value × α)) (ms:List MapEntry) (i:Nat),ms.length=es.length→(∀ (j:Nat) m p,ms[j]? = some m→es[j]? = some p→m.key=p.1)→mE kd k es i=some (some r) →
  i≤r∧∃ m,ms[r - i]? = some m∧Instr.findNow kd k ms i=some (some (r,m.val))∧Instr.sameNow kd k m.key=some true
 | [],[],_,_,_,hf=>by simp [mE] at hf
 | [],_::_,_,h,_,_=>by simp at h
 | _::_,[],_,h,_,_=>by simp at h
 | (k',a)::es,m::ms,i,h,hk,hf=>by
  have h0:m.key=k':=hk 0 m (k',a) rfl rfl
  simp only [mE] at hf
  simp only [Instr.findNow,h0]
  split at hf
  ·rename_i hs
   cases hf
   exact ⟨Nat.le_refl _,m,by simp,by rw [hs],h0 ▸ hs⟩
  ·rename_i hs
   rw [hs]
   obtain ⟨h1,m',h2,h3,h4⟩:=o7 es ms (i + 1) (by simpa using h) (fun j m p h1 h2=>hk (j + 1) m p (by simpa using h1) (by simpa using h2)) hf
   refine ⟨by omega,m',?_,h3,h4⟩
   rw [show r - i=(r - (i + 1)) + 1 by omega]
   simpa using h2
  ·cases hf
def qJ:TypeDesc→Value→Bool
 | .bool,.bool _=>true
 | .int k,.int k' _=>k' == k
 | .string,.string _=>true
 | _,_=>false
theorem C4 {d:TypeDesc} {v:Value} (h:qJ d v=true):MapKept.IsKey d v:=by
 unfold qJ at h
 split at h <;> first | trivial | (simpa [MapKept.IsKey] using h) | cases h
theorem F0 {kd:TypeDesc} {a b:Value} (h:Instr.sameNow kd a b=some true):a=b:=by
 unfold Instr.sameNow at h
 split at h
 ·split at h
  ·rename_i hk
   simp at h
   subst h;subst hk;rfl
  ·cases h
 ·injection h with h
  rw [IN.1 h]
 ·simp at h;subst h;rfl
 ·cases h
end
def nK (P:Program) (t:TypeId):Option (TypeDesc × TypeId) :=
 match P.underlying t with
 | some (.map kt vt)=>(P.underlying kt).map fun kd=>(kd,vt)
 | _=>none
theorem xT {P:Program} {t:TypeId} {kd:TypeDesc} {vt:TypeId} (h:nK P t=some (kd,vt)):∃ kt,P.underlying t=some (.map kt vt)∧P.underlying kt=some kd:=by
 unfold nK at h
 split at h
 ·rename_i kt vt' hu
  simp only [Option.map_eq_some_iff] at h
  obtain ⟨d,h1,h2⟩:=h
  cases h2
  exact ⟨kt,hu,h1⟩
 ·cases h
def KL:Bool→List aR→Option DV
 | true,cs=>some (.agg (cs.map .d))
 | false,[x]=>some (.d x)
 | false,_=>none
def lY (P:Program) (kd:TypeDesc) (vt:TypeId) (k:Value) (σ:aA):DV→Option (DV × Bool)
 | .mp id=>match σ.look id with
  | some (.map es)=>match mE kd k es 0 with
   | some (some i)=>(es[i]?).map fun p=>(p.2,true)
   | some none=>(iT P vt).map fun z=>(z,false)
   | none=>none
  | _=>none
 | .d (.mp es)=>match mE kd k es 0 with
  | some (some i)=>(es[i]?).bind fun p=>(KL p.2.1 p.2.2).map fun z=>(z,true)
  | some none=>(iT P vt).map fun z=>(z,false)
  | none=>none
 | _=>none
def tV {α:Type} (es:List (Value × α)) (k:Value) (x:α):Option Nat→List (Value × α)
 | none=>es++[(k,x)]
 | some i=>es.set i (k,x)
def c8 (P:Program) (op:Op) (e:aW) (σ:aA) (nid:Nat):Option (Option DV × aA) :=
 match op with
 | .makeMap _ none=>some (some (.mp nid),σ.put nid (some (.map [])))
 | .makeMap t (some x) =>
  match P.underlying t,e.ev x with
  | some (.map _ _),some (.d (.sc (.int _ _)))=>some (some (.mp nid),σ.put nid (some (.map [])))
  | _,_=>none
 | .insert t m k v | .mapUpdate t m k v =>
  match nK P t,e.ev m,e.ev k,e.ev v with
  | some (kd,_),some (.mp id),some (.d (.sc kv)),some d =>
   match σ.look id with
   | some (.map es)=>if qJ kd kv then (mE kd kv es 0).map fun r=>(none,σ.put id (some (.map (tV es kv d r)))) else none
   | _=>none
  | _,_,_,_=>none
 | .lookup t x k ok =>
  match nK P t,e.ev x,e.ev k with
  | some (kd,vt),some dx,some (.d (.sc kv)) =>
   if qJ kd kv then (lY P kd vt kv σ dx).map fun r=>(some (if ok then .tup [r.1,.d (.sc (.bool r.2))] else r.1),σ) else none
  | _,_,_=>none
 | _=>none
section
variable {P:Program} {X:Nat→Prop} {ι:bZ} {σ:aA} {w:World}
theorem BA {nid:Nat} (hh:aQ P X ι σ w) (hn:ι nid=none) (hl:nid≤σ.length) :
  ∃ ι' w',(newObj (.map #[] 0)).run P w = .ok w.heap.size w'∧Comes' P X ι σ (σ.put nid (some (.map []))) w ι' w'∧ι' nid=some (.map (some w.heap.size))∧∀ i,i≠nid→ι' i=ι i:=by
 let v':Value := .map (some w.heap.size)
 obtain ⟨h1,h2,h3⟩:=hh.alloc (nid:=nid) (o := .map []) (obj := .map #[] 0) (v:=v') hn hl (fun b hb=>by simp [v',kV,cY] at hb;exact hb.symm)
  (.map [] w.heap.size #[] 0 (rJ w _) rfl (fun i m k d h=>by simp at h) (fun i m k d h=>by simp at h))
 exact ⟨_,_,rfl,⟨h2,a8.push _ w _,h1,h3⟩,by simp [bZ.set,v'],fun i hi=>by simp [bZ.set,hi]⟩
theorem a8.setBlock (w:World) (r:Nat) (o:Obj):a8 (fun x=>x=r) w { w with heap:=w.heap.setIfInBounds r o } :=
 ⟨rfl,rfl,rfl,by simp,fun b _ hb=>by
  show (w.heap.setIfInBounds r o)[b]? = _
  simp [Ne.symm hb]⟩
theorem aQ.mapO {id:Nat} {es:List (Value × DV)} (h:aQ P X ι σ w) (hl:σ.look id=some (.map es)) {r:Nat} (hb:ι id=some (.map (some r))) :
  ∃ ms clock,w.heap[r]? = some (.map ms clock)∧ms.size=es.length∧(∀ (i:Nat) (m:MapEntry) (k:Value) (d:DV),ms[i]? = some m→es[i]? = some (k,d)→m.key=k) ∧
   ∀ (i:Nat) (m:MapEntry) (k:Value) (d:DV),ms[i]? = some m→es[i]? = some (k,d)→aX ι w (bQ X ι σ) d m.val:=by
 obtain ⟨v,hv,ho⟩:=h.obj _ _ hl
 rw [hb] at hv
 cases hv
 cases ho with
 | map es r ms clock hh hl hk h=>exact ⟨ms,clock,hh,hl,hk,h⟩
theorem A7 {id r:Nat} {es:List (Value × DV)} {t:TypeId} {kd:TypeDesc} {vt:TypeId} {kv v:Value} {d:DV} {q:Option Nat} (hh:aQ P X ι σ w) (hl:σ.look id=some (.map es)) (hid:ι id=some (.map (some r))) (ht:nK P t=some (kd,vt)) (hk:qJ kd kv=true) (hv:aX ι w (bQ X ι σ) d v)
  (hf:mE kd kv es 0=some q):∃ w',(Instr.mapUpdate t (.map (some r)) kv v).run P w = .ok () w'∧Comes' P X ι σ (σ.put id (some (.map (tV es kv d q)))) w ι w':=by
 obtain ⟨ms,clock,h1,h2,h3,h4⟩:=hh.mapO hl hid
 obtain ⟨kt,hu,hkt⟩:=xT ht
 have hkk:=C4 hk
 have hkeys:∀ (j:Nat) m p,ms.toList[j]? = some m→es[j]? = some p→m.key=p.1:=fun j m p a b=>h3 j m p.1 p.2 (by simpa using a) (by simpa using b)
 cases q with
 | none =>
  have hfn:=o6 es ms.toList 0 (by simpa using h2) hkeys hf
  have hrun:(Instr.mapUpdate t (.map (some r)) kv v).run P w = .ok () { w with heap:=w.heap.setIfInBounds r (.map (ms.push { key:=kv,val:=v,born:=clock }) (clock + 1)) }:=by
   simp [Instr.mapUpdate,run_underlying hu,MapKept.run_getObj_map h1,MapKept.run_checkKey hkt hkk,MapKept.run_findKey hkt hfn,MapKept.run_setObj_map _ h1,Result.andThen]
  obtain ⟨g1,g2,g3⟩:=hh.write (o := .map (tV es kv d none)) hl hid (b:=r) rfl (fun _ h=>h) (a8.setBlock w r (.map (ms.push { key:=kv,val:=v,born:=clock }) (clock + 1)))
   (fun hM hf => .map _ r _ _ (MapKept.heap_set h1).1 (by simp [tV,h2]) (fun i m k d' a b=>by
     simp only [tV,List.getElem?_append] at b
     rw [Array.getElem?_push] at a
     split at b
     ·rename_i hi;rw [if_neg (by omega)] at a;exact h3 i m k d' a b
     ·rename_i hi
      have hi2:i=ms.size:=by
       have:=(List.getElem?_eq_some_iff.1 b).1
       simp at this;omega
      subst hi2
      simp at a
      rw [h2] at b;simp at b
      rw [← a];exact b.1)
    (fun i m k d' a b=>by
     simp only [tV,List.getElem?_append] at b
     rw [Array.getElem?_push] at a
     split at b
     ·rename_i hi;rw [if_neg (by omega)] at a;exact (h4 i m k d' a b).mono (fun _ _ h=>h) hf hM
     ·rename_i hi
      have hi2:i=ms.size:=by
       have:=(List.getElem?_eq_some_iff.1 b).1
       simp at this;omega
      subst hi2
      simp at a
      rw [h2] at b;simp at b
      rw [← a,← b.2];exact hv.mono (fun _ _ h=>h) hf hM))
  exact ⟨_,hrun,⟨fun _ _ h=>h,g2,g1,g3⟩⟩
 | some j =>
  obtain ⟨_,m,hm,hfn,hsame⟩:=o7 es ms.toList 0 (by simpa using h2) hkeys hf
  have hm':ms[j]? = some m:=by simpa using hm
  have hkm:kv=m.key:=F0 hsame
  have hjl:j < es.length:=by rw [← h2];exact (Array.getElem?_eq_some_iff.1 hm').1
  have hrun:(Instr.mapUpdate t (.map (some r)) kv v).run P w = .ok () { w with heap:=w.heap.setIfInBounds r (.map (ms.modify j fun e=>{ e with key:=kv,val:=v }) clock) }:=by
   simp [Instr.mapUpdate,run_underlying hu,MapKept.run_getObj_map h1,MapKept.run_checkKey hkt hkk,MapKept.run_findKey hkt hfn,hm',← hkm,MapKept.run_keyThatStays hkk,MapKept.run_setObj_map _ h1,Result.andThen]
  obtain ⟨g1,g2,g3⟩:=hh.write (o := .map (tV es kv d (some j))) hl hid (b:=r) rfl (fun _ h=>h) (a8.setBlock w r (.map (ms.modify j fun e=>{ e with key:=kv,val:=v }) clock))
   (fun hM hf => .map _ r _ _ (MapKept.heap_set h1).1 (by simp [tV,h2]) (fun i m' k d' a b=>by
     simp only [tV,List.getElem?_set] at b
     rw [Array.getElem?_modify] at a
     split at b
     ·rename_i hi;subst hi
      simp at b
      rw [hm'] at a;simp at a
      rw [← a];exact b.1
     ·rename_i hi;rw [if_neg hi] at a;exact h3 i m' k d' a b)
    (fun i m' k d' a b=>by
     simp only [tV,List.getElem?_set] at b
     rw [Array.getElem?_modify] at a
     split at b
     ·rename_i hi;subst hi
      simp at b
      rw [hm'] at a;simp at a
      rw [← a,← b.2];exact hv.mono (fun _ _ h=>h) hf hM
     ·rename_i hi;rw [if_neg hi] at a;exact (h4 i m' k d' a b).mono (fun _ _ h=>h) hf hM))
  exact ⟨_,hrun,⟨fun _ _ h=>h,g2,g1,g3⟩⟩
theorem C8 {kd:TypeDesc} {vt t:TypeId} {kv vx:Value} {dx d:DV} {b ok:Bool} (hh:aQ P X ι σ w) (ht:nK P t=some (kd,vt)) (hk:qJ kd kv=true) (hx:aX ι w (bQ X ι σ) dx vx) (h:lY P kd vt kv σ dx=some (d,b)) :
  ∃ v,(Instr.lookup t vx kv ok).run P w = .ok (if ok then .tuple #[v,.bool b] else v) w∧aX ι w (bQ X ι σ) d v:=by
 obtain ⟨kt,hu,hkt⟩:=xT ht
 have hkk:=C4 hk
 cases dx with
 | mp id =>
  cases hx with
  | mp _ _ hid hv =>
   obtain ⟨r,rfl⟩:=hv
   simp only [lY] at h
   split at h
   ·rename_i es hl
    obtain ⟨ms,clock,h1,h2,h3,h4⟩:=hh.mapO hl hid
    have hkeys:∀ (j:Nat) m p,ms.toList[j]? = some m→es[j]? = some p→m.key=p.1:=fun j m p a b=>h3 j m p.1 p.2 (by simpa using a) (by simpa using b)
    split at h
    ·rename_i i hf
     obtain ⟨_,m,hm,hfn,_⟩:=o7 es ms.toList 0 (by simpa using h2) hkeys hf
     have hm':ms[i]? = some m:=by simpa using hm
     simp only [Option.map_eq_some_iff] at h
     obtain ⟨p,hp,hq⟩:=h
     cases hq
     refine ⟨m.val,?_,h4 i m p.1 p.2 hm' (by simpa using hp)⟩
     simp [Instr.lookup,run_underlying hu,MapKept.run_getObj_map h1,MapKept.run_checkKey hkt hkk,MapKept.run_findKey hkt hfn,Result.andThen]
    ·rename_i hf
     have hfn:=o6 es ms.toList 0 (by simpa using h2) hkeys hf
     simp only [Option.map_eq_some_iff] at h
     obtain ⟨z,hz,hq⟩:=h
     cases hq
     obtain ⟨v,g1,g2⟩:=lM (w:=w) (ι:=ι) (X:=X) (σ:=σ) hz
     refine ⟨v,?_,g2⟩
     simp [Instr.lookup,run_underlying hu,MapKept.run_getObj_map h1,MapKept.run_checkKey hkt hkk,MapKept.run_findKey hkt hfn,Result.andThen,g1]
    ·cases h
   ·cases h
 | d y =>
  cases y with
  | mp es =>
   cases hx with
   | d hx =>
    cases hx with
    | mp r ms clock _ hM h1 h2 h3 h4 =>
     have hkeys:∀ (j:Nat) m p,ms.toList[j]? = some m→es[j]? = some p→m.key=p.1:=fun j m p a b=>(h3 j m p.1 p.2.1 p.2.2 (by simpa using a) (by simpa using b)).1
     simp only [lY] at h
     split at h
     ·rename_i i hf
      obtain ⟨_,m,hm,hfn,_⟩:=o7 es ms.toList 0 (by simpa using h2) hkeys hf
      have hm':ms[i]? = some m:=by simpa using hm
      cases hp:es[i]? with
      | none=>simp [hp] at h
      | some p =>
       obtain ⟨k,bb,cs⟩:=p
       simp only [hp,Option.bind_some,Option.map_eq_some_iff] at h
       obtain ⟨z,hz,hq⟩:=h
       cases hq
       refine ⟨m.val,by simp [Instr.lookup,run_underlying hu,MapKept.run_getObj_map h1,MapKept.run_checkKey hkt hkk,MapKept.run_findKey hkt hfn,Result.andThen],?_⟩
       obtain ⟨_,hsh⟩:=h3 i m k bb cs hm' hp
       have hrel:=h4 i m k bb cs hm' hp
       cases bb with
       | true =>
        simp only [KL] at hz
        cases hz
        unfold uE at hsh
        split at hsh
        ·rename_i vs _ hval
         rw [hval]
         refine .agg _ _ (by simpa using hsh) (fun j x y hx hy=>?_)
         rw [List.getElem?_map] at hx
         obtain ⟨x',hx',rfl⟩:=Option.map_eq_some_iff.1 hx
         exact .d (hrel j x' y hx' (by rw [hval];exact hy))
        ·cases hsh
        ·rename_i hb;cases hb
       | false =>
        cases cs with
        | nil=>simp [KL] at hz
        | cons x cs =>
         cases cs with
         | nil=>simp only [KL] at hz;cases hz;exact .d (hrel 0 x m.val rfl (by unfold wM;simp))
         | cons y cs=>simp [KL] at hz
     ·rename_i hf
      have hfn:=o6 es ms.toList 0 (by simpa using h2) hkeys hf
      simp only [Option.map_eq_some_iff] at h
      obtain ⟨z,hz,hq⟩:=h
      cases hq
      obtain ⟨v,g1,g2⟩:=lM (w:=w) (ι:=ι) (X:=X) (σ:=σ) hz
      refine ⟨v,?_,g2⟩
      simp [Instr.lookup,run_underlying hu,MapKept.run_getObj_map h1,MapKept.run_checkKey hkt hkk,MapKept.run_findKey hkt hfn,Result.andThen,g1]
     ·cases h
  | _=>simp [lY] at h
 | _=>simp [lY] at h
theorem lP {e:aW} {o:Oper} {d:Option DV} {a:Act} {nid:Nat} {σ':aA} (he:cR ι w (bQ X ι σ) e a) (hh:aQ P X ι σ w) (hn:ι nid=none) (hl:nid≤σ.length) (h:c8 P o.op e σ nid=some (d,σ')) :
  ∃ r ι' w',(execOp a.eval o).run P w = .ok r w'∧Comes' P X ι σ σ' w ι' w'∧(∀ i,i≠nid→ι' i=ι i)∧((∃ v x,r = .value v∧d=some x∧aX ι' w' (bQ X ι' σ') x v)∨(r = .skip∧d=none)):=by
 have upd:∀ (t:TypeId) (m k v:Operand),(execOp a.eval o=(do Instr.mapUpdate t (a.eval m) (a.eval k) (a.eval v);pure .skip:Sem Next))→(match nK P t,e.ev m,e.ev k,e.ev v with
  | some (kd,_),some (.mp id),some (.d (.sc kv)),some d =>
   match σ.look id with
   | some (.map es)=>if qJ kd kv then (mE kd kv es 0).map fun r=>((none:Option DV),σ.put id (some (.map (tV es kv d r)))) else none
   | _=>none
  | _,_,_,_=>none)=some (d,σ') →
  ∃ r ι' w',(execOp a.eval o).run P w = .ok r w'∧Comes' P X ι σ σ' w ι' w'∧(∀ i,i≠nid→ι' i=ι i)∧((∃ v x,r = .value v∧d=some x∧aX ι' w' (bQ X ι' σ') x v)∨(r = .skip∧d=none)):=by
  intro t m k v hx h
  split at h
  ·rename_i kd vt id kv dv h1 h2 h3 h4
   split at h
   ·rename_i es hes
    split at h
    ·rename_i hk
     simp only [Option.map_eq_some_iff] at h
     obtain ⟨q,hq,hr⟩:=h
     cases hr
     have hm:=he.ev h2
     generalize hg:a.eval m=mv at hm
     cases hm with
     | mp _ _ hid hv =>
      obtain ⟨r,rfl⟩:=hv
      have hkv:=(he.ev h3).sc_inv.1
      obtain ⟨w',g1,g2⟩:=A7 hh hes hid h1 hk (he.ev h4) hq
      refine ⟨.skip,ι,w',?_,g2,fun _ _=>rfl,.inr ⟨rfl,rfl⟩⟩
      rw [hx,hg,hkv]
      simp [g1,Result.andThen]
    ·cases h
   ·cases h
  ·cases h
 cases hop:o.op with
 | makeMap t r =>
  rw [hop] at h
  obtain ⟨ι',w',g1,g2,g3,g4⟩:=BA (P:=P) hh hn hl
  cases r with
  | none =>
   simp only [c8] at h
   cases h
   refine ⟨_,ι',w',?_,g2,g4,.inl ⟨.map (some w.heap.size),_,rfl,rfl,.mp nid _ g3 ⟨_,rfl⟩⟩⟩
   simp only [execOp,hop,Instr.makeMap,Option.map_none,Sem.run_bind,Sem.run_pure,Result.andThen_ok,g1]
  | some x =>
   simp only [c8] at h
   split at h
   ·rename_i kt vt kk n h1 h2
    cases h
    have hiv:=(he.ev h2).sc_inv.1
    refine ⟨_,ι',w',?_,g2,g4,.inl ⟨.map (some w.heap.size),_,rfl,rfl,.mp nid _ g3 ⟨_,rfl⟩⟩⟩
    have hi:(asInt (.int kk n)).run P w = .ok n w:=by simp [asInt,asIntOf]
    simp only [execOp,hop,Instr.makeMap,Option.map_some,Sem.run_bind,Sem.run_pure,Result.andThen_ok,g1,hiv,hi,run_underlying h1]
   ·cases h
 | insert t m k v=>rw [hop] at h;exact upd t m k v (by simp [execOp,hop]) h
 | mapUpdate t m k v=>rw [hop] at h;exact upd t m k v (by simp [execOp,hop]) h
 | lookup t x k ok =>
  rw [hop] at h
  simp only [c8] at h
  split at h
  ·rename_i kd vt dx kv h1 h2 h3
   split at h
   ·rename_i hk
    simp only [Option.map_eq_some_iff] at h
    obtain ⟨⟨z,b⟩,hz,hr⟩:=h
    cases hr
    obtain ⟨v,g1,g2⟩:=C8 (ok:=ok) hh h1 hk (he.ev h2) hz
    have hkv:=(he.ev h3).sc_inv.1
    refine ⟨.value (if ok then .tuple #[v,.bool b] else v),ι,w,?_,Comes'.refl hh,fun _ _=>rfl,.inl ⟨_,_,rfl,rfl,?_⟩⟩
    ·simp only [execOp,hop,Sem.run_bind,hkv,g1,Result.andThen_ok,Sem.run_pure]
    ·cases ok with
     | false=>exact g2
     | true=>exact .tup_of (.cons g2 (.cons (.of_sc rfl) .nil))
   ·cases h
  ·cases h
 | _=>rw [hop] at h;simp [c8] at h
theorem CR {op:Op} {e:aW} {σ':aA} {nid:Nat} {d:Option DV} (h:c8 P op e σ nid=some (d,σ')):σ.length≤σ'.length:=by
 unfold c8 at h
 repeat' (split at h)
 all_goals first
  | (cases h;done)
  | (cases h;exact cX _ _ _)
  | (simp only [Option.map_eq_some_iff] at h;obtain ⟨q,hq,hr⟩:=h;cases hr;first | exact cX _ _ _ | exact Nat.le_refl _)
end
def eI (P:Program) (op:Op) (e:aW) (σ:aA) (nid:Nat):Option (DV × aA) :=
 match op with
 | .slice t x lo hi none =>
  match e.ev x with
  | some (.arr id) =>
   match dU P t,σ.look id with
   | some (el,_),some (.arr el' es) =>
    if el'=el then
     match eX e es.length es.length hi with
     | some h=>match eX e 0 h lo with
      | some l=>some (.arr nid,(σ.less (some id)).put nid (some (.arr el ((es.drop l).take (h - l)))))
      | none=>none
     | none=>none
    else none
   | _,_=>none
  | _=>(aK P (.slice t x lo hi none) e σ).map fun d=>(d,σ)
 | .slice t x none (some h) (some m) =>
  match dU P t,e.ev x,e.ev h,e.ev m with
  | some _,some .nils,some (.d (.sc (.int _ 0))),some (.d (.sc (.int _ 0)))=>some (.nils,σ)
  | some _,some (.arr _),some (.d (.sc (.int _ 0))),some (.d (.sc (.int _ 0)))=>some (.nils,σ)
  | some _,some (.d (.lst _)),some (.d (.sc (.int _ 0))),some (.d (.sc (.int _ 0)))=>some (.nils,σ)
  | _,_,_,_=>none
 | _=>none
section
variable {P:Program} {X:Nat→Prop} {ι:bZ} {σ:aA} {w:World}
theorem RZ {id nid:Nat} {el:TypeId} {es es':List (List DV)} {v v':Value} (hh:aQ P X ι σ w) (hlk:σ.look id=some (.arr el es)) (hid:ι id=some v) (hn:ι nid=none) (hl:nid≤σ.length) (hb:∀ b,cY v'=some b→cY v=some b) (ho:bE P ι w (bQ X ι σ) v' (.arr el es')) :
  ∃ ι',Comes' P X ι σ ((σ.put id none).put nid (some (.arr el es'))) w ι' w∧ι' nid=some v'∧∀ i,i≠nid→ι' i=ι i:=by
 have hidl:id < σ.length:=a7 hlk
 have hne:nid≠id:=by rintro rfl;rw [hn] at hid;cases hid
 have hlen1:(σ.put id none).length=σ.length:=by rw [aA.length_put,if_pos hidl]
 have hι:∀ i u,ι i=some u→(bZ.set ι nid v') i=some u:=fun i u h=>by
  unfold bZ.set;rw [if_neg]
  ·exact h
  ·rintro rfl;rw [hn] at h;cases h
 have hlook:∀ j,((σ.put id none).put nid (some (.arr el es'))).look j=if j=nid then some (.arr el es') else if j=id then none else σ.look j:=fun j=>by
  rw [aA.look_put (by rw [hlen1];exact hl),aA.look_put (by omega)]
 have hM:∀ x,g8 (bZ.set ι nid v') ((σ.put id none).put nid (some (.arr el es'))) x→g8 ι σ x:=by
  rintro x ⟨i,o',u,g1,g2,g3⟩
  rw [hlook] at g1
  unfold bZ.set at g2
  split at g1
  ·rename_i he;rw [if_pos he] at g2;cases g2;cases g1;exact ⟨id,_,_,hlk,hid,hb x g3⟩
  ·rename_i he
   rw [if_neg he] at g2
   split at g1
   ·cases g1
   ·exact ⟨i,o',u,g1,g2,g3⟩
 have hMut:∀ b,b < w.heap.size→bQ X (bZ.set ι nid v') ((σ.put id none).put nid (some (.arr el es'))) b→bQ X ι σ b:=bQ.of_own (fun b _ h=>hM b h)
 refine ⟨bZ.set ι nid v',⟨hι,a8.refl _ w,?_,fun b _ hb=>hM b hb⟩,by simp [bZ.set],fun i hi=>by simp [bZ.set,hi]⟩
 refine hh.change (a8.refl _ w) hι (fun i hi=>?_) (fun i o' hi=>?_) (fun x _=>hM x) (fun i i' o1 o2 u1 u2 x g1 g2 g3 g4 g5 g6=>?_)
 ·rw [aA.length_put,hlen1] at hi
  unfold bZ.set
  split at hi
  ·rw [if_neg (by omega)];exact hh.fresh i hi
  ·rw [if_neg (by omega)];exact hh.fresh i (by omega)
 ·rw [hlook] at hi
  split at hi
  ·rename_i he
   subst he
   cases hi
   exact .inr ⟨v',by simp [bZ.set],ho.mono hι (a8.refl (bQ X ι σ) w) hMut (fun _ _=>rfl)⟩
  ·split at hi
   ·cases hi
   ·exact .inl ⟨hi,fun _ _ _ _=>rfl⟩
 ·rw [hlook] at g1 g2
  unfold bZ.set at g3 g4
  by_cases e1:i=nid <;> by_cases e2:i'=nid
  ·rw [e1,e2]
  ·rw [if_pos e1] at g3 g1;rw [if_neg e2] at g4 g2
   cases g3;cases g1
   split at g2
   ·cases g2
   ·rename_i e3
    exact absurd (hh.inj i' id _ _ _ _ x g2 hlk g4 hid g6 (hb x g5)) e3
  ·rw [if_pos e2] at g4 g2;rw [if_neg e1] at g3 g1
   cases g4;cases g2
   split at g1
   ·cases g1
   ·rename_i e3
    exact absurd (hh.inj i id _ _ _ _ x g1 hlk g3 hid g5 (hb x g6)) e3
  ·rw [if_neg e1] at g1 g3;rw [if_neg e2] at g2 g4
   split at g1
   ·cases g1
   ·split at g2
    ·cases g2
    ·exact hh.inj i i' _ _ _ _ x g1 g2 g3 g4 g5 g6
theorem GH {len cap:Nat} {h m:Value} {k k':IntKind} (hh:h = .int k 0) (hm:m = .int k' 0):(Instr.sliceBounds true len cap none (some h) (some m)).run P w = .ok (0,0,0) w:=by
 subst hh hm
 simp [Instr.sliceBounds,Instr.sliceBound,asIntOf]
theorem LL {A:Option Addr} {el:TypeId} {es:List (List DV)} {n c l h:Nat} (ho:bE P ι w (bQ X ι σ) (.slice A n c) (.arr el es)) (hl:l≤h) (hh:h≤es.length) :
  bE P ι w (bQ X ι σ) (.slice (if c=l then A else A.map (·.add (l * P.cellsOf el))) (h - l) (c - l)) (.arr el ((es.drop l).take (h - l))):=by
 have hlen:((es.drop l).take (h - l)).length=h - l:=by simp;omega
 generalize hv:Value.slice A n c=v at ho
 cases ho with
 | nil _ A' =>
  cases hv
  simp only [List.length_nil] at hh
  obtain rfl:h=0:=by omega
  obtain rfl:l=0:=by omega
  simpa using bE.nil el A
 | arr _ _ b o c' cs h1 hc hn hm hs hcl hrel =>
  cases hv
  by_cases hcl':c=l
  ·subst hcl'
   have:h=c:=by omega
   subst this
   simpa using bE.nil el (some ⟨b,o,none⟩)
  ·simp only [hcl',if_false,Option.map_some,lS]
   have hmul:(c - l) * P.cellsOf el=c * P.cellsOf el - l * P.cellsOf el:=Nat.sub_mul _ _ _
   have hle:l * P.cellsOf el≤c * P.cellsOf el:=Nat.mul_le_mul_right _ (by omega)
   have:bE P ι w (bQ X ι σ) (.slice (some ⟨b,o + l * P.cellsOf el,none⟩) ((es.drop l).take (h - l)).length (c - l)) (.arr el ((es.drop l).take (h - l))):=by
    refine .arr el _ b (o + l * P.cellsOf el) (c - l) cs h1 (by rw [hmul];omega) (by rw [hlen];omega) (by rw [hlen];omega) (fun e he=>hs e (List.mem_of_mem_drop (List.mem_of_mem_take he))) (fun e he=>hcl e (List.mem_of_mem_drop (List.mem_of_mem_take he))) (fun i j e x y he hx hy=>?_)
    rw [List.getElem?_take] at he
    split at he
    ·rw [List.getElem?_drop] at he
     refine hrel (l + i) j e x y he hx ?_
     rw [← hy];congr 1
     rw [Nat.add_mul];omega
    ·cases he
   rw [hlen] at this
   exact this
theorem yY {e:aW} {o:Oper} {d:DV} {a:Act} {nid:Nat} {σ':aA} (he:cR ι w (bQ X ι σ) e a) (hh:aQ P X ι σ w) (hn:ι nid=none) (hl:nid≤σ.length) (h:eI P o.op e σ nid=some (d,σ')) :
  ∃ v ι' w',(execOp a.eval o).run P w = .ok (.value v) w'∧Comes' P X ι σ σ' w ι' w'∧aX ι' w' (bQ X ι' σ') d v∧∀ i,i≠nid→ι' i=ι i:=by
 cases hop:o.op with
 | slice t x lo hi mx =>
  rw [hop] at h
  cases mx with
  | none =>
   have pure:(aK P (.slice t x lo hi none) e σ).map (fun d=>(d,σ))=some (d,σ')→∃ v ι' w',(execOp a.eval o).run P w = .ok (.value v) w'∧Comes' P X ι σ σ' w ι' w'∧aX ι' w' (bQ X ι' σ') d v∧∀ i,i≠nid→ι' i=ι i:=by
    intro hx
    obtain ⟨y,hy,hz⟩:=Option.map_eq_some_iff.1 hx
    cases hz
    obtain ⟨v,h1,h2⟩:=qD (o:=o) he hh (by rw [hop];exact hy)
    exact ⟨v,ι,w,h1,Comes'.refl hh,h2,fun _ _=>rfl⟩
   simp only [eI] at h
   split at h
   ·rename_i id hx
    split at h
    ·rename_i el sz el' es hel hlk
     split at h
     ·rename_i hee
      subst hee
      split at h
      ·rename_i hb hhb
       split at h
       ·rename_i lb hlb
        cases h
        obtain ⟨hu,inf,hinf,hsz⟩:=fE hel
        have hv:=he.ev hx
        generalize hg:a.eval x=xv at hv
        cases hv with
        | arr _ _ hid hsl =>
         obtain ⟨A,n,c,rfl⟩:=hsl
         obtain ⟨v',g1,g2⟩:=hh.obj id _ hlk
         rw [hid] at g1;cases g1
         obtain ⟨g3,g4,g5,_,_⟩:=hh.arr hlk hid
         subst g3
         obtain ⟨hr,h1,h2⟩:=jF (P:=P) (w:=w) he hhb hlb g5 true
         obtain ⟨ι',k1,k2,k3⟩:=RZ hh hlk hid hn hl (v' := .slice (if c=lb then A else A.map (·.add (lb * P.cellsOf el'))) (hb - lb) (c - lb)) (fun b hbb=>by
          by_cases hcl:c=lb
          ·subst hcl
           rw [Nat.sub_self] at hbb
           cases A <;> simp [cY] at hbb
          ·simp only [hcl,if_false] at hbb
           cases A with
           | none=>simp [cY] at hbb
           | some ad =>
            obtain ⟨m,hm⟩:∃ m,c - lb=m + 1:=⟨c - lb - 1,by omega⟩
            obtain ⟨m',rfl⟩:∃ m',c=m' + 1:=⟨c - 1,by omega⟩
            simp only [Option.map_some,hm,cY] at hbb ⊢
            rw [← hbb]
            unfold Addr.add
            split <;> rfl) (LL g2 h1 h2)
         refine ⟨_,ι',w,?_,k1,.arr nid _ k2 ⟨_,_,_,rfl⟩,k3⟩
         have hcells:P.cellsOf el'=inf.size:=fJ hinf
         simp [execOp,hop,hg,Instr.sliceAt,Instr.slice,underlying,hu,hr,cL hinf,hcells]
       ·cases h
      ·cases h
     ·cases h
    ·cases h
   ·exact pure h
  | some m =>
   cases lo with
   | some _=>simp [eI] at h
   | none =>
    cases hi with
    | none=>simp [eI] at h
    | some hb =>
     have fin:∀ A n c,a.eval x = .slice A n c→(∃ q,dU P t=some q)→(∃ k,a.eval hb = .int k 0)→(∃ k,a.eval m = .int k 0)→∃ v,(execOp a.eval o).run P w = .ok (.value v) w∧aX ι w (bQ X ι σ) .nils v:=by
      rintro A n c hx ⟨⟨el,sz⟩,hel⟩ ⟨k,hk⟩ ⟨k',hk'⟩
      obtain ⟨hu,inf,hinf,hsz⟩:=fE hel
      have hz:=GH (P:=P) (w:=w) (len:=n) (cap:=c) hk hk'
      refine ⟨.slice A 0 0,?_,.nils A⟩
      simp [execOp,hop,hx,Instr.sliceAt,Instr.slice,underlying,hu,hz,cL hinf]
     simp only [eI] at h
     split at h
     ·rename_i q k k' h1 h2 h3 h4
      cases h
      have hv:=he.ev h2
      generalize hg:a.eval x=xv at hv
      cases hv with
      | nils A =>
       obtain ⟨v,g1,g2⟩:=fin _ _ _ hg ⟨_,h1⟩ ⟨_,(he.ev h3).sc_inv.1⟩ ⟨_,(he.ev h4).sc_inv.1⟩
       exact ⟨v,ι,w,g1,Comes'.refl hh,g2,fun _ _=>rfl⟩
     ·rename_i q id k k' h1 h2 h3 h4
      cases h
      have hv:=he.ev h2
      generalize hg:a.eval x=xv at hv
      cases hv with
      | arr _ _ hid hsl =>
       obtain ⟨A,n,c,rfl⟩:=hsl
       obtain ⟨v,g1,g2⟩:=fin _ _ _ hg ⟨_,h1⟩ ⟨_,(he.ev h3).sc_inv.1⟩ ⟨_,(he.ev h4).sc_inv.1⟩
       exact ⟨v,ι,w,g1,Comes'.refl hh,g2,fun _ _=>rfl⟩
     ·rename_i q es k k' h1 h2 h3 h4
      cases h
      have hv:=he.ev h2
      generalize hg:a.eval x=xv at hv
      cases hv with
      | d hv =>
       have:∃ A n c,xv = .slice A n c:=by cases hv <;> exact ⟨_,_,_,rfl⟩
       obtain ⟨A,n,c,rfl⟩:=this
       obtain ⟨v,g1,g2⟩:=fin _ _ _ hg ⟨_,h1⟩ ⟨_,(he.ev h3).sc_inv.1⟩ ⟨_,(he.ev h4).sc_inv.1⟩
       exact ⟨v,ι,w,g1,Comes'.refl hh,g2,fun _ _=>rfl⟩
     ·cases h
 | _=>rw [hop] at h;simp [eI] at h
theorem JK (σ:aA) (o:Option Nat):σ.length≤(σ.less o).length:=by
 cases o with
 | none=>exact Nat.le_refl _
 | some id=>exact cX σ id none
theorem CP {op:Op} {e:aW} {σ':aA} {nid:Nat} {d:DV} (h:eI P op e σ nid=some (d,σ')):σ.length≤σ'.length:=by
 unfold eI at h
 repeat' (split at h)
 all_goals first
  | (cases h;done)
  | (cases h;exact Nat.le_trans (JK _ _) (cX _ _ _))
  | (cases h;exact Nat.le_refl _)
  | (obtain ⟨y,hy,hz⟩:=Option.map_eq_some_iff.1 h;cases hz;exact Nat.le_refl _)
end
def j6 (op:Op) (e:aW):Option DV :=
 match op with
 | .call { callee := .builtin .max,args,.. }=>match args.toList with
  | [x,y]=>match e.ev x,e.ev y with
   | some (.d (.sc (.int k a))),some (.d (.sc (.int k' b)))=>if k=k' then some (.d (.sc (.int k (if b > a then b else a)))) else none
   | _,_=>none
  | _=>none
 | .call { callee := .builtin .min,args,.. }=>match args.toList with
  | [x,y]=>match e.ev x,e.ev y with
   | some (.d (.sc (.int k a))),some (.d (.sc (.int k' b)))=>if k=k' then some (.d (.sc (.int k (if b < a then b else a)))) else none
   | _,_=>none
  | _=>none
 | _=>none
section
variable {P:Program} {X:Nat→Prop} {ι:bZ} {σ:aA} {w:World}
theorem tA {e:aW} {o:Oper} {d:DV} {a:Act} (he:cR ι w (bQ X ι σ) e a) (h:j6 o.op e=some d) :
  ∃ v,(execOp a.eval o).run P w = .ok (.value v) w∧aX ι w (bQ X ι σ) d v:=by
 cases hop:o.op with
 | call c =>
  obtain ⟨callee,args,ts⟩:=c
  rw [hop] at h
  cases callee with
  | builtin b =>
   cases b with
   | max =>
    simp only [j6] at h
    split at h
    ·rename_i x y ha
     split at h
     ·rename_i k m k' n hx hy
      split at h
      ·rename_i hk
       subst hk
       cases h
       obtain ⟨hxv,hxo⟩:=(he.ev hx).sc_inv
       obtain ⟨hyv,hyo⟩:=(he.ev hy).sc_inv
       obtain rfl:args=#[x,y]:=by apply Array.toList_inj.1;rw [ha]
       refine ⟨.int k (if n > m then n else m),?_,.of_sc ?_⟩
       ·simp [execOp,hop,resolve,invoke,builtin,Builtin.max_,Builtin.max2,hxv,hyv]
       ·split <;> assumption
      ·cases h
     ·cases h
    ·cases h
   | min =>
    simp only [j6] at h
    split at h
    ·rename_i x y ha
     split at h
     ·rename_i k m k' n hx hy
      split at h
      ·rename_i hk
       subst hk
       cases h
       obtain ⟨hxv,hxo⟩:=(he.ev hx).sc_inv
       obtain ⟨hyv,hyo⟩:=(he.ev hy).sc_inv
       obtain rfl:args=#[x,y]:=by apply Array.toList_inj.1;rw [ha]
       refine ⟨.int k (if n < m then n else m),?_,.of_sc ?_⟩
       ·simp [execOp,hop,resolve,invoke,builtin,Builtin.min_,Builtin.min2,hxv,hyv]
       ·split <;> assumption
      ·cases h
     ·cases h
    ·cases h
   | _=>simp [j6] at h
  | _=>simp [j6] at h
 | _=>rw [hop] at h;simp [j6] at h
theorem s9 {op:Op} {e e2:aW} (he:∀ x ∈ op.operands.toList,e2.ev x=e.ev x):j6 op e2=j6 op e:=by
 cases op with
 | call c =>
  obtain ⟨callee,args,ts⟩:=c
  have hx:∀ x ∈ args.toList,e2.ev x=e.ev x:=fun x hx=>he x (by simp [Op.operands,Call.operands];exact .inr (by simpa using hx))
  cases callee with
  | builtin b =>
   cases b with
   | max =>
    simp only [j6]
    cases ha:args.toList with
    | nil=>rfl
    | cons x r =>
     cases r with
     | nil=>rfl
     | cons y r =>
      cases r with
      | nil=>simp only [hx x (by rw [ha];simp),hx y (by rw [ha];simp)]
      | cons z r=>rfl
   | min =>
    simp only [j6]
    cases ha:args.toList with
    | nil=>rfl
    | cons x r =>
     cases r with
     | nil=>rfl
     | cons y r =>
      cases r with
      | nil=>simp only [hx x (by rw [ha];simp),hx y (by rw [ha];simp)]
      | cons z r=>rfl
   | _=>rfl
  | _=>rfl
 | _=>rfl
end
def aZ (P:Program) (op:Op) (e:aW) (σ:aA) (nid:Nat):Option (Option DV × aA) :=
 match op with
 | .alloc t=>(fT P (.alloc t) e σ nid).map fun x=>(some x.1,x.2)
 | .box t x=>(fT P (.box t x) e σ nid).map fun x=>(some x.1,x.2)
 | .store t x y=>(dW P (.store t x y) e σ).map fun s=>(none,s)
 | .buildSlice t n ps=>(fD P (.buildSlice t n ps) e σ nid).map fun x=>(some x.1,x.2)
 | .makeSlice t l c=>(fD P (.makeSlice t l c) e σ nid).map fun x=>(some x.1,x.2)
 | .call { callee := .builtin .append,args,argTypes }=>(d8 P (.call { callee := .builtin .append,args,argTypes }) e σ nid).map fun x=>(some x.1,x.2)
 | .call { callee := .builtin .copy,args,argTypes }=>(gF P (.call { callee := .builtin .copy,args,argTypes }) e σ).map fun x=>(some x.1,x.2)
 | .call { callee := .builtin .max,args,argTypes }=>(j6 (.call { callee := .builtin .max,args,argTypes }) e).map fun d=>(some d,σ)
 | .call { callee := .builtin .min,args,argTypes }=>(j6 (.call { callee := .builtin .min,args,argTypes }) e).map fun d=>(some d,σ)
 | .makeMap t r=>c8 P (.makeMap t r) e σ nid
 | .insert t m k v=>c8 P (.insert t m k v) e σ nid
 | .mapUpdate t m k v=>c8 P (.mapUpdate t m k v) e σ nid
 | .lookup t x k ok=>c8 P (.lookup t x k ok) e σ nid
 | .slice t x lo hi mx=>(eI P (.slice t x lo hi mx) e σ nid).map fun x=>(some x.1,x.2)
 | op=>(aK P op e σ).map fun d=>(some d,σ)
structure fA (P:Program) (X:Nat→Prop) (ι:bZ) (σ σ':aA) (w:World) (ι':bZ) (w':World):Prop extends Comes' P X ι σ σ' w ι' w' where
 keep:∀ i,i < σ.length→ι' i=ι i
 len:σ.length≤σ'.length
theorem fA.refl {P:Program} {X:Nat→Prop} {ι:bZ} {σ:aA} {w:World} (hh:aQ P X ι σ w):fA P X ι σ σ w ι w:=⟨Comes'.refl hh,fun _ _=>rfl,Nat.le_refl _⟩
theorem fA.trans {P:Program} {X:Nat→Prop} {ι ι1 ι2:bZ} {σ σ1 σ2:aA} {w w1 w2:World} (h:fA P X ι σ σ1 w ι1 w1) (k:fA P X ι1 σ1 σ2 w1 ι2 w2):fA P X ι σ σ2 w ι2 w2 :=
 ⟨h.toComes'.trans k.toComes',fun i hi=>(k.keep i (Nat.lt_of_lt_of_le hi h.len)).trans (h.keep i hi),Nat.le_trans h.len k.len⟩
theorem MK (σ:aA) (o:Option Nat):σ.length≤(σ.less o).length:=by
 cases o with
 | none=>exact Nat.le_refl _
 | some id=>exact cX σ id none
theorem CO {P:Program} {op:Op} {e:aW} {σ σ':aA} {nid:Nat} {d:DV} (h:fT P op e σ nid=some (d,σ')):σ.length≤σ'.length:=by
 unfold fT at h
 split at h
 all_goals (try cases h)
 all_goals (split at h;rotate_left;cases h)
 all_goals (split at h;rotate_left;cases h)
 all_goals (cases h;exact cX _ _ _)
theorem yZ {P:Program} {op:Op} {e:aW} {σ σ':aA} (h:dW P op e σ=some σ'):σ.length≤σ'.length:=by
 unfold dW at h
 repeat' (split at h)
 all_goals first
  | (cases h;done)
  | (cases h;exact cX _ _ _)
theorem CQ {P:Program} {op:Op} {e:aW} {σ σ':aA} {nid:Nat} {d:DV} (h:fD P op e σ nid=some (d,σ')):σ.length≤σ'.length:=by
 unfold fD at h
 repeat' (split at h)
 all_goals first
  | (cases h;done)
  | (cases h;first | exact cX _ _ _ | exact Nat.le_refl _)
theorem w9 {P:Program} {op:Op} {e:aW} {σ σ':aA} {nid:Nat} {d:DV} (h:d8 P op e σ nid=some (d,σ')):σ.length≤σ'.length:=by
 unfold d8 at h
 repeat' (split at h)
 all_goals first
  | (cases h;done)
  | (cases h;exact Nat.le_trans (MK _ _) (cX _ _ _))
theorem A5 {P:Program} {op:Op} {e:aW} {σ σ':aA} {d:DV} (h:gF P op e σ=some (d,σ')):σ.length≤σ'.length:=by
 unfold gF at h
 repeat' (split at h)
 all_goals first
  | (cases h;done)
  | (cases h;exact cX _ _ _)
theorem sG {P:Program} {op:Op} {e:aW} {σ σ':aA} {nid:Nat} {d:Option DV} (h:aZ P op e σ nid=some (d,σ')):σ.length≤σ'.length:=by
 unfold aZ at h
 split at h
 all_goals first
 | exact CR h
 | skip
 all_goals
  simp only [Option.map_eq_some_iff] at h
  obtain ⟨a,ha,hb⟩:=h
  cases hb
  first
  | exact CO ha
  | exact yZ ha
  | exact CQ ha
  | exact w9 ha
  | exact A5 ha
  | exact CP ha
  | exact Nat.le_refl _
def j0 (P:Program) (f:FuncId):Bool :=
 match P.funcs[f]? with
 | some fn=>fn.body.isSome && !(fn.name == "runtime.NumGoroutine")
 | none=>false
structure aB (P:Program) (f:FuncId) (args:List DV) (σ:aA) (R:DV→aA→Prop):Prop where
 body:j0 P f=true
 run:∀ X ι w vs,aQ P X ι σ w→cM ι w (bQ X ι σ) args vs →
  Calls P f vs.toArray w fun en w'=>∃ v r σ' ι',en = .returned v∧R r σ'∧fA P X ι σ σ' w ι' w'∧aX ι' w' (bQ X ι' σ') r v
theorem aB.mono {P:Program} {f:FuncId} {args:List DV} {σ:aA} {R R':DV→aA→Prop} (h:aB P f args σ R) (hr:∀ r σ',R r σ'→R' r σ'):aB P f args σ R' :=
 ⟨h.body,fun X ι w vs h1 h2=>(h.run X ι w vs h1 h2).mono fun _ _ ⟨v,r,σ',ι',e1,e2,e3,e4⟩=>⟨v,r,σ',ι',e1,hr _ _ e2,e3,e4⟩⟩
section
variable {P:Program} {X:Nat→Prop} {ι:bZ} {σ:aA} {w:World}
theorem tC {e:aW} {o:Oper} {d:Option DV} {a:Act} {nid:Nat} {σ':aA} (he:cR ι w (bQ X ι σ) e a) (hh:aQ P X ι σ w) (hn:ι nid=none) (hl:nid≤σ.length) (h:aZ P o.op e σ nid=some (d,σ')) :
  ∃ r ι' w',(execOp a.eval o).run P w = .ok r w'∧Comes' P X ι σ σ' w ι' w'∧(∀ i,i≠nid→ι' i=ι i)∧((∃ v x,r = .value v∧d=some x∧aX ι' w' (bQ X ι' σ') x v)∨(r = .skip∧d=none)):=by
 have box:∀ {x:Option (DV × aA)},x.map (fun x=>((some x.1:Option DV),x.2))=some (d,σ')→(∀ dx sx,x=some (dx,sx)→∃ v ι' w',(execOp a.eval o).run P w = .ok (.value v) w'∧Comes' P X ι σ sx w ι' w'∧aX ι' w' (bQ X ι' sx) dx v∧∀ i,i≠nid→ι' i=ι i) →
   ∃ r ι' w',(execOp a.eval o).run P w = .ok r w'∧Comes' P X ι σ σ' w ι' w'∧(∀ i,i≠nid→ι' i=ι i)∧((∃ v x,r = .value v∧d=some x∧aX ι' w' (bQ X ι' σ') x v)∨(r = .skip∧d=none)):=by
  intro x hx hs
  cases x with
  | none=>simp at hx
  | some y =>
   obtain ⟨dx,sx⟩:=y
   simp at hx
   obtain ⟨rfl,rfl⟩:=hx
   obtain ⟨v,ι',w',h1,h2,h3,h4⟩:=hs dx sx rfl
   exact ⟨_,ι',w',h1,h2,h4,.inl ⟨v,dx,rfl,rfl,h3⟩⟩
 have pure:(aK P o.op e σ).map (fun d=>((some d:Option DV),σ))=some (d,σ') →
   ∃ r ι' w',(execOp a.eval o).run P w = .ok r w'∧Comes' P X ι σ σ' w ι' w'∧(∀ i,i≠nid→ι' i=ι i)∧((∃ v x,r = .value v∧d=some x∧aX ι' w' (bQ X ι' σ') x v)∨(r = .skip∧d=none)):=by
  intro hx
  cases hp:aK P o.op e σ with
  | none=>simp [hp] at hx
  | some y =>
   simp [hp] at hx
   obtain ⟨rfl,rfl⟩:=hx
   obtain ⟨v,h1,h2⟩:=qD he hh hp
   exact ⟨_,ι,w,h1,Comes'.refl hh,fun _ _=>rfl,.inl ⟨v,y,rfl,rfl,h2⟩⟩
 cases hop:o.op with
 | alloc t=>rw [hop] at h;exact box h (fun dx sx hx=>rW he hh hn hl (by rw [hop];exact hx))
 | box t x=>rw [hop] at h;exact box h (fun dx sx hx=>rW he hh hn hl (by rw [hop];exact hx))
 | buildSlice t n ps=>rw [hop] at h;exact box h (fun dx sx hx=>rY he hh hn hl (by rw [hop];exact hx))
 | makeMap t r=>rw [hop] at h;exact lP he hh hn hl (by rw [hop];exact h)
 | insert t m k v=>rw [hop] at h;exact lP he hh hn hl (by rw [hop];exact h)
 | mapUpdate t m k v=>rw [hop] at h;exact lP he hh hn hl (by rw [hop];exact h)
 | lookup t x k ok=>rw [hop] at h;exact lP he hh hn hl (by rw [hop];exact h)
 | slice t x lo hi mx=>rw [hop] at h;exact box h (fun dx sx hx=>yY he hh hn hl (by rw [hop];exact hx))
 | makeSlice t n c=>rw [hop] at h;exact box h (fun dx sx hx=>rY he hh hn hl (by rw [hop];exact hx))
 | store t x y =>
  rw [hop] at h
  cases hs:dW P (.store t x y) e σ with
  | none=>simp [aZ,hs] at h
  | some s =>
   simp [aZ,hs] at h
   obtain ⟨rfl,rfl⟩:=h
   obtain ⟨w',h1,h2⟩:=vX (o:=o) he hh (by rw [hop];exact hs)
   exact ⟨_,ι,w',h1,h2,fun _ _=>rfl,.inr ⟨rfl,rfl⟩⟩
 | call c =>
  obtain ⟨callee,args,ts⟩:=c
  cases callee with
  | builtin b =>
   cases b with
   | append=>rw [hop] at h;exact box h (fun dx sx hx=>uM he hh hn hl (by rw [hop];exact hx))
   | max =>
    rw [hop] at h
    simp only [aZ,Option.map_eq_some_iff] at h
    obtain ⟨y,hy,hz⟩:=h
    cases hz
    obtain ⟨v,h1,h2⟩:=tA (P:=P) (o:=o) he (by rw [hop];exact hy)
    exact ⟨_,ι,w,h1,Comes'.refl hh,fun _ _=>rfl,.inl ⟨v,y,rfl,rfl,h2⟩⟩
   | min =>
    rw [hop] at h
    simp only [aZ,Option.map_eq_some_iff] at h
    obtain ⟨y,hy,hz⟩:=h
    cases hz
    obtain ⟨v,h1,h2⟩:=tA (P:=P) (o:=o) he (by rw [hop];exact hy)
    exact ⟨_,ι,w,h1,Comes'.refl hh,fun _ _=>rfl,.inl ⟨v,y,rfl,rfl,h2⟩⟩
   | copy=>rw [hop] at h;exact box h (fun dx sx hx=>by
     obtain ⟨v,w',h1,h2,h3⟩:=xB (o:=o) he hh (by rw [hop];exact hx)
     exact ⟨v,ι,w',h1,h2,h3,fun _ _=>rfl⟩)
   | _=>rw [hop] at h;exact pure (by rw [hop];exact h)
  | _=>rw [hop] at h;exact pure (by rw [hop];exact h)
 | _=>rw [hop] at h;exact pure (by rw [hop];exact h)
structure St (P:Program) (X:Nat→Prop) (nt:Nat) (w0:World) (ι0:bZ) (σ0:aA) (ι:bZ) (e:aW) (σ:aA) (a:Act) (w:World):Prop where
 size:a.tmps.size=nt
 defers:a.defers=[]
 env:cR ι w (bQ X ι σ) e a
 comes:fA P X ι0 σ0 σ w0 ι w
abbrev aW.del (e:aW) (o:Option Nat):aW:=e.put o (.tup [])
theorem aW.get_put {e:aW} {t s:Nat} {d:DV}:(e.put (some t) d).get s=if t=s then some d else e.get s:=rfl
theorem MA {a:Array Value} {t s:Nat} {v:Value} (h:t < a.size):(a.setIfInBounds t v).getD s undef=if t=s then v else a.getD s undef:=by
 simp only [Array.getD_eq_getD_getElem?,Array.getElem?_setIfInBounds]
 by_cases hts:t=s
 ·subst hts;simp [h]
 ·simp [hts]
theorem St.put {nt:Nat} {w0:World} {ι0:bZ} {σ0:aA} {e:aW} {a:Act} {o:Option Nat} {v:Value} {d:DV} (h:St P X nt w0 ι0 σ0 ι e σ a w) (ho:∀ t,o=some t→t < nt) (hv:aX ι w (bQ X ι σ) d v) :
  St P X nt w0 ι0 σ0 ι (e.put o d) σ (a.put o v) w:=by
 cases o with
 | none=>exact h
 | some t =>
  have ht:=ho t rfl
  refine ⟨by simp [Act.put,h.size],h.defers,⟨fun s x hx=>?_⟩,h.comes⟩
  rw [aW.get_put] at hx
  simp only [Act.put]
  rw [MA (by rw [h.size];exact ht)]
  split at hx
  ·rename_i hts;cases hx;rw [if_pos hts];exact hv
  ·rename_i hts;rw [if_neg hts];exact h.env.get s x hx
theorem St.del {nt:Nat} {w0:World} {ι0:bZ} {σ0:aA} {e:aW} {a:Act} {o:Option Nat} (h:St P X nt w0 ι0 σ0 ι e σ a w):St P X nt w0 ι0 σ0 ι (e.del o) σ (a.put o undef) w:=by
 cases o with
 | none=>exact h
 | some t =>
  refine ⟨by simp [Act.put,h.size],h.defers,⟨fun s x hx=>?_⟩,h.comes⟩
  rw [aW.get_put] at hx
  have hu:aX ι w (bQ X ι σ) (.tup []) undef := .tup [] #[] rfl (fun i x y hx _=>by simp at hx)
  simp only [Act.put,Array.getD_eq_getD_getElem?,Array.getElem?_setIfInBounds]
  split at hx
  ·rename_i hts
   subst hts
   cases hx
   by_cases hl:t < a.tmps.size
   ·simpa [hl] using hu
   ·have:a.tmps[t]? = none:=Array.getElem?_eq_none (by omega)
    simpa [hl,this] using hu
  ·rename_i hts
   rw [if_neg hts,← Array.getD_eq_getD_getElem?]
   exact h.env.get s x hx
theorem St.step {nt:Nat} {w0:World} {ι0 ι':bZ} {σ0 σ':aA} {e:aW} {a:Act} {w':World} (h:St P X nt w0 ι0 σ0 ι e σ a w) (hc:fA P X ι σ σ' w ι' w'):St P X nt w0 ι0 σ0 ι' e σ' a w' :=
 ⟨h.size,h.defers,⟨fun t d ht=>hc.rel (h.env.get t d ht)⟩,h.comes.trans hc⟩
end
def aT (ops:Array Oper) (o:Oper) (e:aW):Option Bool :=
 match o.guard with
 | none=>some true
 | some (j,want)=>match (ops[j]?).bind (·.dst) with
  | some t=>match e.get t with
   | some (.d (.sc (.bool b)))=>some (b == want)
   | some (.tup [])=>some false
   | _=>none
  | none=>none
def i0 (nt:Nat) (o:Oper):Bool :=
 match o.dst with
 | some t=>decide (t < nt)
 | none=>true
def r9 (P:Program) (nt:Nat) (o:Oper) (e:aW) (σ:aA) (K:aW→aA→Prop):Prop :=
 i0 nt o=true ∧
 match o.op with
 | .call { callee := .value f,args,.. } =>
  match e.ev f,args.toList.mapM e.ev with
  | some (.fn (.func g) first cap),some xs=>aB P g (first++xs++cap) σ fun r σ'=>K (e.put o.dst r) σ'
  | _,_=>False
 | op =>
  match aZ P op e σ σ.length with
  | some (some d,σ')=>K (e.put o.dst d) σ'
  | some (none,σ')=>o.dst=none∧K e σ'
  | none=>False
def eC (P:Program) (nt:Nat) (ops:Array Oper):List Oper→aW→aA→(aW→aA→Prop)→Prop
 | [],e,σ,K=>K e σ
 | o::rest,e,σ,K =>
  match aT ops o e with
  | none=>False
  | some b=>(b=true→r9 P nt o e σ fun e' σ'=>eC P nt ops rest e' σ' K)∧(b=false→eC P nt ops rest (e.del o.dst) σ K)
section
variable {P:Program} {X:Nat→Prop} {nt:Nat} {w0:World} {ι0:bZ} {σ0:aA}
theorem kU {ops:Array Oper} {o:Oper} {e:aW} {b:Bool} {ι:bZ} {σ:aA} {w:World} {a:Act} (he:cR ι w (bQ X ι σ) e a) (hs:∀ (j:Nat) o' t,ops[j]? = some o'→o'.dst=some t→t < a.tmps.size) (h:aT ops o e=some b):Region.wanted o (yielded ops a.tmps)=b:=by
 unfold aT at h
 unfold Region.wanted
 split at h
 ·rename_i hg;cases h;simp [hg]
 ·rename_i j want hg
  simp only [hg]
  split at h
  ·rename_i t ht
   split at h
   ·rename_i c hc
    cases h
    have hv:=(he.get t _ hc).sc_inv.1
    have hlt:t < a.tmps.size:=by
     cases ho:ops[j]? with
     | none=>simp [ho] at ht
     | some o'=>exact hs j o' t ho (by simpa [ho] using ht)
    have:yielded ops a.tmps j=some c:=by
     unfold yielded
     rw [ht]
     simp only [Option.bind_some]
     rw [Array.getD_eq_getD_getElem?,Array.getElem?_eq_getElem hlt] at hv
     rw [Array.getElem?_eq_getElem hlt]
     simp only [Option.getD_some] at hv
     rw [hv]
    rw [this]
    cases c <;> cases want <;> rfl
   ·rename_i hc
    cases h
    have hv:=he.get t _ hc
    have hlt:t < a.tmps.size:=by
     cases ho:ops[j]? with
     | none=>simp [ho] at ht
     | some o'=>exact hs j o' t ho (by simpa [ho] using ht)
    have:yielded ops a.tmps j=none:=by
     unfold yielded
     rw [ht]
     simp only [Option.bind_some]
     rw [Array.getD_eq_getD_getElem?,Array.getElem?_eq_getElem hlt] at hv
     rw [Array.getElem?_eq_getElem hlt]
     simp only [Option.getD_some] at hv
     generalize a.tmps[t]=u at hv
     cases hv with
     | tup _ vs _ _=>rfl
    rw [this]
    cases want <;> rfl
   ·cases h
  ·cases h
theorem o4 {f:FuncId} {args:Array Value} {w:World} (h:j0 P f=true):(callFunc f args).run P w = .ok (.enter f args) w:=by
 unfold j0 at h
 split at h
 ·rename_i fn hf
  simp only [Bool.and_eq_true,Bool.not_eq_true'] at h
  have h1:fn.body.isNone=false:=by cases hb:fn.body <;> simp_all
  simp only [callFunc,Sem.run_bind,run_program,Result.andThen_ok,hf,h.2,h1,Bool.false_eq_true,if_false,Sem.run_pure]
 ·cases h
theorem yL {o:Oper} {e:aW} {σ:aA} {K:aW→aA→Prop} {ι:bZ} {w:World} {a:Act} {next:Act→World→Prop} {Q:Exit→Act→World→Prop} (hst:St P X nt w0 ι0 σ0 ι e σ a w) (h:r9 P nt o e σ K)
  (k:∀ e' σ' ι' a' w',K e' σ'→St P X nt w0 ι0 σ0 ι' e' σ' a' w'→next a' w'):o.wp P a w next Q:=by
 obtain ⟨hd,h⟩:=h
 have hdst:∀ t,o.dst=some t→t < nt:=fun t ht=>by simpa [i0,ht] using hd
 have gen:(match aZ P o.op e σ σ.length with
  | some (some d,σ')=>K (e.put o.dst d) σ'
  | some (none,σ')=>o.dst=none∧K e σ'
  | none=>False)→o.wp P a w next Q:=by
  intro h
  cases hev:aZ P o.op e σ σ.length with
  | none=>rw [hev] at h;exact h.elim
  | some x =>
   obtain ⟨d,σ'⟩:=x
   rw [hev] at h
   obtain ⟨r,ι',w',h1,h2,h3,h4⟩:=tC hst.env hst.comes.heap (hst.comes.heap.fresh _ (Nat.le_refl _)) (Nat.le_refl _) hev
   have h2:fA P X ι σ σ' w ι' w':=⟨h2,fun i hi=>h3 i (Nat.ne_of_lt hi),sG hev⟩
   unfold Oper.wp
   rw [h1]
   rcases h4 with ⟨v,x,rfl,rfl,hv⟩ | ⟨rfl,rfl⟩
   ·exact k _ _ ι' _ _ h ((hst.step h2).put hdst hv)
   ·simp only at h
    show next (a.put o.dst undef) w'
    rw [h.1]
    exact k _ _ ι' _ _ h.2 (hst.step h2)
 split at h
 ·rename_i f args ts hop
  split at h
  ·rename_i g first cap xs hf hx
   have hv:=hst.env.ev hf
   have hxs:=tE hst.env hx
   obtain ⟨fi,ca,hfv,r1,r2⟩:∃ fi ca,a.eval f = .func (.func g) fi ca∧cM ι w (bQ X ι σ) first fi.toList∧cM ι w (bQ X ι σ) cap ca.toList:=by
    generalize a.eval f=v at hv
    cases hv with
    | fn _ _ _ fi ca h1 h2 hf hc =>
     exact ⟨fi,ca,rfl,⟨by simpa using h1,fun i x y hx hy=>hf i x y hx (by simpa using hy)⟩,⟨by simpa using h2,fun i x y hx hy=>hc i x y hx (by simpa using hy)⟩⟩
   have hexec:(execOp a.eval o).run P w = .ok (.enter g (fi++args.map a.eval++ca)) w:=by
    simp [execOp,hop,resolve,Deferred.ofValue,hfv,invoke,o4 h.body]
   unfold Oper.wp
   rw [hexec,Oper.upon_enter]
   have hall:cM ι w (bQ X ι σ) (first++xs++cap) (fi++args.map a.eval++ca).toList:=by
    rw [Array.toList_append,Array.toList_append]
    exact (r1.append hxs).append r2
   have:=h.run X ι w _ hst.comes.heap hall
   rw [Array.toArray_toList] at this
   refine this.mono ?_
   rintro en w' ⟨v,r,σ',ι',rfl,hk,hc,hr⟩
   exact k _ _ ι' _ _ hk ((hst.step hc).put hdst hr)
  ·exact h.elim
 ·rename_i hne
  exact gen h
theorem rM {ops:Array Oper} {K:aW→aA→Prop} {Q:Exit→Act→World→Prop} (hops:∀ (j:Nat) o t,ops[j]? = some o→o.dst=some t→t < nt)
  (k:∀ e' σ' ι' a' w',K e' σ'→St P X nt w0 ι0 σ0 ι' e' σ' a' w'→Q .normal a' w'):∀ (rest:List Oper) (i:Nat) (e:aW) (σ:aA) (ι:bZ) (a:Act) (w:World),(∀ j,rest[j]? = ops[i + j]?)→St P X nt w0 ι0 σ0 ι e σ a w →
  eC P nt ops rest e σ K→wpOps P ops Q (List.range' i rest.length) a w
 | [],i,e,σ,ι,a,w,hr,hst,h=>k _ _ _ _ _ h hst
 | o::rest,i,e,σ,ι,a,w,hr,hst,h=>by
  have h0:ops[i]? = some o:=by simpa using (hr 0).symm
  have hr':∀ j,rest[j]? = ops[i + 1 + j]?:=fun j=>by
   have:=hr (j + 1)
   rw [show i + (j + 1)=i + 1 + j by omega] at this
   simpa using this
  simp only [List.length_cons,List.range'_succ]
  simp only [wpOps,h0]
  simp only [eC] at h
  cases hw:aT ops o e with
  | none=>rw [hw] at h;exact h.elim
  | some b =>
   rw [hw] at h
   have hwd:=kU hst.env (fun j o' t h1 h2=>by rw [hst.size];exact hops j o' t h1 h2) hw
   rw [hwd]
   cases b with
   | true =>
    simp only [if_true]
    exact .inl (yL hst (h.1 rfl) (fun e' σ' ι' a' w' hk hst'=>rM hops k rest (i + 1) e' σ' ι' a' w' hr' hst' hk))
   | false =>
    simp only [Bool.false_eq_true,if_false]
    exact rM hops k rest (i + 1) _ σ ι _ w hr' hst.del (h.2 rfl)
end
def bU (P:Program) (nt:Nat) (c:Code) (e:aW) (σ:aA) (Q:Exit→aW→aA→Prop):Prop :=
 ∀ X w0 ι0 σ0 ι a w,St P X nt w0 ι0 σ0 ι e σ a w→c.wp P (fun ex a' w'=>∃ ι' e' σ',Q ex e' σ'∧St P X nt w0 ι0 σ0 ι' e' σ' a' w') a w
def qV (next:aW→aA→Prop) (Q:Exit→aW→aA→Prop):Exit→aW→aA→Prop
 | .normal,e,σ=>next e σ
 | ex,e,σ=>Q ex e σ
def kA (id:Nat) (Q:Exit→aW→aA→Prop):Exit→aW→aA→Prop
 | .exit id',e,σ=>if id'=id then Q .normal e σ else Q (.exit id') e σ
 | ex,e,σ=>Q ex e σ
def aW.sub (e e':aW):Prop:=∀ t d,e.get t=some d→e'.get t=some d
section
variable {P:Program} {X:Nat→Prop} {nt:Nat} {Q:Exit→aW→aA→Prop} {e:aW} {σ:aA}
theorem bU.mono {c:Code} {Q':Exit→aW→aA→Prop} (h:bU P nt c e σ Q) (hq:∀ ex e σ,Q ex e σ→Q' ex e σ):bU P nt c e σ Q' :=
 fun X w0 ι0 σ0 ι a w hst=>wp_mono (h X w0 ι0 σ0 ι a w hst) fun _ _ _ ⟨ι',e',σ',h1,h2⟩=>⟨ι',e',σ',hq _ _ _ h1,h2⟩
theorem bU.skip (h:Q .normal e σ):bU P nt .skip e σ Q:=fun _ _ _ _ ι _ _ hst=>wp_skip ⟨ι,e,σ,h,hst⟩
theorem bU.label {l:Nat} (h:Q .normal e σ):bU P nt (.label l) e σ Q:=fun _ _ _ _ ι _ _ hst=>wp_label ⟨ι,e,σ,h,hst⟩
theorem bU.ret (h:Q .ret e σ):bU P nt .ret e σ Q:=fun _ _ _ _ ι _ _ hst=>wp_ret ⟨ι,e,σ,h,hst⟩
theorem bU.exit {id:Nat} (h:Q (.exit id) e σ):bU P nt (.exit id) e σ Q:=fun _ _ _ _ ι _ _ hst=>wp_exit ⟨ι,e,σ,h,hst⟩
theorem bU.seq {x y:Code} (h:bU P nt x e σ (qV (fun e' σ'=>bU P nt y e' σ' Q) Q)):bU P nt (.seq x y) e σ Q:=by
 intro X w0 ι0 σ0 ι a w hst
 refine wp_seq (wp_mono (h X w0 ι0 σ0 ι a w hst) ?_)
 rintro ex a' w' ⟨ι',e',σ',h1,h2⟩
 cases ex <;> first | exact h1 X w0 ι0 σ0 ι' a' w' h2 | exact ⟨ι',e',σ',h1,h2⟩
theorem bU.cond {c:Operand} {x y:Code} {b:Bool} (hc:e.ev c=some (.d (.sc (.bool b)))) (ht:b=true→bU P nt x e σ Q) (hf:b=false→bU P nt y e σ Q):bU P nt (.cond c x y) e σ Q:=by
 intro X w0 ι0 σ0 ι a w hst
 have hv:=(hst.env.ev hc).sc_inv.1
 cases b with
 | true=>exact wp_cond_true hv (ht rfl X w0 ι0 σ0 ι a w hst)
 | false=>exact wp_cond_false hv (hf rfl X w0 ι0 σ0 ι a w hst)
theorem bU.block {id:Nat} {c:Code} (h:bU P nt c e σ (kA id Q)):bU P nt (.block id c) e σ Q:=by
 intro X w0 ι0 σ0 ι a w hst
 refine wp_block (wp_mono (h X w0 ι0 σ0 ι a w hst) ?_)
 rintro ex a' w' ⟨ι',e',σ',h1,h2⟩
 cases ex with
 | exit id' =>
  simp only [kA] at h1
  simp only [Exit.inBlock]
  split
  ·rename_i he;rw [if_pos he] at h1;exact ⟨ι',e',σ',h1,h2⟩
  ·rename_i he;rw [if_neg he] at h1;exact ⟨ι',e',σ',h1,h2⟩
 | _=>exact ⟨ι',e',σ',h1,h2⟩
theorem bU.region {id:Nat} {ops:Array Oper} (hops:ops.toList.all (i0 nt)=true) (h:eC P nt ops ops.toList e σ (Q .normal)):bU P nt (.region id ops false) e σ Q:=by
 intro X w0 ι0 σ0 ι a w hst
 refine wp_region ?_
 rw [List.range_eq_range']
 have:=rM (P:=P) (ops:=ops) (K:=Q .normal) (Q:=fun ex a' w'=>∃ ι' e' σ',Q ex e' σ'∧St P X nt w0 ι0 σ0 ι' e' σ' a' w') (fun j o t hj ht=>by
   have:=(List.all_eq_true.1 hops) o (by simpa using Array.mem_of_getElem? hj)
   simpa [i0,ht] using this) (fun e' σ' ι' a' w' hk hst'=>⟨ι',e',σ',hk,hst'⟩) ops.toList 0 e σ ι a w (fun j=>by simp) hst h
 simpa using this
theorem St.weaken {w0:World} {ι0 ι:bZ} {σ0:aA} {e e':aW} {a:Act} {w:World} (h:St P X nt w0 ι0 σ0 ι e σ a w) (he:e'.sub e):St P X nt w0 ι0 σ0 ι e' σ a w :=
 ⟨h.size,h.defers,⟨fun t d ht=>h.env.get t d (he t d ht)⟩,h.comes⟩
theorem bU.weaken {c:Code} {e':aW} (he:e'.sub e) (h:bU P nt c e' σ Q):bU P nt c e σ Q :=
 fun X w0 ι0 σ0 ι a w hst=>h X w0 ι0 σ0 ι a w (hst.weaken he)
theorem bU.loop {c:Code} (J:Nat→aW→aA→Prop) {n:Nat} (h0:J n e σ)
  (round:∀ n e σ,J n e σ→bU P nt c e σ (qV (fun e' σ'=>∃ n' e'',n' < n∧e''.sub e'∧J n' e'' σ') Q)):bU P nt (.loop c) e σ Q:=by
 intro X w0 ι0 σ0 ι a w hst b k cs
 have key:∀ n e σ ι a w,J n e σ→St P X nt w0 ι0 σ0 ι e σ a w →
   ∃ ex a' w',(∃ ι' e' σ',Q ex e' σ'∧St P X nt w0 ι0 σ0 ι' e' σ' a' w')∧Arrives P (lone (b.at a (.code c :: .inLoop c::k)) cs w) b k cs ex a' w':=by
  intro n
  induction n using Nat.strongRecOn with
  | _ n ih =>
   intro e σ ι a w hJ hst
   obtain ⟨ex,a₁,w₁,⟨ι',e',σ',hq,hst'⟩,harr⟩:=round n e σ hJ X w0 ι0 σ0 ι a w hst b (.inLoop c::k) cs
   cases ex with
   | normal =>
    obtain ⟨n',e'',hlt,hsub,hJ'⟩:=hq
    obtain ⟨ex₂,a₂,w₂,hq₂,harr₂⟩:=ih n' hlt e'' σ' ι' a₁ w₁ hJ' (hst'.weaken hsub)
    exact ⟨ex₂,a₂,w₂,hq₂,.of_steps (Steps.trans harr (.one step_inLoop)) harr₂⟩
   | exit id=>exact ⟨_,a₁,w₁,⟨ι',e',σ',hq,hst'⟩,.pass (x := .inLoop c) rfl (fun _ _ => .inl (by simp)) harr⟩
   | goto l=>exact ⟨_,a₁,w₁,⟨ι',e',σ',hq,hst'⟩,.pass (x := .inLoop c) rfl (fun _ _ => .inl (by simp)) harr⟩
   | ret=>exact ⟨_,a₁,w₁,⟨ι',e',σ',hq,hst'⟩,.pass (x := .inLoop c) rfl (fun _ _ => .inl (by simp)) harr⟩
   | panic ch=>exact ⟨_,a₁,w₁,⟨ι',e',σ',hq,hst'⟩,.pass (x := .inLoop c) rfl (fun _ _ => .inl (by simp)) harr⟩
   | outgrown=>exact ⟨_,a₁,w₁,⟨ι',e',σ',hq,hst'⟩,.pass (x := .inLoop c) rfl (fun _ _ => .inl (by simp)) harr⟩
 obtain ⟨ex,a',w',hq,harr⟩:=key n e σ ι a w h0 hst
 exact ⟨ex,a',w',hq,.of_steps (.one step_loop) harr⟩
def mA (P:Program) (e:aW) (σ:aA):ResultVar→Option DV
 | .tmp t=>e.get t
 | .cell a t=>aK P (.load t (.tmp a)) e σ
def DJ (P:Program) (fn:Func) (e:aW) (σ:aA):Option DV :=
 match fn.results.toList with
 | [r]=>mA P e σ r
 | rs=>(rs.mapM (mA P e σ)).map .tup
def HJ (tmps:Array Value):ResultVar→Sem Value
 | .tmp t=>pure (tmps.getD t undef)
 | .cell x t=>do loadVar t (← asAddr (tmps.getD x undef))
theorem x9 (fn:Func) (tmps:Array Value):results fn tmps=(do
 let vs ← fn.results.mapM (HJ tmps)
 pure (if h:vs.size=1 then vs[0] else .tuple vs)):=rfl
theorem BH {ι:bZ} {w:World} {a:Act} {r:ResultVar} {d:DV} (he:cR ι w (bQ X ι σ) e a) (hh:aQ P X ι σ w) (h:mA P e σ r=some d) :
  ∃ v,(HJ a.tmps r).run P w = .ok v w∧aX ι w (bQ X ι σ) d v:=by
 cases r with
 | tmp t=>exact ⟨_,rfl,he.get t d h⟩
 | cell x t =>
  obtain ⟨v,h1,h2⟩:=xN (x := .tmp x) he hh h
  refine ⟨v,?_,h2⟩
  have hx:a.eval (.tmp x)=a.tmps.getD x undef:=rfl
  rw [hx] at h1
  show (do loadVar t (← asAddr (a.tmps.getD x undef)):Sem Value).run P w=_
  revert h1
  generalize a.tmps.getD x undef=u
  intro h1
  cases u with
  | pointer p =>
   cases p with
   | none=>simp [Instr.loadAt,Instr.sureAddr] at h1
   | some p=>simpa [Instr.loadAt,Instr.sureAddr,asAddr] using h1
  | _=>simp [Instr.loadAt,Instr.sureAddr] at h1
theorem r8 {ι:bZ} {w:World} {a:Act} (he:cR ι w (bQ X ι σ) e a) (hh:aQ P X ι σ w):∀ (rs:List ResultVar) (ds:List DV),rs.mapM (mA P e σ)=some ds →
  ∃ vs,(rs.mapM (HJ a.tmps)).run P w = .ok vs w∧cM ι w (bQ X ι σ) ds vs
 | [],ds,h=>by simp at h;subst h;exact ⟨[],by simp,.nil⟩
 | r::rs,ds,h=>by
  simp only [List.mapM_cons,Option.bind_eq_bind] at h
  cases hf:mA P e σ r with
  | none=>simp [hf] at h
  | some d =>
   cases hm:rs.mapM (mA P e σ) with
   | none=>simp [hf,hm] at h
   | some ds' =>
    simp [hf,hm] at h
    subst h
    obtain ⟨v,h1,h2⟩:=BH he hh hf
    obtain ⟨vs,h3,h4⟩:=r8 he hh rs ds' hm
    exact ⟨v::vs,by simp only [List.mapM_cons,Sem.run_bind,h1,h3,Result.andThen_ok,Sem.run_pure],.cons h2 h4⟩
theorem AB {ι:bZ} {w:World} {a:Act} {fn:Func} {d:DV} (he:cR ι w (bQ X ι σ) e a) (hh:aQ P X ι σ w) (h:DJ P fn e σ=some d):∃ v,(results fn a.tmps).run P w = .ok v w∧aX ι w (bQ X ι σ) d v:=by
 have key:∀ ds,fn.results.toList.mapM (mA P e σ)=some ds→∃ vs:Array Value,(fn.results.mapM (HJ a.tmps)).run P w = .ok vs w∧cM ι w (bQ X ι σ) ds vs.toList:=by
  intro ds hds
  obtain ⟨vs,h1,h2⟩:=r8 he hh fn.results.toList ds hds
  refine ⟨vs.toArray,?_,by simpa using h2⟩
  rw [← Array.toArray_toList (xs:=fn.results),List.mapM_toArray]
  simp only [Sem.run_map,h1,Result.andThen_ok]
 unfold DJ at h
 split at h
 ·rename_i r hr
  obtain ⟨vs,h1,h2⟩:=key [d] (by simp [hr,h])
  have hl:vs.size=1:=by simpa using h2.len
  refine ⟨vs[0],?_,h2.get 0 d _ (by simp) (by simp [hl])⟩
  rw [x9]
  simp only [Sem.run_bind,h1,Result.andThen_ok,hl,dif_pos,Sem.run_pure]
 ·rename_i rs hne
  cases hm:fn.results.toList.mapM (mA P e σ) with
  | none=>simp [hm] at h
  | some ds =>
   simp [hm] at h
   subst h
   obtain ⟨vs,h1,h2⟩:=key ds hm
   have hl:vs.size≠1:=by
    have h3:=h2.len
    have h4:=(lZ hm).1
    intro h5
    have h6:fn.results.toList.length=1:=by rw [← h4,← h3];simpa using h5
    match hrs:fn.results.toList,h6 with
    | [r],_=>exact hne r hrs
   refine ⟨.tuple vs,?_,.tup_of h2⟩
   rw [x9]
   simp only [Sem.run_bind,h1,Result.andThen_ok,hl,dif_neg,not_false_eq_true,Sem.run_pure]
end
end Go.Ab
