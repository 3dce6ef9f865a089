import Derived.Test.YtdeikigmgdnojaaGreatDoorT18
/- A part of the proof of one law. -/
set_option maxRecDepth 100000
set_option maxHeartbeats 8000000
set_option linter.unusedVariables false
set_option linter.unusedSimpArgs false
namespace Go.Ab
open Go
mutual
inductive Fr (σ0:aA):DV→DV→Prop
 | sc (v:Value):Fr σ0 (.d (.sc v)) (.d (.sc v))
 | nils:Fr σ0 .nils (.d (.lst []))
 | emp:Fr σ0 (.d (.lst [])) (.d (.lst []))
 | arr {id:Nat} {el:TypeId} {ds:List (List aR)} {es:List (List DV)} (h:σ0.look id=some (.arr el es)) (he:es=aO ds) (hs:∀ r ∈ ds,∀ x ∈ r,∃ v,x = .sc v):Fr σ0 (.arr id) (.d (.lst ds))
 | agg {l l':List DV} (h:QW σ0 l l'):Fr σ0 (.agg l) (.agg l')
 | tup {l l':List DV} (h:QW σ0 l l'):Fr σ0 (.tup l) (.tup l')
inductive QW (σ0:aA):List DV→List DV→Prop
 | nil:QW σ0 [] []
 | cons {d d':DV} {l l':List DV} (h:Fr σ0 d d') (t:QW σ0 l l'):QW σ0 (d::l) (d'::l')
end
section
variable {P:Program} {X:Nat→Prop} {ι:bZ} {σ σ':aA} {w:World} {M:Nat→Prop} {va:TypeId} {l:List (Value × List (List aR))}
theorem QW.get {σ0:aA}:∀ {l l':List DV},QW σ0 l l'→l'.length=l.length∧∀ (i:Nat) d',l'[i]? = some d'→∃ d,l[i]? = some d∧Fr σ0 d d'
 | [],[],_=>⟨rfl,fun i d h=>by simp at h⟩
 | d::l,d'::l',h=>by
  cases h with
  | cons h t =>
   obtain ⟨h1,h2⟩:=t.get
   refine ⟨by simp [h1],fun i x hx=>?_⟩
   cases i with
   | zero=>simp at hx;subst hx;exact ⟨d,rfl,h⟩
   | succ i=>simpa using h2 i x (by simpa using hx)
 | [],_::_,h=>by cases h
 | _::_,[],h=>by cases h
theorem L7 {σ0:aA} {ι0:bZ} {M':Nat→Prop} {ι2:bZ} (hh:aQ P X ι0 σ0 w) (hM:∀ b,g8 ι0 σ0 b→¬ M' b):∀ {r x:DV},Fr σ0 r x→∀ {v:Value},aX ι0 w (bQ X ι0 σ0) r v→aX ι2 w M' x v:=by
 intro r
 induction r using DV.rec (motive_2:=fun l=>∀ r ∈ l,∀ {x:DV},Fr σ0 r x→∀ {v:Value},aX ι0 w (bQ X ι0 σ0) r v→aX ι2 w M' x v) with
 | d y =>
  intro x h v hv
  cases h with
  | sc u=>cases hv with
   | d hv=>cases hv with
    | sc _ ho=>exact .d (.sc _ ho)
  | emp=>cases hv with
   | d hv =>
    cases hv with
    | emp A c=>exact .d (.emp A c)
    | lst b o n c size es vs hn hc hm hb hM2 hs hcell hrel =>
     obtain rfl:n=0:=by simpa using hn.symm
     exact .d (.emp _ c)
 | nils=>intro x h v hv;cases h;cases hv with
  | nils A=>exact .d (.emp A 0)
 | ptr=>intro x h;cases h
 | iptr=>intro x h;cases h
 | eptr=>intro x h;cases h
 | mp=>intro x h;cases h
 | fn=>intro x h;cases h
 | ifc=>intro x h;cases h
 | arr id =>
  intro x h v hv
  cases h with
  | arr hl he hs =>
   rename_i el ds es
   subst he
   cases hv with
   | arr _ _ hid hsl =>
    obtain ⟨v',h1,h2⟩:=hh.obj id _ hl
    rw [hid] at h1;cases h1
    generalize hes:aO ds=es at h2 hl
    cases h2 with
    | nil _ A =>
     obtain rfl:ds=[]:=by simpa [aO] using hes
     exact .d (.emp A 0)
    | arr _ _ b o c cs hb hc hn hm hsz hcl hrel =>
     subst hes
     have hlen:(aO ds).length=ds.length:=by simp [aO]
     cases hds:ds with
     | nil=>subst hds;exact .d (.emp _ c)
     | cons e1 es1 =>
      rw [← hds]
      have hpos:0 < (aO ds).length:=by rw [hlen,hds];simp
      obtain ⟨c',rfl⟩:∃ c',c=c' + 1:=⟨c - 1,by omega⟩
      have hown:g8 ι0 σ0 b:=⟨id,_,_,hl,hid,by
       obtain ⟨m,hm'⟩:∃ m,(aO ds).length=m + 1:=⟨(aO ds).length - 1,by omega⟩
       rfl⟩
      have hcs:∀ (i:Nat) (x:List aR),ds[i]? = some x→(aO ds)[i]? = some (x.map .d)∧x.length=P.cellsOf el:=by
       intro i x hx
       have h3:(aO ds)[i]? = some (x.map .d):=by simp [aO,hx]
       refine ⟨h3,?_⟩
       have:=hsz _ (List.mem_of_getElem? h3)
       simpa using this
      have hlt:∀ i j,i < (aO ds).length→j < P.cellsOf el→o + (i * P.cellsOf el + j) < cs.size:=by
       intro i j hi hj
       have h3:(i + 1) * P.cellsOf el≤(c' + 1) * P.cellsOf el:=Nat.mul_le_mul_right _ (by omega)
       rw [Nat.add_mul,Nat.one_mul] at h3
       omega
      refine .d (.lst b o (aO ds).length (c' + 1) (P.cellsOf el) ds (fun i j=>cs.getD (o + (i * P.cellsOf el + j)) undef) hlen.symm hn hm (Array.getElem?_eq_some_iff.1 hb).1 (hM b hown) (fun i x hx=>(hcs i x hx).2) (fun i j x y hx hy=>?_) (fun i j x y hx hy=>?_))
      ·obtain ⟨k1,k2⟩:=hcs i x hx
       have hi:=(List.getElem?_eq_some_iff.1 k1).1
       have hj:j < P.cellsOf el:=by rw [← k2];exact (List.getElem?_eq_some_iff.1 hy).1
       have:=hlt i j hi hj
       unfold World.cell?
       simp only [hb]
       simp [this]
      ·obtain ⟨k1,k2⟩:=hcs i x hx
       have hi:=(List.getElem?_eq_some_iff.1 k1).1
       have hj:j < P.cellsOf el:=by rw [← k2];exact (List.getElem?_eq_some_iff.1 hy).1
       have hlt':=hlt i j hi hj
       obtain ⟨u,rfl⟩:=hs x (List.mem_of_getElem? hx) y (List.mem_of_getElem? hy)
       have:=hrel i j _ (.d (.sc u)) (cs.getD (o + (i * P.cellsOf el + j)) undef) k1 (by simp [hy]) (by simp [hlt'])
       generalize cs.getD (o + (i * P.cellsOf el + j)) undef=q at this
       cases this with
       | d h=>cases h with
        | sc _ ho=>exact .sc _ ho
 | agg cs ih =>
  intro x h v hv
  cases h with
  | agg h =>
   obtain ⟨g1,g2⟩:=h.get
   cases hv with
   | agg _ vs hl hr =>
    refine .agg _ vs (by rw [g1];exact hl) (fun i y u hy hu=>?_)
    obtain ⟨d,k1,k2⟩:=g2 i y hy
    exact ih d (List.mem_of_getElem? k1) k2 (hr i d u k1 hu)
 | tup cs ih =>
  intro x h v hv
  cases h with
  | tup h =>
   obtain ⟨g1,g2⟩:=h.get
   cases hv with
   | tup _ vs hl hr =>
    refine .tup _ vs (by rw [g1];exact hl) (fun i y u hy hu=>?_)
    obtain ⟨d,k1,k2⟩:=g2 i y hy
    exact ih d (List.mem_of_getElem? k1) k2 (hr i d u k1 hu)
 | nil=>rename_i r hr x h v hv;cases hr
 | cons d l h1 h2 =>
  rename_i r hr x h v hv
  rcases List.mem_cons.1 hr with rfl | hr
  ·exact h1 h hv
  ·exact h2 r hr h hv
theorem aB.borrowF {f:FuncId} {args args':List DV} {R:DV→aA→Prop} {x:DV} (h:aB P f args [] R) (hs:jX P σ args' args) (hx:∀ r σ0,R r σ0→Fr σ0 r x):aB P f args' σ (fun r σ'=>r=x∧σ'=σ):=by
 refine ⟨h.body,fun X ι w vs hh hr=>?_⟩
 have hno:∀ b,¬ g8 (fun _=>none) [] b:=fun b ⟨i,o,u,g1,_⟩=>by simp [aA.look] at g1
 have h0:aQ P X (fun _=>none) [] w:=⟨fun _ _=>rfl,fun id o ho=>by simp [aA.look] at ho,fun id id' o o' v v' b ho=>by simp [aA.look] at ho,hh.xlt,fun b hb=>absurd hb (hno b),fun g hg=>by
   obtain ⟨g1,g2,g3⟩:=hh.glob g hg
   exact ⟨g1,fun hm=>hm.elim (fun h=>g2 (.inl h)) (hno g),g3⟩⟩
 have hr0:cM (fun _=>none) w (bQ X (fun _=>none) []) args vs:=⟨by rw [hr.len,hs.get.1],fun i y v h1 h2=>by
  have hi:i < args'.length:=by rw [← hs.get.1];exact (List.getElem?_eq_some_iff.1 h1).1
  obtain ⟨d',k1,k2⟩:=hs.get.2 i _ (List.getElem?_eq_getElem hi)
  rw [h1] at k1;cases k1
  exact (k2 X ι w v hh (hr.get i _ v (List.getElem?_eq_getElem hi) h2)).mono (fun _ _ h=>h) (a8.refl X w) (fun b _ hb=>hb.elim (fun h=>h) (fun h=>absurd h (hno b)))⟩
 refine (h.run X (fun _=>none) w vs h0 hr0).mono ?_
 rintro en w' ⟨v,r,σ',ι',rfl,hR,hc,hv⟩
 have hf:a8 (g8 ι σ) w w':=hc.frame.mono (fun b _ hb=>absurd hb (hno b))
 have hcm:Comes' P X ι σ σ w ι w':=⟨fun _ _ h=>h,hf,hh.change hf (fun _ _ h=>h) hh.fresh (fun id o ho => .inl ⟨ho,fun u b hu hb=>hc.frame.block b (hh.mut_lt (.inr ⟨id,o,u,ho,hu,hb⟩)) (hno b)⟩) (fun _ _ h=>h) hh.inj,fun _ _ h=>h⟩
 refine ⟨v,x,σ,ι,rfl,⟨rfl,rfl⟩,⟨hcm,fun _ _=>rfl,Nat.le_refl _⟩,L7 hc.heap (fun b hb hm=>?_) (hx r σ' hR) hv⟩
 rcases hm with hm | hm
 ·exact hc.heap.apart b hb hm
 ·exact hno b (hc.muts b (hh.mut_lt (.inr hm)) hb)
theorem cA.sc {v:Value}:cA P σ (.d (.sc v)) (.d (.sc v)):=cA.d
theorem cA.box {k:Nat} {ty:TypeId} {cells:List DV} {cs:List aR} (hk:σ.look k=some (.box ty cells)) (hs:jX P σ cells (cs.map .d)):cA P σ (.ptr k 0) (.iptr cs 0):=fun X ι w v hh hr=>by
 cases hr with
 | ptr _ _ b hid =>
  obtain ⟨v',h1,h2⟩:=hh.obj k _ hk
  rw [hid] at h1;cases h1
  cases h2 with
  | box _ _ _ vs hb hl h h1 =>
   have hn:∀ j x,cs[j]? = some x→∃ d,cells[j]? = some d∧cA P σ d (.d x):=fun j x hx=>by
    have hj:j < cells.length:=by
     have:=hs.get.1;rw [List.length_map] at this
     rw [← this];exact (List.getElem?_eq_some_iff.1 hx).1
    obtain ⟨d',k1,k2⟩:=hs.get.2 j _ (List.getElem?_eq_getElem hj)
    rw [List.getElem?_map,hx] at k1
    cases k1
    exact ⟨_,List.getElem?_eq_getElem hj,k2⟩
   have:=aX.iptr (ι:=fun _=>none) (M:=X) (w:=w) cs 0 b 0 (fun j=>vs.getD j undef) (hh.apart b ⟨k,_,_,hk,hid,rfl⟩) (Array.getElem?_eq_some_iff.1 hb).1 (fun j x hx=>?_) (fun j x hx=>?_)
   ·simpa using this
   ·obtain ⟨d,k1,k2⟩:=hn j x hx
    have hj:j < vs.size:=by rw [hl];exact (List.getElem?_eq_some_iff.1 k1).1
    unfold World.cell?
    simp only [hb]
    simp [hj]
   ·obtain ⟨d,k1,k2⟩:=hn j x hx
    have hj:j < vs.size:=by rw [hl];exact (List.getElem?_eq_some_iff.1 k1).1
    have:=k2 X ι w _ hh (h j d _ k1 (Array.getElem?_eq_getElem hj))
    have e:vs.getD j undef=vs[j]:=by simp [Array.getD,hj]
    rw [e]
    cases this with
    | d h=>exact h
theorem cA.row {n i sz:Nat} {el:TypeId} {es:List (List DV)} {row:List DV} {cs:List aR} (hn:σ.look n=some (.arr el es)) (hi:es[i]? = some row) (hsz:P.cellsOf el=sz) (hs:jX P σ row (cs.map .d)):cA P σ (.eptr n i sz 0) (.iptr cs 0):=fun X ι w v hh hr=>by
 subst hsz
 cases hr with
 | eptr _ _ _ _ b o m c hid =>
  obtain ⟨v',h1,h2⟩:=hh.obj n _ hn
  rw [hid] at h1;cases h1
  have hil:=(List.getElem?_eq_some_iff.1 hi).1
  generalize hes:es=es' at h2
  cases h2 with
  | nil=>subst hes;simp at hil
  | arr _ _ _ _ _ vs hb hc hn' hm hsz hcl hrel =>
   subst hes
   obtain ⟨c',rfl⟩:∃ c',c=c' + 1:=⟨c - 1,by omega⟩
   have hlt:∀ j,j < P.cellsOf el→o + (i * P.cellsOf el + j) < vs.size:=by
    intro j hj
    have h3:(i + 1) * P.cellsOf el≤(c' + 1) * P.cellsOf el:=Nat.mul_le_mul_right _ (by omega)
    rw [Nat.add_mul,Nat.one_mul] at h3
    omega
   have hrl:row.length=P.cellsOf el:=hsz row (List.mem_of_getElem? hi)
   have hn2:∀ j x,cs[j]? = some x→∃ d,row[j]? = some d∧cA P σ d (.d x)∧j < P.cellsOf el:=fun j x hx=>by
    have hj:j < row.length:=by
     have:=hs.get.1;rw [List.length_map] at this
     rw [← this];exact (List.getElem?_eq_some_iff.1 hx).1
    obtain ⟨d',k1,k2⟩:=hs.get.2 j _ (List.getElem?_eq_getElem hj)
    rw [List.getElem?_map,hx] at k1
    cases k1
    exact ⟨_,List.getElem?_eq_getElem hj,k2,by omega⟩
   have hown:g8 ι σ b:=⟨n,_,_,hn,hid,by
    obtain ⟨m,hm'⟩:∃ m,es.length=m + 1:=⟨es.length - 1,by omega⟩
    rfl⟩
   have:=aX.iptr (ι:=fun _=>none) (M:=X) (w:=w) cs 0 b (o + (i * P.cellsOf el + 0)) (fun j=>vs.getD (o + (i * P.cellsOf el + j)) undef) (hh.apart b hown) (Array.getElem?_eq_some_iff.1 hb).1 (fun j x hx=>?_) (fun j x hx=>?_)
   ·simpa using this
   ·obtain ⟨d,k1,k2,k3⟩:=hn2 j x hx
    have:=hlt j k3
    unfold World.cell?
    simp only [hb]
    rw [show o + (i * P.cellsOf el + 0) + j=o + (i * P.cellsOf el + j) by omega]
    simp [this]
   ·obtain ⟨d,k1,k2,k3⟩:=hn2 j x hx
    have hj:=hlt j k3
    have:=k2 X ι w _ hh (hrel i j row d _ hi k1 (Array.getElem?_eq_getElem hj))
    have e:vs.getD (o + (i * P.cellsOf el + j)) undef=vs[o + (i * P.cellsOf el + j)]:=by simp [Array.getD,hj]
    rw [e]
    cases this with
    | d h=>exact h
theorem cA.raw {m:Nat} {u:Value} {s:List (List aR)} (hm:σ.look m=some (bS P va l)) (hu:(u,s) ∈ l):cA P σ (.d (.sc u)) (.d (.lst s)):=fun X ι w v hh hr=>by
 obtain ⟨a,b,rfl⟩:=List.append_of_mem hu
 obtain ⟨ι',h1,h2,h3,h4⟩:=uK hh hm List.perm_middle
 cases hr with
 | d hr=>cases hr with
  | sc _ _ =>
   have hl:aA.look ((σ.put m (some (bS P va (a++b))))++[some (.arr va (aO s))]) σ.length=some (.arr va (aO s)):=by
    rw [eZ,bV hm,if_neg (Nat.lt_irrefl _),Nat.sub_self];rfl
   refine cA.arr hl (by simp [aO]) (fun i e he=>?_) X ι' w _ h1.heap (.arr _ _ h3 h4)
   simp only [aO,List.getElem?_map] at he
   obtain ⟨r,hr,rfl⟩:=Option.map_eq_some_iff.1 he
   exact ⟨r,hr,kO r⟩
theorem cA.opened {k:Nat} {run fr:TypeId} {pre post:List aR} {b0:Nat} {fv:Value} {rows:List (List aR)} {d d1 d':DV} (hl:σ.look k=some (sK P run fr va pre post b0 fv rows l))
  (hs:cA P (σ.put k (some (.box run (pre.map .d ++ .arr σ.length::post.map .d)))++[some (.arr fr (aO rows)),some (bS P va l)]) d1 d')
  (hd:∀ ι ι' w M v,(∀ id v,ι id=some v→ι' id=some v)→ι' σ.length=some fv→(rows≠[]→∃ (A c:Nat) (n:Nat × Nat),fv = .slice (some ⟨A,c,none⟩) n.1 n.2)→aX ι w M d v→aX ι' w M d1 v):cA P σ d d':=fun X ι w v hh hr=>by
 obtain ⟨ι',h1,h2,h3⟩:=xU hh hl
 refine hs X ι' w v h1.heap ?_
 refine aX.mono (fun _ _ h=>h) (a8.refl (bQ X ι σ) w) (fun b hb hm=>h1.mutsM b hb hm) (hd ι ι' w _ v h1.inj h2 (fun hne=>?_) hr)
 obtain ⟨v,g1,g2⟩:=hh.obj k _ hl
 cases g2 with
 | deep _ _ _ hT _ _=>exact hT.2.2.2.1.slN (fun e=>hne (by simpa [aO] using e))
theorem DE {d:DV} {fv:Value} {n:Nat} {B:Prop} {Cc:Prop}:∀ (ι ι':bZ) (w:World) (M:Nat→Prop) (v:Value),(∀ id v,ι id=some v→ι' id=some v)→ι' n=some fv→(B→Cc)→aX ι w M d v→aX ι' w M d v :=
 fun ι ι' w M v h _ _ hr=>hr.mono h (a8.refl M w) (fun _ _ h=>h)
end
end Go.Ab
namespace Go.Ab
open Go Go.Ab.Tryz Go.Proofs
abbrev Fm.row (u:Value) (t:Fm):List aR:=[di t.fn,di t.pc,di t.to,.sc u]
def RT (g:Value × Fm):List aR:=g.2.row g.1
def rS (g:Value × Fm):Value × List (List aR):=(g.1,g.2.slots.map Va.enc)
def gI (gs:List (Value × Fm)):List (List aR):=(gs.map RT).reverse
def d4 (gs:List (Value × Fm)):List (List DV):=aO (gI gs)
def aS (ss:List Va):List (List DV):=aO (ss.map Va.enc)
abbrev kZ (c:List Fc):aR:=ld (c.map Fc.enc)
abbrev bC (c:List Fc):DV := .d (kZ c)
abbrev mG (run:TypeId) (post:List aR) (c:List Fc) (b0:Nat) (fv:Value) (gs:List (Value × Fm)):aU:=sK Tryz.prog run 63 35 [kZ c] post b0 fv (gI gs) (gs.map rS)
abbrev jK:=mG 112 []
abbrev iB (gs:List (Value × Fm)):aU:=bS Tryz.prog 35 (gs.map rS)
abbrev iD (t:Fm) (s:DV):List DV:=[iv t.fn,iv t.pc,iv t.to,s]
abbrev KM (run:TypeId) (post:List DV) (c:List Fc) (t:Fm) (gr:List (Value × Fm)) (L:aA):aA :=
 some (.box run (bC c :: .arr 1::post))::some (.arr 63 (d4 gr++[iD t (.arr 3)]))::some (iB gr)::some (.arr 35 (aS t.slots))::L
abbrev oX:=KM 112 []
section
variable {X:Nat→Prop} {nt:Nat} {ι:bZ} {σ σ':aA} {e e':aW} {w:World} {J:aW→aA→Prop} {c:List Fc} {b0:Nat} {fv u:Value} {t:Fm} {gr gs:List (Value × Fm)} {L:aA} {run:TypeId} {post:List aR} {ss:List Va}
theorem fM:d4 ((u,t)::gr)=d4 gr++[iD t (.d (.sc u))]:=by simp [d4,gI,aO,RT]
theorem qN:gI ((u,t)::gr)≠[]:=by simp [gI]
theorem f6:(d4 gs).length=gs.length:=by simp [d4,gI,aO]
theorem dV {r:List DV} {n:Nat} (h:n=gr.length):(d4 gr++[r])[n]? = some r:=by
 subst h
 rw [List.getElem?_append_right (by rw [f6];exact Nat.le_refl _),f6,Nat.sub_self];rfl
theorem mC {r r':List DV}:(d4 gr++[r]).set gr.length r'=d4 gr++[r']:=by
 rw [← f6 (gs:=gr),List.set_append_right _ _ (Nat.le_refl _),Nat.sub_self];rfl
theorem yP:(aS ss).length=ss.length:=by simp [aS,aO]
theorem sS {k:Int} (h0:0≤k) (h1:k < (ss.length:Int)):(aS ss)[k.toNat]? = some [iv (aC ss k).k,iv (aC ss k).n,sv (aC ss k).s]:=by
 simp [aS,aO,HB h0 h1]
theorem GF {k:Nat} {v:Va}:(aS ss).set k [iv v.k,iv v.n,sv v.s]=aS (ss.set k v):=by simp [aS,aO,List.map_set]
theorem lQ (h:SC Tryz.prog e σ (fun e1 σ1=>SC Tryz.prog e1 σ1 J)):SC Tryz.prog e σ J:=⟨fun X nt w0 ι0 σ0 ι a w hst=>by
 obtain ⟨ι',e',σ',hk,hs⟩:=h.h X nt w0 ι0 σ0 ι a w hst
 exact hk.h X nt w0 ι0 σ0 ι' a w hs⟩
theorem hP {g:Value × List (List aR)} {l:List (Value × List (List aR))}:(g::l).Perm (g::l):=List.Perm.refl _
theorem FZ (t0:Nat) (ht:e.get t0=some (.d (.sc (pY fv (gr.length * 4 + 0))))) (h:J (e.put (some t0) (.eptr 1 gr.length 4 0)) (KM run (post.map .d) c t gr [])):SC Tryz.prog e [some (mG run post c b0 fv ((u,t)::gr))] J:=by
 refine lQ (wJ (k:=0) t0 gr.length 4 0 rfl qN ht ?_)
 show SC Tryz.prog _ [some (.box run (bC c :: .arr 1::post.map .d)),some (.arr 63 (d4 ((u,t)::gr))),some (iB ((u,t)::gr))] J
 rw [fM]
 refine BJ (n:=1) (m:=2) (i:=gr.length) (j:=3) (u:=u) (s:=t.slots.map Va.enc) (l':=gr.map rS) rfl hP rfl (dV rfl) rfl ?_
 show J _ [some (.box run (bC c :: .arr 1::post.map .d)),some (.arr 63 ((d4 gr++[iD t (.d (.sc u))]).set gr.length _)),some (iB gr),some (.arr 35 (aS t.slots))]
 rw [mC]
 exact h
theorem UP (h:J e (KM run (post.map .d) c t gr [])):SC Tryz.prog e [some (mG run post c b0 fv ((u,t)::gr))] J:=by
 refine lQ (kM (k:=0) rfl ?_)
 show SC Tryz.prog _ [some (.box run (bC c :: .arr 1::post.map .d)),some (.arr 63 (d4 ((u,t)::gr))),some (iB ((u,t)::gr))] J
 rw [fM]
 refine BJ (n:=1) (m:=2) (i:=gr.length) (j:=3) (u:=u) (s:=t.slots.map Va.enc) (l':=gr.map rS) rfl hP rfl (dV rfl) rfl ?_
 show J _ [some (.box run (bC c :: .arr 1::post.map .d)),some (.arr 63 ((d4 gr++[iD t (.d (.sc u))]).set gr.length _)),some (iB gr),some (.arr 35 (aS t.slots))]
 rw [mC]
 exact h
theorem PT {fn pc tt:Int} (h:∀ b0 fv u,J e (some (mG run post c b0 fv ((u,⟨fn,pc,tt,ss⟩)::gr))::none::none::none::L)) :
  SC Tryz.prog e (some (.box run (bC c :: .arr 1::post.map .d))::some (.arr 63 (d4 gr++[[iv fn,iv pc,iv tt,.arr 3]]))::some (iB gr)::some (.arr 35 (aS ss))::L) J:=by
 refine lQ (vO (n:=1) (m:=2) (p:=3) (i:=gr.length) (j:=3) (l:=gr.map rS) rfl rfl rfl rfl (s:=ss.map Va.enc) rfl (dV rfl) rfl fun u=>?_)
 rw [mC]
 show SC Tryz.prog _ (some (.box run (bC c :: .arr 1::post.map .d))::some (.arr 63 (d4 gr++[[iv fn,iv pc,iv tt,.d (.sc u)]]))::some (bS Tryz.prog 35 ((u,ss.map Va.enc)::gr.map rS))::none::L) J
 refine pK (k:=0) (n:=1) (m:=2) [kZ c] post (rows:=gI ((u,⟨fn,pc,tt,ss⟩)::gr)) rfl rfl ?_ rfl fun b0 fv=>?_
 ·exact (fM (u:=u) (t:=⟨fn,pc,tt,ss⟩)).symm
 ·exact h b0 fv u
end
end Go.Ab
namespace Go.Ab
open Go
section
variable {P:Program} {σ L:aA}
theorem x8 {g:Nat→Nat} {n:Nat} (hg:∀ i,i < n→g i=i):∀ d:DV,d.under n=true→d.ren g=d:=by
 intro d
 induction d using DV.rec (motive_2:=fun l=>DV.unders n l=true→DV.rens g l=l) with
 | nil=>rfl
 | cons x l h1 h2=>rename_i h;simp only [DV.unders,Bool.and_eq_true] at h;simp only [DV.rens,h1 h.1,h2 h.2]
 | fn f a b h1 h2=>intro h;simp only [DV.under,Bool.and_eq_true] at h;simp only [DV.ren,h1 h.1,h2 h.2]
 | agg cs h1=>intro h;simp only [DV.ren,h1 h]
 | tup cs h1=>intro h;simp only [DV.ren,h1 h]
 | ifc t x h1=>intro h;simp only [DV.ren,h1 h]
 | ptr id o=>intro h;simp only [DV.under,decide_eq_true_eq] at h;simp only [DV.ren,hg id h]
 | eptr id i s o=>intro h;simp only [DV.under,decide_eq_true_eq] at h;simp only [DV.ren,hg id h]
 | arr id=>intro h;simp only [DV.under,decide_eq_true_eq] at h;simp only [DV.ren,hg id h]
 | mp id=>intro h;simp only [DV.under,decide_eq_true_eq] at h;simp only [DV.ren,hg id h]
 | _=>intro h;rfl
theorem rK {g:Nat→Nat} {n:Nat} (hg:∀ i,i < n→g i=i):∀ l:List DV,DV.unders n l=true→DV.rens g l=l
 | [],_=>rfl
 | x::l,h=>by simp only [DV.unders,Bool.and_eq_true] at h;simp only [DV.rens,x8 hg x h.1,rK hg l h.2]
theorem nF {g:Nat→Nat} {n:Nat} (hg:∀ i,i < n→g i=i) (o:aU) (h:o.under n=true):o.ren g=o:=by
 cases o with
 | box t cs=>simp only [aU.ren,rK hg cs h]
 | arr t es =>
  simp only [aU.ren,aU.arr.injEq,true_and]
  rw [List.map_congr_left (g:=id) (fun e he=>rK hg e (List.all_eq_true.1 h e he))];simp
 | map es =>
  simp only [aU.ren,aU.map.injEq]
  rw [List.map_congr_left (g:=id) (fun e he=>by
   have:=x8 hg e.2 (List.all_eq_true.1 h e he)
   simp [this])];simp
 | deep T bs=>rfl
theorem qW {n:Nat} (h:eJ n σ=true) (hn:σ.length≤n) {i:Nat} {o:aU} (ho:σ.look i=some o):o.under n=true :=
 jR h (Nat.lt_of_lt_of_le (a7 ho) hn) ho
theorem r6 {g:Nat→Nat} (n:Nat) (hg:∀ i,i < n→g i=i):∀ (A B C:aA),A.length=B.length→(∀ o,some o ∈ B→o.under n=true)→dX g (C++A++L) (List.range' C.length A.length) B=C++B++L
 | [],[],C,_,_=>by simp [dX]
 | a::A,b::B,C,hl,hu=>by
  simp only [List.length_cons,List.range'_succ,dX]
  have hb:b.map (aU.ren g)=b:=by
   cases b with
   | none=>rfl
   | some o=>simp [nF hg o (hu o (by simp))]
  have h1:(C++a::A++L).set C.length b=(C++[b])++A++L:=by
   rw [List.append_assoc,List.set_append_right _ _ (Nat.le_refl _),Nat.sub_self];simp
  rw [hb,h1]
  have:=r6 n hg A B (C++[b]) (by simpa using hl) (fun o ho=>hu o (by simp [ho]))
  rw [List.length_append] at this
  simp only [List.length_cons,List.length_nil] at this
  rw [this];simp
 | [],b::B,C,h,_=>by simp at h
 | a::A,[],C,h,_=>by simp at h
theorem aB.front {f:FuncId} {args:List DV} {σ σ':aA} {x:DV} (n:Nat) (h:aB P f args σ (fun r s=>r=x∧s=σ')) (hn:σ.length=n) (hn':σ'.length=n) (hu:eJ n σ=true) (hu':eJ n σ'=true) (ha:DV.unders n args=true) (hx:x.under n=true) :
  aB P f args (σ++L) (fun r s=>r=x∧s=σ'++L):=by
 subst hn
 have hg:∀ i,i < σ.length→bL (List.range σ.length) (σ++L).length i=i:=fun i hi=>oJ (by rw [List.getElem?_range hi])
 refine (aB.within h (List.range σ.length) ⟨by simp,fun k hk=>?_,List.nodup_range,fun i o k h1 h2=>?_,fun i o h1=>qW hu (Nat.le_refl _) h1⟩ ha (rK hg args ha)).mono ?_
 ·rw [List.length_append];have:=List.mem_range.1 hk;omega
 ·have hi:=a7 h1
  rw [List.getElem?_range hi] at h2;cases h2
  rw [eZ,if_pos hi,h1,nF hg o (qW hu (Nat.le_refl _) h1)]
 ·rintro r s ⟨r0,σ0,⟨rfl,rfl⟩,_,rfl,rfl⟩
  refine ⟨x8 hg _ hx,?_⟩
  have:=r6 (L:=L) σ.length hg σ σ0 [] hn'.symm (fun o ho=>by
   obtain ⟨i,hi⟩:=List.mem_iff_getElem?.1 ho
   exact qW hu' (by omega) (i:=i) (by unfold aA.look;rw [hi];rfl))
  simpa [kC,List.range_eq_range'] using this
inductive eH:aA→Nat→Option aU→aA→Prop
 | z {x o:Option aU} {σ:aA}:eH (x::σ) 0 o (o::σ)
 | s {x o:Option aU} {σ σ':aA} {n:Nat} (h:eH σ n o σ'):eH (x::σ) (n + 1) o (x::σ')
theorem eH.eq {σ σ':aA} {n:Nat} {o:Option aU} (h:eH σ n o σ'):σ.put n o=σ':=by
 induction h with
 | z=>rfl
 | s h ih=>simp only [aA.put,ih]
end
section
variable {P:Program} {nt:Nat} {σ L:aA} {e:aW} {c:Code}
def NY (P:Program) (fn:Func) (R:DV→aA→Prop) (ex:Exit) (e:aW) (σ:aA):Prop:=(ex = .normal∨ex = .ret)∧∃ r,DJ P fn e σ=some r∧R r.norm σ
theorem fW {f:FuncId} {fn:Func} {c:Code} {args:List DV} {R:DV→aA→Prop} (hf:P.funcs[f]? = some fn) (hb:fn.body=some c) (hn:(fn.name == "runtime.NumGoroutine")=false) (hl:args.length≤fn.ntmps)
  (h:AC P fn.ntmps c (iL 0 args) σ (NY P fn R)):aB P f args σ R:=by
 refine ⟨by simp [j0,hf,hb,hn],fun X ι w vs hh hr=>?_⟩
 refine calls_of_wp hf hb ?_
 have hvs:vs.toArray.size=args.length:=by simpa using hr.len
 have hst:St P X fn.ntmps w ι σ ι (iL 0 args) σ { tmps:=vs.toArray++Array.replicate (fn.ntmps - vs.toArray.size) undef,defers:=[] } w:=by
  refine ⟨?_,rfl,⟨fun t d ht=>?_⟩,fA.refl hh⟩
  ·simp only [Array.size_append,Array.size_replicate,hvs]
   omega
  ·obtain ⟨_,h2⟩:=mV _ _ _ _ ht
   rw [Nat.sub_zero] at h2
   have hlt:t < vs.length:=by rw [hr.len];exact (List.getElem?_eq_some_iff.1 h2).1
   have hg:(vs.toArray++Array.replicate (fn.ntmps - vs.toArray.size) undef).getD t undef=vs[t]:=by
    rw [Array.getD_eq_getD_getElem?,Array.getElem?_append,if_pos (by simpa using hlt)]
    simp [hlt]
   simp only [hg]
   exact hr.get t d _ h2 (List.getElem?_eq_getElem hlt)
 refine wp_mono (h.h X w ι σ ι _ w hst) ?_
 rintro ex a' w' ⟨ι',e',σ',⟨hex,r,hres,hR⟩,hst'⟩
 have key:a'.defers=[]∧∃ v,(results fn a'.tmps).run P w' = .ok v w'∧(∃ v' r σ' ι',Ending.returned v = .returned v'∧R r σ'∧fA P X ι σ σ' w ι' w'∧aX ι' w' (bQ X ι' σ') r v'):=by
  obtain ⟨v,h1,h2⟩:=AB hst'.env hst'.comes.heap hres
  exact ⟨hst'.defers,v,h1,v,_,_,_,rfl,hR,hst'.comes,h2.normed⟩
 rcases hex with rfl | rfl
 ·exact key
 ·exact key
structure BX (P:Program) (e:aW) (σ:aA) (R:DV→aA→Prop) (rs:List ResultVar) (acc:List DV):Prop where
 h:∃ ds,AV P e σ rs ds∧R (bG (acc++ds)).norm σ
variable {R:DV→aA→Prop} {acc:List DV} {rs:List ResultVar}
theorem XX {t:Nat} {d:DV} (h:e.get t=some d) (k:BX P e σ R rs (acc++[d])):BX P e σ R (.tmp t::rs) acc:=by
 obtain ⟨ds,h1,h2⟩:=k.h
 exact ⟨d::ds,UG h h1,by simpa using h2⟩
theorem XW {x k':Nat} {t:TypeId} {p:DV} {cells l:List DV} (ht:i7 P t=some true) (hn:P.cellsOf t=k') (hx:e.get x=some p) (hb:wY σ p=some cells) (hc:cells.take k'=l) (hle:Nat.ble k' l.length=true) (k:BX P e σ R rs (acc++[.agg l])):BX P e σ R (.cell x t::rs) acc:=by
 obtain ⟨ds,h1,h2⟩:=k.h
 exact ⟨.agg l::ds,UF ht hn hx hb hc hle h1,by simpa using h2⟩
theorem RV (h:R (bG acc).norm σ):BX P e σ R [] acc:=⟨[],FX,by simpa using h⟩
theorem ksr (h:BX P e σ R rs acc):BX P e σ R rs acc:=h
theorem tO {fn:Func} {ex:Exit} (h:NY P fn R ex e σ):NY P fn R ex e σ:=h
theorem j7 {fn:Func} {ex:Exit} {l:List ResultVar} (hrs:fn.results=l.toArray) (hex:(match ex with | .normal=>true | .ret=>true | _=>false)=true) (k:BX P e σ R l []):NY P fn R ex e σ:=by
 obtain ⟨ds,h1,h3⟩:=k.h
 have hr:DJ P fn e σ=some (bG ds):=by
  have hm:=h1.h
  unfold DJ
  split
  ·rename_i r0 hrs'
   rw [hrs] at hrs'
   simp only at hrs'
   subst hrs'
   simp only [List.mapM_cons,List.mapM_nil] at hm
   cases h0:mA P e σ r0 with
   | none=>simp [h0] at hm
   | some d=>simp [h0] at hm;subst hm;rfl
  ·rename_i hne
   rw [hrs,hm]
   simp only [Option.map]
   congr 1
   unfold bG
   split
   ·have hlen:=(lZ hm).1
    exfalso
    match hl:l,hlen with
    | [r0],_=>exact hne r0 (by rw [hrs])
   ·rfl
 refine ⟨?_,bG ds,hr,by simpa using h3⟩
 cases ex <;> first | exact .inl rfl | exact .inr rfl | cases hex
theorem uY {g h:Nat→Nat} {n:Nat} (hg:∀ i,i < n→g i=h i):∀ d:DV,d.under n=true→d.ren g=d.ren h:=by
 intro d
 induction d using DV.rec (motive_2:=fun l=>DV.unders n l=true→DV.rens g l=DV.rens h l) with
 | nil=>rfl
 | cons x l h1 h2=>rename_i h;simp only [DV.unders,Bool.and_eq_true] at h;simp only [DV.rens,h1 h.1,h2 h.2]
 | fn f a b h1 h2=>intro h;simp only [DV.under,Bool.and_eq_true] at h;simp only [DV.ren,h1 h.1,h2 h.2]
 | agg cs h1=>intro h;simp only [DV.ren,h1 h]
 | tup cs h1=>intro h;simp only [DV.ren,h1 h]
 | ifc t x h1=>intro h;simp only [DV.ren,h1 h]
 | ptr id o=>intro h;simp only [DV.under,decide_eq_true_eq] at h;simp only [DV.ren,hg id h]
 | eptr id i s o=>intro h;simp only [DV.under,decide_eq_true_eq] at h;simp only [DV.ren,hg id h]
 | arr id=>intro h;simp only [DV.under,decide_eq_true_eq] at h;simp only [DV.ren,hg id h]
 | mp id=>intro h;simp only [DV.under,decide_eq_true_eq] at h;simp only [DV.ren,hg id h]
 | _=>intro h;rfl
theorem pI {g h:Nat→Nat} {n:Nat} (hg:∀ i,i < n→g i=h i):∀ l:List DV,DV.unders n l=true→DV.rens g l=DV.rens h l
 | [],_=>rfl
 | x::l,hu=>by simp only [DV.unders,Bool.and_eq_true] at hu;simp only [DV.rens,uY hg x hu.1,pI hg l hu.2]
theorem EW {g h:Nat→Nat} {n:Nat} (hg:∀ i,i < n→g i=h i) (o:aU) (hu:o.under n=true):o.ren g=o.ren h:=by
 cases o with
 | box t cs=>simp only [aU.ren,pI hg cs hu]
 | arr t es =>
  simp only [aU.ren,aU.arr.injEq,true_and]
  exact List.map_congr_left (fun e he=>pI hg e (List.all_eq_true.1 hu e he))
 | map es =>
  simp only [aU.ren,aU.map.injEq]
  exact List.map_congr_left (fun e he=>by
   have:=uY hg e.2 (List.all_eq_true.1 hu e he)
   simp [this])
 | deep T bs=>rfl
theorem gR.move {σ σ2:aA} {g h:Nat→Nat} {n:Nat} (hg:∀ i,i < n→g i=h i):∀ {fs:List Nat} {σs:aA},(∀ id ∈ fs,σ2.look id=σ.look id)→gR σ g n fs σs→gR σ2 h n fs σs
 | [],[],_,_=>trivial
 | k::fs,some o::σs,hs,hl=>by
  obtain ⟨⟨h1,h2,h3⟩,h4⟩:=hl
  have h5:σ2.look k=some (o.ren h):=by rw [hs k (by simp),h3,EW hg o h2]
  refine ⟨⟨?_,h2,h5⟩,gR.move hg (fun id hid=>hs id (by simp [hid])) h4⟩
  simpa using a7 h5
 | [],_::_,_,h=>by simp [gR] at h
 | _::_,[],_,h=>by simp [gR] at h
 | _::_,none::_,_,h=>by simp [gR] at h
theorem aB.readsL {f:FuncId} {args args':List DV} {σs:aA} {x x':DV} (h:aB P f args σs (fun r σ'=>r=x∧σ'=σs)) (fs:List Nat) (hn:lC fs=true) (hl:gR σ (bL fs σ.length) σs.length fs σs) (hu:DV.unders σs.length args=true)
  (ha:DV.rens (bL fs σ.length) args=args') (hx:x.ren (bL fs σ.length)=x') (hux:x.under σs.length=true):∀ σ2:aA,(∀ id ∈ fs,σ2.look id=σ.look id)→aB P f args' σ2 (fun r σ'=>r=x'∧σ'=σ2):=fun σ2 hs=>by
 have hlen:=hl.get.1
 have hg:∀ i,i < σs.length→bL fs σ.length i=bL fs σ2.length i:=fun i hi=>by
  have:i < fs.length:=by omega
  rw [oJ (List.getElem?_eq_getElem this),oJ (List.getElem?_eq_getElem this)]
 refine aB.reads h fs hn (gR.move hg hs hl) hu ?_ ?_
 ·rw [← ha];exact (pI hg args hu).symm
 ·rw [← hx];exact (uY hg x hux).symm
theorem aB.borrowE {f:FuncId} {args args':List DV} {R:DV→aA→Prop} {R':DV→Prop} (h:aB P f args [] R) (hs:jX P σ args' args) (hx:∀ r σ0,R r σ0→∃ x,Fr σ0 r x∧R' x):aB P f args' σ (fun r σ'=>R' r∧σ'=σ):=by
 refine ⟨h.body,fun X ι w vs hh hr=>?_⟩
 have hno:∀ b,¬ g8 (fun _=>none) [] b:=fun b ⟨i,o,u,g1,_⟩=>by simp [aA.look] at g1
 have h0:aQ P X (fun _=>none) [] w:=⟨fun _ _=>rfl,fun id o ho=>by simp [aA.look] at ho,fun id id' o o' v v' b ho=>by simp [aA.look] at ho,hh.xlt,fun b hb=>absurd hb (hno b),fun g hg=>by
   obtain ⟨g1,g2,g3⟩:=hh.glob g hg
   exact ⟨g1,fun hm=>hm.elim (fun h=>g2 (.inl h)) (hno g),g3⟩⟩
 have hr0:cM (fun _=>none) w (bQ X (fun _=>none) []) args vs:=⟨by rw [hr.len,hs.get.1],fun i y v h1 h2=>by
  have hi:i < args'.length:=by rw [← hs.get.1];exact (List.getElem?_eq_some_iff.1 h1).1
  obtain ⟨d',k1,k2⟩:=hs.get.2 i _ (List.getElem?_eq_getElem hi)
  rw [h1] at k1;cases k1
  exact (k2 X ι w v hh (hr.get i _ v (List.getElem?_eq_getElem hi) h2)).mono (fun _ _ h=>h) (a8.refl X w) (fun b _ hb=>hb.elim (fun h=>h) (fun h=>absurd h (hno b)))⟩
 refine (h.run X (fun _=>none) w vs h0 hr0).mono ?_
 rintro en w' ⟨v,r,σ',ι',rfl,hR,hc,hv⟩
 obtain ⟨x,hfr,hx'⟩:=hx r σ' hR
 have hf:a8 (g8 ι σ) w w':=hc.frame.mono (fun b _ hb=>absurd hb (hno b))
 have hcm:Comes' P X ι σ σ w ι w':=⟨fun _ _ h=>h,hf,hh.change hf (fun _ _ h=>h) hh.fresh (fun id o ho => .inl ⟨ho,fun u b hu hb=>hc.frame.block b (hh.mut_lt (.inr ⟨id,o,u,ho,hu,hb⟩)) (hno b)⟩) (fun _ _ h=>h) hh.inj,fun _ _ h=>h⟩
 refine ⟨v,x,σ,ι,rfl,⟨hx',rfl⟩,⟨hcm,fun _ _=>rfl,Nat.le_refl _⟩,L7 hc.heap (fun b hb hm=>?_) hfr hv⟩
 rcases hm with hm | hm
 ·exact hc.heap.apart b hb hm
 ·exact hno b (hc.muts b (hh.mut_lt (.inr hm)) hb)
end
end Go.Ab
namespace Go.Ab
open Go Go.Ab.Tryz Go.Proofs
section
variable {P:Program} {nt:Nat} {σ σ':aA} {e e':aW} {c:List Fc} {gr:List (Value × Fm)} {ss:List Va} {n id sz:Nat} {K:aW→aA→Prop} {ops:Array Oper} {rest:List Oper} {ty:TypeId} {pos:String} {after:Array Edge} {d:DV}
 {seen:List Nat} {lt:List dQ} {dest:List (Nat × Oper)} {i:Nat} {gd:Option (Nat × Bool)}
theorem eG {x j:Operand} {t el:TypeId} {kd:IntKind} {m:Int} (ht:dU P t=some (el,sz)) (hx:e.ev x=some (.arr id)) (hi:e.ev j=some (.d (.sc (.int kd m)))) (hl:σ.look id=some (.arr 35 (aS ss))) (hs:P.cellsOf 35=sz) (h0:0≤m) (h1:m < (ss.length:Int)) :
  Ev P (.indexAddr t x j) e σ n (.eptr id m.toNat sz 0) σ:=BP ht hx hi hl h0 (by rw [yP];exact h1) hs
theorem iS {t:TypeId} {x:Operand} {m:Int} (ht:i7 P t=some true) (hn:P.cellsOf t=3) (hx:e.ev x=some (.eptr id m.toNat 3 0)) (hl:σ.look id=some (.arr 35 (aS ss))) (hs:P.cellsOf 35=3) (h0:0≤m) (h1:m < (ss.length:Int)) :
  Ev P (.load t x) e σ n (.agg [iv (aC ss m).k,iv (aC ss m).n,sv (aC ss m).s]) σ:=jA ht hn hx hl hs (sS h0 h1) rfl rfl
theorem gN {t:TypeId} {x:Operand} {m:Int} {off:Nat} (ht:i7 P t=some false) (hx:e.ev x=some (.eptr id m.toNat 3 off)) (hl:σ.look id=some (.arr 35 (aS ss))) (hs:P.cellsOf 35=3) (h0:0≤m) (h1:m < (ss.length:Int)) (hc:([iv (aC ss m).k,iv (aC ss m).n,sv (aC ss m).s].drop off).head? = some d) :
  Ev P (.load t x) e σ n d σ:=mQ ht hx hl hs (sS h0 h1) hc
theorem mW {t:TypeId} {a x:Operand} {m k q:Int} {s:ByteArray} (hw:aT ops ⟨none,.store t a x,ty,pos,after,gd⟩ e=some true) (hx:e.ev x=some (.agg [iv k,iv q,sv s])) (him:(P.info? t).map (·.size)=some 3) (ha:e.ev a=some (.eptr id m.toNat 3 0)) (hl:σ.look id=some (.arr 35 (aS ss))) (hs:P.cellsOf 35=3) (h0:0≤m) (h1:m < (ss.length:Int))
  (hp:σ.put id (some (.arr 35 (aS (ss.set m.toNat ⟨k,q,s⟩))))=σ') (hok:yU lt (bN ⟨none,.store t a x,ty,pos,after,gd⟩) [] [id]=true)
  (kk:bO P nt ops K (i::seen) (⟨i,none,Oper.looksAt ops ⟨none,.store t a x,ty,pos,after,gd⟩,[],[id]⟩::lt) dest e σ'):bR P nt ops K seen lt ((i,⟨none,.store t a x,ty,pos,after,gd⟩)::dest) e σ :=
 mX hw hx him rfl ha hl (sS h0 h1) hs (nB rfl) (by rw [← hp];congr 3;exact GF (v:=⟨k,q,s⟩)) hok kk
theorem M9 {t el:TypeId} {a x:Operand} {off m:Nat} {cc new:List DV} (hx:e.ev x=some d) (him:(P.info? t).map (·.size)=some m) (hc:(eO d && (aH d).length == m)=true) (ha:e.ev a=some (.eptr id gr.length sz off)) (hl:σ.look id=some (.arr el (d4 gr++[cc]))) (hsz:P.cellsOf el=sz)
  (hle:Nat.ble (off + m) cc.length=true) (hn:cc.take off++aH d++cc.drop (off + m)=new) (hp:σ.put id (some (.arr el (d4 gr++[new])))=σ') (kk:WS P nt ops rest e σ' K):WS P nt ops (⟨none,.store t a x,ty,pos,after,none⟩::rest) e σ K :=
 nC hx him hc ha hl (dV rfl) hsz (nB hle) (by rw [← hp,mC,hn]) kk
theorem lL {m:Nat} {t:TypeId} {gs:List (Value × Fm)} {r:List DV} (hr:DV.unders m r=true):(aU.arr t (d4 gs++[r])).under m=true:=by
 simp only [aU.under,List.all_append,List.all_cons,List.all_nil,b5,hr]
 simp only [d4,aO,List.all_map,List.all_eq_true]
 intro x _
 exact fB m x
theorem eB {m:Nat} {t:TypeId}:(aU.arr t (aS ss)).under m=true:=by
 simp only [aU.under,aS,aO,List.all_map,List.all_eq_true]
 intro x _
 exact fB m _
theorem tF {R:DV→aA→Prop} {fn:Func} {ex:Exit} {l:List ResultVar} {run:TypeId} {c:List Fc} {post:List aR} {f pc tt:Int} {L:aA} (hrs:fn.results=l.toArray) (hex:(match ex with | .normal=>true | .ret=>true | _=>false)=true)
  (k:vT P e (some (.box run (bC c :: .arr 1::post.map .d))::some (.arr 63 (d4 gr++[[iv f,iv pc,iv tt,.arr 3]]))::some (iB gr)::some (.arr 35 (aS ss))::L) R 4 l []) :
  Fin P fn 4 R ex e (some (.box run (bC c :: .arr 1::post.map .d))::some (.arr 63 (d4 gr++[[iv f,iv pc,iv tt,.arr 3]]))::some (iB gr)::some (.arr 35 (aS ss))::L) :=
 aP 4 hrs hex rfl (by
  simp only [eJ,List.take_succ_cons,List.take_zero,List.all_cons,List.all_nil,b5,c5]
  refine ⟨?_,lL rfl,rfl,eB⟩
  simp only [aU.under,DV.unders,DV.under,b6]
  rw [fB];rfl) k
end
theorem qX {run:TypeId} {post:List aR} {c:List Fc} {t:Fm} {gr:List (Value × Fm)}:eJ 4 (KM run (post.map .d) c t gr [])=true:=by
 simp only [eJ,List.take_succ_cons,List.take_zero,List.all_cons,List.all_nil,b5,c5]
 refine ⟨?_,lL rfl,rfl,eB⟩
 simp only [aU.under,DV.unders,DV.under,b6]
 rw [fB];rfl
theorem w3 {k:FuncId} {args:List DV} {x:DV} {c:List Fc} {t t':Fm} {gr:List (Value × Fm)} {L:aA} (h:aB Tryz.prog k args (oX c t gr []) (fun r s=>r=x∧s=oX c t' gr [])) (ha:DV.unders 4 args=true) (hx:x.under 4=true) :
  aB Tryz.prog k args (oX c t gr L) (fun r s=>r=x∧s=oX c t' gr L):=aB.front 4 h rfl rfl (qX (post:=[])) (qX (post:=[])) ha hx
abbrev Rs.dv (f:Fa) (a:Ak) (dn:Bool) (v:Va):DV := .agg ([iv f.k,sv f.t]++a.enc.map .d++[bv dn,iv v.k,iv v.n,sv v.s])
abbrev RU:DV:=Rs.dv kW d6 false g9
end Go.Ab
